import PyProof.Rows.All
import Wide.All
import OpenK.AllK
import Wide.FinOn
import HandS.ForMost
import HandS.Walk
import HandS.Star
import HandS.TupAny
import HandS.TupMul
import HandS.Style
import HandS.TupSets
import HandS.SetFor
import HandS.SetKeys
import HandS.Strs
import HandS.Flow
import KE.GoesEnum
import KE.GoesZip
import HandS.Zip
import HandS.DictTup
import HandS.IsInst
import HandS.Wide
import HandS.HeadHook2
import KE.SortData
import KE.SortKeyHeap
import KE.KDictKeyed
import KE.DataEq
import KE.DataIsa
import KE.DataMinMax
import KE.KDictDisplayH
import KE.KDictWalk
import KE.KStateDown
import HandS.Head0
import HandS.Head1
import HandS.Head2
import HandS.HeadEnd
import HandS.HeadHook1
import HandS.HeadHook4
import KE.DatumOrd
import PySem.Challenge.RW_stampdesks_k11_whole_ways_on_which_chang
set_option Elab.async false
set_option linter.all false
set_option autoImplicit false
set_option maxRecDepth 100000
set_option maxHeartbeats 1000000
/-! data over the abstract heap -/
namespace Fw
open PySem PySem.Spec PyProof.Rows L2

abbrev Dt := PyData

mutual
/-- the value v stands for the datum d; lists are tracked as they are -/
inductive Rp (K : PySem.W.Frag) (H : Hp) : Dt → V → Prop
  | non : Rp K H .none .non
  | bl (b : Bool) : Rp K H (.bool b) (.bl b)
  | int (i : Int) : Rp K H (.int i) (.int i)
  | str (x : Str) : Rp K H (.str x) (.str x)
  | lst {a : Addr} {vs : List V} {ds : List Dt} : H a = some (.lst vs) → Rps K H ds vs → Rp K H (.list ds) (.ref a)
  | tup {a : Addr} {vs : List V} {ds : List Dt} : SqT K H a vs → Rps K H ds vs → Rp K H (.tuple ds) (.ref a)
inductive Rps (K : PySem.W.Frag) (H : Hp) : List Dt → List V → Prop
  | nil : Rps K H [] []
  | cons {d : Dt} {v : V} {ds : List Dt} {vs : List V} : Rp K H d v → Rps K H ds vs → Rps K H (d :: ds) (v :: vs)
end

section
variable {K : PySem.W.Frag} {H H' : Hp}

theorem sqt_up (e : Same H H') {a : Addr} {xs : List V} (h : SqT K H a xs) : SqT K H' a xs := by
  rcases h with (h | ⟨o, h⟩) | h
  · exact .inl (.inl (e _ _ h))
  · exact .inl (.inr ⟨o, e _ _ h⟩)
  · exact .inr h

mutual
theorem Rp.up (e : Same H H') : ∀ {d : Dt} {v : V}, Rp K H d v → Rp K H' d v
  | _, _, .non => .non
  | _, _, .bl b => .bl b
  | _, _, .int i => .int i
  | _, _, .str x => .str x
  | _, _, .lst h r => .lst (e _ _ h) (Rps.up e r)
  | _, _, .tup h r => .tup (sqt_up e h) (Rps.up e r)
theorem Rps.up (e : Same H H') : ∀ {ds : List Dt} {vs : List V}, Rps K H ds vs → Rps K H' ds vs
  | _, _, .nil => .nil
  | _, _, .cons h r => .cons (Rp.up e h) (Rps.up e r)
end
mutual
theorem Rp.dp : ∀ {d : Dt} {v : V}, Rp K H d v → Dp K H v d
  | _, _, .non => .non
  | _, _, .bl b => .bl b
  | _, _, .int i => .int i
  | _, _, .str x => .str x
  | _, _, .lst h r => .lst (.inl (.inl h)) (Rps.dp r)
  | _, _, .tup h r => .tup h (Rps.dp r)
theorem Rps.dp : ∀ {ds : List Dt} {vs : List V}, Rps K H ds vs → DpAll K H vs ds
  | _, _, .nil => .nil
  | _, _, .cons h r => .cons (Rp.dp h) (Rps.dp r)
end
mutual
theorem Rp.plain : ∀ {d : Dt} {v : V}, Rp K H d v → d.plain = true
  | _, _, .non => rfl
  | _, _, .bl b => rfl
  | _, _, .int i => rfl
  | _, _, .str x => rfl
  | _, _, .lst _ r => by rw [PyData.plain]; exact Rps.plain r
  | _, _, .tup _ r => by rw [PyData.plain]; exact Rps.plain r
theorem Rps.plain : ∀ {ds : List Dt} {vs : List V}, Rps K H ds vs → PyData.plainAll ds = true
  | _, _, .nil => rfl
  | _, _, .cons h r => by rw [PyData.plainAll, Rp.plain h, Rps.plain r]; rfl
end
theorem Rps.len : ∀ {ds : List Dt} {vs : List V}, Rps K H ds vs → ds.length = vs.length
  | _, _, .nil => rfl
  | _, _, .cons _ r => by rw [List.length_cons, List.length_cons, Rps.len r]
theorem Rps.at : ∀ {ds : List Dt} {vs : List V} {i : Nat} {d : Dt}, Rps K H ds vs → ds[i]? = some d → ∃ v, vs[i]? = some v ∧ Rp K H d v
  | _, _, _, _, .nil, e => by simp at e
  | _, _, 0, d, .cons h _, e => by simp at e; subst e; exact ⟨_, rfl, h⟩
  | _, _, i + 1, d, .cons _ r, e => by
    obtain ⟨v, h1, h2⟩ := Rps.at (i := i) r (by simpa using e)
    exact ⟨v, by simpa using h1, h2⟩
theorem Rps.atv : ∀ {ds : List Dt} {vs : List V} {i : Nat} {v : V}, Rps K H ds vs → vs[i]? = some v → ∃ d, ds[i]? = some d ∧ Rp K H d v
  | _, _, _, _, .nil, e => by simp at e
  | _, _, 0, v, .cons h _, e => by simp at e; subst e; exact ⟨_, rfl, h⟩
  | _, _, i + 1, v, .cons _ r, e => by
    obtain ⟨d, h1, h2⟩ := Rps.atv (i := i) r (by simpa using e)
    exact ⟨d, by simpa using h1, h2⟩
theorem Rps.app : ∀ {ds es : List Dt} {vs ws : List V}, Rps K H ds vs → Rps K H es ws → Rps K H (ds ++ es) (vs ++ ws)
  | _, _, _, _, .nil, s => s
  | _, _, _, _, .cons h r, s => .cons h (Rps.app r s)
theorem Rps.take : ∀ {ds : List Dt} {vs : List V} (n : Nat), Rps K H ds vs → Rps K H (ds.take n) (vs.take n)
  | _, _, 0, _ => by simp; exact .nil
  | _, _, _ + 1, .nil => by simp; exact .nil
  | _, _, n + 1, .cons h r => by simpa using Rps.cons h (Rps.take n r)
theorem Rps.drop : ∀ {ds : List Dt} {vs : List V} (n : Nat), Rps K H ds vs → Rps K H (ds.drop n) (vs.drop n)
  | _, _, 0, r => by simpa using r
  | _, _, _ + 1, .nil => by simp; exact .nil
  | _, _, n + 1, .cons h r => by simpa using Rps.drop n r
theorem Rps.one {d : Dt} {v : V} (h : Rp K H d v) : Rps K H [d] [v] := .cons h .nil
theorem Rps.set {d : Dt} {v : V} (h : Rp K H d v) : ∀ {ds : List Dt} {vs : List V} (i : Nat), Rps K H ds vs → Rps K H (ds.set i d) (vs.set i v)
  | _, _, _, .nil => .nil
  | _, _, 0, .cons _ r => .cons h r
  | _, _, i + 1, .cons q r => .cons q (Rps.set h i r)
theorem Rps.erase : ∀ {ds : List Dt} {vs : List V} (i : Nat), Rps K H ds vs → Rps K H (ds.eraseIdx i) (vs.eraseIdx i)
  | _, _, _, .nil => .nil
  | _, _, 0, .cons _ r => r
  | _, _, i + 1, .cons q r => .cons q (Rps.erase i r)
theorem Rps.rev {ds : List Dt} {vs : List V} (h : Rps K H ds vs) : Rps K H ds.reverse vs.reverse := by
  induction ds generalizing vs with
  | nil => cases h; exact .nil
  | cons d ds ih =>
    cases h with
    | cons h r =>
      rw [List.reverse_cons, List.reverse_cons]
      exact (ih r).app (.one h)
theorem Rps.rep {ds : List Dt} {vs : List V} (h : Rps K H ds vs) : ∀ k : Nat, Rps K H (List.replicate k ds).flatten (List.replicate k vs).flatten
  | 0 => by simp; exact .nil
  | k + 1 => by
    rw [List.replicate_succ, List.replicate_succ, List.flatten_cons, List.flatten_cons]
    exact h.app (Rps.rep h k)
/-- scalars need no heap -/
theorem Rps.ints (ns : List Int) : Rps K H (ns.map .int) (ns.map V.int) := by
  induction ns with
  | nil => exact .nil
  | cons n ns ih => exact .cons (.int n) ih
end

/-- the heap without the addresses that may change -/
def cut (M : List Addr) (H : Hp) : Hp := fun a => if a ∈ M then none else H a
section
variable {M M' : List Addr} {H H' : Hp} {K : PySem.W.Frag}
theorem cut_out {a : Addr} (h : a ∉ M) : cut M H a = H a := by unfold cut; rw [if_neg h]
theorem cut_in {a : Addr} (h : a ∈ M) : cut M H a = none := by unfold cut; rw [if_pos h]
theorem cut_some {a : Addr} {o : HO} (h : cut M H a = some o) : a ∉ M ∧ H a = some o := by
  unfold cut at h
  split at h
  · cases h
  · rename_i n; exact ⟨n, h⟩
theorem cut_same : Same (cut M H) H := fun _ _ h => (cut_some h).2
theorem cut_sub (h : ∀ a ∈ M', a ∈ M) : Same (cut M H) (cut M' H) := fun a o e => by
  obtain ⟨n, e⟩ := cut_some e
  rw [cut_out fun z => n (h a z)]; exact e
theorem cut_step (h : ∀ a o, a ∉ M → H a = some o → H' a = some o) : Same (cut M H) (cut M H') := fun a o e => by
  obtain ⟨n, e⟩ := cut_some e
  rw [cut_out n]; exact h a o n e
/-- new addresses may be cut as well -/
theorem cut_more (h : ∀ a ∈ M', a ∉ M → H a = none) : Same (cut M H) (cut M' H) := fun a o e => by
  obtain ⟨n, e⟩ := cut_some e
  refine (cut_out fun z => ?_).trans e
  rw [h a z n] at e; cases e
theorem Rp.full {d : Dt} {v : V} (r : Rp K (cut M H) d v) : Rp K H d v := r.up cut_same
theorem Rps.full {d : List Dt} {v : List V} (r : Rps K (cut M H) d v) : Rps K H d v := r.up cut_same
end
end Fw

set_option autoImplicit false
set_option maxRecDepth 100000
set_option maxHeartbeats 1000000
/-! a small language of expressions and statements over data, and what it computes -/
namespace Fw
open PySem L2

inductive Slot where
  | un
  | val (d : Dt)
  | own (ds : List Dt)
  | ownd (kvs : List (NestedKey × Dt))
  | ref (k : Nat)
  | scr (ns : List Int)
inductive Ob where
  | lst (ds : List Dt)
  | dct (kvs : List (NestedKey × Dt))
inductive Ar where
  | d (d : Dt)
  | r (k : Nat)
  | s (ns : List Int)
abbrev Rho := List Slot
abbrev Sto := List Ob
/-- a datum, or a table -/
inductive Pv where
  | d (d : Dt)
  | t (kvs : List (NestedKey × Dt))

inductive Bi where
  | len | int | list | tuple | sorted | sset | max | min | all | any | bool | str
inductive Bi2 where
  | max | min
inductive Ty where
  | int | bool | str | list | tuple
inductive Tg where
  | one (i : Nat)
  | two (i j : Nat)
  | three (i j k : Nat)

mutual
inductive E where
  | c (d : Dt)
  | v (i : Nat)
  | g (x : Str) (d : Dt)
  | scr (i : Nat)
  | bin (o : Operator) (a b : E)
  | neg (a : E)
  | not (a : E)
  | and (es : Es)
  | or (es : Es)
  | orT (a b : E)
  | cmp (o : CmpOp) (a b : E)
  | chain (o p : CmpOp) (a b c : E)
  | ite (t a b : E)
  | call (f : Nat) (as : Es)
  | calld (f : Nat) (as : Es)
  | bi (f : Bi) (a : E)
  | bi2 (f : Bi2) (a b : E)
  | isi (a : E) (ts : List Ty)
  | sub (a i : E)
  | slc (a : E) (lo hi : Oe)
  | rev (a : E)
  | tup (es : Es)
  | lst (es : Es)
  | comp (el : E) (t : Tg) (it : It) (cs : Oe)
  | comp2 (el : E) (t1 : Tg) (i1 : It) (c1 : Oe) (t2 : Tg) (i2 : It) (c2 : Oe)
inductive Es where
  | nil
  | cons (e : E) (r : Es)
  | star (e : E) (r : Es)
inductive Oe where
  | no
  | yes (e : E)
inductive It where
  | of (e : E)
  | peek (i : Nat)
  | enum (e : E)
  | rng (a : E)
  | rng2 (a b : E)
  | zip (a b : E)
end

/-! ### operations on data -/
def truD : Dt → Option Bool
  | .none => some false
  | .bool b => some b
  | .list ds => some (!ds.isEmpty)
  | .tuple ds => some (!ds.isEmpty)
  | _ => none
def fits (n : Nat) : Bool := decide (n ≤ sizeLine)
def addD : Dt → Dt → Option Dt
  | .int a, .int b => some (.int (a + b))
  | .list a, .list b => if fits (a.length + b.length) = true then some (.list (a ++ b)) else none
  | .tuple a, .tuple b => if fits (a.length + b.length) = true then some (.tuple (a ++ b)) else none
  | .str a, .str b => if fits (a.length + b.length) = true then some (.str (a ++ b)) else none
  | _, _ => none
def within (i : Int) : Bool := decide (-(2 ^ 64) < i) && decide (i < 2 ^ 64)
def mulD : Dt → Dt → Option Dt
  | .int a, .int b => if (within a || within b) = true then some (.int (a * b)) else none
  | .list a, .int k => if (decide (-(2 ^ 63) ≤ k) && decide (k < 2 ^ 63) && fits (a.length * k.toNat)) = true then some (.list (List.replicate k.toNat a).flatten) else none
  | .tuple a, .int k => if (decide (2 ≤ k) && decide (k ≤ 1000) && !a.isEmpty && decide (a.length ≤ 1000)) = true then some (.tuple (List.replicate k.toNat a).flatten) else none
  | _, _ => none
def binD (o : Operator) (x y : Dt) : Option Dt :=
  match o with
  | .Add => addD x y
  | .Mult => mulD x y
  | .Sub => match x, y with | .int a, .int b => some (.int (a - b)) | _, _ => none
  | .Mod => match x, y with | .int a, .int b => if 0 < b then some (.int (a % b)) else none | _, _ => none
  | .FloorDiv => match x, y with | .int a, .int b => if 0 < b ∧ b.natAbs.log2 < 9000 then some (.int (a / b)) else none | _, _ => none
  | .Pow => match x, y with | .int a, .int b => if 0 ≤ b ∧ b ≤ 1000000 ∧ a.natAbs < 2 ^ 64 then some (.int (a ^ b.toNat)) else none | _, _ => none
  | _ => none
/-- room for comparisons -/
def shallow (d e : Dt) : Bool := decide (min d.depth e.depth ≤ 100)
def ltD : Dt → Dt → Option Bool
  | .int a, .int b => some (decide (a < b))
  | .str a, .str b => some (decide (a.cps.toList < b.cps.toList))
  | _, _ => none
def leD : Dt → Dt → Option Bool
  | .int a, .int b => some (decide (a ≤ b))
  | .str a, .str b => some (!decide (b.cps.toList < a.cps.toList))
  | _, _ => none
def inSign (x z : Str) : Option Bool := match x.cps.toList with
  | [c] => some (decide (c ∈ z.cps.toList))
  | _ => none
def memD (d : Dt) : Dt → Option Bool
  | .list ds => if decide (min (PyData.depthAll ds) d.depth ≤ 100) = true then some (ds.any fun y => PyData.eqv y d) else none
  | .tuple ds => if decide (min (PyData.depthAll ds) d.depth ≤ 100) = true then some (ds.any fun y => PyData.eqv y d) else none
  | .str z => match d with | .str x => inSign x z | _ => none
  | _ => none
mutual
def keyD : Dt → Option NestedKey
  | .none => some .none
  | .bool _ => none
  | .int i => some (.num i)
  | .str x => some (.text x)
  | .list _ => none
  | .tuple ds => (keysD ds).map .tup
  | .dict _ => none
def keysD : List Dt → Option (List NestedKey)
  | [] => some []
  | d :: ds => (keyD d).bind fun k => (keysD ds).map fun ks => k :: ks
end
/-- a tuple as a key -/
def tkey (d : Dt) : Option NestedKey := match d with
  | .tuple _ => (keyD d).bind fun k => if k.depth ≤ 8 then some k else none
  | _ => none
def tget (kvs : List (NestedKey × Dt)) (k : NestedKey) : Option Dt := (kvs.find? fun p => decide (p.1 = k)).map (·.2)
def tput (kvs : List (NestedKey × Dt)) (k : NestedKey) (d : Dt) : List (NestedKey × Dt) :=
  if (tget kvs k).isSome then kvs.map fun p => if p.1 = k then (p.1, d) else p else kvs ++ [(k, d)]
def cmpP (o : CmpOp) (x : Dt) (y : Pv) : Option Bool :=
  match y with
  | .t kvs => match o with
    | .In => (tkey x).map fun k => (tget kvs k).isSome
    | .NotIn => (tkey x).map fun k => !(tget kvs k).isSome
    | _ => none
  | .d y => match o with
    | .Eq => if shallow x y = true then some (PyData.eqv x y) else none
    | .NotEq => if shallow x y = true then some (!PyData.eqv x y) else none
    | .Lt => ltD x y
    | .LtE => leD x y
    | .Gt => ltD y x
    | .GtE => leD y x
    | .Is => match y with | .none => some (match x with | .none => true | _ => false) | _ => none
    | .IsNot => match y with | .none => some (match x with | .none => false | _ => true) | _ => none
    | .In => memD x y
    | .NotIn => (memD x y).map (!·)
def ixD (n : Nat) (i : Int) : Option Nat := ixN n i
def subP (x : Pv) (i : Dt) : Option Dt :=
  match x with
  | .t kvs => (tkey i).bind fun k => tget kvs k
  | .d (.list ds) => match i with | .int j => atI ds j | _ => none
  | .d (.tuple ds) => match i with | .int j => atI ds j | _ => none
  | .d (.str z) => match i with | .int j => if fits z.length = true then (atI z.cps.toList j).map fun c => .str ⟨#[c]⟩ else none | _ => none
  | _ => none
/-- the places of a slice -/
def cutD (ds : List Dt) (lo hi : Option Int) : List Dt := (ds.drop (HT.sIx ds.length 0 lo)).take (HT.sIx ds.length ds.length hi - HT.sIx ds.length 0 lo)
def slcD (x : Dt) (lo hi : Option Int) : Option Dt := match x with
  | .list ds => some (.list (cutD ds lo hi))
  | .tuple ds => some (.tuple (cutD ds lo hi))
  | _ => none
def noNone : Dt → Bool
  | .none => false
  | _ => true
def okSort (ds : List Dt) : Bool := ds.all fun d => decide (d.depth ≤ 100) && noNone d && ds.all fun e => PySem.W.alike d e
def leq (a b : Dt) : Bool := !PySem.W.dataLt b a
def sortD (ds : List Dt) : List Dt := ds.mergeSort leq
def allB : List Dt → Option (List Bool)
  | [] => some []
  | .bool b :: r => (allB r).map (b :: ·)
  | _ :: _ => none
def itemsOf : Dt → Option (List Dt)
  | .list ds => some ds
  | .tuple ds => some ds
  | _ => none
/-- the least item: the first of those that no other is below -/
def leastD : List Dt → Option Dt
  | [] => none
  | d :: r => some (r.foldl (fun a b => if PySem.W.dataLt b a then b else a) d)
def greatestD : List Dt → Option Dt
  | [] => none
  | d :: r => some (r.foldl (fun a b => if PySem.W.dataLt a b then b else a) d)
/-- the different ones -/
def dedup : List NestedKey → List NestedKey
  | [] => []
  | k :: r => if k ∈ r then dedup r else k :: dedup r
/-- all tuples, or all numbers and texts -/
def kindly (ks : List NestedKey) : Bool := (ks.all fun k => match k with | .tup _ => decide (k.depth ≤ 8) | _ => false) || ks.all fun k => match k with | .num _ => true | .text _ => true | _ => false
def ssetD (ds : List Dt) : Option (List Dt) := (keysD ds).bind fun ks =>
  if kindly ks = true ∧ (dedup ks).length < 69 ∧ okSort ((dedup ks).map NestedKey.data) = true then some (sortD ((dedup ks).map NestedKey.data)) else none
def intsD : List Dt → Option (List Int)
  | [] => some []
  | .int i :: r => (intsD r).map fun ns => i :: ns
  | _ => none
def biP (f : Bi) (x : Pv) : Option Dt :=
  match f with
  | .len => match x with
    | .d (.list ds) => some (.int ds.length)
    | .d (.tuple ds) => some (.int ds.length)
    | .d (.str z) => if fits z.length = true then some (.int z.length) else none
    | _ => none
  | .int => match x with
    | .d (.int i) => some (.int i)
    | .d (.bool b) => some (.int (if b then 1 else 0))
    | _ => none
  | .list => match x with
    | .d (.list ds) => some (.list ds)
    | .d (.tuple ds) => some (.list ds)
    | _ => none
  | .tuple => match x with
    | .d (.list ds) => some (.tuple ds)
    | .d (.tuple ds) => some (.tuple ds)
    | _ => none
  | .sorted => match x with
    | .d (.list ds) => if okSort ds = true then some (.list (sortD ds)) else none
    | .d (.tuple ds) => if okSort ds = true then some (.list (sortD ds)) else none
    | .t kvs => if okSort (kvs.map fun p => p.1.data) = true then some (.list (sortD (kvs.map fun p => p.1.data))) else none
    | _ => none
  | .sset => match x with
    | .d (.list ds) => (ssetD ds).map .list
    | _ => none
  | .max => match x with
    | .d (.list ds) => (intsD ds).bind fun ns => match ns with
      | [] => none
      | n :: r => some (.int (r.foldl (fun m x => if x > m then x else m) n))
    | _ => none
  | .min => match x with
    | .d (.list ds) => match intsD ds with
      | some ns => match ns with
        | [] => none
        | n :: r => some (.int (r.foldl (fun m x => if x < m then x else m) n))
      | none => if okSort ds = true then leastD ds else none
    | _ => none
  | .all => match x with
    | .d (.list ds) => (allB ds).map fun bs => .bool (bs.all id)
    | _ => none
  | .any => match x with
    | .d (.list ds) => (allB ds).map fun bs => .bool (bs.any id)
    | _ => none
  | .bool => match x with
    | .d (.bool b) => some (.bool b)
    | _ => none
  | .str => match x with
    | .d (.int i) => if i.natAbs.log2 < 1920 then some (.str (toString i)) else none
    | _ => none
def bi2D (f : Bi2) (x y : Dt) : Option Dt :=
  match x, y with
  | .int a, .int b => match f with
    | .max => some (.int (if b > a then b else a))
    | .min => some (.int (if b < a then b else a))
  | _, _ => none
def isTy (d : Dt) : Ty → Bool
  | .int => d.isInt
  | .bool => d.isBool
  | .str => d.isStr
  | .list => d.isList
  | .tuple => d.isTuple
def strItems (z : Str) : List Dt := z.cps.toList.map fun c => .str ⟨#[c]⟩
def iterD : Dt → Option (List Dt)
  | .list ds => some ds
  | .tuple ds => some ds
  | .str z => if fits z.length = true then some (strItems z) else none
  | _ => none
def enumD (n : Nat) : List Dt → List Dt
  | [] => []
  | d :: r => .tuple [.int (n : Int), d] :: enumD (n + 1) r
def zipD (xs ys : List Dt) : List Dt := (xs.zip ys).map fun p => .tuple [p.1, p.2]
def rangeD (lo : Int) (n : Nat) : List Dt := (List.range n).map fun (i : Nat) => PyData.int (lo + (i : Int))
def rangeOk (lo hi : Int) : Bool := decide (-(2 ^ 62) ≤ lo) && decide (lo < 2 ^ 62) && decide (-(2 ^ 62) ≤ hi) && decide (hi < 2 ^ 62) && fits (hi - lo).toNat

/-! ### slots -/
def look (ρ : Rho) (S : Sto) (i : Nat) : Option Pv :=
  match ρ[i]? with
  | some (.val d) => some (.d d)
  | some (.own ds) => some (.d (.list ds))
  | some (.ownd kvs) => some (.t kvs)
  | some (.ref k) => match S[k]? with
    | some (.lst ds) => some (.d (.list ds))
    | some (.dct kvs) => some (.t kvs)
    | none => none
  | _ => none
def plc (a : E) (ρ : Rho) (S : Sto) (r : Option (Dt × Sto)) : Option (Pv × Sto) :=
  match a with
  | .v i => (look ρ S i).map fun p => (p, S)
  | _ => r.map fun q => (.d q.1, q.2)
/-- the first of two operands: a name is looked at when the other has been reckoned -/
def pre (a : E) (S : Sto) (r : Option (Dt × Sto)) : Option (Option Dt × Sto) :=
  match a with
  | .v _ => some (none, S)
  | _ => r.map fun q => (some q.1, q.2)
def post (a : E) (ρ : Rho) (S : Sto) (o : Option Dt) : Option Pv :=
  match o with
  | some d => some (.d d)
  | none => match a with
    | .v i => look ρ S i
    | _ => none
/-- a name whose list stands still -/
def peek (ρ : Rho) (i : Nat) : Option Dt := match ρ[i]? with
  | some (.val d) => some d
  | some (.own ds) => some (.list ds)
  | _ => none
def argOf (a : E) (ρ : Rho) (S : Sto) (r : Option (Dt × Sto)) : Option (Ar × Sto) :=
  match a with
  | .v i => match ρ[i]? with
    | some (.val d) => some (.d d, S)
    | some (.ref k) => some (.r k, S)
    | _ => none
  | _ => r.map fun q => (.d q.1, q.2)
def Tg.slots : Tg → List Nat
  | .one i => [i]
  | .two i j => [i, j]
  | .three i j k => [i, j, k]
def wipeR (ρ : Rho) : List Nat → Rho
  | [] => ρ
  | i :: r => (wipeR ρ r).set i .un
def bnd (t : Tg) (d : Dt) (ρ : Rho) : Option Rho :=
  match t with
  | .one i => some (ρ.set i (.val d))
  | .two i j => match d with
    | .tuple [x, y] => some ((ρ.set i (.val x)).set j (.val y))
    | _ => none
  | .three i j k => match d with
    | .tuple [x, y, z] => some (((ρ.set i (.val x)).set j (.val y)).set k (.val z))
    | _ => none

/-- a walk that gathers -/
def gather (f : Dt → Sto → Option (List Dt × Sto)) : List Dt → Sto → Option (List Dt × Sto)
  | [], S => some ([], S)
  | x :: xs, S => (f x S).bind fun q => (gather f xs q.2).map fun r => (q.1 ++ r.1, r.2)

abbrev Cl := Nat → List Ar → Sto → Option (Dt × Sto)

def boolOf (r : Option (Dt × Sto)) : Option (Bool × Sto) := r.bind fun q => match q.1 with
  | .bool b => some (b, q.2)
  | _ => none

mutual
def ev (C : Cl) : E → Rho → Sto → Option (Dt × Sto)
  | .c d, _, S => some (d, S)
  | .v i, ρ, S => match ρ[i]? with
    | some (.val d) => some (d, S)
    | _ => none
  | .g _ d, _, S => some (d, S)
  | .scr i, ρ, S => match ρ[i]? with
    | some (.scr ns) => some (.list (ns.map .int), S)
    | _ => none
  | .bin o a b, ρ, S => (pre a S (ev C a ρ S)).bind fun p => (plc b ρ p.2 (ev C b ρ p.2)).bind fun q => (post a ρ q.2 p.1).bind fun x => match x, q.1 with
    | .d x, .d y => (binD o x y).map fun d => (d, q.2)
    | _, _ => none
  | .neg a, ρ, S => (ev C a ρ S).bind fun p => match p.1 with
    | .int i => some (.int (-i), p.2)
    | _ => none
  | .not a, ρ, S => (boolOf (ev C a ρ S)).map fun p => (.bool (!p.1), p.2)
  | .and es, ρ, S => evAnd C es ρ S
  | .or es, ρ, S => evOr C es ρ S
  | .orT a b, ρ, S => (ev C a ρ S).bind fun p => (truD p.1).bind fun k => if k = true then some p else ev C b ρ p.2
  | .cmp o a b, ρ, S => (pre a S (ev C a ρ S)).bind fun p => (plc b ρ p.2 (ev C b ρ p.2)).bind fun q => (post a ρ q.2 p.1).bind fun x => match x with
    | .d x => (cmpP o x q.1).map fun c => (.bool c, q.2)
    | _ => none
  | .chain o o' a b c, ρ, S => (ev C a ρ S).bind fun p => (ev C b ρ p.2).bind fun q => (cmpP o p.1 (.d q.1)).bind fun k =>
    if k = true then (ev C c ρ q.2).bind fun r => (cmpP o' q.1 (.d r.1)).map fun k' => (.bool k', r.2) else some (.bool false, q.2)
  | .ite t a b, ρ, S => (boolOf (ev C t ρ S)).bind fun p => if p.1 = true then ev C a ρ p.2 else ev C b ρ p.2
  | .call f as, ρ, S => (evArgs C as ρ S).bind fun p => C f p.1 p.2
  | .calld f as, ρ, S => (evArgs C as ρ S).bind fun p => (C f (p.1 ++ [.r p.2.length]) (p.2 ++ [.dct []])).map fun q => (q.1, q.2.take p.2.length)
  | .bi f a, ρ, S => (plc a ρ S (ev C a ρ S)).bind fun p => (biP f p.1).map fun d => (d, p.2)
  | .bi2 f a b, ρ, S => (ev C a ρ S).bind fun p => (ev C b ρ p.2).bind fun q => (bi2D f p.1 q.1).map fun d => (d, q.2)
  | .isi a ts, ρ, S => (ev C a ρ S).map fun p => (.bool (ts.any fun t => isTy p.1 t), p.2)
  | .sub a i, ρ, S => (pre a S (ev C a ρ S)).bind fun p => (ev C i ρ p.2).bind fun q => (post a ρ q.2 p.1).bind fun x => (subP x q.1).map fun d => (d, q.2)
  | .slc a lo hi, ρ, S => (ev C a ρ S).bind fun p => (evIx C lo ρ p.2).bind fun l => (evIx C hi ρ l.2).bind fun h => (slcD p.1 l.1 h.1).map fun d => (d, h.2)
  | .rev a, ρ, S => (ev C a ρ S).bind fun p => match p.1 with
    | .list ds => some (.list ds.reverse, p.2)
    | .tuple ds => some (.tuple ds.reverse, p.2)
    | _ => none
  | .tup es, ρ, S => (evs C es ρ S).bind fun p => if fits p.1.length = true then some (.tuple p.1, p.2) else none
  | .lst es, ρ, S => (evs C es ρ S).bind fun p => if fits p.1.length = true then some (.list p.1, p.2) else none
  | .comp el t it cs, ρ, S => (evIt C it ρ S).bind fun p =>
    (gather (fun x S1 => (bnd t x (wipeR ρ t.slots)).bind fun ρ1 => (evTest C cs ρ1 S1).bind fun k =>
      if k.1 = true then (ev C el ρ1 k.2).map fun r => ([r.1], r.2) else some ([], k.2)) p.1 p.2).bind fun r => if fits r.1.length = true then some (.list r.1, r.2) else none
  | .comp2 el t1 i1 c1 t2 i2 c2, ρ, S => (evIt C i1 ρ S).bind fun p =>
    (gather (fun x S1 => (bnd t1 x (wipeR ρ (t1.slots ++ t2.slots))).bind fun ρ1 => (evTest C c1 ρ1 S1).bind fun k =>
      if k.1 = true then (evIt C i2 ρ1 k.2).bind fun q =>
        gather (fun y S2 => (bnd t2 y (wipeR ρ1 t2.slots)).bind fun ρ2 => (evTest C c2 ρ2 S2).bind fun k2 =>
          if k2.1 = true then (ev C el ρ2 k2.2).map fun r => ([r.1], r.2) else some ([], k2.2)) q.1 q.2
      else some ([], k.2)) p.1 p.2).bind fun r => if fits r.1.length = true then some (.list r.1, r.2) else none
def evAnd (C : Cl) : Es → Rho → Sto → Option (Dt × Sto)
  | .nil, _, _ => none
  | .star _ _, _, _ => none
  | .cons a r, ρ, S => match r with
    | .nil => ev C a ρ S
    | .cons b r' => (boolOf (ev C a ρ S)).bind fun p => if p.1 = true then evAnd C (.cons b r') ρ p.2 else some (.bool false, p.2)
    | .star _ _ => none
def evOr (C : Cl) : Es → Rho → Sto → Option (Dt × Sto)
  | .nil, _, _ => none
  | .star _ _, _, _ => none
  | .cons a r, ρ, S => match r with
    | .nil => ev C a ρ S
    | .cons b r' => (boolOf (ev C a ρ S)).bind fun p => if p.1 = true then some (.bool true, p.2) else evOr C (.cons b r') ρ p.2
    | .star _ _ => none
def evs (C : Cl) : Es → Rho → Sto → Option (List Dt × Sto)
  | .nil, _, S => some ([], S)
  | .cons e r, ρ, S => (ev C e ρ S).bind fun p => (evs C r ρ p.2).map fun q => (p.1 :: q.1, q.2)
  | .star e r, ρ, S => (plc e ρ S (ev C e ρ S)).bind fun p => match p.1 with
    | .d x => (itemsOf x).bind fun xs => (evs C r ρ p.2).map fun q => (xs ++ q.1, q.2)
    | _ => none
def evArgs (C : Cl) : Es → Rho → Sto → Option (List Ar × Sto)
  | .nil, _, S => some ([], S)
  | .cons e r, ρ, S => (argOf e ρ S (ev C e ρ S)).bind fun p => (evArgs C r ρ p.2).map fun q => (p.1 :: q.1, q.2)
  | .star _ _, _, _ => none
def evTest (C : Cl) : Oe → Rho → Sto → Option (Bool × Sto)
  | .no, _, S => some (true, S)
  | .yes e, ρ, S => boolOf (ev C e ρ S)
def evIx (C : Cl) : Oe → Rho → Sto → Option (Option Int × Sto)
  | .no, _, S => some (none, S)
  | .yes e, ρ, S => (ev C e ρ S).bind fun p => match p.1 with
    | .int i => some (some i, p.2)
    | _ => none
def evIt (C : Cl) : It → Rho → Sto → Option (List Dt × Sto)
  | .of e, ρ, S => (ev C e ρ S).bind fun p => (iterD p.1).map fun xs => (xs, p.2)
  | .peek i, ρ, S => (peek ρ i).bind fun d => (itemsOf d).map fun xs => (xs, S)
  | .enum e, ρ, S => (ev C e ρ S).bind fun p => (itemsOf p.1).map fun xs => (enumD 0 xs, p.2)
  | .rng a, ρ, S => (ev C a ρ S).bind fun p => match p.1 with
    | .int n => if rangeOk 0 n = true then some (rangeD 0 n.toNat, p.2) else none
    | _ => none
  | .rng2 a b, ρ, S => (ev C a ρ S).bind fun p => (ev C b ρ p.2).bind fun q => match p.1, q.1 with
    | .int l, .int n => if rangeOk l n = true then some (rangeD l (n - l).toNat, q.2) else none
    | _, _ => none
  | .zip a b, ρ, S => (ev C a ρ S).bind fun p => (ev C b ρ p.2).bind fun q => match p.1, q.1 with
    | .list xs, .list ys => some (zipD xs ys, q.2)
    | .tuple xs, .tuple ys => some (zipD xs ys, q.2)
    | _, _ => none
end

/-! ### statements -/
/-- how a name is given a value -/
inductive Kd where
  | val (e : E)
  | own (es : Es)
  | copy (e : E)
  | tab
  | tab1 (k v : E)
  | ref (es : Es)
  | reft

mutual
inductive St where
  | frz (is : List Nat) (s : St)
  | set (i : Nat) (k : Kd)
  | par (i j : Nat) (k l : Kd)
  | par3 (i j k : Nat) (a b c : Kd)
  | unp (t : Tg) (e : E)
  | app (i : Nat) (e : E)
  | pop (i j : Nat)
  | popAt (i : Nat) (e : E)
  | popu (t : Tg) (j : Nat)
  | ins (i : Nat) (k e : E)
  | put (i : Nat) (k e : E)
  | ifs (c : E) (a b : Ss)
  | whl (c : E) (b : Ss)
  | for (t : Tg) (it : It) (b : Ss)
  | ret (e : E)
  | retn
  | pass
inductive Ss where
  | nil
  | cons (s : St) (r : Ss)
end

inductive Out where
  | next
  | ret (d : Dt)
abbrev Res := Option (Out × Rho × Sto)

def freeze (ρ : Rho) : List Nat → Rho
  | [] => ρ
  | i :: r => match (freeze ρ r)[i]? with
    | some (.own ds) => (freeze ρ r).set i (.val (.list ds))
    | _ => freeze ρ r

def evKd (C : Cl) (k : Kd) (ρ : Rho) (S : Sto) : Option (Slot × Sto) :=
  match k with
  | .val e => (ev C e ρ S).map fun p => (.val p.1, p.2)
  | .own es => (evs C es ρ S).bind fun p => if fits p.1.length = true then some (.own p.1, p.2) else none
  | .copy e => (plc e ρ S (ev C e ρ S)).bind fun p => match p.1 with
    | .d x => (itemsOf x).map fun xs => (.own xs, p.2)
    | _ => none
  | .tab => some (.ownd [], S)
  | .tab1 k v => (ev C k ρ S).bind fun p => (ev C v ρ p.2).bind fun q => (tkey p.1).map fun key => (.ownd [(key, q.1)], q.2)
  | .ref es => (evs C es ρ S).bind fun p => if fits p.1.length = true then some (.ref p.2.length, p.2 ++ [.lst p.1]) else none
  | .reft => some (.ref S.length, S ++ [.dct []])

/-- a loop, at most n turns -/
def whileGo (c : Rho → Sto → Option (Bool × Sto)) (b : Rho → Sto → Res) : Nat → Rho → Sto → Res
  | 0, _, _ => none
  | n + 1, ρ, S => (c ρ S).bind fun k => if k.1 = true then (b ρ k.2).bind fun r => match r with
      | (.next, ρ1, S1) => whileGo c b n ρ1 S1
      | (.ret d, ρ1, S1) => some (.ret d, ρ1, S1)
    else some (.next, ρ, k.2)
def forGo (b : Dt → Rho → Sto → Res) : List Dt → Rho → Sto → Res
  | [], ρ, S => some (.next, ρ, S)
  | x :: xs, ρ, S => (b x ρ S).bind fun r => match r with
    | (.next, ρ1, S1) => forGo b xs ρ1 S1
    | (.ret d, ρ1, S1) => some (.ret d, ρ1, S1)

/-- a list or table that stands at slot i, changed -/
def change (i : Nat) (ρ : Rho) (S : Sto) (f : List Dt → Option (List Dt)) (g : List (NestedKey × Dt) → Option (List (NestedKey × Dt))) : Option (Rho × Sto) :=
  match ρ[i]? with
  | some (.own ds) => (f ds).map fun ds => (ρ.set i (.own ds), S)
  | some (.ownd kvs) => (g kvs).map fun kvs => (ρ.set i (.ownd kvs), S)
  | some (.ref k) => match S[k]? with
    | some (.lst ds) => (f ds).map fun ds => (ρ, S.set k (.lst ds))
    | some (.dct kvs) => (g kvs).map fun kvs => (ρ, S.set k (.dct kvs))
    | none => none
  | _ => none

/-- a list stands there -/
def lstAt (ρ : Rho) (S : Sto) (i : Nat) : Bool := match ρ[i]? with
  | some (.own _) => true
  | some (.ref k) => match S[k]? with
    | some (.lst _) => true
    | _ => false
  | _ => false

mutual
def xc (C : Cl) (N : Nat) : St → Rho → Sto → Res
  | .frz is s, ρ, S => xc C N s (freeze ρ is) S
  | .set i k, ρ, S => (evKd C k ρ S).map fun p => (.next, ρ.set i p.1, p.2)
  | .par i j k l, ρ, S => (evKd C k ρ S).bind fun p => (evKd C l ρ p.2).map fun q => (.next, (ρ.set i p.1).set j q.1, q.2)
  | .par3 i j k a b c, ρ, S => (evKd C a ρ S).bind fun p => (evKd C b ρ p.2).bind fun q => (evKd C c ρ q.2).map fun r => (.next, ((ρ.set i p.1).set j q.1).set k r.1, r.2)
  | .unp t e, ρ, S => (ev C e ρ S).bind fun p => (bnd t p.1 ρ).map fun ρ1 => (.next, ρ1, p.2)
  | .app i e, ρ, S => if lstAt ρ S i = true then (ev C e ρ S).bind fun p => (change i ρ p.2 (fun ds => if fits (ds.length + 1) = true then some (ds ++ [p.1]) else none) (fun _ => none)).map fun q => (.next, q.1, q.2) else none
  | .pop i j, ρ, S => match ρ[j]? with
    | some (.own ds) => match ds.getLast? with
      | some d => some (.next, (ρ.set j (.own ds.dropLast)).set i (.val d), S)
      | none => none
    | _ => none
  | .popu t j, ρ, S => match ρ[j]? with
    | some (.own ds) => match ds.getLast? with
      | some d => (bnd t d (ρ.set j (.own ds.dropLast))).map fun ρ1 => (.next, ρ1, S)
      | none => none
    | _ => none
  | .popAt i e, ρ, S => (ev C e ρ S).bind fun p => match p.1 with
    | .int k => (change i ρ p.2 (fun ds => if decide (-(2 ^ 63) ≤ k) && decide (k < 2 ^ 63) then (ixD ds.length k).map fun j => ds.eraseIdx j else none) (fun _ => none)).map fun q => (.next, q.1, q.2)
    | _ => none
  | .ins i k e, ρ, S => (ev C k ρ S).bind fun p => (ev C e ρ p.2).bind fun q => match p.1 with
    | .int j => (change i ρ q.2 (fun ds => if 0 ≤ j ∧ j ≤ ds.length ∧ ds.length < sizeLine then some (ds.take j.toNat ++ q.1 :: ds.drop j.toNat) else none) (fun _ => none)).map fun r => (.next, r.1, r.2)
    | _ => none
  | .put i k e, ρ, S => (ev C e ρ S).bind fun p => (ev C k ρ p.2).bind fun q =>
    (change i ρ q.2 (fun ds => match q.1 with | .int j => (ixD ds.length j).map fun m => ds.set m p.1 | _ => none)
      (fun kvs => (tkey q.1).bind fun key => if fits (kvs.length + 1) = true then some (tput kvs key p.1) else none)).map fun r => (.next, r.1, r.2)
  | .ifs c a b, ρ, S => (boolOf (ev C c ρ S)).bind fun p => if p.1 = true then xcs C N a ρ p.2 else xcs C N b ρ p.2
  | .whl c b, ρ, S => whileGo (fun ρ S => boolOf (ev C c ρ S)) (fun ρ S => xcs C N b ρ S) N ρ S
  | .for t it b, ρ, S => (match it with | .peek _ => none | it => evIt C it ρ S).bind fun p => forGo (fun x ρ S => (bnd t x ρ).bind fun ρ1 => xcs C N b ρ1 S) p.1 ρ p.2
  | .ret e, ρ, S => (ev C e ρ S).map fun p => (.ret p.1, ρ, p.2)
  | .retn, ρ, S => some (.ret .none, ρ, S)
  | .pass, ρ, S => some (.next, ρ, S)
def xcs (C : Cl) (N : Nat) : Ss → Rho → Sto → Res
  | .nil, ρ, S => some (.next, ρ, S)
  | .cons s r, ρ, S => (xc C N s ρ S).bind fun q => match q with
    | (.next, ρ1, S1) => xcs C N r ρ1 S1
    | (.ret d, ρ1, S1) => some (.ret d, ρ1, S1)
end

/-- a def: its parameters, its slots, its body -/
structure Fn where
  ps : Nat
  n : Nat
  body : Ss

def Ar.slot : Ar → Slot
  | .d x => .val x
  | .r k => .ref k
  | .s ns => .scr ns
def start0 (n : Nat) (as : List Ar) : Rho := as.map Ar.slot ++ List.replicate (n - as.length) .un
def runFn (C : Cl) (N : Nat) (f : Fn) (as : List Ar) (S : Sto) : Option (Dt × Sto) :=
  if as.length = f.ps then (xcs C N f.body (start0 f.n as) S).map fun r => match r with
    | (.next, _, S1) => (.none, S1.take S.length)
    | (.ret d, _, S1) => (d, S1.take S.length)
  else none
/-- calls, so many deep -/
def cal (Φ : Nat → Option Fn) (N : Nat) : Nat → Cl
  | 0, _, _, _ => none
  | k + 1, f, as, S => (Φ f).bind fun fn => runFn (cal Φ N k) N fn as S
end Fw

set_option autoImplicit false
set_option maxRecDepth 100000
set_option maxHeartbeats 1000000
/-! slots and stores over the abstract heap -/
namespace Fw
open PySem PySem.Spec PyProof.Rows L2

structure Tp where
  K : PySem.W.Frag
  P : Program
  w : World
abbrev tpOf (X : Cx) : Tp := ⟨X.K, X.prog, X.w⟩

/-- a table with tuple keys: its entries, their keys' tuples -/
def TabO (T : Tp) (a : Addr) (xs : List (NestedKey × Addr × V)) : HO := .ext fun h =>
  (a == sysModules) = false ∧ xs.length ≤ sizeLine ∧ ∃ us : List (NestedKey × Addr × Value), Paired (fun (p : NestedKey × Addr × V) (q : NestedKey × Addr × Value) => p.1 = q.1 ∧ p.2.1 = q.2.1 ∧ RelV p.2.2 q.2.2) xs us ∧
    ∃ o es ep, h.get? a = some o ∧ o.ExactDict ∧ o.data = .dict es ep ∧ es.toList = us.map (entryOfKey (nestedKind T.P T.w)) ∧ (us.map (·.1)).Nodup
def TabR (T : Tp) (M : List Addr) (H : Hp) (a : Addr) (kvs : List (NestedKey × Dt)) : Prop :=
  ∃ xs, H a = some (TabO T a xs) ∧ Paired (fun (p : NestedKey × Dt) (q : NestedKey × Addr × V) => p.1 = q.1 ∧ q.1.depth ≤ 8 ∧ (∃ ks, q.1 = .tup ks) ∧ Rp T.K (cut M H) q.1.data (.ref q.2.1) ∧ Rp T.K (cut M H) p.2 q.2.2) kvs xs

def SlotR (T : Tp) (M G : List Addr) (H : Hp) : Slot → Option (Option V) → Prop
  | .un, _ => True
  | .val d, o => ∃ v, o = some (some v) ∧ Rp T.K (cut M H) d v
  | .own ds, o => ∃ a vs, o = some (some (.ref a)) ∧ a ∈ M ∧ a ∉ G ∧ H a = some (.lst vs) ∧ Rps T.K (cut M H) ds vs
  | .ownd kvs, o => ∃ a, o = some (some (.ref a)) ∧ a ∈ M ∧ a ∉ G ∧ TabR T M H a kvs
  | .ref k, o => ∃ a, o = some (some (.ref a)) ∧ G[k]? = some a
  | .scr ns, o => ∃ a, o = some (some (.ref a)) ∧ SqL T.K (cut M H) a (ns.map V.int)
def ObR (T : Tp) (M : List Addr) (H : Hp) (a : Addr) : Ob → Prop
  | .lst ds => ∃ vs, H a = some (.lst vs) ∧ Rps T.K (cut M H) ds vs
  | .dct kvs => TabR T M H a kvs
structure StoR (T : Tp) (M G : List Addr) (S : Sto) (H : Hp) : Prop where
  len : S.length = G.length
  nd : G.Nodup
  at_ : ∀ (k : Nat) ob, S[k]? = some ob → ∃ a, G[k]? = some a ∧ ObR T M H a ob
structure Est (T : Tp) (M G : List Addr) (ρ : Rho) (S : Sto) (σ : L2.St) (H : Hp) : Prop where
  env : ∀ (i : Nat) s, ρ[i]? = some s → SlotR T M G H s σ[i]?
  len : ρ.length = σ.length
  sto : StoR T M G S H
  gm : ∀ a ∈ G, a ∈ M
  dom : ∀ a ∈ M, H a ≠ none
/-- all but the store's objects stay -/
def Stp (G : List Addr) (H H' : Hp) : Prop := ∀ a o, a ∉ G → H a = some o → H' a = some o

section
variable {T : Tp} {M G : List Addr} {ρ : Rho} {S S' : Sto} {σ : L2.St} {H H' H'' : Hp}
theorem Stp.refl : Stp G H H := fun _ _ _ h => h
theorem Stp.trans (a : Stp G H H') (b : Stp G H' H'') : Stp G H H'' := fun x o n h => b x o n (a x o n h)
theorem Stp.new {p : Addr} {o : HO} (h : H p = none) : Stp G H (upd H p o) := fun a u _ e => by rw [upd_ne (ne_of_none e h)]; exact e
theorem Stp.cut (gm : ∀ a ∈ G, a ∈ M) (s : Stp G H H') : Same (cut M H) (cut M H') := cut_step fun a o n h => s a o (fun z => n (gm a z)) h
theorem TabR.step {a : Addr} {kvs : List (NestedKey × Dt)} (e : Same (cut M H) (cut M H')) (ha : ∀ o, H a = some o → H' a = some o) (r : TabR T M H a kvs) : TabR T M H' a kvs := by
  obtain ⟨xs, h, p⟩ := r
  exact ⟨xs, ha _ h, L2.Paired.mapP p fun _ _ ⟨h1, h2, h3, h4, h5⟩ => ⟨h1, h2, h3, h4.up e, h5.up e⟩⟩
theorem sql_up {K : PySem.W.Frag} {a : Addr} {xs : List V} (e : Same H H') (h : SqL K H a xs) : SqL K H' a xs := e.seq h
theorem SlotR.step {s : Slot} {o : Option (Option V)} (gm : ∀ a ∈ G, a ∈ M) (st : Stp G H H') (r : SlotR T M G H s o) : SlotR T M G H' s o := by
  have e := st.cut gm
  cases s with
  | un => trivial
  | val d => obtain ⟨v, h1, h2⟩ := r; exact ⟨v, h1, h2.up e⟩
  | own ds => obtain ⟨a, vs, h1, h2, h3, h4, h5⟩ := r; exact ⟨a, vs, h1, h2, h3, st a _ h3 h4, h5.up e⟩
  | ownd kvs => obtain ⟨a, h1, h2, h3, h4⟩ := r; exact ⟨a, h1, h2, h3, h4.step e fun o q => st a o h3 q⟩
  | ref k => exact r
  | scr ns => obtain ⟨a, h1, h2⟩ := r; exact ⟨a, h1, sql_up e h2⟩
theorem Stp.dom (st : Stp G H H') (hG : ∀ a ∈ G, H' a ≠ none) (d : ∀ a ∈ M, H a ≠ none) : ∀ a ∈ M, H' a ≠ none := fun a hm => by
  by_cases g : a ∈ G
  · exact hG a g
  · cases q : H a with
    | none => exact absurd q (d a hm)
    | some o => rw [st a o g q]; exact fun z => nomatch z
theorem StoR.dom (s : StoR T M G S H) : ∀ a ∈ G, H a ≠ none := fun a hm => by
  obtain ⟨k, hk, e⟩ := List.mem_iff_getElem.mp hm
  have h1 : k < S.length := by rw [s.len]; exact hk
  obtain ⟨b, hb, r⟩ := s.at_ k S[k] (List.getElem?_eq_getElem h1)
  rw [List.getElem?_eq_getElem hk] at hb
  have hb : a = b := by rw [← e]; exact Option.some.inj hb
  subst hb
  cases q : S[k] with
  | lst ds => rw [q] at r; obtain ⟨vs, h, _⟩ := r; rw [h]; exact fun z => nomatch z
  | dct kvs => rw [q] at r; obtain ⟨xs, h, _⟩ := r; rw [h]; exact fun z => nomatch z
theorem Est.step (e : Est T M G ρ S σ H) (st : Stp G H H') (s : StoR T M G S' H') : Est T M G ρ S' σ H' :=
  ⟨fun i x h => (e.env i x h).step e.gm st, e.len, s, e.gm, st.dom s.dom e.dom⟩
theorem ObR.step {a : Addr} {ob : Ob} (e : Same (cut M H) (cut M H')) (ha : ∀ o, H a = some o → H' a = some o) (r : ObR T M H a ob) : ObR T M H' a ob := by
  cases ob with
  | lst ds => obtain ⟨vs, h1, h2⟩ := r; exact ⟨vs, ha _ h1, h2.up e⟩
  | dct kvs => exact TabR.step e ha r
theorem StoR.keep (s : StoR T M G S H) (k : Same H H') : StoR T M G S H' :=
  ⟨s.len, s.nd, fun i ob h => let ⟨a, h1, h2⟩ := s.at_ i ob h; ⟨a, h1, h2.step (cut_step fun a o _ q => k a o q) fun o q => k a o q⟩⟩
theorem Est.keep (e : Est T M G ρ S σ H) (k : Same H H') : Est T M G ρ S σ H' := e.step (fun a o _ h => k a o h) (e.sto.keep k)
theorem same_new {p : Addr} {o : HO} (h : H p = none) : Same H (upd H p o) := fun a u e => by rw [upd_ne (ne_of_none e h)]; exact e
theorem Est.new {p : Addr} {o : HO} (e : Est T M G ρ S σ H) (h : H p = none) : Est T M G ρ S σ (upd H p o) := e.keep (same_new h)
theorem Est.out {p : Addr} (e : Est T M G ρ S σ H) (h : H p = none) : p ∉ M := fun z => e.dom p z h
theorem Same.stp (k : Same H H') : Stp G H H' := fun a o _ h => k a o h
/-- a new list, a new tuple, of data -/
theorem Rp.newLst {p : Addr} {vs : List V} {ds : List Dt} (h : H p = none) (hm : p ∉ M) (r : Rps T.K (cut M H) ds vs) : Rp T.K (cut M (upd H p (.lst vs))) (.list ds) (.ref p) :=
  .lst (by rw [cut_out hm]; exact upd_same) (r.up (cut_step fun a o _ q => same_new h a o q))
theorem Rp.newTup {p : Addr} {vs : List V} {ds : List Dt} (h : H p = none) (hm : p ∉ M) (r : Rps T.K (cut M H) ds vs) : Rp T.K (cut M (upd H p (.tup vs))) (.tuple ds) (.ref p) :=
  .tup (.inl (.inl (by rw [cut_out hm]; exact upd_same))) (r.up (cut_step fun a o _ q => same_new h a o q))
end

/-- a place's value -/
def PvR (T : Tp) (M : List Addr) (H : Hp) : Pv → V → Prop
  | .d d, v => Rp T.K (cut M H) d v ∨ ∃ a vs ds, d = .list ds ∧ v = .ref a ∧ H a = some (.lst vs) ∧ Rps T.K (cut M H) ds vs
  | .t kvs, v => ∃ a, v = .ref a ∧ TabR T M H a kvs
section
variable {T : Tp} {M G : List Addr} {ρ : Rho} {S S' : Sto} {σ : L2.St} {H H' : Hp}
theorem PvR.full {d : Dt} {v : V} (r : PvR T M H (.d d) v) : Rp T.K H d v := by
  rcases r with r | ⟨a, vs, ds, rfl, rfl, h, r⟩
  · exact r.full
  · exact .lst h r.full
theorem PvR.lst {ds : List Dt} {v : V} (r : PvR T M H (.d (.list ds)) v) : ∃ a vs, v = .ref a ∧ H a = some (.lst vs) ∧ Rps T.K (cut M H) ds vs := by
  rcases r with r | ⟨a, vs, es, e, rfl, h, r⟩
  · cases r with
    | lst h r => exact ⟨_, _, rfl, (cut_some h).2, r⟩
  · cases e; exact ⟨a, vs, rfl, h, r⟩
theorem PvR.tup {ds : List Dt} {v : V} (r : PvR T M H (.d (.tuple ds)) v) : ∃ a vs, v = .ref a ∧ SqT T.K H a vs ∧ Rps T.K (cut M H) ds vs := by
  rcases r with r | ⟨a, vs, es, e, rfl, h, r⟩
  · cases r with
    | tup h r => exact ⟨_, _, rfl, sqt_up cut_same h, r⟩
  · cases e
theorem PvR.str {x : Str} {v : V} (r : PvR T M H (.d (.str x)) v) : v = .str x := by
  have h := r.full; cases h; rfl
theorem PvR.int {x : Int} {v : V} (r : PvR T M H (.d (.int x)) v) : v = .int x := by
  have h := r.full; cases h; rfl
theorem PvR.bl {x : Bool} {v : V} (r : PvR T M H (.d (.bool x)) v) : v = .bl x := by
  have h := r.full; cases h; rfl
theorem PvR.non {v : V} (r : PvR T M H (.d .none) v) : v = .non := by
  have h := r.full; cases h; rfl
theorem look_rel {i : Nat} {p : Pv} (e : Est T M G ρ S σ H) (h : look ρ S i = some p) : ∃ v, σ[i]? = some (some v) ∧ PvR T M H p v := by
  unfold look at h
  cases q : ρ[i]? with
  | none => rw [q] at h; cases h
  | some s =>
    rw [q] at h
    have r := e.env i s q
    cases s with
    | un => cases h
    | val d => cases h; obtain ⟨v, h1, h2⟩ := r; exact ⟨v, h1, .inl h2⟩
    | own ds => cases h; obtain ⟨a, vs, h1, h2, h3, h4, h5⟩ := r; exact ⟨_, h1, .inr ⟨a, vs, ds, rfl, rfl, h4, h5⟩⟩
    | ownd kvs => cases h; obtain ⟨a, h1, h2, h3, h4⟩ := r; exact ⟨_, h1, a, rfl, h4⟩
    | scr ns => cases h
    | ref k =>
      obtain ⟨a, h1, h2⟩ := r
      simp only at h
      cases q2 : S[k]? with
      | none => rw [q2] at h; cases h
      | some ob =>
        rw [q2] at h
        obtain ⟨b, h3, h4⟩ := e.sto.at_ k ob q2
        rw [h2] at h3
        obtain rfl : a = b := Option.some.inj h3
        cases ob with
        | lst ds => cases h; obtain ⟨vs, h5, h6⟩ := h4; exact ⟨_, h1, .inr ⟨a, vs, ds, rfl, rfl, h5, h6⟩⟩
        | dct kvs => cases h; exact ⟨_, h1, a, rfl, h4⟩
end

/-! ### readings -/
abbrev Cle := Cl
def tE (T : Tp) (C : Cl) (e : E) : TE := fun σ H Q => ∃ M G ρ S d S', Est T M G ρ S σ H ∧ ev C e ρ S = some (d, S') ∧
  ∀ v H', Est T M G ρ S' σ H' → Stp G H H' → Rp T.K (cut M H') d v → Q v H'
/-- an operand, one step on -/
def tP (T : Tp) (C : Cl) (e : E) : TE := fun σ H Q => ∃ M G ρ S p S', Est T M G ρ S σ H ∧ plc e ρ S (ev C e ρ S) = some (p, S') ∧
  ∀ v H', Est T M G ρ S' σ H' → Stp G H H' → PvR T M H' p v → Q v H'
/-- a first operand: looked at behind the second -/
def tF (T : Tp) (C : Cl) (e : E) : TE := fun σ H Q => ∃ M G ρ S p S', Est T M G ρ S σ H ∧ pre e S (ev C e ρ S) = some (p, S') ∧ (∀ i, e = .v i → ∃ x, σ[i]? = some (some x)) ∧
  ∀ v H', Est T M G ρ S' σ H' → Stp G H H' → (∀ S2 H2 q, Est T M G ρ S2 σ H2 → Stp G H' H2 → post e ρ S2 p = some q → PvR T M H2 q v) → Q v H'
def tT (T : Tp) (C : Cl) (e : E) : TT := fun σ H Q => ∃ M G ρ S b S', Est T M G ρ S σ H ∧ boolOf (ev C e ρ S) = some (b, S') ∧
  ∀ H', Est T M G ρ S' σ H' → Stp G H H' → Q b H'
def tAs (T : Tp) (C : Cl) (es : Es) : TA := fun σ H Q => ∃ M G ρ S ds S', Est T M G ρ S σ H ∧ evs C es ρ S = some (ds, S') ∧
  ∀ vs H', Est T M G ρ S' σ H' → Stp G H H' → Rps T.K (cut M H') ds vs → Q vs H'
def ArR (T : Tp) (M G : List Addr) (H : Hp) : Ar → V → Prop
  | .d d, v => Rp T.K (cut M H) d v
  | .r k, v => ∃ a, v = .ref a ∧ G[k]? = some a
  | .s ns, v => ∃ a, v = .ref a ∧ SqL T.K (cut M H) a (ns.map V.int)
def tAr (T : Tp) (C : Cl) (es : Es) : TA := fun σ H Q => ∃ M G ρ S as S', Est T M G ρ S σ H ∧ evArgs C es ρ S = some (as, S') ∧
  ∀ vs H', Est T M G ρ S' σ H' → Stp G H H' → Paired (ArR T M G H') as vs → Q vs H'

section
variable {X : Cx}
theorem PE.mono {e : Expr} {t t' : TE} (h : PE X e t) (m : ∀ σ H Q, t' σ H Q → t σ H Q) : PE X e t' := ⟨fun pins s σ H Q I q => h.run pins s σ H Q I (m σ H Q q)⟩
theorem PT.mono {e : Expr} {t t' : TT} (h : PT X e t) (m : ∀ σ H Q, t' σ H Q → t σ H Q) : PT X e t' := ⟨fun pins s σ H Q I q => h.run pins s σ H Q I (m σ H Q q)⟩
theorem PW.mono {e : Expr} {t t' : TT} (h : PW X e t) (m : ∀ σ H Q, t' σ H Q → t σ H Q) : PW X e t' := ⟨fun wh pins s σ H Q I q => h.run wh pins s σ H Q I (m σ H Q q)⟩
theorem PA.mono {e : List Expr} {t t' : TA} (h : PA X e t) (m : ∀ σ H Q, t' σ H Q → t σ H Q) : PA X e t' := ⟨fun pos pins s σ H Q I q => h.run pos pins s σ H Q I (m σ H Q q)⟩
theorem PS.mono {e : Stmt} {t t' : TS} (h : PS X e t) (m : ∀ D σ H, t' D σ H → t D σ H) : PS X e t' := ⟨fun pins s σ H D I q => h.run pins s σ H D I (m D σ H q)⟩
theorem PSs.mono {e : List Stmt} {t t' : TS} (h : PSs X e t) (m : ∀ D σ H, t' D σ H → t D σ H) : PSs X e t' := ⟨fun pins s σ H D I q => h.run pins s σ H D I (m D σ H q)⟩
theorem PI.mono {tg e : Expr} {t t' : TI} (h : PI X tg e t) (m : ∀ σ H Q, t' σ H Q → t σ H Q) : PI X tg e t' := ⟨fun pins s σ H Q I q => h.run pins s σ H Q I (m σ H Q q)⟩
end
end Fw

set_option autoImplicit false
set_option maxRecDepth 100000
set_option maxHeartbeats 1000000
/-! operators on data, by values -/
namespace Fw
open PySem PySem.Spec PyProof.Rows L2

section
variable {X : Cx}
theorem OpR.up {f : Value → Value → Sem Value} {r r' : R2} (h : OpR X f r) (m : ∀ x y H Q, r' x y H Q → r x y H Q) : OpR X f r' :=
  fun pins s σ H x y v u Q I rx ry q => h pins s σ H x y v u Q I rx ry (m x y H Q q)
theorem CallR.up {f : Value} {r r' : List V → Hp → VK → Prop} (h : CallR X f r) (m : ∀ xs H Q, r' xs H Q → r xs H Q) : CallR X f r' :=
  fun pins s σ H xs us Q I rx q => h pins s σ H xs us Q I rx (m xs H Q q)
theorem OpR.false {f : Value → Value → Sem Value} : OpR X f (fun _ _ _ _ => False) := fun _ _ _ _ _ _ _ _ _ _ _ _ h => h.elim

/-- a binary operation on data -/
def rB (T : Tp) (f : Dt → Dt → Option Dt) : R2 := fun x y H Q => ∃ M a b d, (∀ p ∈ M, H p ≠ none) ∧ PvR T M H (.d a) x ∧ PvR T M H (.d b) y ∧ f a b = some d ∧
  ∀ v H', Same H H' → Rp T.K (cut M H') d v → Q v H'
/-- where nothing is made -/
def rQ (T : Tp) (f : Dt → Dt → Option Dt) : R2 := fun x y H Q => ∃ M a b d, PvR T M H (.d a) x ∧ PvR T M H (.d b) y ∧ f a b = some d ∧ ∀ v, Rp T.K (cut M H) d v → Q v H
theorem rB_rQ {T : Tp} {f : Dt → Dt → Option Dt} {x y : V} {H : Hp} {Q : VK} (h : rB T f x y H Q) : rQ T f x y H Q := by
  obtain ⟨M, a, b, d, _, h1, h2, h3, h4⟩ := h
  exact ⟨M, a, b, d, h1, h2, h3, fun v r => h4 v H (Same.refl H) r⟩

theorem fits_le {n : Nat} (h : fits n = true) : n ≤ sizeLine := of_decide_eq_true h
theorem within_ok {i : Int} (h : within i = true) : -(2 ^ 64) < i ∧ i < 2 ^ 64 := by
  unfold within at h
  rw [Bool.and_eq_true, decide_eq_true_eq, decide_eq_true_eq] at h
  exact h

theorem op_addD : OpR X (binaryOp .Add) (rB (tpOf X) addD) := by
  refine OpR.up (((op_add (X := X)).or (op_cat (X := X))).or ((op_catA (X := X)).or (op_add_str (X := X)))) fun x y H Q h => ?_
  obtain ⟨M, a, b, d, hM, ha, hb, hd, q⟩ := h
  have nm : ∀ p, H p = none → p ∉ M := fun p hp z => hM p z hp
  cases a with
  | int i =>
    cases b with
    | int j =>
      cases hd
      exact .inl (.inl ⟨i, j, ha.int, hb.int, q _ H (Same.refl H) (.int _)⟩)
    | _ => cases hd
  | list xs =>
    cases b with
    | list ys =>
      simp only [addD] at hd
      split at hd
      · rename_i hz
        cases hd
        obtain ⟨p, vs, rfl, e1, r1⟩ := ha.lst
        obtain ⟨p2, ws, rfl, e2, r2⟩ := hb.lst
        refine .inl (.inr ⟨p, p2, vs, ws, rfl, rfl, e1, e2, by rw [← r1.len, ← r2.len]; exact fits_le hz, fun n hn => ?_⟩)
        exact q _ _ (same_new hn) (Rp.newLst (T := tpOf X) hn (nm n hn) (r1.app r2))
      · cases hd
    | _ => cases hd
  | tuple xs =>
    cases b with
    | tuple ys =>
      simp only [addD] at hd
      split at hd
      · rename_i hz
        cases hd
        obtain ⟨p, vs, rfl, e1, r1⟩ := ha.tup
        obtain ⟨p2, ws, rfl, e2, r2⟩ := hb.tup
        refine .inr (.inl ⟨p, p2, vs, ws, rfl, rfl, e1, e2, by rw [← r1.len, ← r2.len]; exact fits_le hz, fun z => ?_, fun _ z => ?_, fun _ _ n hn => ?_⟩)
        · subst z
          cases r1
          rw [List.nil_append] at q
          exact q _ H (Same.refl H) (by rcases hb with hb | ⟨_, _, _, e, _⟩; exact hb; cases e)
        · subst z
          cases r2
          rw [List.append_nil] at q
          exact q _ H (Same.refl H) (by rcases ha with ha | ⟨_, _, _, e, _⟩; exact ha; cases e)
        · exact q _ _ (same_new hn) (Rp.newTup (T := tpOf X) hn (nm n hn) (r1.app r2))
      · cases hd
    | _ => cases hd
  | str x1 =>
    cases b with
    | str y1 =>
      simp only [addD] at hd
      split at hd
      · rename_i hz
        cases hd
        exact .inr (.inr ⟨x1, y1, ha.str, hb.str, fits_le hz, q _ H (Same.refl H) (.str _)⟩)
      · cases hd
    | _ => cases hd
  | _ => cases hd
theorem op_mulD : OpR X (binaryOp .Mult) (rB (tpOf X) mulD) := by
  refine OpR.up ((op_mul (X := X)).or ((op_rep (X := X)).or (op_repT (X := X)))) fun x y H Q h => ?_
  obtain ⟨M, a, b, d, hM, ha, hb, hd, q⟩ := h
  have nm : ∀ p, H p = none → p ∉ M := fun p hp z => hM p z hp
  cases a with
  | int i =>
    cases b with
    | int j =>
      simp only [mulD] at hd
      split at hd
      · rename_i hz
        cases hd
        refine .inl ⟨i, j, ha.int, hb.int, ?_, q _ H (Same.refl H) (.int _)⟩
        rcases Bool.or_eq_true_iff.mp hz with z | z
        · exact .inl (within_ok z)
        · exact .inr (within_ok z)
      · cases hd
    | _ => cases hd
  | list xs =>
    cases b with
    | int k =>
      simp only [mulD] at hd
      split at hd
      · rename_i hz
        simp only [Bool.and_eq_true, decide_eq_true_eq] at hz
        cases hd
        obtain ⟨p, vs, rfl, e1, r1⟩ := ha.lst
        refine .inr (.inl ⟨p, k, vs, rfl, hb.int, e1, hz.1.1, hz.1.2, by rw [← r1.len]; exact fits_le hz.2, fun n hn => ?_⟩)
        exact q _ _ (same_new hn) (Rp.newLst (T := tpOf X) hn (nm n hn) (r1.rep _))
      · cases hd
    | _ => cases hd
  | tuple xs =>
    cases b with
    | int k =>
      simp only [mulD] at hd
      split at hd
      · rename_i hz
        simp only [Bool.and_eq_true, decide_eq_true_eq] at hz
        cases hd
        obtain ⟨p, vs, rfl, e1, r1⟩ := ha.tup
        have hl := r1.len
        refine .inr (.inr ⟨p, k, vs, rfl, hb.int, e1, ?_, hz.1.1.1, hz.1.1.2, by rw [← hl]; exact hz.2, fun n hn => ?_⟩)
        · rintro rfl
          cases xs with
          | nil => simp at hz
          | cons _ _ => simp at hl
        · exact q _ _ (same_new hn) (Rp.newTup (T := tpOf X) hn (nm n hn) (r1.rep _))
      · cases hd
    | _ => cases hd
  | _ => cases hd
theorem op_binD (o : Operator) : OpR X (binaryOp o) (rB (tpOf X) (binD o)) := by
  cases o with
  | Add => exact op_addD
  | Mult => exact op_mulD
  | Sub =>
    refine OpR.up (op_sub (X := X)) fun x y H Q h => ?_
    obtain ⟨M, a, b, d, ha, hb, hd, q⟩ := rB_rQ h
    cases a <;> cases b <;> first | (cases hd; exact ⟨_, _, ha.int, hb.int, q _ (.int _)⟩) | cases hd
  | Mod =>
    refine OpR.up (op_mod (X := X)) fun x y H Q h => ?_
    obtain ⟨M, a, b, d, ha, hb, hd, q⟩ := rB_rQ h
    cases a <;> cases b <;> first | cases hd | skip
    simp only [binD] at hd
    split at hd
    · rename_i hz; cases hd; exact ⟨_, _, ha.int, hb.int, hz, q _ (.int _)⟩
    · cases hd
  | FloorDiv =>
    refine OpR.up (op_fdivW (X := X)) fun x y H Q h => ?_
    obtain ⟨M, a, b, d, ha, hb, hd, q⟩ := rB_rQ h
    cases a <;> cases b <;> first | cases hd | skip
    simp only [binD] at hd
    split at hd
    · rename_i hz; cases hd; exact ⟨_, _, ha.int, hb.int, hz, q _ (.int _)⟩
    · cases hd
  | Pow =>
    refine OpR.up (op_pow (X := X)) fun x y H Q h => ?_
    obtain ⟨M, a, b, d, ha, hb, hd, q⟩ := rB_rQ h
    cases a <;> cases b <;> first | cases hd | skip
    simp only [binD] at hd
    split at hd
    · rename_i hz; cases hd; exact ⟨_, _, ha.int, hb.int, hz, q _ (.int _)⟩
    · cases hd
  | _ => exact OpR.up OpR.false fun x y H Q h => by obtain ⟨M, a, b, d, ha, hb, hd, q⟩ := rB_rQ h; cases hd

/-! ### comparisons -/
/-- a comparison, the right side a place -/
def rC (T : Tp) (o : CmpOp) : R2 := fun x y H Q => ∃ M a b c, PvR T M H (.d a) x ∧ PvR T M H b y ∧ cmpP o a b = some c ∧ Q (.bl c) H

theorem reads_of {T : Tp} {M : List Addr} {pins : List (Addr × Obj)} {s : Shared} {σ : L2.St} {H : Hp} {d : Dt} {v : V} {u : Value} (hT : T = tpOf X) (I : Inv X pins σ H s) (r : PvR T M H (.d d) v) (ru : RelV v u) : ∃ as, Reads s.heap u d as := by
  subst hT
  exact Dp.reads I d v u r.full.dp ru
theorem op_eqP (hu : X.A.units + 200 < cLine) : OpR X (compareOp .Eq) (fun x y H Q => ∃ M a b, PvR (tpOf X) M H (.d a) x ∧ PvR (tpOf X) M H (.d b) y ∧ shallow a b = true ∧ Q (.bl (PyData.eqv a b)) H) := by
  intro pins s σ H x y v u Q I rx ry h
  obtain ⟨M, a, b, ha, hb, hs, q⟩ := h
  obtain ⟨as, r1⟩ := reads_of rfl I ha rx
  obtain ⟨bs, r2⟩ := reads_of rfl I hb ry
  have hs := of_decide_eq_true hs
  exact SeqAt.eq_plain r1 r2 ha.full.plain hb.full.plain (by omega) ⟨.bl _, H, I, rfl, q⟩
theorem op_neP (hu : X.A.units + 200 < cLine) : OpR X (compareOp .NotEq) (fun x y H Q => ∃ M a b, PvR (tpOf X) M H (.d a) x ∧ PvR (tpOf X) M H (.d b) y ∧ shallow a b = true ∧ Q (.bl (!PyData.eqv a b)) H) := by
  intro pins s σ H x y v u Q I rx ry h
  obtain ⟨M, a, b, ha, hb, hs, q⟩ := h
  obtain ⟨as, r1⟩ := reads_of rfl I ha rx
  obtain ⟨bs, r2⟩ := reads_of rfl I hb ry
  have hs := of_decide_eq_true hs
  exact SeqAt.ne_plain r1 r2 ha.full.plain hb.full.plain (by omega) ⟨.bl _, H, I, rfl, q⟩
theorem op_inS (neg : Bool) : OpR X (compareOp (if neg then .NotIn else .In)) (fun x y H Q => ∃ z1 z2 c, x = .str z1 ∧ y = .str z2 ∧ inSign z1 z2 = some c ∧ Q (.bl (if neg then !c else c)) H) := by
  intro pins s σ H x y v u Q I rx ry h
  obtain ⟨z1, z2, c, rfl, rfl, hc, q⟩ := h
  unfold inSign at hc
  split at hc
  · rename_i c1 e
    cases hc
    have e1 : z1 = ⟨#[c1]⟩ := by
      cases z1 with
      | mk a =>
        simp only [Str.mk.injEq]
        exact Array.toList_inj.mp (by simpa using e)
    subst e1
    cases neg with
    | true => exact op_notIn_sign pins s σ H _ _ v u Q I rx ry ⟨c1, z2, rfl, rfl, q⟩
    | false => exact op_in_sign pins s σ H _ _ v u Q I rx ry ⟨c1, z2, rfl, rfl, q⟩
  · cases hc
theorem op_inQ (hu : X.A.units + 200 < cLine) (neg : Bool) : OpR X (compareOp (if neg then .NotIn else .In)) (fun x y H Q => ∃ M a b c, PvR (tpOf X) M H (.d a) x ∧ PvR (tpOf X) M H (.d b) y ∧ memD a b = some c ∧ Q (.bl (if neg then !c else c)) H) := by
  intro pins s σ H x y v u Q I rx ry h
  obtain ⟨M, a, b, c, ha, hb, hc, q⟩ := h
  obtain ⟨as, r1⟩ := reads_of rfl I ha rx
  obtain ⟨bs, r2⟩ := reads_of rfl I hb ry
  have p1 := ha.full.plain
  have p2 := hb.full.plain
  cases b with
  | list ds =>
    simp only [memD] at hc
    split at hc
    · rename_i hz
      cases hc
      have hz := of_decide_eq_true hz
      rw [PyData.plain] at p2
      cases neg with
      | false => exact SeqAt.in_list_data r2 r1 p2 p1 (by omega) ⟨.bl _, H, I, rfl, q⟩
      | true => exact SeqAt.notIn_list_data r2 r1 p2 p1 (by omega) ⟨.bl _, H, I, rfl, q⟩
    · cases hc
  | tuple ds =>
    simp only [memD] at hc
    split at hc
    · rename_i hz
      cases hc
      have hz := of_decide_eq_true hz
      rw [PyData.plain] at p2
      cases neg with
      | false => exact SeqAt.in_tuple_data r2 r1 p2 p1 (by omega) ⟨.bl _, H, I, rfl, q⟩
      | true => exact SeqAt.notIn_tuple_data r2 r1 p2 p1 (by omega) ⟨.bl _, H, I, rfl, q⟩
    · cases hc
  | str z =>
    cases a with
    | str x1 => exact op_inS neg pins s σ H x y v u Q I rx ry ⟨x1, z, c, ha.str, hb.str, hc, q⟩
    | _ => cases hc
  | _ => cases hc
end
end Fw

set_option autoImplicit false
set_option maxRecDepth 100000
set_option maxHeartbeats 1000000
/-! tables with tuple keys -/
namespace Fw
open PySem PySem.Spec PyProof.Rows L2

mutual
theorem keyD_data : ∀ k : NestedKey, keyD k.data = some k
  | .none => rfl
  | .num _ => rfl
  | .text _ => rfl
  | .tup ks => by rw [NestedKey.data, keyD, keysD_datas ks]; rfl
theorem keysD_datas : ∀ ks : List NestedKey, keysD (NestedKey.datas ks) = some ks
  | [] => rfl
  | k :: ks => by rw [NestedKey.datas, keysD, keyD_data k, keysD_datas ks]; rfl
end
mutual
theorem data_keyD : ∀ (d : Dt) (k : NestedKey), keyD d = some k → k.data = d
  | .none, _, h => by cases h; rfl
  | .bool _, _, h => by cases h
  | .int _, _, h => by cases h; rfl
  | .str _, _, h => by cases h; rfl
  | .list _, _, h => by cases h
  | .tuple ds, _, h => by
    rw [keyD, Option.map_eq_some_iff] at h
    obtain ⟨ks, h1, rfl⟩ := h
    rw [NestedKey.data, datas_keysD ds ks h1]
  | .dict _, _, h => by cases h
theorem datas_keysD : ∀ (ds : List Dt) (ks : List NestedKey), keysD ds = some ks → NestedKey.datas ks = ds
  | [], _, h => by cases h; rfl
  | d :: ds, _, h => by
    rw [keysD, Option.bind_eq_some_iff] at h
    obtain ⟨k, h1, h⟩ := h
    rw [Option.map_eq_some_iff] at h
    obtain ⟨ks, h2, rfl⟩ := h
    rw [NestedKey.datas, data_keyD d k h1, datas_keysD ds ks h2]
end
theorem tkey_some {d : Dt} {k : NestedKey} (h : tkey d = some k) : keyD d = some k ∧ k.depth ≤ 8 ∧ (∃ ks, k = .tup ks) ∧ ∃ ds, d = .tuple ds := by
  cases d with
  | tuple ds =>
    simp only [tkey, Option.bind_eq_some_iff] at h
    obtain ⟨k', h1, h⟩ := h
    split at h
    · rename_i hz
      cases h
      refine ⟨h1, hz, ?_, _, rfl⟩
      rw [keyD, Option.map_eq_some_iff] at h1
      obtain ⟨ks, _, rfl⟩ := h1
      exact ⟨ks, rfl⟩
    · cases h
  | _ => cases h

section
variable {X : Cx} {pins : List (Addr × Obj)} {s : Shared} {σ : L2.St} {H : Hp}
mutual
theorem nested_of (I : Inv X pins σ H s) : ∀ (d : Dt) (k : NestedKey) (v : V) (u : Value), keyD d = some k → Rp X.K H d v → RelV v u → NestedIs s.heap k u
  | .none, _, _, _, h, r, ru => by cases h; cases r; cases ru; exact .none
  | .bool _, _, _, _, h, _, _ => by cases h
  | .int i, _, _, _, h, r, ru => by cases h; cases r; obtain ⟨t, rfl⟩ := ru; exact .int i t
  | .str x, _, _, _, h, r, ru => by cases h; cases r; obtain ⟨t, rfl⟩ := ru; exact .text x t
  | .list _, _, _, _, h, _, _ => by cases h
  | .tuple ds, _, _, _, h, r, ru => by
    rw [keyD, Option.map_eq_some_iff] at h
    obtain ⟨ks, h1, rfl⟩ := h
    cases r with
    | tup hs ra =>
      cases ru
      obtain ⟨its, rv, ⟨o, ho, hc, n, hd⟩, _⟩ := I.tuple hs
      exact .tup ho hc hd (nested_ofs I ds ks _ its h1 ra rv)
  | .dict _, _, _, _, h, _, _ => by cases h
theorem nested_ofs (I : Inv X pins σ H s) : ∀ (ds : List Dt) (ks : List NestedKey) (vs : List V) (us : List Value), keysD ds = some ks → Rps X.K H ds vs → Vals vs us → NestedAll s.heap ks us
  | [], _, _, _, h, r, ru => by cases h; cases r; cases ru; exact .nil
  | d :: ds, _, _, _, h, r, ru => by
    rw [keysD, Option.bind_eq_some_iff] at h
    obtain ⟨k, h1, h⟩ := h
    rw [Option.map_eq_some_iff] at h
    obtain ⟨ks, h2, rfl⟩ := h
    cases r with
    | cons ra rb =>
      cases ru with
      | cons qa qb => exact .cons (nested_of I d k _ _ h1 ra qa) (nested_ofs I ds ks _ _ h2 rb qb)
end

/-- the entries as they lie -/
theorem tab_at {M : List Addr} {a : Addr} {kvs : List (NestedKey × Dt)} (I : Inv X pins σ H s) (r : TabR (tpOf X) M H a kvs) :
    ∃ (xs : List (NestedKey × Addr × V)) (us : List (NestedKey × Addr × Value)), H a = some (TabO (tpOf X) a xs) ∧ (a == sysModules) = false ∧ kvs.length ≤ sizeLine ∧ s.heap.DictOfH (nestedKind X.prog X.w) a us ∧
      Paired (fun (p : NestedKey × Dt) (q : NestedKey × Addr × V) => p.1 = q.1 ∧ q.1.depth ≤ 8 ∧ (∃ ks, q.1 = .tup ks) ∧ Rp X.K (cut M H) q.1.data (.ref q.2.1) ∧ Rp X.K (cut M H) p.2 q.2.2) kvs xs ∧
      Paired (fun (p : NestedKey × Addr × V) (q : NestedKey × Addr × Value) => p.1 = q.1 ∧ p.2.1 = q.2.1 ∧ RelV p.2.2 q.2.2) xs us := by
  obtain ⟨xs, h, p⟩ := r
  obtain ⟨⟨z1, z2, us, pu, o, es, ep, ho, he, hd, hl, hn⟩, _, _⟩ := I.hok a _ h
  refine ⟨xs, us, h, z1, by rw [Paired.length p]; exact z2, ⟨o, es, ep, ho, he, hd, hl, fun x hx => ?_, hn⟩, p, pu⟩
  obtain ⟨i, hi⟩ := List.mem_iff_getElem?.mp hx
  have go : ∀ {kv : List (NestedKey × Dt)} {xs : List (NestedKey × Addr × V)} {us : List (NestedKey × Addr × Value)} {i : Nat},
      Paired (fun (p : NestedKey × Dt) (q : NestedKey × Addr × V) => p.1 = q.1 ∧ q.1.depth ≤ 8 ∧ (∃ ks, q.1 = .tup ks) ∧ Rp X.K (cut M H) q.1.data (.ref q.2.1) ∧ Rp X.K (cut M H) p.2 q.2.2) kv xs →
      Paired (fun (p : NestedKey × Addr × V) (q : NestedKey × Addr × Value) => p.1 = q.1 ∧ p.2.1 = q.2.1 ∧ RelV p.2.2 q.2.2) xs us → us[i]? = some x → (nestedKind X.prog X.w).is s.heap x.1 x.2.1 := by
    intro kv
    induction kv with
    | nil => intro xs us i h1 h2 h3; cases h1; cases h2; simp at h3
    | cons kv1 kvr ih =>
      intro xs us i h1 h2 h3
      cases h1 with
      | cons a1 a2 =>
        cases h2 with
        | cons b1 b2 =>
          cases i with
          | zero =>
            simp at h3
            subst h3
            obtain ⟨_, e2, _, e3, _⟩ := a1
            obtain ⟨c1, c2, _⟩ := b1
            rw [← c1, ← c2]
            exact ⟨nested_of I _ _ _ _ (keyD_data _) e3.full rfl, e2⟩
          | succ i => exact ih a2 b2 (i := i) (by simpa using h3)
  exact go p pu hi

theorem atKey_tget {kvs : List (NestedKey × Dt)} {xs : List (NestedKey × Addr × V)} {us : List (NestedKey × Addr × Value)} {F : NestedKey × Dt → NestedKey × Addr × V → Prop}
    (h1 : Paired F kvs xs) (hF : ∀ p q, F p q → p.1 = q.1) (h2 : Paired (fun (p : NestedKey × Addr × V) (q : NestedKey × Addr × Value) => p.1 = q.1 ∧ p.2.1 = q.2.1 ∧ RelV p.2.2 q.2.2) xs us) (k : NestedKey) :
    (tget kvs k = none ∧ atKey us k = none) ∨ ∃ d x u, tget kvs k = some d ∧ atKey us k = some u ∧ (∃ p, p.2 = d ∧ F p x) ∧ RelV x.2.2 u.2 := by
  induction h1 generalizing us with
  | nil => cases h2; exact .inl ⟨rfl, rfl⟩
  | @cons p q ps qs hd tl ih =>
    cases h2 with
    | @cons _ u _ ur g1 g2 =>
      have e1 : p.1 = u.1 := (hF _ _ hd).trans g1.1
      by_cases e : p.1 = k
      · refine .inr ⟨p.2, q, u.2, ?_, ?_, ⟨p, rfl, hd⟩, g1.2.2⟩
        · unfold tget; rw [List.find?_cons_of_pos (by simpa using e)]; rfl
        · unfold atKey; rw [List.find?_cons_of_pos (by simpa using e1 ▸ e)]; rfl
      · have f1 : tget (p :: ps) k = tget ps k := by unfold tget; rw [List.find?_cons_of_neg (by simpa using e)]
        have f2 : atKey (u :: ur) k = atKey ur k := by unfold atKey; rw [List.find?_cons_of_neg (by simpa using e1 ▸ e)]
        rw [f1, f2]
        exact ih g2
theorem op_inT (hu : X.A.units + 200 < cLine) (neg : Bool) : OpR X (compareOp (if neg then .NotIn else .In)) (fun x y H Q => ∃ M a kvs k, PvR (tpOf X) M H (.d a) x ∧ PvR (tpOf X) M H (.t kvs) y ∧ tkey a = some k ∧ Q (.bl (if neg then !(tget kvs k).isSome else (tget kvs k).isSome)) H) := by
  intro pins s σ H x y v u Q I rx ry h
  obtain ⟨M, a, kvs, k, ha, ⟨b, rfl, hb⟩, hk, q⟩ := h
  cases ry
  obtain ⟨e1, e2, e3, ds, rfl⟩ := tkey_some hk
  obtain ⟨xs, us, g1, g2, g3, g4, g5, g6⟩ := tab_at I hb
  obtain ⟨p, vs, rfl, t1, t2⟩ := ha.tup
  cases rx
  have hn := nested_of I _ _ _ (.ref p) e1 ha.full rfl
  have hkey : (nestedKind X.prog X.w).is s.heap k p := ⟨hn, e2⟩
  have room : (nestedKind X.prog X.w).room X.A.in1 := by show X.A.units + 1 + 8 < cLine; omega
  have he : (atKey us k).isSome = (tget kvs k).isSome := by
    rcases atKey_tget g5 (fun _ _ z => z.1) g6 k with ⟨z1, z2⟩ | ⟨d, x, u, z1, z2, _⟩
    · rw [z1, z2]; rfl
    · rw [z1, z2]; rfl
  cases neg with
  | false => exact wpAny_in_heap room hkey g2 g4 ⟨.bl _, H, I.tok _, by rw [he]; rfl, q⟩
  | true =>
    refine notIn_keyed room hkey g2 ⟨us, g4, rfl⟩ ⟨.bl _, H, I.tok _, ?_, q⟩
    rw [valueAt_pairsH, Option.isSome_map, he]
    rfl
/-- d[k] -/
theorem ix_tab (hu : X.A.units + 200 < cLine) : IxR X (fun x y H Q => ∃ M a kvs k d, PvR (tpOf X) M H (.t kvs) x ∧ PvR (tpOf X) M H (.d a) y ∧ tkey a = some k ∧ tget kvs k = some d ∧ ∀ v, Rp X.K (cut M H) d v → Q v H) := by
  intro value slice pins s σ H x y v u Q I rx ry h hs
  obtain ⟨M, a, kvs, k, d, ⟨b, rfl, hb⟩, ha, hk, hd, q⟩ := h
  cases rx
  obtain ⟨e1, e2, e3, ds, rfl⟩ := tkey_some hk
  obtain ⟨xs, us, g1, g2, g3, g4, g5, g6⟩ := tab_at I hb
  obtain ⟨p, vs, rfl, t1, t2⟩ := ha.tup
  cases ry
  have hn := nested_of I _ _ _ (.ref p) e1 ha.full rfl
  have hkey : (nestedKind X.prog X.w).is s.heap k p := ⟨hn, e2⟩
  have room : (nestedKind X.prog X.w).room X.A.in1 := by show X.A.units + 1 + 8 < cLine; omega
  rcases atKey_tget g5 (fun _ _ z => z.1) g6 k with ⟨z1, z2⟩ | ⟨d', x, u, z1, z2, ⟨p', rfl, hp⟩, hr⟩
  · rw [z1] at hd; cases hd
  · rw [z1] at hd
    cases hd
    exact subscriptTail_builtinR (x := u.2) g4.typeIs PySem.F.slot_dict_getitem.lookup (wpAny_getItem_heap (Q := fun r s' => r = u.2 ∧ EP X pins σ Q r s') room hkey g4 z2 ⟨rfl, _, H, I.tok _, hr, q _ hp.2.2.2.2⟩) hs
end
end Fw

set_option autoImplicit false
set_option linter.all false
set_option maxRecDepth 100000
set_option maxHeartbeats 2000000
/-! sets of tuples of any (nested) items, and sets of numbers and texts: what set(xs) leaves -/
namespace Fw
open PySem PySem.Spec PyProof.Rows L2

abbrev hk (w : World) (k : NestedKey) : Int := NestedKey.hash w k
abbrev IsN (h : Heap) (k : NestedKey) (a : Addr) : Prop := NestedIs h k (.ref a) ∧ k.depth ≤ 8

section
variable {P : Program} {w : World}
theorem IsN.inj {h : Heap} {a : Addr} {x y : NestedKey} (p : IsN h x a) (q : IsN h y a) : x = y := NestedIs.inj _ _ _ p.1 q.1
theorem IsN.up {h g : Heap} {k : NestedKey} {a : Addr} (p : IsN h k a) (m : ∀ b o, h.get? b = some o → g.get? b = some o) : IsN g k a :=
  ⟨NestedIs.at (fun b o _ _ e _ => m b o e) _ _ p.1, p.2⟩
theorem IsN.typed {s : Shared} {k : NestedKey} {a : Addr} (p : IsN s.heap k a) : s.TypeIs (.ref a) "tuple" := by
  obtain ⟨p, _⟩ := p
  cases p with
  | tup h1 h2 _ _ => exact ⟨_, h1, h2⟩
/-- no item of a class statement's class lies within -/
def NoStm (P : Program) (w : World) (n : Nat) (s : Shared) (v : Value) : Prop := ∀ (A : Around) (E : Value → Shared → Prop) (Q : Bool → Shared → Prop), Q false s → wpAny (model P w) A (ofAClassStatement n v) Q E s
theorem NoStm.flat {n : Nat} {s : Shared} {v : Value} (h : ofAClassStatement n v = pure false) : NoStm P w n s v := fun A E Q q => by rw [h]; exact wpAny_pure q
theorem NoStm.tup {n : Nat} {s : Shared} {a : Addr} {o : Obj} {its : Array Value} {m : Nat} (ho : s.heap.get? a = some o) (hc : o.cls = .type "tuple") (hd : o.data = .seq its m) (hq : ∀ v ∈ its.toList, NoStm P w n s v) : NoStm P w (n + 1) s (.ref a) := fun A E Q q => by
  have ty : s.TypeIs (.ref a) "tuple" := ⟨o, ho, hc⟩
  unfold ofAClassStatement
  refine wpAny_bind (wpAny_typeOf ty ?_)
  dsimp only
  have e : (("tuple" : String) == "tuple") = true := by decide
  simp only [e, if_true, Bool.not_true, Bool.false_eq_true, if_false]
  try refine wpAny_bind (wpAny_pure ?_)
  try simp only [Bool.not_true, Bool.false_eq_true, if_false]
  show wpAny _ _ (seqItems? (.ref a) >>= _) _ _ s
  refine wpAny_bind (wpAny_seqItems ho hd ?_)
  dsimp only
  refine wpAny_bind ?_
  show wpAny _ _ (forIn its _ _) _ _ s
  rw [← Array.forIn_toList]
  refine wpAny_forIn_list _ (fun left r t => r.1 = none ∧ t = s ∧ ∀ v ∈ left, NoStm P w n s v) _ ?_ ?_ _ _ ⟨rfl, rfl, hq⟩
  · rintro v left r t ⟨hr, rfl, all⟩
    refine wpAny_bind (all v List.mem_cons_self _ _ _ ?_)
    simp only [Bool.false_eq_true, if_false]
    exact wpAny_pure ⟨rfl, rfl, fun u hu => all u (List.mem_cons_of_mem _ hu)⟩
  · rintro ⟨r1, r2⟩ t ⟨hr, rfl, _⟩
    simp only at hr
    subst hr
    exact wpAny_pure q
mutual
theorem noStm : ∀ (k : NestedKey) (v : Value) (n : Nat) (s : Shared), NestedIs s.heap k v → k.depth ≤ n → NoStm P w n s v
  | .none, _, n, s, x, _ => by cases x; exact .flat (by cases n <;> rfl)
  | .num i, _, n, s, x, _ => by cases x <;> exact .flat (by cases n <;> rfl)
  | .text y, _, n, s, x, _ => by cases x; exact .flat (by cases n <;> rfl)
  | .tup ks, _, n, s, x, hn => by
    cases x with
    | tup hg hc hd hk =>
      simp only [NestedKey.depth] at hn
      cases n with
      | zero => omega
      | succ n => exact .tup hg hc hd (noStms ks _ n s hk (by omega))
theorem noStms : ∀ (ks : List NestedKey) (vs : List Value) (n : Nat) (s : Shared), NestedAll s.heap ks vs → NestedKey.depthAll ks ≤ n → ∀ v ∈ vs, NoStm P w n s v
  | [], _, n, s, x, _, v, hv => by cases x; cases hv
  | k :: ks, _, n, s, x, hn, v, hv => by
    cases x with
    | cons x1 x2 =>
      simp only [NestedKey.depthAll] at hn
      rcases List.mem_cons.mp hv with e | hv
      · rw [e]; exact noStm k _ n s x1 (by omega)
      · exact noStms ks _ n s x2 (by omega) v hv
end
/-- whatever is told of a hash by value -/
def ByVal (P : Program) (w : World) (n : Nat) (s : Shared) (v : Value) : Prop := ∀ (A : Around) (E : Value → Shared → Prop) (Q : Bool → Shared → Prop), (∀ b, Q b s) → wpAny (model P w) A (hashByValue n v) Q E s
theorem ByVal.tup {n : Nat} {s : Shared} {a : Addr} {o : Obj} {its : Array Value} {m : Nat} (ho : s.heap.get? a = some o) (hc : o.cls = .type "tuple") (hd : o.data = .seq its m) (hq : ∀ v ∈ its.toList, ByVal P w n s v) : ByVal P w (n + 1) s (.ref a) := fun A E Q q => by
  have ty : s.TypeIs (.ref a) "tuple" := ⟨o, ho, hc⟩
  unfold hashByValue
  refine wpAny_bind (wpAny_specialOf ty F.slot_tuple_hash.lookup ?_)
  show wpAny _ _ (seqItems? (.ref a) >>= _) _ _ s
  refine wpAny_bind (wpAny_seqItems ho hd ?_)
  refine wpAny_bind ?_
  show wpAny _ _ (forIn its _ _) _ _ s
  rw [← Array.forIn_toList]
  refine wpAny_forIn_list _ (fun left r t => r.1 = none ∧ t = s ∧ ∀ v ∈ left, ByVal P w n s v) _ ?_ ?_ _ _ ⟨rfl, rfl, hq⟩
  · rintro v left r t ⟨hr, rfl, all⟩
    refine wpAny_bind (all v List.mem_cons_self _ _ _ fun b => ?_)
    cases b with
    | true =>
      simp only [Bool.not_true, Bool.false_eq_true, if_false]
      exact wpAny_pure ⟨rfl, rfl, fun u hu => all u (List.mem_cons_of_mem _ hu)⟩
    | false =>
      simp only [Bool.not_false, if_true]
      exact wpAny_pure (wpAny_pure (q _))
  · rintro ⟨r1, r2⟩ t ⟨hr, rfl, _⟩
    simp only at hr
    subst hr
    exact wpAny_pure (q _)
mutual
theorem byVal : ∀ (k : NestedKey) (v : Value) (n : Nat) (s : Shared), NestedIs s.heap k v → k.depth ≤ n → ByVal P w n s v
  | .none, _, n, s, x, _ => by cases x; intro A E Q q; rw [hashByValue_scannable n rfl]; exact wpAny_pure (q _)
  | .num i, _, n, s, x, _ => by cases x <;> (intro A E Q q; rw [hashByValue_scannable n rfl]; exact wpAny_pure (q _))
  | .text y, _, n, s, x, _ => by cases x; intro A E Q q; rw [hashByValue_scannable n rfl]; exact wpAny_pure (q _)
  | .tup ks, _, n, s, x, hn => by
    cases x with
    | tup hg hc hd hk =>
      simp only [NestedKey.depth] at hn
      cases n with
      | zero => omega
      | succ n => exact .tup hg hc hd (byVals ks _ n s hk (by omega))
theorem byVals : ∀ (ks : List NestedKey) (vs : List Value) (n : Nat) (s : Shared), NestedAll s.heap ks vs → NestedKey.depthAll ks ≤ n → ∀ v ∈ vs, ByVal P w n s v
  | [], _, n, s, x, _, v, hv => by cases x; cases hv
  | k :: ks, _, n, s, x, hn, v, hv => by
    cases x with
    | cons x1 x2 =>
      simp only [NestedKey.depthAll] at hn
      rcases List.mem_cons.mp hv with e | hv
      · rw [e]; exact byVal k _ n s x1 (by omega)
      · exact byVals ks _ n s x2 (by omega) v hv
end
end
end Fw

set_option autoImplicit false
set_option linter.all false
set_option maxRecDepth 100000
set_option maxHeartbeats 4000000
/-! a set of tuples: searching, adding -/
namespace Fw
open PySem PySem.Spec PyProof.Rows L2

abbrev Row := Addr × NestedKey
def rws (w : World) (L : List Row) : List (Int × Value) := L.map fun p => (hk w p.2, Value.ref p.1)
abbrev hsh (w : World) (L : List Row) : List Int := L.map fun p => hk w p.2
/-- the set at a holds the rows L -/
structure SetN (w : World) (h : Heap) (a : Addr) (L : List Row) (es : Array (Int × Value)) (ep : Nat) (t : SetTable) : Prop where
  ob : ∃ o, h.get? a = some o ∧ o.ExactSet ∧ o.data = .set es ep t
  rows : es.toList = rws w L
  tab : TabOk t (hsh w L)
  nd : (L.map (·.2)).Nodup
  tup : ∀ p ∈ L, IsN h p.2 p.1
  led : w.params.followText "set-order" = true ∨ t.led = true
  room : L.length * 5 < t.mask * 3
  few : L.length < 70

section
variable {P : Program} {w : World} {A : Around} {E : Value → Shared → Prop} {s : Shared} {a : Addr} {L : List Row} {es : Array (Int × Value)} {ep : Nat} {t : SetTable}

theorem rws_len : (rws w L).length = L.length := by unfold rws; rw [List.length_map]
theorem SetN.size {h0 : Heap} (R : SetN w h0 a L es ep t) : es.size = L.length := by
  have q := congrArg List.length R.rows
  rw [Array.length_toList, rws_len] at q
  exact q
theorem SetN.tsz {h0 : Heap} (R : SetN w h0 a L es ep t) : t.place.size = L.length := by
  have q := R.tab.sz
  rw [List.length_map] at q
  exact q
theorem fit_of {n m : Nat} {u : SetTable} (h1 : u.place.size = n) (h2 : u.dummies = #[]) (h3 : m = n) (h4 : n ≤ u.mask) : u.fits m = true := by
  unfold SetTable.fits SetTable.fill
  rw [h2, Bool.and_eq_true, beq_iff_eq, decide_eq_true_eq]
  show u.place.size = m ∧ u.place.size + 0 ≤ u.mask
  omega
theorem SetN.fits {h0 : Heap} (R : SetN w h0 a L es ep t) : t.fits es.size = true := by
  have h1 := R.room
  exact fit_of R.tsz R.tab.dm R.size (by omega)
theorem SetN.entry {h0 : Heap} (R : SetN w h0 a L es ep t) {i : Nat} {p : Row} (h : L[i]? = some p) : es[i]? = some (hk w p.2, Value.ref p.1) := by
  rw [← Array.getElem?_toList, R.rows]
  unfold rws
  rw [List.getElem?_map, h]
  rfl
theorem SetN.whole {h0 : Heap} (R : SetN w h0 a L es ep t) : ¬ t.gaveWay = true := by
  unfold SetTable.gaveWay
  rw [mask_odd R.tab.mok]
  decide
theorem nth_clear (m : Nat) : ∀ (n : Nat) (p : SetTable.Probe), p.dummy = none → (nth m p n).dummy = none
  | 0, _, h => h
  | n + 1, p, h => by
    refine nth_clear m n (adv m p) ?_
    unfold adv
    split <;> exact h
/-- nothing is shown -/
theorem quiet_search {k : NestedKey} {b : Addr} {Q : Bool → Shared → Prop} (hb : IsN s.heap k b) {ys : List Value} (hy : ∀ y ∈ ys, ∃ k' c, y = Value.ref c ∧ IsN s.heap k' c) (h : Q false s) :
    wpAny (model P w) A (searchCouldBeSeen (.ref b) ys) Q E s := by
  unfold searchCouldBeSeen
  refine wpAny_bind ?_
  refine wpAny_forIn_list _ (fun left r u => r.1 = none ∧ u = s ∧ ∀ y ∈ left, ∃ k' c, y = Value.ref c ∧ IsN s.heap k' c) _ ?_ ?_ _ _ ⟨rfl, rfl, hy⟩
  · rintro v left r u ⟨hr, rfl, all⟩
    obtain ⟨k', c, rfl, hc⟩ := all v List.mem_cons_self
    have tl : ∀ y ∈ left, ∃ k' c, y = Value.ref c ∧ IsN u.heap k' c := fun z hz => all z (List.mem_cons_of_mem _ hz)
    dsimp only
    by_cases same : (b == c || (carriedByValue (.ref b) && carriedByValue (.ref c))) = true
    · exact wp_if_pos same (wpAny_pure ⟨rfl, rfl, tl⟩)
    · refine wp_if_neg same ?_
      refine wpAny_bind (quiet_key k _ 8 u hb.1 hb.2 _ _ _ ?_)
      simp only [Bool.not_true, Bool.false_eq_true, if_false]
      refine wpAny_bind (quiet_key k' _ 8 u hc.1 hc.2 _ _ _ ?_)
      simp only [Bool.not_true, Bool.false_eq_true, if_false]
      refine wpAny_bind (noStm k _ 8 u hb.1 hb.2 _ _ _ ?_)
      simp only [Bool.false_eq_true, if_false]
      refine wpAny_bind (noStm k' _ 8 u hc.1 hc.2 _ _ _ ?_)
      simp only [Bool.false_eq_true, if_false]
      exact wpAny_pure ⟨rfl, rfl, tl⟩
  · rintro ⟨r1, r2⟩ u ⟨hr, rfl, _⟩
    simp only at hr
    subst hr
    exact wpAny_pure h
theorem eq_rows {p : Row} {x : Addr} {k : NestedKey} {Q : Bool → Shared → Prop} (hu : A.units + 8 < cLine) (hp : IsN s.heap p.2 p.1) (hx : IsN s.heap k x) (h : Q (decide (p.2 = k)) s) :
    wpAny (model P w) A (eqBool (.ref p.1) (.ref x)) Q E s := (nestedKind P w).eqBool (E := E) (x := p.2) (y := k) hu hp hx h

theorem seek (R : SetN w s.heap a L es ep t) {x : Addr} {k : NestedKey} (hx : IsN s.heap k x) (hu : A.units + 8 < cLine) {N : Nat} (hNf : N < 10 * SetTable.turns t.mask)
    (hN : way t.mask (hk w k) N ∉ t.place.toList) (hNb : ∀ c, c < N → way t.mask (hk w k) c ∈ t.place.toList) {Q : SetFound → Shared → Prop}
    (qin : k ∈ L.map (·.2) → Q (.there none) s) (qout : k ∉ L.map (·.2) → Q (.free (way t.mask (hk w k) N) false) s) :
    ∀ (f c : Nat) (at_ : Option SetTable.Probe), at_.getD (t.probeStart (hk w k)) = nth t.mask (runAt t.mask (SetTable.bits (hk w k) % (t.mask + 1)) (SetTable.bits (hk w k))) c → c ≤ N → N - c < f →
      (∀ (i : Nat) p, L[i]? = some p → p.2 = k → ∃ c', c ≤ c' ∧ c' < N ∧ t.place.toList[i]? = some (way t.mask (hk w k) c')) →
      wpAny (model P w) A (setSearchFrom a (.ref x) (hk w k) true f at_) Q E s
  | 0, c, at_, _, _, hf, _ => absurd hf (Nat.not_lt_zero _)
  | f + 1, c, at_, hst, hc, hf, hre => by
    obtain ⟨o, ho, hex, hd⟩ := R.ob
    rw [setSearchFrom_succ]
    refine wpAny_bind (wpAny_setState_of ho hd R.fits ?_)
    dsimp only
    refine wp_if_neg R.whole ?_
    try refine wpAny_bind (wpAny_pure ?_)
    have clear := nth_clear t.mask c (runAt t.mask (SetTable.bits (hk w k) % (t.mask + 1)) (SetTable.bits (hk w k))) rfl
    have on : ∀ q, nth t.mask (nth t.mask (runAt t.mask (SetTable.bits (hk w k) % (t.mask + 1)) (SetTable.bits (hk w k))) c) q = nth t.mask (runAt t.mask (SetTable.bits (hk w k) % (t.mask + 1)) (SetTable.bits (hk w k))) (c + q) := fun q => (nth_add t.mask c _ q).symm
    have onj : ∀ q, (nth t.mask (nth t.mask (runAt t.mask (SetTable.bits (hk w k) % (t.mask + 1)) (SetTable.bits (hk w k))) c) q).j = way t.mask (hk w k) (c + q) := fun q => congrArg SetTable.Probe.j (on q)
    have spec := go_spec t R.tab.ris R.tab.dm (fun i => (es[i]?.map (·.1)).getD 0) (hk w k) (10 * SetTable.turns t.mask) (N - c) _ clear (by omega)
      (fun q hq => by rw [onj]; exact hNb (c + q) (by omega)) (by rw [onj, show c + (N - c) = N by omega]; exact hN)
    have hashAt : ∀ (i : Nat) p, L[i]? = some p → (fun i => (es[i]?.map (·.1)).getD 0) i = hk w p.2 := fun i p hp => by
      show (es[i]?.map (·.1)).getD 0 = _
      rw [R.entry hp]
      rfl
    rcases spec with ⟨q, i, hq, hi, hh, hno, hpr⟩ | ⟨hno, hpr⟩
    · have hpr2 : t.probe (fun i => (es[i]?.map (·.1)).getD 0) (hk w k) (at_.getD (t.probeStart (hk w k))) = some (.candidate (way t.mask (hk w k) (c + q)) i (nth t.mask (runAt t.mask (SetTable.bits (hk w k) % (t.mask + 1)) (SetTable.bits (hk w k))) (c + (q + 1)))) := by
        rw [hst, ← onj, ← on]
        exact hpr
      rw [hpr2]
      dsimp only
      rw [onj] at hi
      have hil : i < L.length := by
        have h1 : i < t.place.toList.length := (List.getElem?_eq_some_iff.mp hi).1
        rw [Array.length_toList, R.tsz] at h1
        exact h1
      obtain ⟨p, hp⟩ : ∃ p, L[i]? = some p := ⟨_, List.getElem?_eq_getElem hil⟩
      have hm : p ∈ L := List.mem_of_getElem? hp
      have go : wpAny (model P w) A (searchRest a (.ref x) (hk w k) true f es t (way t.mask (hk w k) (c + q)) i (nth t.mask (runAt t.mask (SetTable.bits (hk w k) % (t.mask + 1)) (SetTable.bits (hk w k))) (c + (q + 1)))) Q E s := by
        unfold searchRest
        rw [R.entry hp]
        dsimp only
        refine wpAny_bind (wpAny_holding (eq_rows hu (R.tup p hm) hx ?_))
        refine wpAny_bind (wpAny_setState_of ho hd R.fits ?_)
        dsimp only
        by_cases e : p.2 = k
        · refine wp_if_pos (by simp [e]) ?_
          exact wpAny_pure (qin (List.mem_map.mpr ⟨p, hm, e⟩))
        · refine wp_if_neg (by simp [e]) ?_
          try refine wpAny_bind (wpAny_pure ?_)
          rw [sameMem]
          dsimp only
          have live : t.slot (way t.mask (hk w k) (c + q)) = .live i := slot_live R.tab.ris hi
          simp only [if_true, live, R.entry hp]
          refine wpAny_bind (wpAny_isSame_ref_self (wpAny_bind (wpAny_pure ?_)))
          simp only [if_true]
          refine wp_if_neg (by simp [e]) ?_
          refine seek R hx hu hNf hN hNb qin qout f (c + (q + 1)) _ rfl (by omega) (by omega) fun j p0 h0 e0 => ?_
          obtain ⟨c', a1, a2, a3⟩ := hre j p0 h0 e0
          refine ⟨c', ?_, a2, a3⟩
          rcases Nat.lt_trichotomy c' (c + q) with z | z | z
          · exfalso
            refine hno (c' - c) j (by omega) (by rw [onj, show c + (c' - c) = c' by omega]; exact a3) ?_
            exact (hashAt j p0 h0).trans (congrArg (hk w) e0)
          · exfalso
            rw [z] at a3
            have l2 := slot_live R.tab.ris a3
            rw [live] at l2
            injection l2 with l2
            rw [← l2, hp] at h0
            exact e ((congrArg Prod.snd (Option.some.inj h0)).trans e0)
          · omega
      by_cases led : t.led = true
      · refine wp_if_neg (by simp [led]) ?_
        try refine wpAny_bind (wpAny_pure ?_)
        exact go
      · refine wp_if_pos (by simp [led]) ?_
        refine wpAny_bind (quiet_search hx (fun y hy => ?_) ?_)
        · obtain ⟨e, he, ee⟩ := List.mem_map.mp hy
          have he1 : e ∈ es ∧ e.1 = hk w k := by simpa using he
          have he2 : e ∈ es.toList := by simpa using he1.1
          rw [R.rows] at he2
          obtain ⟨p2, hp2, e2⟩ := List.mem_map.mp he2
          exact ⟨p2.2, p2.1, by rw [← ee, ← e2], R.tup p2 hp2⟩
        · refine wp_if_neg (by decide) ?_
          try refine wpAny_bind (wpAny_pure ?_)
          exact go
    · have hpr2 : t.probe (fun i => (es[i]?.map (·.1)).getD 0) (hk w k) (at_.getD (t.probeStart (hk w k))) = some (.empty (way t.mask (hk w k) N) none) := by
        have e2 : way t.mask (hk w k) N = (nth t.mask (nth t.mask (runAt t.mask (SetTable.bits (hk w k) % (t.mask + 1)) (SetTable.bits (hk w k))) c) (N - c)).j := by
          rw [onj, show c + (N - c) = N by omega]
        rw [hst, e2]
        exact hpr
      rw [hpr2]
      dsimp only
      refine wpAny_pure (qout fun hm => ?_)
      obtain ⟨p0, h0, e0⟩ := List.mem_map.mp hm
      obtain ⟨j, h00⟩ := List.mem_iff_getElem?.mp h0
      obtain ⟨c', a1, a2, a3⟩ := hre j p0 h00 e0
      refine hno (c' - c) j (by omega) (by rw [onj, show c + (c' - c) = c' by omega]; exact a3) ?_
      exact (hashAt j p0 h00).trans (congrArg (hk w) e0)

theorem sought (R : SetN w s.heap a L es ep t) {x : Addr} {k : NestedKey} (hx : IsN s.heap k x) (hu : A.units + 8 < cLine) {Q : SetFound → Shared → Prop}
    (qin : k ∈ L.map (·.2) → Q (.there none) s)
    (qout : ∀ N, k ∉ L.map (·.2) → way t.mask (hk w k) N ∉ t.place.toList → (∀ c, c < N → way t.mask (hk w k) c ∈ t.place.toList) → Q (.free (way t.mask (hk w k) N) false) s) :
    wpAny (model P w) A (setSearch a (.ref x) (hk w k) true) Q E s := by
  have hroom := R.room
  obtain ⟨N, hNf, hN, hNb⟩ := R.tab.first (by rw [List.length_map]; omega) (hk w k)
  have big : N < 100000 := by
    have : 10 * SetTable.turns t.mask ≤ 1420 := by
      unfold SetTable.turns
      rcases R.tab.mok with e | e | e <;> omega
    omega
  unfold setSearch
  refine seek R hx hu hNf hN hNb qin (fun hn => qout N hn hN hNb) 100000 0 none rfl (Nat.zero_le _) (by omega) fun i p hp e => ?_
  have hi : (hsh w L)[i]? = some (hk w k) := by rw [List.getElem?_map, hp, ← e]; rfl
  have hil : i < t.place.toList.length := by
    rw [Array.length_toList, R.tsz]
    exact (List.getElem?_eq_some_iff.mp hp).1
  have hj := List.getElem?_eq_getElem hil
  obtain ⟨c, hc, e2⟩ := R.tab.before hN hi hj
  exact ⟨c, Nat.zero_le _, hc, by rw [hj, e2]⟩

theorem IsN.apart {h g : Heap} {k : NestedKey} {b : Addr} {o : Obj} (p : IsN h k b) (ho : h.get? a = some o) (hd : o.data = .set es ep t) (hs : Heap.SameBut a h g) : IsN g k b := by
  refine ⟨NestedIs.at (fun c u vs n e z => ?_) _ _ p.1, p.2⟩
  refine (hs.2 c fun q => ?_).trans e
  subst q
  rw [ho] at e
  cases e
  rw [hd] at z
  exact nomatch z
theorem rws_put (L : List Row) (i : Nat) (x : Addr) (k : NestedKey) : rws w (L.take i ++ (x, k) :: L.drop i) = (rws w L).take i ++ (hk w k, Value.ref x) :: (rws w L).drop i := by
  unfold rws
  rw [List.map_append, List.map_cons, List.map_take, List.map_drop]
theorem rows_order (L : List Row) (es : Array (Int × Value)) (order : Array Nat) (hr : es.toList = rws w L) (hp : order.toList.Perm (List.range L.length)) :
    ∃ L2, (order.filterMap (es[·]?)).toList = rws w L2 ∧ L2.Perm L ∧ hsh w L2 = order.toList.map fun i => (es.map (·.1)).getD i 0 := by
  have ent : ∀ i : Nat, es[i]? = (L[i]?).map fun (p : Row) => (hk w p.2, Value.ref p.1) := fun i => by
    rw [← Array.getElem?_toList, hr]
    unfold rws
    rw [List.getElem?_map]
  have key : ∀ l : List Nat, (∀ i ∈ l, i < L.length) → l.filterMap (fun i => es[i]?) = rws w (l.filterMap fun i => L[i]?) ∧ hsh w (l.filterMap fun i => L[i]?) = l.map fun i => (es.map (·.1)).getD i 0 := by
    intro l
    induction l with
    | nil => intro _; exact ⟨rfl, rfl⟩
    | cons i l ih =>
      intro hl
      have hlt := hl i List.mem_cons_self
      have hi : L[i]? = some (L[i]'hlt) := List.getElem?_eq_getElem hlt
      have he := ent i
      rw [hi] at he
      obtain ⟨e1, e2⟩ := ih fun j hj => hl j (List.mem_cons_of_mem _ hj)
      refine ⟨?_, ?_⟩
      · rw [List.filterMap_cons_some he, List.filterMap_cons_some hi, e1]
        rfl
      · rw [List.filterMap_cons_some hi, List.map_cons]
        show hk w (L[i]'hlt).2 :: hsh w (l.filterMap fun i => L[i]?) = _
        rw [e2]
        have e4 : (es.map (·.1)).getD i 0 = hk w (L[i]).2 := by
          have e5 : (es.map (·.1))[i]? = some (hk w (L[i]).2) := by rw [Array.getElem?_map, he]; rfl
          simp [Array.getD_eq_getD_getElem?, e5]
        exact congrArg (· :: _) e4.symm
  obtain ⟨e1, e2⟩ := key order.toList fun i hi => List.mem_range.mp (hp.mem_iff.mp hi)
  refine ⟨order.toList.filterMap fun i => L[i]?, by first | (rw [Array.toList_filterMap]; exact e1) | simpa using e1, ?_, e2⟩
  have h1 := hp.filterMap fun i => L[i]?
  have h2 : ∀ n, n ≤ L.length → (List.range n).filterMap (fun i => L[i]?) = L.take n := by
    intro n
    induction n with
    | zero => intro _; rfl
    | succ n ih =>
      intro hn
      rw [List.range_succ, List.filterMap_append, ih (Nat.le_of_lt hn), List.take_succ, List.getElem?_eq_getElem hn, List.filterMap_cons_some (List.getElem?_eq_getElem hn)]
      rfl
  rw [h2 L.length (Nat.le_refl _), List.take_length] at h1
  exact h1
theorem TabOk.off {hs : List Int} (T : TabOk t hs) (b : Bool) : TabOk { t with plain := b } hs := ⟨T.ris, T.dm, T.sz, T.mok, T.bd, T.reach⟩

theorem relaid_at {o : Obj} (ho : s.heap.get? a = some o) (hex : o.ExactSet) (hd : o.data = .set es ep t) (hrows : es.toList = rws w L) (hsz : t.place.size = L.length) (hdm : t.dummies = #[]) (hfl : L.length ≤ t.mask)
    (nd : (L.map (·.2)).Nodup) (tup : ∀ p ∈ L, IsN s.heap p.2 p.1) (ld : w.params.followText "set-order" = true ∨ t.led = true) (few : L.length < 70) {wanted m : Nat}
    (hw : SetTable.sizeAbove wanted - 1 = m) (hm : MaskOk m) (hw2 : SetTable.sizeAbove wanted ≤ 128) (hn : L.length * 5 < m * 3) {Q : Unit → Shared → Prop}
    (hQ : ∀ g L' es' ep' t', Heap.SameBut a s.heap g → SetN w g a L' es' ep' t' → L'.Perm L → Q () { s with heap := g }) : wpAny (model P w) A (setRelay a wanted) Q E s := by
  have hsl : es.size = L.length := by
    have q := congrArg List.length hrows
    rw [Array.length_toList, rws_len] at q
    exact q
  obtain ⟨t', order, e, hp, T, em, el, _, ed⟩ := relaid_ok t (hs := es.map (·.1)) (wanted := wanted) hw hm (by rw [Array.size_map, hsl]; omega)
  rw [Array.size_map, hsl] at hp
  obtain ⟨L2, r1, r2, r3⟩ := rows_order L es order hrows hp
  rw [← r3] at T
  have hs2 : (order.filterMap (es[·]?)).size = L.length := by
    have q := congrArg List.length r1
    rw [Array.length_toList, rws_len, r2.length_eq] at q
    exact q
  rw [setRelay_eq]
  refine wpAny_bind (wpAny_setState_of ho hd (fit_of hsz hdm hsl hfl) ?_)
  dsimp only
  refine wp_if_neg (by rw [sizeLine_eq]; omega) ?_
  try refine wpAny_bind (wpAny_pure ?_)
  rw [e]
  dsimp only
  refine wpAny_bind ?_
  refine wp_if_neg (by rw [hs2, hsl]; simp) ?_
  try refine wpAny_bind (wpAny_pure ?_)
  refine wpAny_pure ?_
  dsimp only
  refine wpAny_storeSet_of ho hd ?_ (by rw [hs2, sizeLine_eq]; omega)
  have sb : Heap.SameBut a s.heap (s.heap.update a (Obj.putSet (order.filterMap (es[·]?)) t')) := Heap.SameBut.update ..
  refine hQ _ L2 (order.filterMap (es[·]?)) (ep + 1) t' sb ?_ r2
  exact ⟨⟨_, store_at ho hd, ⟨hex.1, hex.2.1, hex.2.2⟩, rfl⟩, r1, T, (r2.map (·.2)).nodup_iff.mpr nd, fun p hpm => (tup p (r2.mem_iff.mp hpm)).apart ho hd sb, by rw [el]; exact ld,
    by rw [r2.length_eq, em]; exact hn, by rw [r2.length_eq]; exact few⟩
end
end Fw

set_option autoImplicit false
set_option linter.all false
set_option maxRecDepth 100000
set_option maxHeartbeats 4000000
/-! adding to a set of tuples; a set of numbers and texts -/
namespace Fw
open PySem PySem.Spec PyProof.Rows L2

section
variable {P : Program} {w : World} {A : Around} {E : Value → Shared → Prop} {s : Shared} {a : Addr} {L : List Row} {es : Array (Int × Value)} {ep : Nat} {t : SetTable}
theorem added (R : SetN w s.heap a L es ep t) {x : Addr} {k : NestedKey} (hx : IsN s.heap k x) (hu : A.units + 8 < cLine) (hfew : L.length + 1 < 70) {Q : Bool → Shared → Prop}
    (hQ : ∀ b g L' es' ep' t', Heap.SameBut a s.heap g → SetN w g a L' es' ep' t' → (k ∈ L.map (·.2) → L' = L) → (k ∉ L.map (·.2) → L'.Perm ((x, k) :: L)) → Q b { s with heap := g }) :
    wpAny (model P w) A (setAddHashed a (.ref x) (hk w k)) Q E s := by
  obtain ⟨o, ho, hex, hd⟩ := R.ob
  have hsl := R.size
  have hroom := R.room
  unfold setAddHashed
  refine wpAny_holding ?_
  rw [show (100000 : Nat) = 99999 + 1 from rfl, setAddHashedIn_succ]
  refine wpAny_bind (wpAny_setState_of ho hd R.fits ?_)
  dsimp only
  refine wp_if_neg (by simp [byScan, Value.scannable]) ?_
  try refine wpAny_bind (wpAny_pure ?_)
  refine wpAny_bind (sought R hx hu (fun hm => ?_) fun N hm hN hb => ?_)
  · dsimp only
    exact wpAny_pure (hQ false s.heap L es ep t (Heap.SameBut.refl a s.heap) R (fun _ => rfl) fun z => absurd hm z)
  · dsimp only
    refine wpAny_bind (wpAny_setState_of ho hd R.fits ?_)
    dsimp only
    obtain ⟨q1, q2, q3, q4, q5, q6, q7, q8, q9⟩ := R.tab.put hN hb
    generalize hpt : t.put (way t.mask (hk w k) N) = pt at q1 q3 q4 q5 q6 q7 q8 q9 ⊢
    obtain ⟨t1, i⟩ := pt
    dsimp only at q1 q3 q4 q5 q6 q7 q8 q9 ⊢
    subst q1
    have hin : (SetTable.insertAt es (SetTable.below t.place (way t.mask (hk w k) N)) (hk w k, Value.ref x)).toList = rws w (L.take (SetTable.below t.place (way t.mask (hk w k) N)) ++ (x, k) :: L.drop (SetTable.below t.place (way t.mask (hk w k) N))) := by
      rw [SetTable.toList_insertAt, rws_put, R.rows]
    generalize hpp : SetTable.below t.place (way t.mask (hk w k) N) = i at q2 q3 hin ⊢
    have pm := put_perm L i (x, k)
    have hlen : (L.take i ++ (x, k) :: L.drop i).length = L.length + 1 := pm.length_eq
    have hhs : hsh w (L.take i ++ (x, k) :: L.drop i) = (hsh w L).take i ++ hk w k :: (hsh w L).drop i := by
      show List.map _ _ = _
      rw [List.map_append, List.map_cons, List.map_take, List.map_drop]
    rw [← hhs] at q3
    have nd1 : ((L.take i ++ (x, k) :: L.drop i).map (·.2)).Nodup := by
      refine (pm.map (·.2)).nodup_iff.mpr ?_
      rw [List.map_cons]
      exact List.nodup_cons.mpr ⟨hm, R.nd⟩
    have hes : (SetTable.insertAt es i (hk w k, Value.ref x)).size = L.length + 1 := by
      have q := congrArg List.length hin
      rw [Array.length_toList, rws_len, hlen] at q
      exact q
    generalize SetTable.insertAt es i (hk w k, Value.ref x) = es1 at hin hes ⊢
    generalize L.take i ++ (x, k) :: L.drop i = L1 at pm hlen q3 nd1 hin
    have fin : ∀ b : Bool, wpAny (model P w) A (do
        storeSet a es1 (if b = true then t1 else { t1 with plain := false })
        if (!false && (if b = true then t1 else { t1 with plain := false }).tooFull) = true then setRelay a (SetTable.grown (es.size + 1))
        return true) Q E s := by
      intro b
      have T1 : TabOk (if b = true then t1 else { t1 with plain := false }) (hsh w L1) := by
        cases b with
        | true => exact q3
        | false => exact TabOk.off q3 false
      have m1 : (if b = true then t1 else { t1 with plain := false }).mask = t.mask := by cases b <;> exact q4
      have l1 : (if b = true then t1 else { t1 with plain := false }).led = t.led := by cases b <;> exact q5
      have f1 : (if b = true then t1 else { t1 with plain := false }).tooFull = decide ((L.length + 1) * 5 ≥ t.mask * 3) := by
        have e : t1.tooFull = decide ((L.length + 1) * 5 ≥ t.mask * 3) := by
          unfold SetTable.tooFull
          rw [q9, List.length_map, q4]
        cases b with
        | true => exact e
        | false => exact e
      generalize (if b = true then t1 else { t1 with plain := false }) = t2 at T1 m1 l1 f1 ⊢
      refine wpAny_bind (wpAny_storeSet_of ho hd ?_ (by rw [hes, sizeLine_eq]; omega))
      have sb : Heap.SameBut a s.heap (s.heap.update a (Obj.putSet es1 t2)) := Heap.SameBut.update ..
      have ho1 := store_at (es' := es1) (t' := t2) ho hd
      generalize s.heap.update a (Obj.putSet es1 t2) = h1 at sb ho1 ⊢
      have tup1 : ∀ p ∈ L1, IsN h1 p.2 p.1 := fun p hp => by
        rcases List.mem_cons.mp (pm.mem_iff.mp hp) with e | hp
        · rw [e]; exact hx.apart ho hd sb
        · exact (R.tup p hp).apart ho hd sb
      have ld1 : w.params.followText "set-order" = true ∨ t2.led = true := by rw [l1]; exact R.led
      have tsz : t2.place.size = L1.length := by
        have q := T1.sz
        rw [List.length_map] at q
        exact q
      by_cases hf : (L.length + 1) * 5 ≥ t.mask * 3
      · have hf1 : t2.tooFull = true := by rw [f1]; exact decide_eq_true hf
        first
          | (refine wpAny_bind ?_; refine wp_if_pos (by simp [hf1]) ?_)
          | (refine wp_if_pos (by simp [hf1]) ?_; refine wpAny_bind ?_)
        rw [hsl]
        have two : (t.mask = 7 ∧ L.length = 4) ∨ (t.mask = 31 ∧ L.length = 18) := by
          rcases R.tab.mok with e | e | e
          · left; rw [e] at hf; rw [e] at hroom; exact ⟨e, by omega⟩
          · right; rw [e] at hf; rw [e] at hroom; exact ⟨e, by omega⟩
          · exfalso; rw [e] at hf; omega
        have go : ∀ m, SetTable.sizeAbove (SetTable.grown (L.length + 1)) - 1 = m → MaskOk m → SetTable.sizeAbove (SetTable.grown (L.length + 1)) ≤ 128 → (L.length + 1) * 5 < m * 3 →
            wpAny (model P w) A (setRelay a (SetTable.grown (L.length + 1))) (fun _ u => wpAny (model P w) A (pure true) Q E u) E { s with heap := h1 } := fun m g1 g2 g3 g4 => by
          refine relaid_at (s := { s with heap := h1 }) ho1 ⟨hex.1, hex.2.1, hex.2.2⟩ rfl hin tsz T1.dm (by rw [hlen, m1]; rcases two with ⟨e, e2⟩ | ⟨e, e2⟩ <;> omega) nd1 tup1 ld1 (by rw [hlen]; exact hfew) g1 g2 g3 (by rw [hlen]; exact g4) ?_
          intro h2 L2 es2 ep2 t3 sb2 R2 pm2
          exact wpAny_pure (hQ true h2 L2 es2 ep2 t3 (sb.trans sb2) R2 (fun z => absurd z hm) fun _ => pm2.trans pm)
        rcases two with ⟨_, e2⟩ | ⟨_, e2⟩
        · refine go 31 (by rw [e2, size_20]) (.inr (.inl rfl)) (by rw [e2, size_20]; decide) (by omega)
        · refine go 127 (by rw [e2, size_76]) (.inr (.inr rfl)) (by rw [e2, size_76]; decide) (by omega)
      · have hf1 : t2.tooFull = false := by rw [f1]; exact decide_eq_false hf
        first
          | refine wp_if_neg (by simp [hf1]) ?_
          | (refine wpAny_bind ?_; refine wp_if_neg (by simp [hf1]) ?_; refine wpAny_pure ?_)
        refine wpAny_pure (hQ true h1 L1 es1 (ep + 1) t2 sb ⟨⟨_, ho1, ⟨hex.1, hex.2.1, hex.2.2⟩, rfl⟩, hin, T1, nd1, tup1, ld1, ?_, by rw [hlen]; exact hfew⟩ (fun z => absurd z hm) fun _ => pm)
        rw [hlen, m1]
        omega
    by_cases hp1 : t1.plain = true
    · first
        | (refine wpAny_bind ?_; refine wp_if_pos hp1 ?_; refine byVal k _ 8 s hx.1 hx.2 _ _ _ fun b => ?_)
        | refine wp_if_pos hp1 (wpAny_bind (byVal k _ 8 s hx.1 hx.2 _ _ _ fun b => ?_))
      exact fin b
    · first
        | (refine wpAny_bind ?_; refine wp_if_neg hp1 ?_; refine wpAny_pure ?_)
        | refine wp_if_neg hp1 (wpAny_bind (wpAny_pure ?_))
      exact fin true
end
end Fw

set_option autoImplicit false
set_option linter.all false
set_option maxRecDepth 100000
set_option maxHeartbeats 4000000
/-! a set of numbers and texts -/
namespace Fw
open PySem PySem.Spec PyProof.Rows L2

/-- the key of a number, a text -/
def vkey : Value → NestedKey
  | .int i _ => .num i
  | .str x _ => .text x
  | _ => .none
def flatE (w : World) (e : Int × Value) : Prop := ((∃ i tk, e.2 = Value.int i tk) ∨ ∃ x tk, e.2 = Value.str x tk) ∧ e.1 = hk w (vkey e.2)
/-- the set at a holds the values L (with their keys) -/
structure SetF (w : World) (h : Heap) (a : Addr) (L : List (Value × NestedKey)) : Prop where
  ex : ∃ o es ep t, h.get? a = some o ∧ o.ExactSet ∧ o.data = .set es ep t ∧ (∀ e ∈ es.toList, flatE w e) ∧ L = es.toList.map (fun e => (e.2, vkey e.2)) ∧ (L.map (·.2)).Nodup ∧
    es.size < scanBound ∧ t.fits es.size = true ∧ Ris t.place.toList ∧ (w.params.followText "set-order" = true ∨ t.led = true)
/-- the key among the library's own -/
def mkey : Value → Key
  | .int i _ => .inl i
  | .str x _ => .inr x
  | _ => .inl 0
section
variable {P : Program} {w : World} {A : Around} {E : Value → Shared → Prop} {s : Shared} {a : Addr} {L : List (Value × NestedKey)}
theorem flat_key {e : Int × Value} (g : flatE w e) : (mixKind P w).is (mkey e.2) e.2 = true ∧ e.1 = (mixKind P w).hash (mkey e.2) ∧ e.2.scannable = true := by
  obtain ⟨g, h⟩ := g
  rcases g with ⟨i, tk, e2⟩ | ⟨x, tk, e2⟩
  · rw [e2] at h ⊢
    exact ⟨keyIs_int i tk, h, rfl⟩
  · rw [e2] at h ⊢
    exact ⟨keyIs_str x tk, h, rfl⟩
theorem flat_elems {l : List (Int × Value)} (g : ∀ e ∈ l, flatE w e) : ElemsOf (mixKind P w) l := fun e he => ⟨⟨_, (flat_key (P := P) (g e he)).1, (flat_key (P := P) (g e he)).2.1⟩, (flat_key (P := P) (g e he)).2.2⟩
theorem flat_is {e : Int × Value} {v : Value} (g : flatE w e) (gv : (∃ i tk, v = Value.int i tk) ∨ ∃ x tk, v = Value.str x tk) : (mixKind P w).is (mkey v) e.2 = true ↔ vkey e.2 = vkey v := by
  obtain ⟨g, _⟩ := g
  show keyIs (mkey v) e.2 = true ↔ _
  rcases gv with ⟨i, tk, rfl⟩ | ⟨x, tk, rfl⟩ <;> rcases g with ⟨j, tj, e2⟩ | ⟨y, ty, e2⟩ <;> rw [e2] <;> simp [mkey, vkey, keyIs, Value.isInt, Value.isStrOf]
  all_goals (try exact ⟨fun h => h.symm, fun h => h.symm⟩)
theorem setF_tail {g : Bool → Sem Unit} (hg : ∀ (b : Bool) (s₁ : Shared) (Q' : Unit → Shared → Prop), Q' () s₁ → wpAny (model P w) A (g b) Q' E s₁)
    {o : Obj} {es : Array (Int × Value)} {ep : Nat} {t : SetTable} (ho : s.heap.get? a = some o) (hex : o.ExactSet) (hd : o.data = .set es ep t)
    {es1 : Array (Int × Value)} {t2 : SetTable} (g1 : ∀ e ∈ es1.toList, flatE w e) (nd1 : (es1.toList.map fun e => vkey e.2).Nodup)
    (hb1 : es1.size < scanBound) (hf2 : t2.fits es1.size = true) (hr : Ris t2.place.toList) (hl : w.params.followText "set-order" = true ∨ t2.led = true) {wasDummy : Bool} {R : Option Bool → Shared → Prop}
    (hR : ∀ h' L', Heap.SameBut a s.heap h' → SetF w h' a L' → L'.Perm (es1.toList.map fun e => (e.2, vkey e.2)) → R (some true) { s with heap := h' }) :
    wpAny (model P w) A (do
        storeSet a es1 t2
        if (!wasDummy && t2.tooFull) = true then do
            g (relayAll t2 es1 (SetTable.grown es1.size)).2.2
            storeSet a (relayAll t2 es1 (SetTable.grown es1.size)).1 (relayAll t2 es1 (SetTable.grown es1.size)).2.1
            pure (some true)
          else pure (some true)) R E s := by
  refine wpAny_bind (wpAny_storeSet_of ho hd ?_ (fits_of_scanBound hb1))
  have ho1 := store_at (es' := es1) (t' := t2) ho hd
  have sb1 := Heap.SameBut.update s.heap a (Obj.putSet es1 t2)
  have nd : ∀ l : List (Int × Value), l.Perm es1.toList → ((l.map fun e => (e.2, vkey e.2)).map (·.2)).Nodup := fun l pl => by
    rw [List.map_map]
    exact (pl.map _).nodup_iff.mpr nd1
  split
  · have pm := relayAll_perm t2 es1 (SetTable.grown es1.size)
    have k1 := relayAll_fits t2 es1 (SetTable.grown es1.size)
    have k2 := relayAll_ris t2 es1 (SetTable.grown es1.size)
    have k3 := relayAll_led t2 es1 (SetTable.grown es1.size)
    generalize relayAll t2 es1 (SetTable.grown es1.size) = Z at pm k1 k2 k3 ⊢
    obtain ⟨es2, t3, gave⟩ := Z
    dsimp only at pm k1 k2 k3 ⊢
    have hsz : es2.size = es1.size := by rw [← Array.length_toList, pm.length_eq, Array.length_toList]
    have hb2 : es2.size < scanBound := by rw [hsz]; exact hb1
    refine wpAny_bind (hg _ _ _ ?_)
    refine wpAny_bind (wpAny_storeSet_of ho1 rfl ?_ (fits_of_scanBound hb2))
    have ho2 := store_at (es' := es2) (t' := t3) ho1 rfl
    refine wpAny_pure (hR _ _ (sb1.trans (Heap.SameBut.update _ a _)) ⟨_, es2, _, t3, ho2, hex, rfl, fun e he => g1 e (pm.mem_iff.mp he), rfl, nd _ pm, hb2, k1, k2, hl.imp id fun z => by rw [k3]; exact z⟩ (pm.map _))
  · exact wpAny_pure (hR _ _ sb1 ⟨_, es1, _, t2, ho1, hex, rfl, g1, rfl, nd _ (List.Perm.refl _), hb1, hf2, hr, hl⟩ (List.Perm.refl _))

theorem setF_add {v : Value} {Q : Bool → Shared → Prop} (gv : (∃ i tk, v = Value.int i tk) ∨ ∃ x tk, v = Value.str x tk) (R : SetF w s.heap a L) (room : L.length + 1 < scanBound)
    (hQ : ∀ b h' L', Heap.SameBut a s.heap h' → SetF w h' a L' → (vkey v ∈ L.map (·.2) → L' = L) → (vkey v ∉ L.map (·.2) → L'.Perm ((v, vkey v) :: L)) → Q b { s with heap := h' }) :
    wpAny (model P w) A (setAddHashed a v (hk w (vkey v))) Q E s := by
  obtain ⟨o, es, ep, t, ho, hex, hd, g, eL, nd, hb, hf, hr, hl⟩ := R.ex
  have gl : flatE w (hk w (vkey v), v) := ⟨gv, rfl⟩
  obtain ⟨hkey, hhash, hsc⟩ := flat_key (P := P) gl
  have hel : ElemsOf (mixKind P w) es.toList := flat_elems g
  have hn : L.length = es.size := by rw [eL, List.length_map, Array.length_toList]
  have eK : L.map (·.2) = es.toList.map fun e => vkey e.2 := by rw [eL, List.map_map]; rfl
  unfold setAddHashed setAddHashedIn
  refine wpAny_holding (wpAny_bind (wpAny_setState_of ho hd hf ?_))
  dsimp only
  rw [byScan_of hsc hb hel]
  simp only [↓reduceIte]
  unfold setAddByScan
  refine wpAny_bind ?_
  refine wpAny_bind (wpAny_rule ?_)
  have hh : hk w (vkey v) = (mixKind P w).hash (mkey v) := hhash
  rw [hh]
  refine wpAny_bind (wpAny_setScan_of hkey ho hd hf hel ?_)
  cases hfi : List.findIdx? (fun e => (mixKind P w).is (mkey v) e.2) es.toList with
  | some j =>
    dsimp only
    obtain ⟨hj, pj, _⟩ := List.findIdx?_eq_some_iff_getElem.mp hfi
    have hin : vkey v ∈ L.map (·.2) := by
      rw [eK]
      exact List.mem_map.mpr ⟨_, List.getElem_mem hj, (flat_is (P := P) (g _ (List.getElem_mem hj)) gv).mp pj⟩
    exact wpAny_pure (wpAny_pure (hQ false s.heap L (Heap.SameBut.refl a s.heap) R (fun _ => rfl) fun z => absurd hin z))
  | none =>
    dsimp only
    have hout : vkey v ∉ L.map (·.2) := fun z => by
      rw [eK] at z
      obtain ⟨e, he, q⟩ := List.mem_map.mp z
      have c := List.findIdx?_eq_none_iff.mp hfi e he
      rw [(flat_is (P := P) (g e he) gv).mpr q] at c
      cases c
    have hgw : ∀ (b : Bool) {s₁ : Shared} {Q' : Unit → Shared → Prop}, Q' () s₁ → wpAny (model P w) A (match b with | true => rule "set.scan.the-table-gave-way" | false => pure ()) Q' E s₁ :=
      fun b s₁ Q' q => by cases b <;> first | exact wpAny_pure q | exact wpAny_rule q
    have pm := layNew_perm t es ((mixKind P w).hash (mkey v)) v
    have hf1 := layNew_fits t es ((mixKind P w).hash (mkey v)) v
    have hr1 := layNew_ris t es ((mixKind P w).hash (mkey v)) v hr
    have hl1 := layNew_led t es ((mixKind P w).hash (mkey v)) v
    generalize layNew t es ((mixKind P w).hash (mkey v)) v = Z at pm hf1 hr1 hl1 ⊢
    obtain ⟨es1, t1, wasDummy, gave⟩ := Z
    dsimp only at pm hf1 hr1 hl1 ⊢
    rw [Array.toList_push] at pm
    have pc : es1.toList.Perm (((mixKind P w).hash (mkey v), v) :: es.toList) := pm.trans (List.perm_append_singleton _ _)
    have g1 : ∀ e ∈ es1.toList, flatE w e := fun e he => by
      rcases List.mem_cons.mp (pc.mem_iff.mp he) with z | z
      · rw [z, ← hh]; exact gl
      · exact g e z
    have nd1 : (es1.toList.map fun e => vkey e.2).Nodup := by
      refine (pc.map _).nodup_iff.mpr ?_
      rw [List.map_cons]
      rw [eK] at nd hout
      exact List.nodup_cons.mpr ⟨hout, nd⟩
    have hb1 : es1.size < scanBound := by rw [← Array.length_toList, pc.length_eq, List.length_cons, Array.length_toList, ← hn]; exact room
    have hled : w.params.followText "set-order" = true ∨ t1.led = true := hl.imp id fun z => by rw [hl1]; exact z
    have fin : ∀ h' L', Heap.SameBut a s.heap h' → SetF w h' a L' → L'.Perm (es1.toList.map fun e => (e.2, vkey e.2)) → Q true { s with heap := h' } := fun h' L' sb r pl => by
      refine hQ true h' L' sb r (fun z => absurd z hout) fun _ => pl.trans ?_
      have q := pc.map fun e : Int × Value => (e.2, vkey e.2)
      rw [List.map_cons, ← eL] at q
      exact q
    refine wpAny_bind (hgw _ ?_)
    split
    · refine wpAny_bind ?_
      rw [hashByValue_scannable 8 hsc]
      refine wpAny_pure ?_
      refine setF_tail ?_ ho hex hd g1 nd1 hb1 ?_ ?_ ?_ ?_
      · intro b s₁ Q' q; cases b <;> first | exact wpAny_pure q | exact wpAny_rule q
      · first | (split <;> first | exact hf1 | exact SetTable.fits_plain_off hf1) | exact hf1
      · first | (split <;> exact hr1) | exact hr1
      · first | (split <;> exact hled) | exact hled
      · intro h' L' sb r pl; dsimp only; exact wpAny_pure (fin h' L' sb r pl)
    · refine wpAny_bind (wpAny_pure ?_)
      simp only [↓reduceIte]
      refine setF_tail ?_ ho hex hd g1 nd1 hb1 hf1 hr1 hled ?_
      · intro b s₁ Q' q; cases b <;> first | exact wpAny_pure q | exact wpAny_rule q
      · intro h' L' sb r pl; dsimp only; exact wpAny_pure (fin h' L' sb r pl)
end
end Fw

set_option autoImplicit false
set_option linter.all false
set_option maxRecDepth 100000
set_option maxHeartbeats 4000000
/-! set(xs) of a list -/
namespace Fw
open PySem PySem.Spec PyProof.Rows L2

abbrev VK' := Value × NestedKey
/-- what a kind of sets can do -/
structure SetI (P : Program) (w : World) (Is : Heap → NestedKey → Value → Prop) (I : Heap → Addr → List VK' → Prop) : Prop where
  fresh : ∀ (h : Heap) (a : Addr), h.get? a = some { cls := .type "set", dict := none, data := .set #[] 0 (.fresh 0 0 (!w.params.followText "set-order")) } → I h a []
  add : ∀ (A : Around) (E : Value → Shared → Prop) (s : Shared) (a : Addr) (L : List VK') (v : Value) (k : NestedKey) (Q : Bool → Shared → Prop), A.units + 8 < cLine → I s.heap a L → Is s.heap k v → L.length + 1 < 70 →
    (∀ b h' L', Heap.SameBut a s.heap h' → I h' a L' → (k ∈ L.map (·.2) → L' = L) → (k ∉ L.map (·.2) → L'.Perm ((v, k) :: L)) → Q b { s with heap := h' }) → wpAny (model P w) A (setAddHashed a v (hk w k)) Q E s
  keep : ∀ (h h' : Heap) (a : Addr) (L : List VK'), I h a L → (∀ o, h.get? a = some o → h'.get? a = some o) → (∀ p ∈ L, Is h' p.2 p.1) → I h' a L
  is_up : ∀ (h h' : Heap) (k : NestedKey) (v : Value), Is h k v → (∀ b o, h.get? b = some o → h'.get? b = some o) → Is h' k v
  hash : ∀ (A : Around) (E : Value → Shared → Prop) (s : Shared) (k : NestedKey) (v : Value) (Q : Int → Shared → Prop), A.units + 8 < cLine → Is s.heap k v → (∀ n, Q (hk w k) { s with toks := s.toks + n }) → wpAny (model P w) A (pyHash v) Q E s
  out : ∀ (h : Heap) (a : Addr) (L : List VK'), I h a L → (L.map (·.2)).Nodup ∧ ∃ es ep t, SetAt h a es ep t ∧ t.fits es.size = true ∧ es.size < scanBound ∧ Ris t.place.toList ∧ (w.params.followText "set-order" = true ∨ t.led = true) ∧ es.toList.map (·.2) = L.map (·.1)

section
variable {P : Program} {w : World}
theorem setI_tup : SetI P w (fun h k v => ∃ a, v = .ref a ∧ IsN h k a) (fun h a L => ∃ L0 es ep t, SetN w h a L0 es ep t ∧ L = L0.map fun p => (Value.ref p.1, p.2)) where
  fresh := fun h a ho => ⟨[], #[], 0, _, ⟨⟨_, ho, ⟨rfl, rfl, rfl⟩, rfl⟩, rfl, ⟨List.Pairwise.nil, rfl, rfl, .inl rfl, fun x hx => (by cases hx), fun i h j hi => (by simp at hi)⟩, List.nodup_nil, fun p hp => (by cases hp), by
    show _ ∨ (!w.params.followText "set-order") = true
    cases w.params.followText "set-order"
    · exact .inr rfl
    · exact .inl rfl, by show 0 * 5 < 7 * 3; decide, by show 0 < 70; decide⟩, rfl⟩
  add := fun A E s a L v k Q hu ⟨L0, es, ep, t, R, e⟩ ⟨x, ev, hx⟩ hl h => by
    subst e ev
    refine added R hx hu (by rw [List.length_map] at hl; exact hl) fun b g L' es' ep' t' sb R' c1 c2 => ?_
    have ek : (L0.map fun p => (Value.ref p.1, p.2)).map (·.2) = L0.map (·.2) := by rw [List.map_map]; rfl
    refine h b g (L'.map fun p => (Value.ref p.1, p.2)) sb ⟨L', es', ep', t', R', rfl⟩ (fun z => ?_) fun z => ?_
    · rw [ek] at z; rw [c1 z]
    · rw [ek] at z; exact (c2 z).map _
  keep := fun h h' a L ⟨L0, es, ep, t, R, e⟩ ha hp => by
    subst e
    obtain ⟨o, ho, r⟩ := R.ob
    refine ⟨L0, es, ep, t, ⟨⟨o, ha o ho, r⟩, R.rows, R.tab, R.nd, fun p hm => ?_, R.led, R.room, R.few⟩, rfl⟩
    obtain ⟨x, e1, e2⟩ := hp (Value.ref p.1, p.2) (List.mem_map.mpr ⟨p, hm, rfl⟩)
    cases e1
    exact e2
  is_up := fun h h' k v ⟨a, e, x⟩ m => ⟨a, e, x.up m⟩
  hash := fun A E s k v Q hu ⟨a, e, x⟩ h => by subst e; exact pyHash_key _ _ _ _ _ x.1 (by have := x.2; omega) (h _)
  out := fun h a L ⟨L0, es, ep, t, R, e⟩ => by
    subst e
    obtain ⟨o, ho, hx, hd⟩ := R.ob
    refine ⟨by rw [List.map_map]; exact R.nd, es, ep, t, ⟨o, ho, hx.1, hd⟩, R.fits, ?_, R.tab.ris, R.led, ?_⟩
    · have q := R.size
      have q2 := R.few
      show es.size < 4096
      omega
    · rw [R.rows]; unfold rws; rw [List.map_map, List.map_map]; rfl
theorem setI_flat : SetI P w (fun _ k v => ((∃ i tk, v = Value.int i tk) ∨ ∃ x tk, v = Value.str x tk) ∧ k = vkey v) (fun h a L => SetF w h a L) where
  fresh := fun h a ho => ⟨_, #[], 0, _, ho, ⟨rfl, rfl, rfl⟩, rfl, fun e he => (by simp at he), rfl, List.nodup_nil, by show 0 < 4096; decide, rfl, List.Pairwise.nil, by
    show _ ∨ (!w.params.followText "set-order") = true
    cases w.params.followText "set-order"
    · exact .inr rfl
    · exact .inl rfl⟩
  add := fun A E s a L v k Q hu R ⟨gv, e⟩ hl h => by
    subst e
    exact setF_add gv R (by show _ < 4096; omega) h
  keep := fun h h' a L R ha _ => by
    obtain ⟨o, es, ep, t, ho, r⟩ := R.ex
    exact ⟨o, es, ep, t, ha o ho, r⟩
  is_up := fun _ _ _ _ x _ => x
  hash := fun A E s k v Q hu ⟨gv, e⟩ h => by
    subst e
    have gl : flatE w (hk w (vkey v), v) := ⟨gv, rfl⟩
    obtain ⟨h1, h2, _⟩ := flat_key (P := P) gl
    refine (mixKind P w).pyHash h1 ?_
    rw [← h2]
    exact h 1
  out := fun h a L R => by
    obtain ⟨o, es, ep, t, ho, hx, hd, g, eL, nd, hb, hf, hr, hl⟩ := R.ex
    exact ⟨nd, es, ep, t, ⟨o, ho, hx.1, hd⟩, hf, hb, hr, hl, by rw [eL, List.map_map]; rfl⟩

/-- what has come of the first i -/
structure Had (ks : List VK') (i : Nat) (L : List VK') : Prop where
  sub : ∀ p ∈ L, p ∈ ks.take i
  all : ∀ p ∈ ks.take i, p.2 ∈ L.map (·.2)
theorem Had.zero (ks : List VK') : Had ks 0 [] := ⟨fun p h => (by cases h), fun p h => (by simp at h)⟩
theorem Had.next {ks L L' : List VK'} {i : Nat} {x : VK'} (g : Had ks i L) (h : ks[i]? = some x) (c1 : x.2 ∈ L.map (·.2) → L' = L) (c2 : x.2 ∉ L.map (·.2) → L'.Perm (x :: L)) : Had ks (i + 1) L' := by
  have e : ks.take (i + 1) = ks.take i ++ [x] := by rw [List.take_succ, h]; rfl
  by_cases c : x.2 ∈ L.map (·.2)
  · rw [c1 c]
    refine ⟨fun p hp => by rw [e]; exact List.mem_append_left _ (g.sub p hp), fun p hp => ?_⟩
    rw [e] at hp
    rcases List.mem_append.mp hp with z | z
    · exact g.all p z
    · rw [List.mem_singleton.mp z]; exact c
  · have pm := c2 c
    refine ⟨fun p hp => ?_, fun p hp => ?_⟩
    · rw [e]
      rcases List.mem_cons.mp (pm.mem_iff.mp hp) with z | z
      · rw [z]; exact List.mem_append_right _ (List.mem_singleton.mpr rfl)
      · exact List.mem_append_left _ (g.sub p z)
    · rw [(pm.map (·.2)).mem_iff, List.map_cons]
      rw [e] at hp
      rcases List.mem_append.mp hp with z | z
      · exact List.mem_cons_of_mem _ (g.all p z)
      · rw [List.mem_singleton.mp z]; exact List.mem_cons_self
theorem nodup_sub_len {α : Type} [DecidableEq α] : ∀ (l m : List α), l.Nodup → (∀ x ∈ l, x ∈ m) → l.length ≤ m.length
  | [], _, _, _ => Nat.zero_le _
  | x :: l, m, hn, hs => by
    obtain ⟨h1, h2⟩ := List.nodup_cons.mp hn
    have hx : x ∈ m := hs x List.mem_cons_self
    have ih := nodup_sub_len l (m.erase x) h2 fun y hy => (List.mem_erase_of_ne (fun e : y = x => h1 (by rw [← e]; exact hy))).2 (hs y (List.mem_cons_of_mem _ hy))
    have e := List.length_erase_of_mem hx
    have hp : 0 < m.length := List.length_pos_of_mem hx
    rw [List.length_cons]
    omega
theorem mem_dedup {k : NestedKey} : ∀ {l : List NestedKey}, k ∈ dedup l ↔ k ∈ l
  | [] => by simp [dedup]
  | x :: l => by
    unfold dedup
    split
    · rename_i h
      rw [mem_dedup, List.mem_cons]
      refine ⟨.inr, fun z => ?_⟩
      rcases z with z | z
      · rw [z]; exact h
      · exact z
    · rw [List.mem_cons, List.mem_cons, mem_dedup]
theorem nodup_dedup : ∀ l : List NestedKey, (dedup l).Nodup
  | [] => List.nodup_nil
  | x :: l => by
    unfold dedup
    split
    · exact nodup_dedup l
    · rename_i h
      exact List.nodup_cons.mpr ⟨fun z => h (mem_dedup.mp z), nodup_dedup l⟩

variable {Is : Heap → NestedKey → Value → Prop} {I : Heap → Addr → List VK' → Prop}
theorem upd_loop (S : SetI P w Is I) {A : Around} {it : Addr} {fp wr : List Addr} {G : Array GenState → Array GenState → Prop} {n : Nat} {Pv : Nat → Value → Prop} {St : Nat → Shared → Prop} {R : Result → Shared → Prop}
    (W : WalksS P w A.in1 it fp wr G n Pv St) (d : Addr) (hdf : d ∉ fp) (ks : List VK') (hn : n = ks.length) (hfew : (dedup (ks.map (·.2))).length < 69) (hval : ∀ i v, Pv i v → ∃ p, ks[i]? = some p ∧ v = p.1)
    (h0 : Heap) (hk0 : ∀ p ∈ ks, Is h0 p.2 p.1) (hd0 : h0.get? d = none) (hw0 : ∀ b ∈ wr, h0.get? b = none) (hu : A.in1.units + 8 < cLine) :
    ∀ (m i : Nat) (s : Shared), n - i = m → i ≤ n → St i s → (∀ b o, h0.get? b = some o → s.heap.get? b = some o) → (∃ L, I s.heap d L ∧ Had ks i L) →
      (∀ s' L, Moved (d :: wr) G s s' → I s'.heap d L → Had ks n L → (∀ b o, h0.get? b = some o → s'.heap.get? b = some o) → R (.ok (.ret .none)) s') →
      codeAny (model P w) A (.builtin "set.update.loop" ⟨[.ref d, .ref it], []⟩) R s := by
  have hdw : d ∉ wr := fun h => hdf (W.sub _ h)
  have up : ∀ b ∈ wr, b ∈ d :: wr := fun b hb => List.mem_cons_of_mem _ hb
  have stay : ∀ {s s' : Shared}, Moved wr G s s' → (∀ b o, h0.get? b = some o → s.heap.get? b = some o) → ∀ b o, h0.get? b = some o → s'.heap.get? b = some o := fun hm hkp b o e =>
    hm.heap b o (fun hb => by rw [hw0 b hb] at e; cases e) (hkp b o e)
  intro m
  induction m with
  | zero =>
    intro i s hm0 hi hst hkp ⟨L, hI, g⟩ hR
    obtain rfl : i = n := by omega
    refine codeAny_builtin F.entry_set_update_loop ?_
    rw [Around.under_plainId F.plain_set_update_loop _]
    show wpAny _ A.in1 (pyNext (.ref it) >>= _) _ _ s
    refine wpAny_bind (W.done s _ _ hst fun s' hm => ?_)
    show wpAny _ A.in1 (ret Value.none) _ _ s'
    have hkp' := stay hm hkp
    exact wpAny_pure (hR s' L (hm.mono up) (S.keep _ _ d L hI (fun o e => hm.heap d o hdw e) fun p hp => S.is_up _ _ _ _ (hk0 p (List.mem_of_mem_take (g.sub p hp))) hkp') g hkp')
  | succ m ih =>
    intro i s hm0 hi hst hkp ⟨L, hI, g⟩ hR
    have hlt : i < n := by omega
    refine codeAny_builtin F.entry_set_update_loop ?_
    rw [Around.under_plainId F.plain_set_update_loop _]
    show wpAny _ A.in1 (pyNext (.ref it) >>= _) _ _ s
    refine wpAny_bind (W.item i s _ _ hlt hst fun v s' hP hst' hm => ?_)
    obtain ⟨p, hp, rfl⟩ := hval i v hP
    have hkp' := stay hm hkp
    have hI' : I s'.heap d L := S.keep _ _ d L hI (fun o e => hm.heap d o hdw e) fun q hq => S.is_up _ _ _ _ (hk0 q (List.mem_of_mem_take (g.sub q hq))) hkp'
    have hx : Is s'.heap p.2 p.1 := S.is_up _ _ _ _ (hk0 p (List.mem_of_getElem? hp)) hkp'
    have hfewL : L.length + 1 < 70 := by
      have nd := (S.out _ _ _ hI').1
      have q := nodup_sub_len (L.map (·.2)) (dedup (ks.map (·.2))) nd fun x hx => by
        obtain ⟨r, hr, rfl⟩ := List.mem_map.mp hx
        exact mem_dedup.mpr (List.mem_map.mpr ⟨r, List.mem_of_mem_take (g.sub r hr), rfl⟩)
      rw [List.length_map] at q
      omega
    show wpAny _ A.in1 (holding [p.1] (setAdd d p.1) >>= _) _ _ s'
    refine wpAny_bind (wpAny_holding ?_)
    unfold setAdd
    refine wpAny_holding ?_
    refine wpAny_bind (S.hash _ _ _ p.2 p.1 _ hu hx fun tn => ?_)
    refine S.add A.in1 _ { s' with toks := s'.toks + tn } d L p.1 p.2 _ hu hI' hx hfewL fun b h' L' hsb hS2 c1 c2 => ?_
    have g' : Had ks (i + 1) L' := g.next hp c1 c2
    have hkp2 : ∀ b o, h0.get? b = some o → h'.get? b = some o := fun b o e => (hsb.2 b (fun z => by rw [z, hd0] at e; cases e)).trans (hkp' b o e)
    refine wpAny_pure ⟨plainId_quiet F.plain_set_update_loop _, ih (i + 1) _ (by omega) hlt (W.frame _ s' _ _ hst' (Nat.le_add_right _ _) fun b hb o e => ?_) hkp2 ⟨L', hS2, g'⟩ fun s'' L2 hm'' hS'' g'' hkp'' => ?_⟩
    · rw [hsb.2 b (fun h : b = d => hdf (by rw [← h]; exact hb))]; exact e
    · refine hR s'' L2 (Moved.trans W.gtrans ((hm.mono up).then_heap (Nat.le_add_right _ _) fun b o hb e => ?_) hm'') hS'' g'' hkp''
      rw [hsb.2 b (fun h : b = d => hb (by rw [h]; exact List.mem_cons_self))]; exact e
end
end Fw

set_option autoImplicit false
set_option linter.all false
set_option maxRecDepth 100000
set_option maxHeartbeats 8000000
/-! set(xs) as a call, sorted(set) -/
namespace Fw
open PySem PySem.Spec PyProof.Rows L2

section
variable {P : Program} {w : World} {A : Around} {E : Value → Shared → Prop} {s : Shared} {Is : Heap → NestedKey → Value → Prop} {I : Heap → Addr → List VK' → Prop}
abbrev freshSet (w : World) : Obj := { cls := .type "set", dict := none, data := .set #[] 0 (.fresh 0 0 (!w.params.followText "set-order")) }
theorem call_set (S : SetI P w Is I) {l : Addr} {its : Array Value} (ks : List VK') {Q : Value → Shared → Prop} (hh : A.handled = none) (hl : s.heap.IsList l its) (hit : its.toList = ks.map (·.1))
    (hk0 : ∀ p ∈ ks, Is s.heap p.2 p.1) (hfew : (dedup (ks.map (·.2))).length < 69) (hu : A.units + 20 < cLine)
    (h : ∀ (h' : Heap) (tk : Nat) L, I h' s.heap.objs.size L → Had ks ks.length L → (∀ b o, s.heap.get? b = some o → h'.get? b = some o) → Q (.ref s.heap.objs.size) { s with heap := h', toks := tk }) :
    wpAny (model P w) A (call (.type "set") [.ref l]) Q E s := by
  have isz : its.size = ks.length := by
    have q := congrArg List.length hit
    rw [Array.length_toList, List.length_map] at q
    exact q
  obtain ⟨c, tl, hmro⟩ := F.called_set.mro
  have hmade := F.called_set.made
  have hsub := F.called_set.sub
  refine wpAny_call (codeAny_of_tree ?_)
  show wpAny _ _ (callAny (.type "set") _) _ _ _
  refine wpAny_pure ⟨Code.quiet_builtin _ (by decide +kernel), codeAny_builtin F.entry_type_call ?_⟩
  rw [Around.under_plain (weight_type_call_type "set" [.ref l] []) rfl]
  have h1 := F.called_set.notType
  have h2 := F.called_set.canCreate
  have hct := F.typeCall_set_1 (.ref l)
  repeat (any_goals (first | assumption | wp_step))
  refine codeAny_mono (code_set_led1 (.ref l) (E := E) (Q₁ := fun obj s₁ => obj = .ref s.heap.objs.size ∧ s₁ = { s with heap := s.heap.push (freshSet w) }) ⟨rfl, rfl⟩) fun r s₁ hr => ?_
  cases r with
  | error e => exact hr
  | ok fl =>
    cases fl with
    | ret obj =>
      obtain ⟨rfl, rfl⟩ := hr
      have hS : (s.heap.push (freshSet w)).get? s.heap.objs.size = some (freshSet w) := Heap.get?_push_size _ rfl
      have hT : Shared.TypeIs { s with heap := s.heap.push (freshSet w) } (.ref s.heap.objs.size) "set" := ⟨_, hS, rfl⟩
      have hli := F.called_set.init.lookup
      have hbi := F.called_set.init.bind (.ref s.heap.objs.size)
      repeat (any_goals (first | assumption | wp_step))
      refine codeAny_mono (codeAny_call_builtin (R := wants (fun r s₂ => r = .none ∧ ∃ h' tk L, s₂ = { s with heap := h', toks := tk } ∧ I h' s.heap.objs.size L ∧ Had ks ks.length L ∧
          (∀ b o, s.heap.get? b = some o → h'.get? b = some o)) E) F.called_set.init.plain F.entry_set_init (check_set_init_1 hT ?_)) fun r₂ s₂ hr₂ => ?_
      · obtain ⟨ol, hol, hcl, nl, hdl⟩ := hl
        obtain ⟨ocls, odict, odata, oslots⟩ := ol
        simp only at hcl hdl
        subst hcl; subst hdl
        have hol' : (s.heap.push (freshSet w)).get? l = some { cls := .type "list", dict := odict, data := .seq its nl, slots := oslots } := Heap.get?_push_of_some _ hol
        have hsls := F.sub_list_set
        have hslf := F.sub_list_frozenset
        have hne : (Value.type "list" == Value.type "dict") = false := by decide
        have hl1 : (s.heap.push (freshSet w)).IsList l its := ⟨_, hol', rfl, nl, rfl⟩
        unfold Builtin.«set.__init__» noKeywords Builtin.Frozenset.updateFrom
        generalize hPI : pyIter = PI
        wp_walk
        subst hPI
        refine wpAny_pyIter_list hl1 ?_
        refine wpAny_bind (wpAny_runValue ?_)
        have hlS : l < s.heap.objs.size := Heap.lt_size hol
        have hh3 : A.in1.in1.in1.handled = none := by simp [hh]
        have hneI : l ≠ (s.heap.push (freshSet w)).objs.size := by
          rw [Heap.size_push]; exact Nat.ne_of_lt (Nat.lt_succ_of_lt hlS)
        have hSf : s.heap.objs.size ∉ [(s.heap.push (freshSet w)).objs.size, l] := by
          rw [Heap.size_push]; simp only [List.mem_cons, List.mem_singleton, List.not_mem_nil, or_false, not_or]
          exact ⟨Nat.ne_of_lt (Nat.lt_succ_self _), Nat.ne_of_gt hlS⟩
        have hval : ∀ (i : Nat) (v : Value), its[i]? = some v → ∃ p, ks[i]? = some p ∧ v = p.1 := fun i v hv => by
          have q : its.toList[i]? = some v := by rw [Array.getElem?_toList]; exact hv
          rw [hit, List.getElem?_map] at q
          cases hq : ks[i]? with
          | none => rw [hq] at q; cases q
          | some p =>
            rw [hq] at q
            exact ⟨p, rfl, (Option.some.inj q).symm⟩
        have none_of : ∀ b, s.heap.objs.size ≤ b → s.heap.get? b = none := fun b hb => Heap.get?_none_of_le hb
        refine upd_loop S ((Walks.list hh3 _ l hneI its).toS) s.heap.objs.size
          hSf ks isz hfew hval s.heap hk0 (none_of _ (Nat.le_refl _)) (fun b hb => none_of b (by
            rw [List.mem_singleton.mp hb, Heap.size_push]
            exact Nat.le_succ _)) (by show A.units + 1 + 1 + 1 + 8 < cLine; omega) (its.size - 0) 0 _ (by omega) (Nat.zero_le _)
          ⟨⟨_, Heap.get?_push_size _ rfl, rfl, rfl⟩, (hl1.push _)⟩ (fun b o e => Heap.get?_push_of_some _ (Heap.get?_push_of_some _ e)) ?hS0 ?hR
        case hS0 =>
          exact ⟨[], S.fresh _ _ (Heap.get?_push_of_some _ hS), Had.zero ks⟩
        case hR =>
          intro s' L hm hS' g' hkp
          obtain ⟨h', g2, d', tk', os'⟩ := s'
          have eg : g2 = s.gens := hm.gens
          have ed : d' = s.drawn := hm.drawn
          have eo : os' = s.os := hm.os
          subst eg; subst ed; subst eo
          show wpAny _ _ _ _ _ _
          refine wpAny_pure ?_
          show wpAny _ _ (ret Value.none) _ _ _
          rw [isz] at g'
          exact wpAny_pure ⟨rfl, h', tk', L, rfl, hS', g', hkp⟩
      · cases r₂ with
        | error e => exact hr₂
        | ok fl₂ =>
          cases fl₂ with
          | ret r =>
            obtain ⟨rfl, h', tk, L, rfl, hS', g', hk'⟩ := hr₂
            repeat (any_goals (first | assumption | wp_step))
            exact h _ _ _ hS' g' hk'
          | _ => exact hr₂.elim
    | _ => exact hr.elim
end
end Fw

set_option autoImplicit false
set_option linter.all false
set_option maxRecDepth 100000
set_option maxHeartbeats 4000000
/-! sorting data that are alike: tuples with an empty one too -/
namespace Fw
open PySem PySem.Spec PyProof.Rows L2 PySem.W PySem.SeqAt

section
variable {prog : Program} {w : World} {A : Around} {E : Value → Shared → Prop} {s : Shared}
theorem call_tuple_lt {Q : Value → Shared → Prop} {l b : Addr} {items items2 : Array Value} {e r : Nat → Bool} (hl : s.heap.IsTuple l items) (hb : s.heap.IsTuple b items2)
    (he : ∀ j (h1 : j < items.size) (h2 : j < items2.size), EqAt A.in1 s items[j] items2[j] (e j)) (hr : ∀ j (h1 : j < items.size) (h2 : j < items2.size), e j = false → RcLt A.in1 s items[j] items2[j] (r j))
    (h : Q (.bool (firstLt e r (decide (items.size < items2.size)) (List.range (min items.size items2.size)))) s) : wpAny (model prog w) A (call (.builtin "tuple.__lt__") [.ref l, .ref b]) Q E s := by
  obtain ⟨⟨cls, dd, data, sl⟩, ho, hc, n, hd⟩ := id hl
  obtain ⟨⟨cls2, dd2, data2, sl2⟩, ho2, hc2, n2, hd2⟩ := id hb
  simp only at hc hd hc2 hd2
  subst hc hd hc2 hd2
  exact call_meets F.slot_tuple_lt ⟨_, ho, rfl⟩ F.entry_tuple_lt (F.args_tuple_lt_2 _ _) (tuple_ltAt l b items items2 n n2 dd dd2 sl sl2 e r) ⟨ho, ho2, he, hr, h⟩
theorem oneLt_data {f : Bool} {da db : PyData} {a b : Value} {as bs : List Addr} {Q : Bool → Shared → Prop} (ra : Reads s.heap a da as) (rb : Reads s.heap b db bs) (h : alike da db = true) (hn : da ≠ .none)
    (hu : A.units + min da.depth db.depth < cLine) (hq : Q (dataLt da db) s) : wpAny (model prog w) A (oneLt' f a b) Q E s := by
  by_cases ht : f = true ∧ ∃ xs, da = .tuple xs
  · obtain ⟨rfl, xs, rfl⟩ := ht
    cases db with
    | tuple ys =>
      have hal : alikeAll xs ys = true := by simpa [alike] using h
      cases ra with
      | @tuple l o vs n _ as₁ h1 h2 h3 h4 =>
        cases rb with
        | @tuple l' o' vs' n' _ bs₁ k1 k2 k3 k4 =>
          have n1 : vs.size = xs.length := by simpa using ReadsAll.length _ _ _ h4
          have n2 : vs'.size = ys.length := by simpa using ReadsAll.length _ _ _ k4
          rw [dataLt_tuple, ← firstLt_toks xs ys hal, ← n1, ← n2] at hq
          rw [oneLt'_eq]
          simp only [if_true]
          refine wpAny_bind (wpAny_cRoomFor (room_here hu) ?_)
          refine wpAny_bind (wpAny_callSpecialIfBound?_slot (T := "tuple") ⟨_, h1, h2⟩ F.slot_tuple_lt (call_tuple_lt (e := pairEq xs ys) (r := fun j => dataLt (xs.getD j .none) (ys.getD j .none)) ⟨_, h1, h2, _, h3⟩ ⟨_, k1, k2, _, k3⟩ (fun j j1 j2 => ?_) (fun j j1 j2 hj => ?_) ?_))
          · have := eqAt_alikeAll xs ys A.in1 s vs.toList vs'.toList _ _ h4 k4 hal (room_in hu) j (by simpa using j1) (by simpa using j2)
            simpa using this
          · have := rcLt_alikeAll xs ys A.in1 s vs.toList vs'.toList _ _ h4 k4 hal (room_in hu) j (by simpa using j1) (by simpa using j2) hj
            simpa using this
          · exact wpAny_truthy_bool hq
    | _ => exact absurd h (by simp [alike])
  · exact oneLt_alike (fun hf xs e => ht ⟨hf, xs, e⟩) ra rb h hn hu hq

/-- the first items, where there is one -/
theorem firsts_of : ∀ (vs : List Value) (ds : List PyData) {Q : List (Option Value) → Shared → Prop}, EachIs (fun v d => ∃ as, Reads s.heap v d as) vs ds → (∀ d ∈ ds, ∃ xs, d = .tuple xs) →
    (∀ fs : List (Option Value), EachIs (fun f d => f.isSome = true ↔ d ≠ PyData.tuple []) fs ds → Q fs s) → wpAny (model prog w) A (vs.mapM firstOfTuple') Q E s
  | _, _, _, .nil, _, h => by rw [List.mapM_nil]; exact wpAny_pure (h [] .nil)
  | v :: vs, d :: ds, Q, .cons ⟨as, r⟩ t, ht, h => by
    obtain ⟨xs, rfl⟩ := ht d List.mem_cons_self
    cases r with
    | @tuple a o its n _ _ ho hc hd hr =>
      rw [List.mapM_cons]
      refine wpAny_bind ?_
      rw [kas_first_eq]
      refine wpAny_bind (Looks.here (show Looks (model prog w) s.heap (typeOf (.ref a)) o.cls from (Looks.ld ho).andThen .now) ?_)
      rw [hc, if_neg (by first | decide | simp)]
      refine wpAny_bind (listItems_at ho hd (wpAny_pure ?_))
      refine wpAny_bind (firsts_of vs ds (Q := fun bs s' => wpAny (model prog w) A (pure (its[0]? :: bs)) Q E s') t (fun d hd => ht d (List.mem_cons_of_mem _ hd)) fun fs hf => wpAny_pure (h _ (.cons ⟨fun hs e => ?_, fun hs => ?_⟩ hf)))
      · cases e
        have : its.toList.length = 0 := by rw [SeqAt.ReadsAll.length _ _ _ hr]; rfl
        have h0 : its.size = 0 := by simpa using this
        rw [Array.getElem?_eq_none (by omega)] at hs
        cases hs
      · have : its.toList.length = xs.length := SeqAt.ReadsAll.length _ _ _ hr
        have h0 : its.size = xs.length := by simpa using this
        cases xs with
        | nil => exact absurd rfl hs
        | cons x xs => rw [Array.getElem?_eq_getElem (by rw [h0]; exact Nat.succ_pos _)]; rfl

theorem EachIs.right' {α β : Type} {R : α → β → Prop} : ∀ {as : List α} {bs : List β}, EachIs R as bs → ∀ b ∈ bs, ∃ a ∈ as, R a b
  | _, _, .nil, b, h => absurd h (by simp)
  | _, _, .cons h t, b, hb => by
    rcases List.mem_cons.mp hb with rfl | hb
    · exact ⟨_, List.mem_cons_self, h⟩
    · obtain ⟨a, h1, h2⟩ := EachIs.right' t b hb
      exact ⟨a, List.mem_cons_of_mem _ h1, h2⟩
theorem not_all {fs : List (Option Value)} {ds : List PyData} (hf : EachIs (fun f d => f.isSome = true ↔ d ≠ PyData.tuple []) fs ds) (h0 : PyData.tuple [] ∈ ds) : ¬ (fs.toArray.all fun x => x.isSome) = true := fun z => by
  obtain ⟨f, h1, h2⟩ := EachIs.right' hf _ h0
  rw [List.all_toArray, List.all_eq_true] at z
  exact h2.mp (z f h1) rfl

theorem SortsAt.mixed {vs : List Value} {ds : List PyData} (e : EachIs (fun v d => ∃ as, Reads s.heap v d as) vs ds) (hal : AllAlike ds) (ht : ∀ d ∈ ds, ∃ xs, d = .tuple xs) (h0 : PyData.tuple [] ∈ ds) (hu : ∀ d, d ∈ ds → A.units + d.depth < cLine) : SortsAt prog w A s (dataKind s.heap ds) vs := by
  have room : ∀ {d d' : PyData}, d ∈ ds → A.units + min d.depth d'.depth < cLine := fun {d d'} hd => Nat.lt_of_le_of_lt (Nat.add_le_add_left (Nat.min_le_left _ _) _) (hu d hd)
  have nn : ∀ d ∈ ds, d ≠ .none := fun d hd z => by obtain ⟨xs, q⟩ := ht d hd; rw [z] at q; cases q
  refine ⟨fun v hv => ?_, ?_⟩
  · obtain ⟨d, hd, as, r⟩ := e.left v hv
    exact ⟨_, dataKind_some hal hd r⟩
  · have lt : ∀ kd : SortKind, (kd = general' ∨ kd = oneType') → PyProof.Rows.H.LtAt prog w A s (dataKind s.heap ds) kd := by
      intro kd hkd E x y a b Q ha hb hq
      obtain ⟨d, as, hd, ra, rfl⟩ := dataKind_inv ha
      obtain ⟨d', as', hd', rb, rfl⟩ := dataKind_inv hb
      rcases hkd with rfl | rfl
      · exact oneLt_data (f := false) ra rb (hal d hd d' hd') (nn d hd) (room hd) hq
      · exact oneLt_data (f := true) ra rb (hal d hd d' hd') (nn d hd) (room hd) hq
    by_cases c : ∃ x r ds', ds = .tuple (x :: r) :: ds'
    · obtain ⟨x, r, ds', rfl⟩ := c
      refine ⟨general', lt _ (.inl rfl), fun h2 E Q hq => ?_⟩
      rw [kat_kind_eq, List.mapM_toArray, map_eq_pure_bind]
      refine wpAny_bind (wpAny_bind (firsts_of vs _ e ht fun fs hf => wpAny_pure ?_))
      rw [if_neg (not_all hf h0)]
      cases hf with
      | @cons f _ fr _ h1 h2 =>
        have hs : f.isSome = true := h1.mpr (fun z => by cases z)
        have e0 : ((f :: fr).toArray[0]?.bind id) = f := by simp
        rw [e0, if_pos hs]
        exact wpAny_pure hq
    · refine ⟨oneType', lt _ (.inr rfl), fun h2 E Q hq => ?_⟩
      rw [kat_kind_eq, List.mapM_toArray, map_eq_pure_bind]
      refine wpAny_bind (wpAny_bind (firsts_of vs _ e ht fun fs hf => wpAny_pure ?_))
      rw [if_neg (not_all hf h0)]
      have e0 : ¬ (fs.toArray[0]?.bind id).isSome = true := fun z => by
        cases hf with
        | nil => simp at h0
        | @cons f d fr ds' h1 h2 =>
          have e1 : ((f :: fr).toArray[0]?.bind id) = f := by simp
          rw [e1] at z
          obtain ⟨xs, rfl⟩ := ht d List.mem_cons_self
          cases xs with
          | nil => exact h1.mp z rfl
          | cons x r => exact c ⟨x, r, ds', rfl⟩
      rw [if_neg e0]
      obtain ⟨v₁, v₂, rest, rfl⟩ : ∃ v₁ v₂ rest, vs = v₁ :: v₂ :: rest := by
        match vs, h2 with
        | [], h2 => simp at h2
        | [_], h2 => simp at h2
        | v₁ :: v₂ :: rest, _ => exact ⟨v₁, v₂, rest, rfl⟩
      rw [oneTypeOnly'_eq, List.mapM_toArray, map_eq_pure_bind]
      refine wpAny_bind (wpAny_bind (wpAny_bind (kas_mapM (r := Value.type "tuple") _ (fun v hv Q' hq => ?_) (wpAny_pure ?_))))
      · obtain ⟨d, hd, as, r⟩ := e.left v hv
        obtain ⟨xs, rfl⟩ := ht d hd
        exact (looks_reads (M := model prog w) r).here hq
      · have hall : ((List.map (fun _ => Value.type "tuple") (v₁ :: v₂ :: rest)).toArray.all fun x => x == Value.type "tuple") = true := by
          simp only [List.all_toArray, List.all_map, List.all_eq_true]
          intro _ _
          exact beq_self_eq_true _
        have h0 : (List.map (fun _ => Value.type "tuple") (v₁ :: v₂ :: rest)).toArray[0]? = some (Value.type "tuple") := by simp
        rw [h0]
        simp only [hall, if_true]
        exact wpAny_pure (wpAny_pure hq)
/-- what can be sorted: alike, no None -/
theorem SortsAt.all {vs : List Value} {ds : List PyData} (e : EachIs (fun v d => ∃ as, Reads s.heap v d as) vs ds) (hal : AllAlike ds) (hn : ∀ d ∈ ds, d ≠ .none) (hu : ∀ d, d ∈ ds → A.units + d.depth < cLine) : SortsAt prog w A s (dataKind s.heap ds) vs := by
  by_cases h0 : PyData.tuple [] ∈ ds
  · refine SortsAt.mixed e hal (fun d hd => ?_) h0 hu
    have q := hal _ h0 d hd
    cases d with
    | tuple xs => exact ⟨xs, rfl⟩
    | _ => exact absurd q (by simp [alike])
  · by_cases ht : ∃ x r, PyData.tuple (x :: r) ∈ ds
    · obtain ⟨x, r, hx⟩ := ht
      refine SortsAt.data e hal (.inl fun d hd => ?_) hu
      have q := hal _ hx d hd
      cases d with
      | tuple xs =>
        cases xs with
        | nil => exact absurd hd h0
        | cons y t => exact ⟨y, t, rfl⟩
      | _ => exact absurd q (by simp [alike])
    · refine SortsAt.data e hal (.inr fun d hd => ⟨hn d hd, fun xs z => ?_⟩) hu
      subst z
      cases xs with
      | nil => exact h0 hd
      | cons x r => exact ht ⟨x, r, hd⟩

/-! equal ranks are equal data -/
theorem lex_gt (a : List (Int ⊕ List Nat)) : PyProof.Rows.lexLt itemOrd a (a ++ [Sum.inl 0]) = true := by
  have q := lex_pre a [] [Sum.inl 0]
  rw [List.append_nil] at q
  rw [q]
  rfl
theorem toks_inj {x y : PyData} (h : alike x y = true) (e : keyToks x = keyToks y) : PyData.eqv x y = true := by
  cases q : PyData.eqv x y with
  | true => rfl
  | false =>
    have q2 := (toks_eqv x y h).2 q [] [Sum.inl 0]
    rw [List.append_nil, ← e] at q2
    rw [lex_gt, lex_irrefl (O := itemOrd)] at q2
    cases q2
mutual
theorem eqv_alike : ∀ (x y : PyData), alike x y = true → PyData.eqv x y = true → x = y
  | .none, y, h, _ => by cases y <;> first | rfl | exact absurd h (by simp [alike])
  | .bool a, y, h, e => by
    cases y with
    | bool b => have q : a = b := by simpa [PyData.eqv] using e
                rw [q]
    | _ => exact absurd h (by simp [alike])
  | .int a, y, h, e => by
    cases y with
    | int b => have q : a = b := by simpa [PyData.eqv] using e
               rw [q]
    | _ => exact absurd h (by simp [alike])
  | .str a, y, h, e => by
    cases y with
    | str b => have q : a = b := by simpa [PyData.eqv] using e
               rw [q]
    | _ => exact absurd h (by simp [alike])
  | .list xs, y, h, e => by
    cases y with
    | list ys => rw [eqvAll_alike xs ys (by simpa [alike] using h) (by simpa [PyData.eqv] using e)]
    | _ => exact absurd h (by simp [alike])
  | .tuple xs, y, h, e => by
    cases y with
    | tuple ys => rw [eqvAll_alike xs ys (by simpa [alike] using h) (by simpa [PyData.eqv] using e)]
    | _ => exact absurd h (by simp [alike])
  | .dict _, y, h, _ => absurd h (by cases y <;> simp [alike])
theorem eqvAll_alike : ∀ (xs ys : List PyData), alikeAll xs ys = true → PyData.eqvAll xs ys = true → xs = ys
  | [], [], _, _ => rfl
  | [], _ :: _, _, e => absurd e (by simp [PyData.eqvAll])
  | _ :: _, [], _, e => absurd e (by simp [PyData.eqvAll])
  | x :: xs, y :: ys, h, e => by
    rw [eqv_all_cons, Bool.and_eq_true] at e
    obtain ⟨h1, h2⟩ := alike_all_cons h
    rw [eqv_alike x y h1 e.1, eqvAll_alike xs ys h2 e.2]
end
theorem leq_antisymm {x y : PyData} (h : alike x y = true) (h1 : leq x y = true) (h2 : leq y x = true) : x = y := by
  refine eqv_alike _ _ h (toks_inj h (lex_total (O := itemOrd) _ _ ?_ ?_))
  · have q : (!dataLt y x) = true := h1
    have q2 : (!dataLt x y) = true := h2
    simpa [dataLt] using q2
  · have q : (!dataLt y x) = true := h1
    simpa [dataLt] using q
theorem leq_total : TotalLe leq := by
  have q := sortLe_total (listOrd itemOrd) false (fun d : PyData => (keyToks d : List (Int ⊕ List Nat)))
  exact q
theorem sortD_perm {ds es : List PyData} (h : ds.Perm es) (hal : AllAlike es) : sortD ds = sortD es := by
  unfold sortD
  have h1 := sort_pairwise leq_total ds
  have h2 := sort_pairwise leq_total es
  have p1 := (List.mergeSort_perm ds leq).trans (h.trans (List.mergeSort_perm es leq).symm)
  refine List.Perm.eq_of_pairwise (le := fun a b => leq a b = true) (fun a b ha hb q1 q2 => ?_) h1 h2 p1
  refine leq_antisymm (hal a ?_ b ?_) q1 q2
  · exact h.mem_iff.mp ((List.mergeSort_perm ds leq).mem_iff.mp ha)
  · exact (List.mergeSort_perm es leq).mem_iff.mp hb
end
end Fw

set_option autoImplicit false
set_option linter.all false
set_option maxRecDepth 100000
set_option maxHeartbeats 4000000
/-! sorted(xs), whatever xs gives -/
namespace Fw
open PySem PySem.Spec PyProof.Rows L2 PySem.W PySem.SeqAt

section
variable {prog : Program} {w : World} {A : Around} {E : Value → Shared → Prop} {s : Shared}
theorem sorted_core {v : Value} {Q : Value → Shared → Prop} {ds : List PyData} {R : Value → PyData → Prop}
    (hcol : ∀ (E' : Value → Shared → Prop) (Q' : List Value → Shared → Prop), (∀ s' vs es, (∀ b o, s.heap.get? b = some o → s'.heap.get? b = some o) → s'.gens = s.gens → s'.os = s.os →
      EachIs (fun v d => R v d ∧ ∃ as, Reads s.heap v d as) vs es → es.Perm ds → Q' vs s') → wpAny (model prog w) A.in1 (collect v) Q' E' s)
    (hal : AllAlike ds) (hn : ∀ d ∈ ds, d ≠ .none) (hL : ds.length ≤ sizeLine) (hu : ∀ d ∈ ds, A.units + 2 + d.depth < cLine)
    (h : ∀ (s1 s' : Shared) (p : Addr) (out : List Value) (c : Nat), (∀ b o, s.heap.get? b = some o → s1.heap.get? b = some o) → s1.gens = s.gens → s1.os = s.os → (∀ b o, s1.heap.get? b = some o → s'.heap.get? b = some o) → s'.gens = s1.gens → s'.os = s1.os → s1.heap.objs.size ≤ p → s'.heap.get? p = some (seqObj "list" (List.toArray out) c) → EachIs R out (sortD ds) → Q (.ref p) s') :
    wpAny (model prog w) A (call (.builtin "sorted") [v]) Q E s := by
  refine Calls.call_function_entry kind_sorted plain_sorted entry_sorted (args_sorted1 _) ?_
  unfold Builtin.«sorted»
  refine wpAny_bind (m := checkCount "sorted" 1 1 _) (wpAny_pure ?_)
  refine wpAny_bind (hcol _ _ fun s1 vs es k1 g1 o1 e pm => ?_)
  have hvl : vs.length = ds.length := e.length.trans pm.length_eq
  refine wpAny_bind (wpAny_newList ?_ (by rw [hvl]; exact hL))
  have hoL : (s1.heap.push (seqObj "list" vs.toArray 0)).get? s1.heap.objs.size = some (seqObj "list" vs.toArray 0) := Heap.get?_push_size _ rfl
  have k2 : ∀ b o, s.heap.get? b = some o → (sortingHeap (s1.heap.push (seqObj "list" vs.toArray 0)) s1.heap.objs.size vs).get? b = some o := fun b o q => by
    have q1 := k1 b o q
    exact sortingHeap_old (Nat.ne_of_lt (Heap.lt_size q1)) (Heap.get?_push_of_some _ q1)
  have er : EachIs (fun v d => ∃ as, Reads (sortingHeap (s1.heap.push (seqObj "list" vs.toArray 0)) s1.heap.objs.size vs) v d as) vs es := e.mono fun _ _ ⟨_, as, r⟩ => ⟨as, PyProof.Rows.Reads.keeps k2 r⟩
  have hal' : AllAlike es := fun d hd d' hd' => hal d (pm.mem_iff.mp hd) d' (pm.mem_iff.mp hd')
  have S : SortsAt prog w A.in1.in1 { s1 with heap := sortingHeap (s1.heap.push (seqObj "list" vs.toArray 0)) s1.heap.objs.size vs } (dataKind (sortingHeap (s1.heap.push (seqObj "list" vs.toArray 0)) s1.heap.objs.size vs) es) vs :=
    SortsAt.all (s := { s1 with heap := sortingHeap (s1.heap.push (seqObj "list" vs.toArray 0)) s1.heap.objs.size vs }) er hal' (fun d hd => hn d (pm.mem_iff.mp hd)) fun d hd => hu d (pm.mem_iff.mp hd)
  have fin : EachIs R (sortVals (dataKind (sortingHeap (s1.heap.push (seqObj "list" vs.toArray 0)) s1.heap.objs.size vs) es) false vs vs) (sortD ds) := by
    have q := sortVals_data (h' := sortingHeap (s1.heap.push (seqObj "list" vs.toArray 0)) s1.heap.objs.size vs) (R := R) (enc := id) false (e.mono fun _ _ q => q.1) er (by rw [List.map_id]; exact hal')
    rw [List.map_id] at q
    have e2 : es.mergeSort (dataLe false id) = sortD es := rfl
    rw [e2, sortD_perm pm hal] at q
    exact q
  refine wpAny_bind (wpAny_holding (wpAny_call_entry_kw slot_list_sort ⟨_, hoL, rfl⟩ entry_list_sort ?body (args_list_sort _)))
  case body =>
    show wpAny (model prog w) A.in1.in1 (Builtin.«list.sort» ⟨[.ref s1.heap.objs.size], []⟩) _ _ _
    refine list_sort_vals (s := { s1 with heap := s1.heap.push (seqObj "list" vs.toArray 0) }) hoL S (by rw [hvl]; exact hL) ⟨_, rfl, wpAny_pure ⟨_, rfl, ?_⟩⟩
    obtain ⟨c, hc⟩ := sortedHeap_at (vs := vs) (out := (sortVals (dataKind (sortingHeap (s1.heap.push (seqObj "list" vs.toArray 0)) s1.heap.objs.size vs) es) false vs vs).toArray) hoL
    refine h s1 _ s1.heap.objs.size _ c k1 g1 o1 (fun b u q => ?_) rfl rfl (Nat.le_refl _) hc fin
    have hlt := Heap.lt_size q
    show (sortedHeap (s1.heap.push (seqObj "list" vs.toArray 0)) s1.heap.objs.size vs _).get? b = some u
    rw [sortedHeap_old (Nat.ne_of_lt hlt) (by rw [size_push']; exact Nat.lt_succ_of_lt hlt)]
    exact Heap.get?_push_of_some _ q
end

section
variable {X : Cx} {pins : List (Addr × Obj)} {s : Shared} {σ : L2.St} {H : Hp}
/-- the values back -/
def vback : Value → V
  | .none => .non
  | .bool b => .bl b
  | .int i _ => .int i
  | .str x _ => .str x
  | .ref a => .ref a
  | _ => .non
theorem relv_vback {v : V} {u : Value} (r : RelV v u) (h : (∃ d K H, Rp K H d v)) : vback u = v := by
  obtain ⟨d, K, H, h⟩ := h
  cases h with
  | non => cases r; rfl
  | bl b => cases r; rfl
  | int i => obtain ⟨t, rfl⟩ := r; rfl
  | str x => obtain ⟨t, rfl⟩ := r; rfl
  | lst _ _ => cases r; rfl
  | tup _ _ => cases r; rfl
/-- u stands for d -/
def Rv (K : PySem.W.Frag) (H : Hp) (u : Value) (d : Dt) : Prop := ∃ v, RelV v u ∧ Rp K H d v
theorem rv_each {M : List Addr} (I : Inv X pins σ H s) : ∀ {ds : List Dt} {vs : List V} {us : List Value}, Rps X.K (cut M H) ds vs → Vals vs us → EachIs (fun u d => Rv X.K (cut M H) u d ∧ ∃ as, Reads s.heap u d as) us ds
  | _, _, _, .nil, .nil => .nil
  | _, _, _, .cons h r, .cons q t => .cons ⟨⟨_, q, h⟩, Dp.reads I _ _ _ h.full.dp q⟩ (rv_each I r t)
theorem rv_back {K : PySem.W.Frag} : ∀ {us : List Value} {ds : List Dt}, EachIs (Rv K H) us ds → ∃ vs, Vals vs us ∧ Rps K H ds vs
  | _, _, .nil => ⟨[], .nil, .nil⟩
  | _, _, .cons ⟨v, h1, h2⟩ t => by
    obtain ⟨vs, h3, h4⟩ := rv_back t
    exact ⟨v :: vs, .cons h1 h3, .cons h2 h4⟩
theorem okSort_all {ds : List Dt} (h : okSort ds = true) : AllAlike ds ∧ (∀ d ∈ ds, d ≠ .none) ∧ ∀ d ∈ ds, d.depth ≤ 100 := by
  unfold okSort at h
  rw [List.all_eq_true] at h
  refine ⟨fun d hd d' hd' => ?_, fun d hd z => ?_, fun d hd => ?_⟩
  · have q := h d hd
    rw [Bool.and_eq_true, List.all_eq_true] at q
    exact q.2 d' hd'
  · have q := h d hd
    subst z
    simp [noNone] at q
  · have q := h d hd
    rw [Bool.and_eq_true, Bool.and_eq_true, decide_eq_true_eq] at q
    exact q.1.1
/-- the end of sorted -/
theorem Inv.on {s' : Shared} (I : Inv X pins σ H s) (k : ∀ b o, s.heap.get? b = some o → s'.heap.get? b = some o) (g : s'.gens = s.gens) (o : s'.os = s.os) : Inv X pins σ H s' := by
  have e : s' = { s with heap := s'.heap, gens := s'.gens, drawn := s'.drawn, toks := s'.toks } := by
    cases s'
    cases s
    cases o
    rfl
  rw [e]
  exact I.call (ch := []) (Un.kept k) (I.hok.kept k) (by rw [g]; exact I.bare) (fun _ z => nomatch z)
theorem sorted_end {M : List Addr} {ds : List Dt} {Q : VK} {s' : Shared} {p : Addr} {out : List Value} {c : Nat} (I : Inv X pins σ H s) (hL : ds.length ≤ sizeLine) (hM : ∀ a ∈ M, H a ≠ none)
    (k : ∀ b o, s.heap.get? b = some o → s'.heap.get? b = some o) (g : s'.gens = s.gens) (o : s'.os = s.os) (hp : s.heap.objs.size ≤ p) (hg : s'.heap.get? p = some (seqObj "list" (List.toArray out) c))
    (e : EachIs (Rv X.K (cut M H)) out (sortD ds)) (q : ∀ v H', Same H H' → Rp X.K (cut M H') (.list (sortD ds)) v → Q v H') : EP X pins σ Q (.ref p) s' := by
  obtain ⟨vs, hv, hr⟩ := rv_back e
  have hlen : vs.length ≤ sizeLine := by
    rw [← hr.len]
    show (ds.mergeSort leq).length ≤ _
    rw [List.length_mergeSort]; exact hL
  have hn : H p = none := I.hok.fresh hp
  have J : Inv X pins σ (upd H p (.lst vs)) { s with heap := s'.heap, gens := s'.gens, drawn := s'.drawn, toks := s'.toks } :=
    I.call (ch := []) (Un.laid k hp hn) (I.hok.laid k hp ⟨hlen, out, c, hv, hg⟩) (by rw [g]; exact I.bare) (fun _ z => nomatch z)
  have e : s' = { s with heap := s'.heap, gens := s'.gens, drawn := s'.drawn, toks := s'.toks } := by
    cases s'
    cases s
    cases o
    rfl
  rw [e]
  exact ⟨.ref p, _, J, rfl, q _ _ (same_new hn) (Rp.newLst (T := tpOf X) hn (fun z => hM p z hn) hr)⟩

/-- a builtin on one argument, a place -/
def rU (T : Tp) (f : Pv → Option Dt) : List V → Hp → VK → Prop := fun xs H Q => ∃ M a x d, xs = [x] ∧ (∀ p ∈ M, H p ≠ none) ∧ PvR T M H a x ∧ f a = some d ∧ ∀ v H', Same H H' → Rp T.K (cut M H') d v → Q v H'
theorem sort_data {ds : List Dt} : (sortD ds).length = ds.length := List.length_mergeSort ..

theorem call_sortedD1 (hu : X.A.units + 200 < cLine) : CallR X (.builtin "sorted") (rU (tpOf X) fun a => match a with | .d (.list ds) => (if okSort ds = true then some (.list (sortD ds)) else none) | .d (.tuple ds) => (if okSort ds = true then some (.list (sortD ds)) else none) | _ => none) := by
  intro pins s σ H xs us Q I r h
  obtain ⟨M, a, x, d, rfl, hM, ha, hf, q⟩ := h
  obtain ⟨u, rfl, ru⟩ : ∃ u, us = [u] ∧ RelV x u := by cases r with | cons h t => cases t; exact ⟨_, rfl, h⟩
  cases a with
  | t _ => cases hf
  | d d0 =>
    cases d0 with
    | list ds =>
      simp only at hf
      split at hf
      · rename_i hz
        cases hf
        obtain ⟨h1, h2, h3⟩ := okSort_all hz
        obtain ⟨p, vs, rfl, e1, r1⟩ := ha.lst
        cases ru
        obtain ⟨us, rv, pl, hz⟩ := I.list (.inl (.inl e1))
        obtain ⟨o, ho, hc, n, hd⟩ := pl.isList
        refine sorted_core (ds := ds) (R := Rv X.K (cut M H)) (fun E' Q' hq => ?_) h1 h2 (by rw [r1.len]; exact hz) (fun d hd => by have := h3 d hd; omega) fun s1 s' p out c k1 g1 o1 k g o hp hg e => sorted_end (Inv.on I k1 g1 o1) (by rw [r1.len]; exact hz) hM k g o hp hg e q
        exact wpAny_collect_seq p (T := "list") (.inl rfl) ho hc hd (fun h' hk => hq _ _ ds (fun b o q => hk b o q) rfl rfl (by simpa using rv_each I r1 rv) (List.Perm.refl _)) (by rw [List.size_toArray, ← rv.length]; exact hz)
      · cases hf
    | tuple ds =>
      simp only at hf
      split at hf
      · rename_i hz
        cases hf
        obtain ⟨h1, h2, h3⟩ := okSort_all hz
        obtain ⟨p, vs, rfl, e1, r1⟩ := ha.tup
        cases ru
        obtain ⟨us, rv, pl, hz⟩ := I.tuple e1
        obtain ⟨o, ho, hc, n, hd⟩ := pl
        refine sorted_core (ds := ds) (R := Rv X.K (cut M H)) (fun E' Q' hq => ?_) h1 h2 (by rw [r1.len]; exact hz) (fun d hd => by have := h3 d hd; omega) fun s1 s' p out c k1 g1 o1 k g o hp hg e => sorted_end (Inv.on I k1 g1 o1) (by rw [r1.len]; exact hz) hM k g o hp hg e q
        exact wpAny_collect_seq p (T := "tuple") (.inr rfl) ho hc hd (fun h' hk => hq _ _ ds (fun b o q => hk b o q) rfl rfl (by simpa using rv_each I r1 rv) (List.Perm.refl _)) (by rw [List.size_toArray, ← rv.length]; exact hz)
      · cases hf
    | _ => cases hf
end
end Fw

set_option autoImplicit false
set_option linter.all false
set_option maxRecDepth 100000
set_option maxHeartbeats 4000000
/-! sorted(set(xs)) -/
namespace Fw
open PySem PySem.Spec PyProof.Rows L2 PySem.W PySem.SeqAt

/-- a set, its members in its order -/
def SetO (w : World) (a : Addr) (us : List Value) : HO := .ext fun h => ∃ es ep t, SetAt h a es ep t ∧ t.fits es.size = true ∧ es.size < scanBound ∧ Ris t.place.toList ∧ (w.params.followText "set-order" = true ∨ t.led = true) ∧ es.toList.map (·.2) = us
section
variable {X : Cx} {pins : List (Addr × Obj)} {s : Shared} {σ : L2.St} {H : Hp}
theorem setO_new {P : Program} {w : World} {h : Heap} {a : Addr} {us : List Value} {es : Array (Int × Value)} {ep : Nat} {t : SetTable} (h1 : SetAt h a es ep t) (h2 : t.fits es.size = true) (h3 : es.size < scanBound) (h4 : Ris t.place.toList)
    (h5 : w.params.followText "set-order" = true ∨ t.led = true) (h6 : es.toList.map (·.2) = us) : ObjOk P w H h a (SetO w a us) := by
  obtain ⟨o, ho, r⟩ := id h1
  refine ⟨⟨es, ep, t, h1, h2, h3, h4, h5, h6⟩, ⟨o, ho⟩, fun g1 g2 p k => ?_⟩
  obtain ⟨es', ep', t', ⟨o', ho', r'⟩, q⟩ := p
  exact ⟨es', ep', t', ⟨o', k o' ho', r'⟩, q⟩
theorem zip_rv {K : PySem.W.Frag} {H' : Hp} (I : Inv X pins σ H s) (e : Same H' H) : ∀ {ds : List Dt} {vs : List V} {us : List Value} {ks : List NestedKey}, Rps X.K H' ds vs → Vals vs us → keysD ds = some ks →
    (us.zip ks).map (·.1) = us ∧ (us.zip ks).map (·.2) = ks ∧ ∀ p ∈ us.zip ks, Rv X.K H' p.1 p.2.data ∧ NestedIs s.heap p.2 p.1
  | _, _, _, _, .nil, .nil, h => by cases h; exact ⟨rfl, rfl, fun p hp => by cases hp⟩
  | d :: ds, v :: vs, u :: us, _, .cons hd r, .cons q t, h => by
    rw [keysD, Option.bind_eq_some_iff] at h
    obtain ⟨k, h1, h⟩ := h
    rw [Option.map_eq_some_iff] at h
    obtain ⟨ks, h2, rfl⟩ := h
    obtain ⟨a1, a2, a3⟩ := zip_rv (K := K) I e r t h2
    refine ⟨by rw [List.zip_cons_cons, List.map_cons, a1], by rw [List.zip_cons_cons, List.map_cons, a2], fun p hp => ?_⟩
    rw [List.zip_cons_cons] at hp
    rcases List.mem_cons.mp hp with rfl | hp
    · exact ⟨⟨v, q, by rw [data_keyD _ _ h1]; exact hd⟩, nested_of I d k v u h1 (hd.up e) q⟩
    · exact a3 p hp

/-- set(xs) -/
def rSetD (T : Tp) : List V → Hp → VK → Prop := fun xs H Q => ∃ M ds ks x, xs = [x] ∧ PvR T M H (.d (.list ds)) x ∧ keysD ds = some ks ∧ kindly ks = true ∧ (dedup ks).length < 69 ∧
  ∀ a us es, H a = none → EachIs (Rv T.K (cut M H)) us es → es.Perm ((dedup ks).map NestedKey.data) → Q (.ref a) (upd H a (SetO T.w a us))
theorem had_perm {ks L : List VK'} (g : Had ks ks.length L) (nd : (L.map (·.2)).Nodup) : (L.map (·.2)).Perm (dedup (ks.map (·.2))) := by
  refine (List.perm_ext_iff_of_nodup nd (nodup_dedup _)).mpr fun k => ⟨fun h => ?_, fun h => ?_⟩
  · obtain ⟨p, hp, rfl⟩ := List.mem_map.mp h
    exact mem_dedup.mpr (List.mem_map.mpr ⟨p, List.mem_of_mem_take (g.sub p hp), rfl⟩)
  · obtain ⟨p, hp, rfl⟩ := List.mem_map.mp (mem_dedup.mp h)
    exact g.all p (by rw [List.take_length]; exact hp)
theorem call_setD (hc : X.calm = true) (hu : X.A.units + 200 < cLine) : CallR X (.type "set") (rSetD (tpOf X)) := by
  intro pins s σ H xs us Q I r h
  obtain ⟨M, ds, ks, x, rfl, hx, hk, hkd, hf, q⟩ := h
  obtain ⟨u, rfl, ru⟩ : ∃ u, us = [u] ∧ RelV x u := by cases r with | cons h t => cases t; exact ⟨_, rfl, h⟩
  obtain ⟨p, vs, rfl, e1, r1⟩ := hx.lst
  cases ru
  obtain ⟨us, rv, pl, hz⟩ := I.list (.inl (.inl e1))
  obtain ⟨a1, a2, a3⟩ := zip_rv (K := X.K) I cut_same r1 rv hk
  have fin : ∀ {Is : Heap → NestedKey → Value → Prop} {J : Heap → Addr → List VK' → Prop}, SetI X.prog X.w Is J → (∀ p ∈ us.zip ks, Is s.heap p.2 p.1) → wpAny (model X.prog X.w) X.A (call (.type "set") [.ref p]) (EP X pins σ Q) X.xe s := by
    intro Is J S hI
    refine call_set S (us.zip ks) (I.ok.hd hc) pl.isList (by rw [a1]) hI (by rw [a2]; exact hf) (by omega) fun h' tk L hL g k => ?_
    obtain ⟨nd, es, ep, t, h1, h2, h3, h4, h5, h6⟩ := S.out _ _ _ hL
    have hn : H s.heap.objs.size = none := I.hok.fresh (Nat.le_refl _)
    refine ⟨.ref s.heap.objs.size, upd H s.heap.objs.size (SetO X.w s.heap.objs.size (L.map (·.1))), I.laid (t' := tk) k (Nat.le_refl _) (setO_new h1 h2 h3 h4 h5 h6), rfl, q _ _ ((L.map (·.2)).map NestedKey.data) hn ?_ ?_⟩
    · have all : ∀ p ∈ L, Rv X.K (cut M H) p.1 p.2.data := fun p hp => (a3 p (List.mem_of_mem_take (g.sub p hp))).1
      clear g nd hL h6
      induction L with
      | nil => exact .nil
      | cons p L ih => exact .cons (all p List.mem_cons_self) (ih fun p hp => all p (List.mem_cons_of_mem _ hp))
    · have q := had_perm g nd
      rw [a2] at q
      exact q.map _
  unfold kindly at hkd
  rw [Bool.or_eq_true, List.all_eq_true, List.all_eq_true] at hkd
  rcases hkd with hkd | hkd
  · refine fin setI_tup fun p hp => ?_
    have m : p.2 ∈ ks := by rw [← a2]; exact List.mem_map.mpr ⟨p, hp, rfl⟩
    have q1 := hkd _ m
    have q2 := (a3 p hp).2
    obtain ⟨u, k⟩ := p
    cases k with
    | tup l =>
      cases q2 with
      | tup ho hc hd hr => exact ⟨_, rfl, .tup ho hc hd hr, of_decide_eq_true q1⟩
    | _ => cases q1
  · refine fin setI_flat fun p hp => ?_
    have m : p.2 ∈ ks := by rw [← a2]; exact List.mem_map.mpr ⟨p, hp, rfl⟩
    have q1 := hkd _ m
    obtain ⟨v, q2, q3⟩ := (a3 p hp).1
    obtain ⟨u, k⟩ := p
    cases k with
    | num i => cases q3; obtain ⟨t, rfl⟩ := q2; exact ⟨.inl ⟨_, _, rfl⟩, rfl⟩
    | text x => cases q3; obtain ⟨t, rfl⟩ := q2; exact ⟨.inr ⟨_, _, rfl⟩, rfl⟩
    | _ => cases q1
/-- sorted(a set) -/
def rSortSetD (T : Tp) : List V → Hp → VK → Prop := fun xs H Q => ∃ M a us es ds, xs = [.ref a] ∧ (∀ p ∈ M, H p ≠ none) ∧ H a = some (SetO T.w a us) ∧ EachIs (Rv T.K (cut M H)) us es ∧ es.Perm ds ∧ okSort ds = true ∧ ds.length ≤ sizeLine ∧
  ∀ v H', Same H H' → Rp T.K (cut M H') (.list (sortD ds)) v → Q v H'
theorem call_sortedSetD (hc : X.calm = true) (hu : X.A.units + 200 < cLine) : CallR X (.builtin "sorted") (rSortSetD (tpOf X)) := by
  intro pins s σ H xs us Q I r h
  obtain ⟨M, a, vs, es, ds, rfl, hM, ha, he, hp, hz, hl, q⟩ := h
  obtain ⟨u, rfl, ru⟩ : ∃ u, us = [u] ∧ RelV (.ref a) u := by cases r with | cons h t => cases t; exact ⟨_, rfl, h⟩
  cases ru
  obtain ⟨⟨ts, ep, t, g1, g2, g3, g4, g5, g6⟩, _, _⟩ := I.hok a _ ha
  obtain ⟨h1, h2, h3⟩ := okSort_all hz
  refine sorted_core (ds := ds) (R := Rv X.K (cut M H)) (fun E' Q' hq => ?_) h1 h2 hl (fun d hd => by have := h3 d hd; omega) fun s1 s' p out c k1 g1 o1 k g o hp hg e => sorted_end (Inv.on I k1 g1 o1) hl hM k g o hp hg e q
  refine collect_set (I.ok.hd hc) g1 g2 g3 g4 g5 fun s' out k _ gg oo pm => ?_
  rw [g6] at pm
  -- the same order on the data
  have e2 : EachIs (fun u d => Rv X.K (cut M H) u d ∧ ∃ as, Reads s.heap u d as) vs es := he.mono fun u d ⟨v, r1, r2⟩ => ⟨⟨v, r1, r2⟩, Dp.reads I _ _ _ r2.full.dp r1⟩
  obtain ⟨es', p1, p2⟩ : ∃ es', EachIs (fun u d => Rv X.K (cut M H) u d ∧ ∃ as, Reads s.heap u d as) out es' ∧ es'.Perm es := by
    have go : ∀ {a b : List Value}, a.Perm b → ∀ {es : List Dt}, EachIs (fun u d => Rv X.K (cut M H) u d ∧ ∃ as, Reads s.heap u d as) b es → ∃ es', EachIs (fun u d => Rv X.K (cut M H) u d ∧ ∃ as, Reads s.heap u d as) a es' ∧ es'.Perm es := by
      intro a b pm
      induction pm with
      | nil => intro es h; cases h; exact ⟨[], .nil, .refl _⟩
      | cons x _ ih =>
        intro es h
        cases h with
        | cons h t =>
          obtain ⟨es', i1, i2⟩ := ih t
          exact ⟨_, .cons h i1, i2.cons _⟩
      | swap x y l =>
        intro es h
        cases h with
        | cons h t =>
          cases t with
          | cons h2 t => exact ⟨_, .cons h2 (.cons h t), .swap _ _ _⟩
      | trans _ _ ih1 ih2 =>
        intro es h
        obtain ⟨e1, i1, i2⟩ := ih2 h
        obtain ⟨e2, j1, j2⟩ := ih1 i1
        exact ⟨e2, j1, j2.trans i2⟩
    exact go pm e2
  exact hq _ _ es' k gg oo p1 (p2.trans hp)
end
end Fw

set_option autoImplicit false
set_option linter.all false
set_option maxRecDepth 100000
set_option maxHeartbeats 4000000
/-! built-in functions of one argument -/
namespace Fw
open PySem PySem.Spec PyProof.Rows L2

section
variable {X : Cx}
def biV : Bi → Value
  | .len => .builtin "len" | .int => .type "int" | .list => .type "list" | .tuple => .type "tuple" | .sorted => .builtin "sorted" | .sset => .builtin "sorted" | .max => .builtin "max" | .min => .builtin "min"
  | .all => .builtin "all" | .any => .builtin "any" | .bool => .type "bool" | .str => .type "str"
theorem rU_never {f : Value} : CallR X f (rU (tpOf X) fun _ => none) := by
  intro pins s σ H xs us Q I r h
  obtain ⟨M, a, x, d, rfl, hM, ha, hf, q⟩ := h
  cases hf
theorem PvR.sq {M : List Addr} {H : Hp} {T : Tp} {ds : List Dt} {v : V} (h : PvR T M H (.d (.list ds)) v ∨ PvR T M H (.d (.tuple ds)) v) : ∃ a vs, v = .ref a ∧ (SqL T.K H a vs ∨ SqT T.K H a vs) ∧ Rps T.K (cut M H) ds vs := by
  rcases h with h | h
  · obtain ⟨p, vs, rfl, e1, r1⟩ := h.lst
    exact ⟨p, vs, rfl, .inl (.inl (.inl e1)), r1⟩
  · obtain ⟨p, vs, rfl, e1, r1⟩ := h.tup
    exact ⟨p, vs, rfl, .inr e1, r1⟩
theorem call_lenD : CallR X (.builtin "len") (rU (tpOf X) (biP .len)) := by
  refine CallR.up (CallR.or (call_len_seq (X := X)) (call_len_str (X := X))) fun xs H Q h => ?_
  obtain ⟨M, a, x, d, rfl, hM, ha, hf, q⟩ := h
  cases a with
  | t _ => cases hf
  | d d0 =>
    cases d0 with
    | list ds =>
      cases hf
      obtain ⟨p, vs, rfl, e, r⟩ := PvR.sq (.inl ha)
      exact .inl ⟨p, vs, rfl, e, q _ H (Same.refl H) (by rw [r.len]; exact .int _)⟩
    | tuple ds =>
      cases hf
      obtain ⟨p, vs, rfl, e, r⟩ := PvR.sq (.inr ha)
      exact .inl ⟨p, vs, rfl, e, q _ H (Same.refl H) (by rw [r.len]; exact .int _)⟩
    | str z =>
      simp only [biP] at hf
      split at hf
      · rename_i hz
        cases hf
        exact .inr ⟨z, by rw [ha.str], fits_le hz, q _ H (Same.refl H) (.int _)⟩
      · cases hf
    | _ => cases hf
theorem call_intD : CallR X (.type "int") (rU (tpOf X) (biP .int)) := by
  refine CallR.up (call_int1 (X := X)) fun xs H Q h => ?_
  obtain ⟨M, a, x, d, rfl, hM, ha, hf, q⟩ := h
  cases a with
  | t _ => cases hf
  | d d0 =>
    cases d0 with
    | int i => cases hf; exact .inl ⟨i, by rw [ha.int], q _ H (Same.refl H) (.int _)⟩
    | bool b => cases hf; exact .inr ⟨b, by rw [ha.bl], q _ H (Same.refl H) (.int _)⟩
    | _ => cases hf
theorem call_boolD : CallR X (.type "bool") (rU (tpOf X) (biP .bool)) := by
  refine CallR.up (call_bool1 (X := X)) fun xs H Q h => ?_
  obtain ⟨M, a, x, d, rfl, hM, ha, hf, q⟩ := h
  cases a with
  | t _ => cases hf
  | d d0 =>
    cases d0 with
    | bool b => cases hf; exact .inr ⟨b, by rw [ha.bl], q _ H (Same.refl H) (.bl _)⟩
    | _ => cases hf
theorem call_strD : CallR X (.type "str") (rU (tpOf X) (biP .str)) := by
  refine CallR.up (call_str_int (X := X)) fun xs H Q h => ?_
  obtain ⟨M, a, x, d, rfl, hM, ha, hf, q⟩ := h
  cases a with
  | t _ => cases hf
  | d d0 =>
    cases d0 with
    | int i =>
      simp only [biP] at hf
      split at hf
      · rename_i hz
        cases hf; exact ⟨i, by rw [ha.int], hz, q _ H (Same.refl H) (.str _)⟩
      · cases hf
    | _ => cases hf
theorem call_listD : CallR X (.type "list") (rU (tpOf X) (biP .list)) := by
  refine CallR.up (call_list_of (X := X)) fun xs H Q h => ?_
  obtain ⟨M, a, x, d, rfl, hM, ha, hf, q⟩ := h
  cases a with
  | t _ => cases hf
  | d d0 =>
    cases d0 with
    | list ds =>
      cases hf
      obtain ⟨p, vs, rfl, e, r⟩ := PvR.sq (.inl ha)
      exact ⟨p, vs, rfl, e, fun l hl => q _ _ (same_new hl) (Rp.newLst (T := tpOf X) hl (fun z => hM l z hl) r)⟩
    | tuple ds =>
      cases hf
      obtain ⟨p, vs, rfl, e, r⟩ := PvR.sq (.inr ha)
      exact ⟨p, vs, rfl, e, fun l hl => q _ _ (same_new hl) (Rp.newLst (T := tpOf X) hl (fun z => hM l z hl) r)⟩
    | _ => cases hf
theorem call_tupleD : CallR X (.type "tuple") (rU (tpOf X) (biP .tuple)) := by
  refine CallR.up (call_tuple_of (X := X)) fun xs H Q h => ?_
  obtain ⟨M, a, x, d, rfl, hM, ha, hf, q⟩ := h
  cases a with
  | t _ => cases hf
  | d d0 =>
    cases d0 with
    | list ds =>
      cases hf
      obtain ⟨p, vs, rfl, e1, r1⟩ := ha.lst
      exact ⟨p, vs, rfl, .inl ⟨.inl (.inl e1), fun l hl => q _ _ (same_new hl) (Rp.newTup (T := tpOf X) hl (fun z => hM l z hl) r1)⟩⟩
    | tuple ds =>
      cases hf
      rcases ha with ha | ⟨_, _, _, z, _⟩
      · cases ha with
        | tup e r => exact ⟨_, _, rfl, .inr ⟨sqt_up cut_same e, q _ H (Same.refl H) (.tup e r)⟩⟩
      · cases z
    | _ => cases hf
theorem bools_of {K : PySem.W.Frag} {H : Hp} : ∀ {ds : List Dt} {bs : List Bool} {vs : List V}, allB ds = some bs → Rps K H ds vs → vs = bs.map V.bl
  | [], _, _, h, r => by cases h; cases r; rfl
  | .bool b :: ds, _, _, h, r => by
    rw [allB, Option.map_eq_some_iff] at h
    obtain ⟨bs, h1, rfl⟩ := h
    cases r with
    | cons h2 r2 => cases h2; rw [bools_of h1 r2]; rfl
  | .none :: ds, _, _, h, r => by cases h
  | .int _ :: ds, _, _, h, r => by cases h
  | .str _ :: ds, _, _, h, r => by cases h
  | .list _ :: ds, _, _, h, r => by cases h
  | .tuple _ :: ds, _, _, h, r => by cases h
  | .dict _ :: ds, _, _, h, r => by cases h
theorem call_allD (hc : X.calm = true) : CallR X (.builtin "all") (rU (tpOf X) (biP .all)) := by
  refine CallR.up (cr_all (X := X) hc) fun xs H Q h => ?_
  obtain ⟨M, a, x, d, rfl, hM, ha, hf, q⟩ := h
  cases a with
  | t _ => cases hf
  | d d0 =>
    cases d0 with
    | list ds =>
      simp only [biP, Option.map_eq_some_iff] at hf
      obtain ⟨bs, h1, rfl⟩ := hf
      obtain ⟨p, vs, rfl, e1, r1⟩ := ha.lst
      exact ⟨p, bs, rfl, by rw [← bools_of h1 r1]; exact .inl (.inl e1), q _ H (Same.refl H) (.bl _)⟩
    | _ => cases hf
theorem call_anyD (hc : X.calm = true) : CallR X (.builtin "any") (rU (tpOf X) (biP .any)) := by
  refine CallR.up (cr_any (X := X) hc) fun xs H Q h => ?_
  obtain ⟨M, a, x, d, rfl, hM, ha, hf, q⟩ := h
  cases a with
  | t _ => cases hf
  | d d0 =>
    cases d0 with
    | list ds =>
      simp only [biP, Option.map_eq_some_iff] at hf
      obtain ⟨bs, h1, rfl⟩ := hf
      obtain ⟨p, vs, rfl, e1, r1⟩ := ha.lst
      exact ⟨p, bs, rfl, by rw [← bools_of h1 r1]; exact .inl (.inl e1), q _ H (Same.refl H) (.bl _)⟩
    | _ => cases hf
/-- isinstance -/
def tyN : Ty → String
  | .int => "int" | .bool => "bool" | .str => "str" | .list => "list" | .tuple => "tuple"
theorem kit_rp {pins : List (Addr × Obj)} {σ : L2.St} {H : Hp} {s : Shared} {d : Dt} {x : V} {u : Value} (I : Inv X pins σ H s) (rx : RelV x u) (r : Rp X.K H d x) :
    ∃ P : Heap → Prop, PySem.W.KitX X.K u (PySem.W.dataType d) P ∧ P s.heap ∧ u ≠ .builtin "__main__.__loader__#opaque" := by
  cases r with
  | non => cases (show u = Value.none from rx); exact ⟨_, PySem.W.kitx_none, True.intro, fun z => nomatch z⟩
  | bl y => cases (show u = Value.bool y from rx); exact ⟨_, PySem.W.kitx_bool, True.intro, fun z => nomatch z⟩
  | int i => obtain ⟨t, q⟩ := (show ∃ t, u = Value.int i t from rx); cases q; exact ⟨_, PySem.W.kitx_int, True.intro, fun z => nomatch z⟩
  | str y => obtain ⟨t, q⟩ := (show ∃ t, u = Value.str y t from rx); cases q; exact ⟨_, PySem.W.kitx_str, True.intro, fun z => nomatch z⟩
  | lst e _ =>
    cases rx
    obtain ⟨its, rv, pl, hz⟩ := I.list (.inl (.inl e))
    obtain ⟨o, ho, hc, _⟩ := pl.isList
    exact ⟨_, PySem.W.kitx_list, ⟨_, ho, hc⟩, fun z => nomatch z⟩
  | tup e _ =>
    cases rx
    obtain ⟨its, rv, ⟨o, ho, hc, _⟩, hz⟩ := I.tuple e
    exact ⟨_, PySem.W.kitx_tuple, ⟨_, ho, hc⟩, fun z => nomatch z⟩
theorem kit_one {K : PySem.W.Frag} {d : Dt} (h : d.plain = true) (t : Ty) : PySem.W.kitOne K (PySem.W.dataType d) (.type (tyN t)) = some (isTy d t) := by
  cases d <;> first | (cases t <;> rfl) | cases h
theorem kit_any {K : PySem.W.Frag} {d : Dt} (h : d.plain = true) : ∀ ts : List Ty, PySem.W.kitAny K (PySem.W.dataType d) (ts.map fun t => Value.type (tyN t)) = some (ts.any fun t => isTy d t)
  | [] => rfl
  | t :: ts => by
    rw [List.map_cons, PySem.W.kitAny, kit_one h, List.any_cons]
    cases isTy d t with
    | true => rfl
    | false => exact kit_any h ts
/-- isinstance(x, T) -/
theorem call_isi1 (t : Ty) : CallR X (.builtin "isinstance") (fun xs H Q => ∃ x d, xs = [x, .ty (tyN t)] ∧ Rp X.K H d x ∧ Q (.bl (isTy d t)) H) := by
  intro pins s σ H xs us Q I r h
  obtain ⟨x, d, rfl, hx, q⟩ := h
  obtain ⟨u1, u2, rfl, r1, r2⟩ := vals2 r
  cases r2
  obtain ⟨P, Z, p, hn⟩ := kit_rp I r1 hx
  exact PySem.W.kia_one Z I.kIn p (kit_one hx.plain t) hn fun tk => ⟨.bl _, H, I.tok tk, rfl, q⟩
theorem types_of : ∀ (ts : List Ty) {its : List Value}, Vals (ts.map fun t => V.ty (tyN t)) its → its = ts.map fun t => Value.type (tyN t)
  | [], _, .nil => rfl
  | t :: ts, _, .cons a b => by cases a; rw [types_of ts b]; rfl
/-- isinstance(x, (T, ..)) -/
theorem call_isiN (ts : List Ty) : CallR X (.builtin "isinstance") (fun xs H Q => ∃ x tp d, xs = [x, .ref tp] ∧ H tp = some (.tup (ts.map fun t => V.ty (tyN t))) ∧ Rp X.K H d x ∧ Q (.bl (ts.any fun t => isTy d t)) H) := by
  intro pins s σ H xs us Q I r h
  obtain ⟨x, tp, d, rfl, hT, hx, q⟩ := h
  obtain ⟨u1, u2, rfl, r1, r2⟩ := vals2 r
  cases (show u2 = Value.ref tp from r2)
  obtain ⟨P, Z, p, hn⟩ := kit_rp I r1 hx
  obtain ⟨_, its, rv, o, h1, h2, n, h3⟩ := (show ObjOk X.prog X.w H s.heap tp (.tup _) from I.hok tp _ hT)
  have e3 : its = ts.map fun t => Value.type (tyN t) := types_of ts rv
  subst e3
  obtain ⟨oc, od, dt, sl⟩ := o
  simp only at h2 h3
  subst h2 h3
  exact PySem.W.kia_tup Z I.kIn p h1 (kit_any hx.plain ts) hn fun tk => ⟨.bl _, H, I.tok tk, rfl, q⟩
/-- max, min of two -/
theorem call_bi2 (hc : X.calm = true) (f : Bi2) : CallR X (.builtin (match f with | .max => "max" | .min => "min")) (fun xs H Q => ∃ M a b x y d, xs = [x, y] ∧ Rp X.K (cut M H) a x ∧ Rp X.K (cut M H) b y ∧ bi2D f a b = some d ∧ ∀ v, Rp X.K (cut M H) d v → Q v H) := by
  cases f with
  | max =>
    refine CallR.up (call_max2 (X := X) hc) fun xs H Q h => ?_
    obtain ⟨M, a, b, x, y, d, rfl, ha, hb, hf, q⟩ := h
    cases a <;> cases b <;> first | (cases hf; cases ha; cases hb; exact ⟨_, _, rfl, q _ (.int _)⟩) | cases hf
  | min =>
    refine CallR.up (call_min2 (X := X) hc) fun xs H Q h => ?_
    obtain ⟨M, a, b, x, y, d, rfl, ha, hb, hf, q⟩ := h
    cases a <;> cases b <;> first | (cases hf; cases ha; cases hb; exact ⟨_, _, rfl, q _ (.int _)⟩) | cases hf
end
end Fw

set_option autoImplicit false
set_option linter.all false
set_option maxRecDepth 100000
set_option maxHeartbeats 4000000
/-! enumerate(a tuple) -/
namespace Fw
open PySem PySem.Spec PyProof.Rows L2

theorem meets_enum1 {v : Value} {o : Obj} {Hh : Heap → Prop} (B : Begins v o Hh) :
    Meets (Builtin.«enumerate.__new__» ⟨[.type "enumerate", v], []⟩) (fun _ R s => Hh s.heap ∧
      R (.ok (.ret (.ref (s.heap.push o).objs.size))) { s with heap := (s.heap.push o).push { cls := .type "enumerate", data := .fields #[.none, .bool false, .ref s.heap.objs.size, rawInt 0, .none, .none] } }) :=
  .of_wp fun prog w A R s h => by
    obtain ⟨hp, g, d, tk, os⟩ := s; obtain ⟨h1, h⟩ := h
    have hsub := sub_enumerate
    have q1 : ∀ {A' : Around} {E : Value → Shared → Prop} {Q : Value → Shared → Prop}, Q (.ref hp.objs.size) ⟨hp.push o, g, d, tk, os⟩ → wpAny (model prog w) A' (pyIter v) Q E ⟨hp, g, d, tk, os⟩ :=
      fun q => B.iter prog w _ _ ⟨hp, g, d, tk, os⟩ _ h1 q
    wp_walk using q1
    refine wpAny_stack_any fun st => wpAny_pure ?_
    split
    · rename_i c _ _ _ _ _
      cases (c == Value.type "enumerate")
      · wp_walk using q1
        exact ⟨_, rfl, h⟩
      · wp_walk using q1
        exact ⟨_, rfl, h⟩
    · wp_walk using q1
      exact ⟨_, rfl, h⟩
theorem call_enum1 {prog : Program} {w : World} {A : Around} {E : Value → Shared → Prop} {s : Shared} {v : Value} {o : Obj} {Hh : Heap → Prop} {Q : Value → Shared → Prop} (B : Begins v o Hh) (h1 : Hh s.heap)
    (h : ∀ h', IsEnum h' (s.heap.objs.size + 1) s.heap.objs.size 0 .none → h'.get? s.heap.objs.size = some o → h'.objs.size = s.heap.objs.size + 2 →
      (∀ b o, s.heap.get? b = some o → h'.get? b = some o) → Q (.ref (s.heap.objs.size + 1)) { s with heap := h' }) :
    wpAny (model prog w) A (call (.type "enumerate") [v]) Q E s := by
  refine callType_new F.called_enumerate (by decide) (F.typeCall_enumerate_1 _) (F.newCall_enumerate_1 _) (fun obj => F.args_object_init_2 obj _) F.entry_enumerate_new
    (meets_enum1 B) ⟨h1, ?_⟩
  have hz : (s.heap.push o).objs.size = s.heap.objs.size + 1 := Heap.size_push ..
  show _ ∧ _
  rw [hz]
  have he : IsEnum ((s.heap.push o).push { cls := .type "enumerate", data := .fields #[.none, .bool false, .ref s.heap.objs.size, rawInt 0, .none, .none] }) (s.heap.objs.size + 1) s.heap.objs.size 0 .none := by
    have := Heap.get?_push_size (s.heap.push o) (o := { cls := .type "enumerate", data := .fields #[.none, .bool false, .ref s.heap.objs.size, rawInt 0, .none, .none] }) rfl
    rw [hz] at this; exact this
  refine ⟨⟨_, he, rfl⟩, h _ he (Heap.get?_push_of_some _ (Heap.get?_push_size _ B.free)) (by rw [Heap.size_push, hz]) fun b o x => Heap.get?_push_of_some _ (Heap.get?_push_of_some _ x)⟩
/-- the tuple at a, each item in a new pair -/
def IteT (K : PySem.W.Frag) (a : Addr) : L2.It :=
  ⟨fun i H => ∃ (xs : List V) (x : V), SqT K H a xs ∧ xs[i]? = some x, fun i H v H' => ∃ T x, v = .ref T ∧ H T = none ∧ H' = upd H T (.tup [.int (i : Nat), x]) ∧ ∀ xs, SqT K H a xs → xs[i]? = some x, fun i H => ∃ xs : List V, SqT K H a xs ∧ xs.length = i⟩
theorem turn_enumT {P : Program} {w : World} {K : PySem.W.Frag} {elts : List Expr} {kk : Nat} {tpos : Pos} (a e it : Addr) :
    Turn P w K (.Tuple elts kk tpos) (IteT K a) [e, it] e (fun i h => (∃ old, IsEnum h e it ((i : Nat) : Int) old) ∧ h.IsTupleIter it a i ∧ e ≠ it) where
  mem := by simp
  obj := fun i h st b hb => by
    obtain ⟨⟨old, he⟩, ⟨o, ho, hc, hd⟩, _⟩ := st
    have e' : b = e ∨ b = it := by simpa using hb
    rcases e' with z | z
    · rw [z]; exact ⟨_, he, fun v q => nomatch q⟩
    · rw [z]; exact ⟨o, ho, fun v q => by rw [hd] at q; cases q⟩
  keep := fun i h h' st k => let ⟨⟨old, he⟩, hi, hne⟩ := st; ⟨⟨old, k e (by simp) _ he⟩, hi.at fun o q => k it (by simp) o q, hne⟩
  item := by
    intro X hP hw hK hc i pins s σ H E I hf st hg
    subst hP hw hK
    obtain ⟨⟨old, he⟩, hit, hne⟩ := st
    obtain ⟨xs, x, hq, hx⟩ := hg
    obtain ⟨its, rv, p, hz⟩ := I.tuple hq
    obtain ⟨u, hu, ru⟩ := rv.get hx
    have hel : e < s.heap.objs.size := Heap.lt_size he
    have hil : it < s.heap.objs.size := by obtain ⟨_, q, _⟩ := hit; exact Heap.lt_size q
    have hai : a ≠ it := fun z => by
      obtain ⟨o1, q1, _, d1⟩ := hit
      obtain ⟨o2, q2, c2, n2, d2⟩ := p
      rw [z, q1] at q2; cases q2
      rw [d1] at d2; cases d2
    have D := Draws.tuple (prog := X.prog) (w := X.w) (A := X.A.in1) (I.ok.hd hc) it a hai its.toArray
    have hlt : i < its.toArray.size := by
      rw [List.size_toArray]
      exact (List.getElem?_eq_some_iff.mp hu).1
    refine wpAny_pyNext_enum_itemD D he ⟨hit, p⟩ hlt hne (by simp only [List.mem_cons, List.not_mem_nil, or_false, not_or]; exact ⟨hne, fun z => by
      obtain ⟨o2, q2, c2, n2, d2⟩ := p
      rw [← z] at q2
      rw [he] at q2; cases q2
      cases d2⟩) fun x' h' tk hPx ho hit' hT hsz hk => ?_
    have ex : x' = u := by
      have q : its.toArray[i]? = some x' := hPx
      have q2 : its.toArray[i]? = some u := by simpa using hu
      rw [q2] at q; exact (Option.some.inj q).symm
    subst ex
    refine ⟨_, rfl, wpAny_letOwnedTupleGo_enum (s := { s with heap := h', toks := tk + 1 }) ho fun h'' he' sb => ?_⟩
    have hT2 : h''.get? s.heap.objs.size = some { cls := .type "tuple", data := .seq #[.int i tk, x'] } := (sb.2 _ (Nat.ne_of_gt hel)).trans hT
    have new : ObjOk X.prog X.w (upd H s.heap.objs.size (.tup [.int (i : Nat), x])) h'' s.heap.objs.size (.tup [.int (i : Nat), x]) :=
      ⟨by show 2 ≤ sizeLine; decide, [.int i tk, x'], .cons ⟨_, rfl⟩ (.cons ru .nil), ⟨_, hT2, rfl, _, rfl⟩⟩
    have I1 : Inv X pins σ (upd H s.heap.objs.size (.tup [.int (i : Nat), x])) { s with heap := h'', toks := tk + 1 } :=
      I.turnedNew (ch := [e, it]) (fun b ob hb q => (sb.2 b (fun z => hb (by simp [z]))).trans (hk b ob (fun z => hb (by simp [z])) (fun z => hb (by simp [z])) q)) hf (Nat.le_refl _) new
    refine ⟨.ref s.heap.objs.size, _, I1, rfl, ⟨_, x, rfl, I.hok.fresh (Nat.le_refl _), rfl, fun ys hy => by rw [I.tuple_inj hy hq]; exact hx⟩, ⟨⟨x', ?_⟩, hit'.1.at fun o q => (sb.2 it (Ne.symm hne)).trans q, hne⟩, fun b hb => ?_⟩
    · have e1 : ((i + 1 : Nat) : Int) = (i : Int) + 1 := by omega
      rw [e1]; exact he'
    · have hb' : b < s.heap.objs.size := by
        have e' : b = e ∨ b = it := by simpa using hb
        rcases e' with z | z
        · rw [z]; exact hel
        · rw [z]; exact hil
      rw [upd_ne (Nat.ne_of_lt hb')]
      exact (hf b hb).1
  done := by
    intro X hP hw hK hc i pins s σ H E I hf st hg
    subst hP hw hK
    obtain ⟨⟨old, he⟩, hit, hne⟩ := st
    obtain ⟨xs, hq, hx⟩ := hg
    obtain ⟨its, rv, p, hz⟩ := I.tuple hq
    obtain ⟨f0, f1, f2, f3, f4, f5⟩ := hf it (by simp)
    have hl := rv.length
    have hai : a ≠ it := fun z => by
      obtain ⟨o1, q1, _, d1⟩ := hit
      obtain ⟨o2, q2, c2, n2, d2⟩ := p
      rw [z, q1] at q2; cases q2
      rw [d1] at d2; cases d2
    have hi : i = its.toArray.size := by rw [List.size_toArray, ← hl]; exact hx.symm
    subst hi
    exact wpAny_pyNext_enum_endD (Draws.tuple (prog := X.prog) (w := X.w) (A := X.A.in1) (I.ok.hd hc) it a hai its.toArray) he ⟨hit, p⟩ fun h' eb => ⟨rfl, I.turned (t' := s.toks) (fun b o hb q => eb b o hb q) f0 f1 f3 f4 f5⟩
  self := fun A i s Q E st h => let ⟨⟨_, he⟩, _⟩ := st; wpAny_pyIter_enum he h
def iEnumT (K : PySem.W.Frag) (ta : TA) : TI := fun σ H R => ta σ H fun vs H1 => ∃ a xs, vs = [.ref a] ∧ SqT K H1 a xs ∧ R (IteT K a) H1
theorem pi_enumT {X : Cx} {e : Expr} {ta : TA} {p pos tpos : Pos} {elts : List Expr} {kk : Nat} (hg : Gl X "enumerate") (hm : X.mg "enumerate" = none) (ha : PA X [e] ta) (hs : starEach [e] X.env = [(false, eval e X.env)] := by rfl) :
    PI X (.Tuple elts kk tpos) (.Call (.Name "enumerate" p) [e] [] pos) (iEnumT X.K ta) := by
  refine ⟨fun pins s σ H R I h => ?_⟩
  refine Call_ (ld_blt I hg hm boot_enumerate (PyProof.Rows.callWith_type1 (thn (ha.run pos pins s σ H _ I h) fun us s1 ⟨vs, H1, I1, r1, q1⟩ => ?_) hs rfl))
  obtain ⟨a, xs, ex, hq, q⟩ := q1
  subst ex
  cases r1 with
  | cons r rr =>
    cases rr
    cases r
    obtain ⟨its, rv, p', hz⟩ := I1.tuple hq
    refine call_enum1 (begins_tuple a its.toArray) p' fun h' he hit hsz hk => wpAny_pyIter_enum he ?_
    have I2 : Inv X pins σ H1 { s1 with heap := h' } := I1.kept (t' := s1.toks) hk
    refine ⟨s1.heap.objs.size + 1, [s1.heap.objs.size + 1, s1.heap.objs.size], _, _, H1, rfl, I2, turn_enumT a (s1.heap.objs.size + 1) s1.heap.objs.size, ⟨⟨.none, he⟩, ⟨_, hit, rfl, rfl⟩, Nat.succ_ne_self _⟩, fun b hb => ?_, q⟩
    have e' : b = s1.heap.objs.size + 1 ∨ b = s1.heap.objs.size := by simpa using hb
    have hle : s1.heap.objs.size ≤ b := by
      rcases e' with z | z
      · rw [z]; exact Nat.le_add_right _ _
      · rw [z]; exact Nat.le_refl _
    exact I1.fpOk hle (I1.hok.fresh hle)
theorem walk_enumT {K : PySem.W.Frag} {a : Addr} {xs : List V} : Walk (IteT K a) xs.length (fun H => SqT K H a xs) (YPair (fun i => some (.int (i : Nat))) (fun i => xs[i]?)) := by
  refine ⟨fun i _ hi q => ⟨xs, xs[i], q, by simp [hi]⟩, fun _ q => ⟨xs, q, rfl⟩, fun i H v H' _ q y => ?_⟩
  obtain ⟨T, x, h1, h2, h3, h4⟩ := y
  exact ⟨T, .int (i : Nat), x, h1, h2, h3, rfl, h4 xs q⟩
theorem PI.or {X : Cx} {tg e : Expr} {t u : TI} (h : PI X tg e t) (k : PI X tg e u) : PI X tg e (fun σ H R => t σ H R ∨ u σ H R) :=
  ⟨fun pins s σ H R I q => q.elim (h.run pins s σ H R I) (k.run pins s σ H R I)⟩
end Fw

set_option autoImplicit false
set_option linter.all false
set_option maxRecDepth 100000
set_option maxHeartbeats 4000000
/-! x[::-1] of a list or a tuple -/
namespace Fw
open PySem PySem.Spec PyProof.Rows L2

section
variable {prog : Program} {w : World} {A : Around} {E : Value → Shared → Prop} {s : Shared}
theorem adjust_rev (n : Nat) : Builtin.Slice.sliceAdjust none none (-1) (n : Int) = ((n : Int) - 1, -1) := by
  unfold Builtin.Slice.sliceAdjust
  have h1 : ((-1 : Int) < 0) := by omega
  simp only [h1, if_true]
theorem places_rev (n : Nat) : Builtin.Slice.slicePlaces ((n : Int) - 1) (-1) (-1) = n := by
  unfold Builtin.Slice.slicePlaces
  have h1 : ¬ ((-1 : Int) > 0) := by omega
  simp only [h1, if_false]
  split
  · have : (((n : Int) - 1 - -1 - 1) / - -1) = (n : Int) - 1 := by rw [show (- -1 : Int) = 1 by decide, Int.ediv_one]; omega
    omega
  · omega
theorem sliceApplied_rev {sl : Addr} {vs : Value} {n : Nat} {Q : Int × Int × Nat → Shared → Prop} (hs : s.heap.IsSliceOf sl .none .none vs) (ps : IsPart vs (some (-1)))
    (h : Q ((n : Int) - 1, -1, n) s) : wpAny (model prog w) A (Builtin.Slice.sliceApplied (.ref sl) (pure (n : Int))) Q E s := by
  obtain ⟨os, hos, hcs, hds⟩ := id hs
  unfold Builtin.Slice.sliceApplied Builtin.Slice.sliceFields
  refine wpAny_bind (wpAny_bind (wpAny_field hos hds (x := .none) rfl (wpAny_bind (wpAny_field hos hds (x := .none) rfl (wpAny_bind (wpAny_field hos hds (x := vs) rfl (wpAny_pure ?_)))))))
  refine wpAny_bind (HT.slicePart_ ps ?_)
  show wpAny _ _ (if ((-1 : Int) == 0) = true then _ else _) _ _ s
  rw [if_neg (by decide)]
  refine wpAny_bind (HT.slicePart_ .none (wpAny_bind (HT.slicePart_ .none (wpAny_bind (wpAny_pure ?_)))))
  show wpAny _ _ (match Builtin.Slice.sliceAdjust none none (-1) (n : Int) with | (lo, hi) => pure (lo, (-1 : Int), Builtin.Slice.slicePlaces lo hi (-1))) _ _ s
  rw [adjust_rev n]
  show wpAny _ _ (pure ((n : Int) - 1, (-1 : Int), Builtin.Slice.slicePlaces ((n : Int) - 1) (-1) (-1))) _ _ s
  rw [places_rev]
  exact wpAny_pure h
theorem pick_rev (xs : Array Value) : ((List.range xs.size).filterMap fun (m : Nat) => xs[(((xs.size : Int) - 1) + (m : Int) * (-1)).toNat]?) = xs.toList.reverse := by
  have e : ∀ l : List Value, (List.range l.length).filterMap (fun (m : Nat) => l.toArray[(((l.length : Int) - 1) + (m : Int) * (-1)).toNat]?) = l.reverse := by
    intro l
    have : ∀ l : List Value, (List.range l.length).filterMap (fun (m : Nat) => l[m]?) = l := by
      intro l
      induction l with
      | nil => rfl
      | cons a l ih =>
        rw [List.length_cons, List.range_succ_eq_map, List.filterMap_cons]
        simp only [List.getElem?_cons_zero, List.filterMap_map]
        congr 1
    rw [← this l.reverse, List.length_reverse]
    have fc : ∀ (f g : Nat → Option Value) (r : List Nat), (∀ m ∈ r, f m = g m) → r.filterMap f = r.filterMap g := by
      intro f g r
      induction r with
      | nil => intro _; rfl
      | cons a r ih =>
        intro h
        rw [List.filterMap_cons, List.filterMap_cons, h a List.mem_cons_self, ih fun m hm => h m (List.mem_cons_of_mem _ hm)]
    refine fc _ _ _ fun m hm => ?_
    have hm := List.mem_range.mp hm
    rw [List.getElem?_reverse hm, List.getElem?_toArray]
    congr 1
    omega
  have := e xs.toList
  rw [Array.length_toList, Array.toArray_toList] at this
  exact this
theorem getItem_tuple_rev {t sl : Addr} {items : Array Value} {vs : Value} {Q : Value → Shared → Prop} (ht : IsTup s.heap t items) (hs : s.heap.IsSliceOf sl .none .none vs) (ps : IsPart vs (some (-1)))
    (h : Q (.ref s.heap.objs.size) { s with heap := s.heap.push { cls := .type "tuple", data := .seq items.toList.reverse.toArray } })
    (hsz : items.size ≤ sizeLine) : wpAny (model prog w) A (getItem (.ref t) (.ref sl)) Q E s := by
  have htake : sizeOk (.seq items.toList.reverse.toArray) := by
    show items.toList.reverse.toArray.size ≤ sizeLine
    rw [List.size_toArray, List.length_reverse, Array.length_toList]
    exact hsz
  obtain ⟨os, hos, hcs, hds⟩ := id hs
  have hTs : s.TypeIs (.ref sl) "slice" := ⟨os, hos, hcs⟩
  unfold getItem
  try with_reducible refine wpAny_holding ?_
  first | refine wpAny_bind (wpAny_pure ?_) | skip
  refine wpAny_bind (wpAny_sequenceKey ht.typeIs (by decide) ?_)
  refine wpAny_bind (wpAny_callSpecial?_slot (name := Str.ofString "__getitem__") ht.typeIs PyProof.Rows.slot_tuple_getitem
    (wpAny_call_entry PyProof.Rows.slot_tuple_getitem ht.typeIs entry_tuple_getitem ?_ (args_tuple_getitem _ _)))
  show wpAny _ _ (Builtin.Tuple.tupleItemsOf (.ref t) >>= _) _ _ s
  refine wpAny_bind (tupleItemsOf_ ht ?_)
  refine wpAny_bind (wpAny_typeOf hTs ?_)
  rw [if_pos (by decide)]
  refine wpAny_bind (sliceApplied_rev hs ps ?_)
  have hno : ¬ ((((items.size : Int) - 1) == 0 && (-1 : Int) == 1 && items.size == items.size) = true) := by
    intro q
    rw [Bool.and_eq_true, Bool.and_eq_true] at q
    exact absurd q.1.2 (by decide)
  show wpAny _ _ (if (((items.size : Int) - 1) == 0 && (-1 : Int) == 1 && items.size == items.size) = true then _ else _) _ _ s
  rw [if_neg hno, pick_rev]
  first
    | exact wpAny_bind (m := Builtin.Tuple.tupleExact _) (wpAny_newObj_type (wpAny_pure ⟨_, rfl, wpAny_pure h⟩) htake)
    | exact wpAny_bind (m := Builtin.Tuple.tupleExact _) (wpAny_newObj_type (wpAny_bind (wpAny_pure (wpAny_pure ⟨_, rfl, wpAny_pure h⟩))) htake)
    | exact wpAny_bind (wpAny_bind (m := Builtin.Tuple.tupleExact _) (wpAny_newObj_type (wpAny_pure (wpAny_pure ⟨_, rfl, wpAny_pure h⟩)) htake))
    | exact wpAny_bind (wpAny_bind (m := Builtin.Tuple.tupleExact _) (wpAny_newObj_type (wpAny_pure ⟨_, rfl, wpAny_pure h⟩) htake))
end
section
variable {X : Cx}
def tRevT (K : PySem.W.Frag) (te : TE) : TE := fun σ H Q => te σ H fun x H1 => ∃ a xs, x = .ref a ∧ ((SqL K H1 a xs ∧ ∀ p, H1 p = none → Q (.ref p) (upd H1 p (.lst xs.reverse))) ∨ (SqT K H1 a xs ∧ ∀ p, H1 p = none → Q (.ref p) (upd H1 p (.tup xs.reverse))))
theorem pe_revA {e : Expr} {te : TE} {k : Nat} {p1 p2 p3 pos : Pos} (he : PE X e te) : PE X (.Subscript e (.Slice none none (some (.UnaryOp .USub (.Constant (.int 1) k p1) p2)) p3) pos) (tRevT X.K te) := by
  refine ⟨fun pins s σ H Q I h => ?_⟩
  refine Subscript_ (thn (he.run pins s σ H _ I h) fun v s1 ⟨x, H1, I1, r1, q1⟩ => ?_)
  obtain ⟨a, xs, ex, hx⟩ := q1
  subst ex
  cases r1
  have hst : PO X (some (.UnaryOp .USub (.Constant (.int 1) k p1) p2)) (tPart (tUn (L2.rU fun i => V.int (-i)) (tC (.int 1)))) := po_some (pe_un un_neg pe_int)
  refine wpAny_Slice ?_
  unfold evalPart
  refine wpAny_pure ?_
  refine wpAny_pure ?_
  refine thn (hst.run pins s1 σ H1 (fun o H4 => o = some (-1) ∧ H4 = H1) I1 ⟨1, rfl, -1, rfl, rfl, rfl⟩) fun vs s4 ⟨o, H4, I4, ps, eo, e4⟩ => ?_
  subst eo e4
  have I5 : Inv X pins σ H4 { s4 with heap := s4.heap.push { cls := .type "slice", data := .fields #[.none, .none, vs] } } := I4.kept (t' := s4.toks) fun b ob q => Heap.get?_push_of_some _ q
  show wpAny (model X.prog X.w) X.A (subscriptTail e (.Slice none none (some (.UnaryOp .USub (.Constant (.int 1) k p1) p2)) p3) (.ref a) (.ref s4.heap.objs.size)) (EP X pins σ Q) X.xe { s4 with heap := s4.heap.push { cls := .type "slice", data := .fields #[.none, .none, vs] } }
  rcases hx with ⟨hx, q⟩ | ⟨hx, q⟩
  · obtain ⟨its, r, ht, hz⟩ := I5.list hx
    have hlen := r.length
    refine tail_any (ops := [.ref a, .ref s4.heap.objs.size]) ht.isList.typeIs (PySem.slot_list_getitem.lookup) ?_ (by with_unfolding_all rfl)
    refine wpAny_getItem_list_slice ht.isList (Heap.IsSliceOf.new _ .none .none vs) .none .none ps (by decide) ?_ (by rw [List.size_toArray]; omega)
    rw [PySem.W.krv_pick]
    refine ⟨.ref _, _, I5.laid (t' := s4.toks) (o := .lst xs.reverse) (fun b ob q => Heap.get?_push_of_some _ q) (Nat.le_refl _) ?_, rfl, q _ (I5.hok.fresh (Nat.le_refl _))⟩
    exact ⟨by rw [List.length_reverse]; exact hz, _, 0, r.reverse, Heap.get?_push_size _ rfl⟩
  · obtain ⟨its, r, ht, hz⟩ := I5.tuple hx
    have hlen := r.length
    refine tail_any (ops := [.ref a, .ref s4.heap.objs.size]) ht.typeIs (PyProof.Rows.slot_tuple_getitem.lookup) ?_ (by with_unfolding_all rfl)
    refine getItem_tuple_rev ht (Heap.IsSliceOf.new _ .none .none vs) ps ?_ (by rw [List.size_toArray]; omega)
    refine ⟨.ref _, _, I5.laid (t' := s4.toks) (o := .tup xs.reverse) (fun b ob q => Heap.get?_push_of_some _ q) (Nat.le_refl _) ?_, rfl, q _ (I5.hok.fresh (Nat.le_refl _))⟩
    refine ⟨by rw [List.length_reverse]; exact hz, _, r.reverse, ?_⟩
    have := IsTup.new (s4.heap.push { cls := .type "slice", data := .fields #[.none, .none, vs] }) its.reverse.toArray
    simpa using this
end
end Fw

set_option autoImplicit false
set_option linter.all false
set_option maxRecDepth 100000
set_option maxHeartbeats 4000000
/-! the least of a list of data -/
namespace Fw
open PySem PySem.Spec PySem.W PyProof.Rows L2

section
variable {X : Cx}
theorem vals_atR : ∀ {vs : List V} {us : List Value} {i : Nat} {u : Value}, Vals vs us → us[i]? = some u → ∃ v, vs[i]? = some v ∧ RelV v u
  | [], [], i, u, _, h => by cases h
  | v :: vs, w :: us, 0, u, .cons r t, h => by cases h; exact ⟨v, rfl, r⟩
  | v :: vs, w :: us, i + 1, u, .cons r t, h => by
    rw [List.getElem?_cons_succ] at h
    obtain ⟨x, h1, h2⟩ := vals_atR t h
    exact ⟨x, by rw [List.getElem?_cons_succ]; exact h1, h2⟩
theorem depthAll_le {n : Nat} : ∀ {ds : List PyData}, (∀ d ∈ ds, d.depth ≤ n) → PyData.depthAll ds ≤ n
  | [], _ => by simp [PyData.depthAll]
  | d :: ds, h => by
    rw [PyData.depthAll]
    have h1 := h d List.mem_cons_self
    have h2 := depthAll_le (ds := ds) fun x hx => h x (List.mem_cons_of_mem _ hx)
    omega
theorem call_minD (hc : X.calm = true) (hu : X.A.units + 200 < cLine) : CallR X (.builtin "min") (rU (tpOf X) fun a => match a with | .d (.list ds) => (if okSort ds = true then leastD ds else none) | _ => none) := by
  intro pins s σ H xs us Q I r h
  obtain ⟨M, a, x, d, rfl, hM, ha, hf, q⟩ := h
  obtain ⟨u, rfl, ru⟩ : ∃ u, us = [u] ∧ RelV x u := by cases r with | cons h t => cases t; exact ⟨_, rfl, h⟩
  cases a with
  | t _ => cases hf
  | d d0 =>
    cases d0 with
    | list ds =>
      simp only at hf
      split at hf
      · rename_i hz
        cases ds with
        | nil => cases hf
        | cons d0 ds =>
          cases hf
          obtain ⟨h1, h2, h3⟩ := okSort_all hz
          obtain ⟨as, rr⟩ := reads_of rfl I ha ru
          obtain ⟨p, vs, rfl, e1, r1⟩ := ha.lst
          cases ru
          obtain ⟨us, rv, pl, hzl⟩ := I.list (.inl (.inl e1))
          have hl := pl.isList
          cases rr with
          | @list _ o ws n _ as k1 k2 k3 k4 =>
            obtain ⟨o', g1, g2, n', g3⟩ := id hl
            have eo : o' = o := Option.some.inj (g1.symm.trans k1)
            subst eo
            have ew : ws = us.toArray := by
              rw [k3] at g3
              injection g3
            subst ew
            have hd := depthAll_le h3
            refine min_list_data (I.ok.hd hc) hl k4 ⟨h1, h2⟩ (by omega) fun i v h' tk bs hi hv hk => ?_
            have hi' : us[i]? = some v := by simpa using hi
            obtain ⟨w, hw1, hw2⟩ := vals_atR rv hi'
            obtain ⟨dd, hd1, hd2⟩ := r1.atv hw1
            obtain ⟨cs, hr⟩ := Dp.reads I dd w v hd2.full.dp hw2
            have e := (Reads.unique (PyProof.Rows.Reads.keeps hk hr) _ _ hv).1
            refine ⟨w, H, I.kept (h' := h') (t' := tk) hk, hw2, q w H (Same.refl H) ?_⟩
            rw [e] at hd2
            exact hd2
      · cases hf
    | _ => cases hf
end
end Fw

set_option autoImplicit false
set_option linter.all false
set_option maxRecDepth 100000
set_option maxHeartbeats 4000000
/-! does a text of the language say what an expression of Python says -/
namespace Fw
open PySem PySem.Spec PyProof.Rows L2

/-- where an expression stands -/
structure Ch where
  N : List Str
  sc : Scope
  fn : Str → Bool
  fs : Nat → Option Str
  gs : Str → Option Dt := fun _ => none
def eqS (a b : Str) : Bool := decide (a = b)
theorem eqS_ok {a b : Str} (h : eqS a b = true) : a = b := of_decide_eq_true h
def okN (x : Str) : Bool := !(x == ("__debug__" : Str)) && !(x == ("__classdict__" : Str))
def Ch.at_ (c : Ch) (i : Nat) (x : Str) : Bool := okN x && match c.N[i]? with | some y => eqS y x | none => false
def Ch.vis (c : Ch) (x : Str) : Bool := match c.sc.names.lookup x with | some .local => true | some .cell => true | some .free => true | _ => false
def Ch.loc (c : Ch) (x : Str) : Bool := match c.sc.names.lookup x with | some .local => true | some .cell => c.fn x | _ => false
def Ch.gl (c : Ch) (x : Str) : Bool := okN x && match c.sc.names.lookup x with | some .globalImplicit => true | _ => false
def Ch.blk (c : Ch) (scope : Scope) : Ch := { c with sc := relS scope c.sc, fn := fun x => scope.names.lookup x == some .cell }
def Ch.fun_ (c : Ch) (f : Nat) (x : Str) : Bool := c.gl x && match c.fs f with | some y => eqS y x | none => false
def blkB (c : Ch) (scope : Scope) (own : List (Str × Nat)) : Bool :=
  decide (scope.kind = .function) && scope.names.all (fun y => decide (scope.names.lookup y.1 = some y.2)) && own.all (fun p => c.at_ p.2 p.1) &&
  scope.names.all (fun y => !decide (y.2 = .free) || (match c.sc.names.lookup y.1 with | some .cell => true | some .free => true | _ => false)) &&
  scope.names.all (fun y => !(decide (y.2 = .local) || decide (y.2 = .cell)) || own.any (fun p => eqS p.1 y.1) || !c.N.any (fun z => eqS z y.1))
def biN : Bi → Str
  | .len => "len" | .int => "int" | .list => "list" | .tuple => "tuple" | .sorted => "sorted" | .sset => "sorted" | .max => "max" | .min => "min" | .all => "all" | .any => "any" | .bool => "bool" | .str => "str"
def bi2N : Bi2 → Str
  | .max => "max" | .min => "min"
def tyS : Ty → Str
  | .int => "int" | .bool => "bool" | .str => "str" | .list => "list" | .tuple => "tuple"
def isNm (c : Ch) (x : Str) : Expr → Bool
  | .Name y _ => eqS y x && c.gl x
  | _ => false
def isNms (c : Ch) : List Ty → List Expr → Bool
  | [], [] => true
  | t :: ts, e :: es => isNm c (tyS t) e && isNms c ts es
  | _, _ => false
def isCst : Dt → Expr → Bool
  | .none, .Constant .none _ _ => true
  | .bool b, .Constant (.bool b') _ _ => b == b'
  | .int i, .Constant (.int j) _ _ => decide (i = j)
  | .str x, .Constant (.str y) _ _ => eqS x y
  | _, _ => false
def tgN : Expr → List Str
  | .Name x _ => [x]
  | .Tuple es _ _ => es.filterMap fun | .Name x _ => some x | _ => none
  | _ => []
def chTg (c : Ch) : Tg → Expr → Bool
  | .one i, .Name x _ => c.at_ i x && c.loc x
  | .two i j, .Tuple [.Name x _, .Name y _] _ _ => c.at_ i x && c.loc x && c.at_ j y && c.loc y && decide (i ≠ j)
  | .three i j k, .Tuple [.Name x _, .Name y _, .Name z _] _ _ => c.at_ i x && c.loc x && c.at_ j y && c.loc y && c.at_ k z && c.loc z && decide (i ≠ j ∧ i ≠ k ∧ j ≠ k)
  | _, _ => false
def noSet : Expr → Bool
  | .Set .. => false
  | _ => true
def nstar : Expr → Bool
  | .Starred .. => false
  | _ => true
def nost : List Expr → Bool
  | [] => true
  | x :: xs => nstar x && nost xs
def isTupE : Expr → Bool
  | .Tuple .. => true
  | _ => false
def itTg (it : It) (tg : Expr) : Bool := match it with
  | .enum _ => isTupE tg
  | .zip _ _ => isTupE tg
  | _ => true
def noPeek : It → Bool
  | .peek _ => false
  | _ => true
def isMinus1 : Expr → Bool
  | .UnaryOp .USub (.Constant (.int i) _ _) _ => decide (i = 1)
  | _ => false
def notSlice : Expr → Bool
  | .Slice .. => false
  | _ => true

mutual
def chE (c : Ch) : E → Expr → Bool
  | .c d, x => isCst d x
  | .v i, x => match x with | .Name y _ => c.at_ i y && c.vis y | _ => false
  | .g x d, e => match e with | .Name y _ => eqS x y && c.gl y && (match c.gs x with | some d' => PySem.W.alike d' d && PyData.eqv d' d | none => false) | _ => false
  | .scr i, x => match x with | .Call f [.Name y _] [] _ => isNm c "list" f && c.at_ i y && c.vis y | _ => false
  | .bin o a b, x => match x with | .BinOp a' o' b' _ => decide (o = o') && chE c a a' && chE c b b' | _ => false
  | .neg a, x => match x with | .UnaryOp .USub a' _ => chE c a a' | _ => false
  | .not a, x => match x with | .UnaryOp .Not a' _ => chE c a a' | _ => false
  | .and es, x => match x with | .BoolOp .And xs _ => chEs c es xs | _ => false
  | .or es, x => match x with | .BoolOp .Or xs _ => chEs c es xs | _ => false
  | .orT a b, x => match x with | .BoolOp .Or [a', b'] _ => chE c a a' && chE c b b' | _ => false
  | .cmp o a b, x => match x with | .Compare a' [o'] [b'] _ => decide (o = o') && noSet b' && chE c a a' && chE c b b' | _ => false
  | .chain o o2 a b d, x => match x with | .Compare a' [o', o2'] [b', d'] _ => decide (o = o') && decide (o2 = o2') && noSet b' && noSet d' && chE c a a' && chE c b b' && chE c d d' | _ => false
  | .ite t a b, x => match x with | .IfExp t' a' b' _ => chT t && chE c t t' && chE c a a' && chE c b b' | _ => false
  | .call f as, x => match x with | .Call (.Name y _) (x1 :: xs) [] _ => c.fun_ f y && nost (x1 :: xs) && chEs c as (x1 :: xs) | _ => false
  | .calld _ _, _ => false
  | .bi f a, x => match f with
    | .sset => (match x with | .Call g [.Call h [a'] [] _] [] _ => isNm c "sorted" g && isNm c "set" h && chE c a a' | _ => false)
    | f => (match x with | .Call g [a'] [] _ => isNm c (biN f) g && chE c a a' | _ => false)
  | .bi2 f a b, x => match x with | .Call g [a', b'] [] _ => isNm c (bi2N f) g && chE c a a' && chE c b b' | _ => false
  | .isi a ts, x => match x with
    | .Call g [a', u] [] _ => isNm c "isinstance" g && chE c a a' && (match u with | .Tuple us _ _ => decide (ts.length ≤ 100) && isNms c ts us | u => (match ts with | [t] => isNm c (tyS t) u | _ => false))
    | _ => false
  | .sub a i, x => match x with | .Subscript a' i' _ => notSlice i' && chE c a a' && chE c i i' | _ => false
  | .slc a lo hi, x => match x with | .Subscript a' (.Slice lo' hi' none _) _ => chE c a a' && chO c lo lo' && chO c hi hi' | _ => false
  | .rev a, x => match x with | .Subscript a' (.Slice none none (some u) _) _ => isMinus1 u && chE c a a' | _ => false
  | .tup es, x => match x with | .Tuple xs _ _ => chEs c es xs | _ => false
  | .lst es, x => match x with | .List xs _ => chEs c es xs | _ => false
  | .comp el t it cs, x => match x with
    | .ListComp el' [⟨tg, iter, ifs, z⟩] scope _ => decide (z = 0) && noSet iter && blkB c scope ((tgN tg).zip t.slots) && decide ((tgN tg).length = t.slots.length) && itTg it tg && chI c it iter && chTg (c.blk scope) t tg && chC (c.blk scope) cs ifs && chE (c.blk scope) el el'
    | _ => false
  | .comp2 el t1 i1 c1 t2 i2 c2, x => match x with
    | .ListComp el' [⟨tg, iter, ifs, z⟩, ⟨tg2, iter2, ifs2, z2⟩] scope _ => decide (z = 0) && decide (z2 = 0) && noSet iter && noSet iter2 && blkB c scope ((tgN tg ++ tgN tg2).zip (t1.slots ++ t2.slots)) && decide ((tgN tg).length = t1.slots.length) && decide ((tgN tg2).length = t2.slots.length) &&
      itTg i1 tg && itTg i2 tg2 && noPeek i2 && chI c i1 iter && chTg (c.blk scope) t1 tg && chC (c.blk scope) c1 ifs && chI (c.blk scope) i2 iter2 && chTg (c.blk scope) t2 tg2 && chC (c.blk scope) c2 ifs2 && chE (c.blk scope) el el'
    | _ => false
def chEs (c : Ch) : Es → List Expr → Bool
  | .nil, xs => match xs with | [] => true | _ => false
  | .cons e r, xs => match xs with | x :: xs => nstar x && chE c e x && chEs c r xs | [] => false
  | .star e r, xs => match xs with | .Starred x _ :: xs => chE c e x && chEs c r xs | _ => false
/-- a part of a slice -/
def chO (c : Ch) : Oe → Option Expr → Bool
  | .no, x => x.isNone
  | .yes e, x => match x with | some x => chE c e x | none => false
/-- a comprehension's test -/
def chC (c : Ch) : Oe → List Expr → Bool
  | .no, xs => match xs with | [] => true | _ => false
  | .yes e, xs => match xs with | [x] => chT e && chE c e x | _ => false
def chI (c : Ch) : It → Expr → Bool
  | .of e, x => chE c e x
  | .peek i, x => match x with | .Name y _ => c.at_ i y && c.vis y | _ => false
  | .enum e, x => match x with | .Call g [x'] [] _ => isNm c "enumerate" g && chE c e x' | _ => false
  | .rng a, x => match x with | .Call g [x'] [] _ => isNm c "range" g && chE c a x' | _ => false
  | .rng2 a b, x => match x with | .Call g [x', y'] [] _ => isNm c "range" g && chE c a x' && chE c b y' | _ => false
  | .zip a b, x => match x with | .Call g [x', y'] [] _ => isNm c "zip" g && chE c a x' && chE c b y' | _ => false
/-- may stand as a test -/
def chT : E → Bool
  | .ite _ _ _ => false
  | .orT _ _ => false
  | .not a => chT a
  | .and es => chTs es
  | .or es => chTs es
  | .c _ => true | .v _ => true | .g _ _ => true | .scr _ => true | .bin _ _ _ => true | .neg _ => true | .cmp _ _ _ => true | .chain _ _ _ _ _ => true | .call _ _ => true | .calld _ _ => true | .bi _ _ => true | .bi2 _ _ _ => true | .isi _ _ => true
  | .sub _ _ => true | .slc _ _ _ => true | .rev _ => true | .tup _ => true | .lst _ => true | .comp _ _ _ _ => true | .comp2 _ _ _ _ _ _ _ => true
def chTs : Es → Bool
  | .nil => true
  | .cons e r => chT e && chTs r
  | .star _ r => chTs r
end
end Fw

set_option autoImplicit false
set_option linter.all false
set_option maxRecDepth 100000
set_option maxHeartbeats 4000000
/-! comparisons, subscripts and slices of data -/
namespace Fw
open PySem PySem.Spec PyProof.Rows L2

section
variable {X : Cx}
theorem PvR.le {T : Tp} {M : List Addr} {H : Hp} {a b : Dt} {x y : V} {c : Bool} (ha : PvR T M H (.d a) x) (hb : PvR T M H (.d b) y) (h : ltD a b = some c) :
    (∃ i j, x = .int i ∧ y = .int j ∧ c = decide (i < j)) ∨ ∃ i j : Str, x = .str i ∧ y = .str j ∧ c = decide (i.cps.toList < j.cps.toList) := by
  cases a <;> cases b <;> first | (cases h; exact .inl ⟨_, _, ha.int, hb.int, rfl⟩) | (cases h; exact .inr ⟨_, _, ha.str, hb.str, rfl⟩) | cases h
theorem PvR.le' {T : Tp} {M : List Addr} {H : Hp} {a b : Dt} {x y : V} {c : Bool} (ha : PvR T M H (.d a) x) (hb : PvR T M H (.d b) y) (h : leD a b = some c) :
    (∃ i j, x = .int i ∧ y = .int j ∧ c = decide (i ≤ j)) ∨ ∃ i j : Str, x = .str i ∧ y = .str j ∧ c = !decide (j.cps.toList < i.cps.toList) := by
  cases a <;> cases b <;> first | (cases h; exact .inl ⟨_, _, ha.int, hb.int, rfl⟩) | (cases h; exact .inr ⟨_, _, ha.str, hb.str, rfl⟩) | cases h
theorem op_cmpP (hu : X.A.units + 200 < cLine) (o : CmpOp) : OpR X (compareOp o) (rC (tpOf X) o) := by
  cases o with
  | Eq =>
    refine OpR.up (op_eqP hu) fun x y H Q h => ?_
    obtain ⟨M, a, b, c, ha, hb, hc, q⟩ := h
    cases b with
    | t _ => cases hc
    | d b =>
      simp only [cmpP] at hc
      split at hc
      · rename_i hz; cases hc; exact ⟨M, a, b, ha, hb, hz, q⟩
      · cases hc
  | NotEq =>
    refine OpR.up (op_neP hu) fun x y H Q h => ?_
    obtain ⟨M, a, b, c, ha, hb, hc, q⟩ := h
    cases b with
    | t _ => cases hc
    | d b =>
      simp only [cmpP] at hc
      split at hc
      · rename_i hz; cases hc; exact ⟨M, a, b, ha, hb, hz, q⟩
      · cases hc
  | Lt =>
    refine OpR.up (op_lt.or op_lt_str) fun x y H Q h => ?_
    obtain ⟨M, a, b, c, ha, hb, hc, q⟩ := h
    cases b with
    | t _ => cases hc
    | d b =>
      rcases PvR.le ha hb hc with ⟨i, j, h1, h2, rfl⟩ | ⟨i, j, h1, h2, rfl⟩
      · exact .inl ⟨i, j, h1, h2, q⟩
      · exact .inr ⟨i, j, h1, h2, q⟩
  | LtE =>
    refine OpR.up (op_le.or op_le_str) fun x y H Q h => ?_
    obtain ⟨M, a, b, c, ha, hb, hc, q⟩ := h
    cases b with
    | t _ => cases hc
    | d b =>
      rcases PvR.le' ha hb hc with ⟨i, j, h1, h2, rfl⟩ | ⟨i, j, h1, h2, rfl⟩
      · exact .inl ⟨i, j, h1, h2, q⟩
      · exact .inr ⟨i, j, h1, h2, q⟩
  | Gt =>
    refine OpR.up (op_gt.or op_gt_str) fun x y H Q h => ?_
    obtain ⟨M, a, b, c, ha, hb, hc, q⟩ := h
    cases b with
    | t _ => cases hc
    | d b =>
      rcases PvR.le hb ha hc with ⟨i, j, h1, h2, rfl⟩ | ⟨i, j, h1, h2, rfl⟩
      · exact .inl ⟨j, i, h2, h1, q⟩
      · exact .inr ⟨j, i, h2, h1, q⟩
  | GtE =>
    refine OpR.up (op_ge.or op_ge_str) fun x y H Q h => ?_
    obtain ⟨M, a, b, c, ha, hb, hc, q⟩ := h
    cases b with
    | t _ => cases hc
    | d b =>
      rcases PvR.le' hb ha hc with ⟨i, j, h1, h2, rfl⟩ | ⟨i, j, h1, h2, rfl⟩
      · exact .inl ⟨j, i, h2, h1, q⟩
      · exact .inr ⟨j, i, h2, h1, q⟩
  | Is =>
    refine OpR.up op_isN fun x y H Q h => ?_
    obtain ⟨M, a, b, c, ha, hb, hc, q⟩ := h
    cases b with
    | t _ => cases hc
    | d b =>
      cases b <;> first | cases hc | skip
      refine ⟨hb.non, ?_⟩
      have r := ha.full
      cases r <;> exact q
  | IsNot =>
    refine OpR.up op_notN fun x y H Q h => ?_
    obtain ⟨M, a, b, c, ha, hb, hc, q⟩ := h
    cases b with
    | t _ => cases hc
    | d b =>
      cases b <;> first | cases hc | skip
      refine ⟨hb.non, ?_⟩
      have r := ha.full
      cases r <;> exact q
  | In =>
    refine OpR.up ((op_inQ hu false).or (op_inT hu false)) fun x y H Q h => ?_
    obtain ⟨M, a, b, c, ha, hb, hc, q⟩ := h
    cases b with
    | t kvs =>
      simp only [cmpP, Option.map_eq_some_iff] at hc
      obtain ⟨k, hk, rfl⟩ := hc
      exact .inr ⟨M, a, kvs, k, ha, hb, hk, q⟩
    | d b => exact .inl ⟨M, a, b, c, ha, hb, hc, q⟩
  | NotIn =>
    refine OpR.up ((op_inQ hu true).or (op_inT hu true)) fun x y H Q h => ?_
    obtain ⟨M, a, b, c, ha, hb, hc, q⟩ := h
    cases b with
    | t kvs =>
      simp only [cmpP, Option.map_eq_some_iff] at hc
      obtain ⟨k, hk, rfl⟩ := hc
      exact .inr ⟨M, a, kvs, k, ha, hb, hk, q⟩
    | d b =>
      simp only [cmpP, Option.map_eq_some_iff] at hc
      obtain ⟨k, hk, rfl⟩ := hc
      exact .inl ⟨M, a, b, k, ha, hb, hk, q⟩
theorem atI_rps {K : PySem.W.Frag} {H : Hp} {ds : List Dt} {vs : List V} {i : Int} {d : Dt} (r : Rps K H ds vs) (h : atI ds i = some d) : ∃ v, atI vs i = some v ∧ Rp K H d v := by
  unfold atI at h ⊢
  rw [← r.len]
  rw [Option.bind_eq_some_iff] at h
  obtain ⟨j, h1, h2⟩ := h
  rw [h1]
  exact r.at h2
/-- a subscript -/
def rS (T : Tp) : R2 := fun x y H Q => ∃ M a b d, PvR T M H a x ∧ Rp T.K (cut M H) b y ∧ subP a b = some d ∧ ∀ v, Rp T.K (cut M H) d v → Q v H
theorem ix_subP (hu : X.A.units + 200 < cLine) : IxR X (rS (tpOf X)) := by
  intro value slice pins s σ H x y v u Q I rx ry h hs
  refine (ix_seq.or (ix_tab hu)) value slice pins s σ H x y v u Q I rx ry ?_ hs
  obtain ⟨M, a, b, d, ha, hb, hd, q⟩ := h
  cases a with
  | t kvs =>
    simp only [subP, Option.bind_eq_some_iff] at hd
    obtain ⟨k, h1, h2⟩ := hd
    exact .inr ⟨M, b, kvs, k, d, ha, .inl hb, h1, h2, q⟩
  | d a =>
    cases a with
    | list ds =>
      cases b <;> first | cases hd | skip
      cases hb
      obtain ⟨p, vs, rfl, e1, r1⟩ := ha.lst
      obtain ⟨w, h1, h2⟩ := atI_rps r1 hd
      exact .inl (.inl ⟨p, vs, _, w, rfl, rfl, .inl (.inl e1), h1, q w h2⟩)
    | tuple ds =>
      cases b <;> first | cases hd | skip
      cases hb
      obtain ⟨p, vs, rfl, e1, r1⟩ := ha.tup
      obtain ⟨w, h1, h2⟩ := atI_rps r1 hd
      exact .inl (.inr (.inl ⟨p, vs, _, w, rfl, rfl, e1, h1, q w h2⟩))
    | str z =>
      cases b <;> first | cases hd | skip
      cases hb
      simp only [subP] at hd
      split at hd
      · rename_i hz
        rw [Option.map_eq_some_iff] at hd
        obtain ⟨c, h1, h2⟩ := hd
        subst h2
        exact .inl (.inr (.inr ⟨z, _, c, by rw [ha.str], rfl, fits_le hz, h1, q _ (.str _)⟩))
      · cases hd
    | _ => cases hd
theorem cut_rps {K : PySem.W.Frag} {H : Hp} {ds : List Dt} {vs : List V} {lo hi : Option Int} (r : Rps K H ds vs) : Rps K H (cutD ds lo hi) (cutV vs lo hi) := by
  unfold cutD cutV
  rw [← r.len]
  exact (r.drop _).take _
theorem cutD_whole {ds : List Dt} {lo hi : Option Int} (h : HT.sIx ds.length 0 lo = 0 ∧ HT.sIx ds.length ds.length hi = ds.length) : cutD ds lo hi = ds := by
  unfold cutD
  rw [h.1, h.2]
  simp
/-- a slice -/
def rSl (T : Tp) : V → Option Int → Option Int → Hp → VK → Prop := fun x lo hi H Q => ∃ M a d, (∀ p ∈ M, H p ≠ none) ∧ Rp T.K (cut M H) a x ∧ slcD a lo hi = some d ∧ ∀ v H', Same H H' → Rp T.K (cut M H') d v → Q v H'
theorem sl_slcD : SlR X (rSl (tpOf X)) := by
  intro pins s σ H x v vl vu lo hi sl Q I rx hs pl pu h
  refine (sl_list.or sl_tupA) pins s σ H x v vl vu lo hi sl Q I rx hs pl pu ?_
  obtain ⟨M, a, d, hM, ha, hd, q⟩ := h
  cases a <;> first | cases hd | skip
  · rename_i ds
    cases ha with
    | lst e r =>
      exact .inl ⟨_, _, rfl, .inl (.inl (cut_some e).2), fun p hp => q _ _ (same_new hp) (Rp.newLst (T := tpOf X) hp (fun z => hM p z hp) (cut_rps r))⟩
  · rename_i ds
    cases ha with
    | tup e r =>
      refine .inr ⟨_, _, rfl, sqt_up cut_same e, fun hw => ?_, fun _ p hp => q _ _ (same_new hp) (Rp.newTup (T := tpOf X) hp (fun z => hM p z hp) (cut_rps r))⟩
      refine q _ H (Same.refl H) ?_
      rw [cutD_whole (by rw [r.len]; exact hw)]
      exact .tup e r
end
end Fw

set_option autoImplicit false
set_option linter.all false
set_option maxRecDepth 100000
set_option maxHeartbeats 4000000
/-! expressions keep to the language: the simple ones -/
namespace Fw
open PySem PySem.Spec PyProof.Rows L2

/-- the names of the built-in functions -/
def bNames : List Str := ["len", "int", "list", "tuple", "sorted", "set", "max", "min", "all", "any", "bool", "str", "isinstance", "range", "enumerate", "zip"]
/-- the promise of a def -/
def spC (T : Tp) (C : Cl) (f : Nat) : Sp := fun vs H Q _ => ∃ M G S as d S', (∀ a ∈ G, a ∈ M) ∧ (∀ a ∈ M, H a ≠ none) ∧ StoR T M G S H ∧ Paired (ArR T M G H) as vs ∧ C f as S = some (d, S') ∧
  ∀ v H', StoR T M G S' H' → Stp G H H' → Rp T.K (cut M H') d v → Q v H'
structure Cfg (X : Cx) (c : Ch) (C : Cl) : Prop where
  N : X.N = c.N
  sc : X.env.scope = c.sc
  fn : X.fn = c.fn
  calm : X.calm = true
  kind : X.env.scope.kind = .function
  nd : c.N.Nodup
  room : X.A.units + 200 < cLine
  blt : ∀ x ∈ bNames, X.mg x = none
  gls : ∀ x d, c.gs x = some d → ∃ v u, X.mg x = some u ∧ RelV v u ∧ ∀ H, Rp X.K H d v
  fns : ∀ f x, c.fs f = some x → ∃ u k fd ps, X.mg x = some (.ref u) ∧ PySem.W.keepIn X.K (.ref u) = true ∧ FnOk X.prog X.w X.K X.mg X.base CX0 k u fd ps (spC (tpOf X) C f) ∧ Room k X.A ∧ Binds X.K fd ps []

section
variable {X : Cx} {c : Ch} {C : Cl}
theorem okN_ok {x : Str} (h : okN x = true) : (x == ("__debug__" : Str)) = false ∧ (x == ("__classdict__" : Str)) = false := by
  unfold okN at h
  rw [Bool.and_eq_true, Bool.not_eq_true', Bool.not_eq_true'] at h
  exact h
theorem Ch.at_ok {i : Nat} {x : Str} (g : Cfg X c C) (h : c.at_ i x = true) : X.N[i]? = some x ∧ okN x = true := by
  unfold Ch.at_ at h
  rw [Bool.and_eq_true] at h
  refine ⟨?_, h.1⟩
  rw [g.N]
  have h2 := h.2
  split at h2
  · rename_i y e
    rw [e, eqS_ok h2]
  · cases h2
theorem Ch.vis_ok {x : Str} (g : Cfg X c C) (h : c.vis x = true) : Vis X.env.scope x := by
  unfold Ch.vis at h
  rw [← g.sc] at h
  split at h
  · rename_i e; exact .inl e
  · rename_i e; exact .inr (.inl e)
  · rename_i e; exact .inr (.inr e)
  · cases h
theorem Ch.loc_ok {x : Str} (g : Cfg X c C) (h : c.loc x = true) : Loc X.env.scope x ∧ (X.fn x = true ∨ X.env.scope.names.lookup x = some .local) := by
  unfold Ch.loc at h
  rw [← g.sc] at h
  split at h
  · rename_i e; exact ⟨.inl e, .inr e⟩
  · rename_i e; exact ⟨.inr e, .inl (by rw [g.fn]; exact h)⟩
  · cases h
theorem Ch.gl_ok {x : Str} (g : Cfg X c C) (h : c.gl x = true) : Gl X x ∧ okN x = true := by
  unfold Ch.gl at h
  rw [Bool.and_eq_true, ← g.sc] at h
  refine ⟨?_, h.1⟩
  have h2 := h.2
  split at h2
  · rename_i e; exact e
  · cases h2
theorem isNm_ok {x : Str} {e : Expr} (g : Cfg X c C) (h : isNm c x e = true) : ∃ p, e = .Name x p ∧ Gl X x ∧ okN x = true := by
  unfold isNm at h
  split at h
  · rename_i y p
    rw [Bool.and_eq_true] at h
    have e := eqS_ok h.1
    subst e
    exact ⟨p, rfl, Ch.gl_ok g h.2⟩
  · cases h
theorem slot_there {T : Tp} {M G : List Addr} {ρ : Rho} {S S' : Sto} {σ : L2.St} {H : Hp} {i : Nat} {p : Pv} (e : Est T M G ρ S σ H) (h : look ρ S' i = some p) : ∃ v, σ[i]? = some (some v) := by
  unfold look at h
  cases q : ρ[i]? with
  | none => rw [q] at h; cases h
  | some s =>
    rw [q] at h
    have r := e.env i s q
    cases s with
    | un => cases h
    | val d => obtain ⟨v, h1, h2⟩ := r; exact ⟨v, h1⟩
    | own ds => obtain ⟨a, vs, h1, _⟩ := r; exact ⟨_, h1⟩
    | ownd kvs => obtain ⟨a, h1, _⟩ := r; exact ⟨_, h1⟩
    | scr ns => cases h
    | ref k => obtain ⟨a, h1, h2⟩ := r; exact ⟨_, h1⟩

/-! the readings of one expression, from the first -/
theorem tP_of {e : E} {x : Expr} (g : Cfg X c C) (h : chE c e x = true) (p : PE X x (tE (tpOf X) C e)) : PE X x (tP (tpOf X) C e) := by
  by_cases z : ∃ i, e = .v i
  · obtain ⟨i, rfl⟩ := z
    unfold chE at h
    split at h
    · rename_i y pos
      rw [Bool.and_eq_true] at h
      obtain ⟨h1, h2⟩ := Ch.at_ok g h.1
      obtain ⟨h3, h4⟩ := okN_ok h2
      refine PE.mono (pe_var h1 (Ch.vis_ok g h.2) h3 h4) fun σ H Q q => ?_
      obtain ⟨M, G, ρ, S, pv, S', es, hp, k⟩ := q
      simp only [plc, Option.map_eq_some_iff] at hp
      obtain ⟨pv', hl, e⟩ := hp
      cases e
      obtain ⟨v, q1, q2⟩ := look_rel es hl
      exact ⟨v, q1, k v H es Stp.refl q2⟩
    · cases h
  · refine PE.mono p fun σ H Q q => ?_
    obtain ⟨M, G, ρ, S, pv, S', es, hp, k⟩ := q
    have e1 : plc e ρ S (ev C e ρ S) = (ev C e ρ S).map fun q => (.d q.1, q.2) := by
      cases e <;> first | rfl | exact absurd ⟨_, rfl⟩ z
    rw [e1, Option.map_eq_some_iff] at hp
    obtain ⟨⟨d, S1⟩, hd, e⟩ := hp
    cases e
    exact ⟨M, G, ρ, S, d, S1, es, hd, fun v H' es' st r => k v H' es' st (.inl r)⟩
theorem tF_of {e : E} {x : Expr} (g : Cfg X c C) (h : chE c e x = true) (p : PE X x (tE (tpOf X) C e)) : PE X x (tF (tpOf X) C e) := by
  by_cases z : ∃ i, e = .v i
  · obtain ⟨i, rfl⟩ := z
    unfold chE at h
    split at h
    · rename_i y pos
      rw [Bool.and_eq_true] at h
      obtain ⟨h1, h2⟩ := Ch.at_ok g h.1
      obtain ⟨h3, h4⟩ := okN_ok h2
      refine PE.mono (pe_var h1 (Ch.vis_ok g h.2) h3 h4) fun σ H Q q => ?_
      obtain ⟨M, G, ρ, S, p, S', es, hp, hx, k⟩ := q
      simp only [pre] at hp
      cases hp
      obtain ⟨v, hv⟩ := hx i rfl
      refine ⟨v, hv, k v H es Stp.refl fun S2 H2 q es2 st hq => ?_⟩
      simp only [post] at hq
      obtain ⟨v', q1, q2⟩ := look_rel es2 hq
      rw [hv] at q1
      cases q1
      exact q2
    · cases h
  · refine PE.mono p fun σ H Q q => ?_
    obtain ⟨M, G, ρ, S, p, S', es, hp, _, k⟩ := q
    have e1 : pre e S (ev C e ρ S) = (ev C e ρ S).map fun q => (some q.1, q.2) := by
      cases e <;> first | rfl | exact absurd ⟨_, rfl⟩ z
    rw [e1, Option.map_eq_some_iff] at hp
    obtain ⟨⟨d, S1⟩, hd, e⟩ := hp
    cases e
    refine ⟨M, G, ρ, S, d, S1, es, hd, fun v H' es' st r => k v H' es' st fun S2 H2 q es2 st2 hq => ?_⟩
    simp only [post] at hq
    cases hq
    exact .inl (r.up (st2.cut es2.gm))
/-- an argument -/
def tArg (T : Tp) (C : Cl) (e : E) : TE := fun σ H Q => ∃ M G ρ S a S', Est T M G ρ S σ H ∧ argOf e ρ S (ev C e ρ S) = some (a, S') ∧ ∀ v H', Est T M G ρ S' σ H' → Stp G H H' → ArR T M G H' a v → Q v H'
theorem tArg_of {e : E} {x : Expr} (g : Cfg X c C) (h : chE c e x = true) (p : PE X x (tE (tpOf X) C e)) : PE X x (tArg (tpOf X) C e) := by
  by_cases z : ∃ i, e = .v i
  · obtain ⟨i, rfl⟩ := z
    unfold chE at h
    split at h
    · rename_i y pos
      rw [Bool.and_eq_true] at h
      obtain ⟨h1, h2⟩ := Ch.at_ok g h.1
      obtain ⟨h3, h4⟩ := okN_ok h2
      refine PE.mono (pe_var h1 (Ch.vis_ok g h.2) h3 h4) fun σ H Q q => ?_
      obtain ⟨M, G, ρ, S, a, S', es, hp, k⟩ := q
      simp only [argOf] at hp
      cases q : ρ[i]? with
      | none => rw [q] at hp; cases hp
      | some s =>
        rw [q] at hp
        have r := es.env i s q
        cases s with
        | val d =>
          cases hp
          obtain ⟨v, q1, q2⟩ := r
          exact ⟨v, q1, k v H es Stp.refl q2⟩
        | ref n =>
          cases hp
          obtain ⟨a, q1, q2⟩ := r
          exact ⟨_, q1, k _ H es Stp.refl ⟨a, rfl, q2⟩⟩
        | _ => cases hp
    · cases h
  · refine PE.mono p fun σ H Q q => ?_
    obtain ⟨M, G, ρ, S, a, S', es, hp, k⟩ := q
    have e1 : argOf e ρ S (ev C e ρ S) = (ev C e ρ S).map fun q => (.d q.1, q.2) := by
      cases e <;> first | rfl | exact absurd ⟨_, rfl⟩ z
    rw [e1, Option.map_eq_some_iff] at hp
    obtain ⟨⟨d, S1⟩, hd, e⟩ := hp
    cases e
    exact ⟨M, G, ρ, S, d, S1, es, hd, fun v H' es' st r => k v H' es' st r⟩

/-! one by one -/
theorem se_c {d : Dt} {x : Expr} (h : isCst d x = true) : PE X x (tE (tpOf X) C (.c d)) := by
  have fin : ∀ {v : V}, PE X x (tC v) → (∀ K H, Rp K H d v) → PE X x (tE (tpOf X) C (.c d)) := fun {v} p r => PE.mono p fun σ H Q q => by
    obtain ⟨M, G, ρ, S, d', S', es, hp, k⟩ := q
    simp only [ev] at hp
    cases hp
    exact k v H es Stp.refl (r _ _)
  unfold isCst at h
  split at h
  · exact fin pe_non fun _ _ => .non
  · rw [beq_iff_eq] at h; subst h; exact fin pe_bl fun _ _ => .bl _
  · rw [decide_eq_true_eq] at h; subst h; exact fin pe_int fun _ _ => .int _
  · have e := eqS_ok h; subst e; exact fin pe_str fun _ _ => .str _
  · cases h
theorem se_v {i : Nat} {y : Str} {pos : Pos} (g : Cfg X c C) (h1 : c.at_ i y = true) (h2 : c.vis y = true) : PE X (.Name y pos) (tE (tpOf X) C (.v i)) := by
  obtain ⟨q1, q2⟩ := Ch.at_ok g h1
  obtain ⟨q3, q4⟩ := okN_ok q2
  refine PE.mono (pe_var q1 (Ch.vis_ok g h2) q3 q4) fun σ H Q q => ?_
  obtain ⟨M, G, ρ, S, d, S', es, hp, k⟩ := q
  simp only [ev] at hp
  split at hp
  · rename_i d' e
    cases hp
    obtain ⟨v, r1, r2⟩ := es.env i _ e
    exact ⟨v, r1, k v H es Stp.refl r2⟩
  · cases hp
theorem nost_star : ∀ {xs : List Expr} {env : Env} {pos : Pos}, nost xs = true → (backTo pos (starEach xs env)).any (·.1) = false
  | [], _, _, _ => rfl
  | x :: xs, env, pos, h => by
    unfold nost at h
    rw [Bool.and_eq_true] at h
    have e : starEach (x :: xs) env = (false, eval x env) :: starEach xs env := by
      cases x <;> first | rfl | exact absurd h.1 Bool.false_ne_true
    have ih := nost_star (env := env) (pos := pos) h.2
    rw [e]
    unfold backTo at ih ⊢
    rw [List.map_cons, List.any_cons, ih]
    rfl
theorem star_no {x : Expr} {xs : List Expr} {env : Env} (h : nstar x = true) : starEach (x :: xs) env = (false, eval x env) :: starEach xs env := by
  cases x <;> first | rfl | exact absurd h Bool.false_ne_true
end
end Fw

set_option autoImplicit false
set_option linter.all false
set_option maxRecDepth 100000
set_option maxHeartbeats 4000000
/-! expressions keep to the language: the composite ones -/
namespace Fw
open PySem PySem.Spec PyProof.Rows L2

section
variable {X : Cx} {c : Ch} {C : Cl} {a b d : E} {a' b' d' : Expr} {pos : Pos}
theorem hx_of {T : Tp} {M G : List Addr} {ρ : Rho} {S S1 S2 : Sto} {σ : L2.St} {H : Hp} {r : Option (Dt × Sto)} {p : Option Dt} {pv : Pv} (es : Est T M G ρ S σ H) (h1 : pre a S r = some (p, S1)) (h2 : post a ρ S2 p = some pv) :
    ∀ i, a = .v i → ∃ x, σ[i]? = some (some x) := fun i e => by
  subst e
  simp only [pre] at h1
  cases h1
  simp only [post] at h2
  exact slot_there es h2
theorem se_bin {o : Operator} (pa : PE X a' (tF (tpOf X) C a)) (pb : PE X b' (tP (tpOf X) C b)) : PE X (.BinOp a' o b' pos) (tE (tpOf X) C (.bin o a b)) := by
  refine PE.mono (pe_op (op_binD o) pa pb) fun σ H Q q => ?_
  obtain ⟨M, G, ρ, S, d, S', es, hp, k⟩ := q
  simp only [ev, Option.bind_eq_some_iff] at hp
  obtain ⟨⟨p, S1⟩, h1, ⟨q, S2⟩, h2, x, h3, h4⟩ := hp
  refine ⟨M, G, ρ, S, p, S1, es, h1, hx_of es h1 h3, fun v H1 es1 st1 kv => ⟨M, G, ρ, S1, q, S2, es1, h2, fun w H2 es2 st2 rw => ?_⟩⟩
  cases x with
  | t _ => cases h4
  | d x =>
    cases q with
    | t _ => cases h4
    | d y =>
      simp only [Option.map_eq_some_iff] at h4
      obtain ⟨d0, h5, e⟩ := h4
      cases e
      exact ⟨M, x, y, _, es2.dom, kv _ H2 _ es2 st2 h3, rw, h5, fun u H3 sm ru => k u H3 (es2.keep sm) (st1.trans (st2.trans (Same.stp sm))) ru⟩
/-- what a comparison reads -/
theorem cmp_read {o : CmpOp} {σ : L2.St} {H : Hp} {Q : VK} (q : tE (tpOf X) C (.cmp o a b) σ H Q) : tOp (rC (tpOf X) o) (tF (tpOf X) C a) (tP (tpOf X) C b) σ H Q := by
  obtain ⟨M, G, ρ, S, d, S', es, hp, k⟩ := q
  simp only [ev, Option.bind_eq_some_iff] at hp
  obtain ⟨⟨p, S1⟩, h1, ⟨q, S2⟩, h2, x, h3, h4⟩ := hp
  refine ⟨M, G, ρ, S, p, S1, es, h1, hx_of es h1 h3, fun v H1 es1 st1 kv => ⟨M, G, ρ, S1, q, S2, es1, h2, fun w H2 es2 st2 rw => ?_⟩⟩
  cases x with
  | t _ => cases h4
  | d x =>
    simp only [Option.map_eq_some_iff] at h4
    obtain ⟨k0, h5, e⟩ := h4
    cases e
    exact ⟨M, x, q, k0, kv _ H2 _ es2 st2 h3, rw, h5, k _ H2 es2 (st1.trans st2) (.bl _)⟩
theorem noSet_marks {o : CmpOp} {x : Expr} (h : noSet x = true) : behindInMarks o x = false := by
  cases x <;> first | rfl | exact absurd h Bool.false_ne_true
theorem se_cmp {o : CmpOp} (g : Cfg X c C) (hs : noSet b' = true) (pa : PE X a' (tF (tpOf X) C a)) (pb : PE X b' (tP (tpOf X) C b)) : PE X (.Compare a' [o] [b'] pos) (tE (tpOf X) C (.cmp o a b)) :=
  PE.mono (pe_cmpR (op_cmpP g.room o) pa pb (noSet_marks hs)) fun _ _ _ => cmp_read
/-- a value as a test -/
theorem tT_test {e : E} {σ : L2.St} {H : Hp} {Q : Bool → Hp → Prop} (q : tT (tpOf X) C e σ H Q) : tE (tpOf X) C e σ H fun x H' => ∃ k, x = .bl k ∧ Q k H' := by
  obtain ⟨M, G, ρ, S, b, S', es, hp, k⟩ := q
  unfold boolOf at hp
  rw [Option.bind_eq_some_iff] at hp
  obtain ⟨⟨d, S1⟩, h1, h2⟩ := hp
  split at h2
  · rename_i b0 e
    cases h2
    refine ⟨M, G, ρ, S, d, _, es, h1, fun v H' es' st r => ?_⟩
    have e' : d = .bool b := e
    subst e'
    cases r
    exact ⟨b, rfl, k H' es' st⟩
  · cases h2
theorem st_cmp {o : CmpOp} (g : Cfg X c C) (hs : noSet b' = true) (pa : PE X a' (tF (tpOf X) C a)) (pb : PE X b' (tP (tpOf X) C b)) : PT X (.Compare a' [o] [b'] pos) (tT (tpOf X) C (.cmp o a b)) :=
  PT.mono (pt_cmpR (op_cmpP g.room o) pa pb (noSet_marks hs)) fun _ _ _ q => cmp_read (tT_test q)
theorem chain_read {o o2 : CmpOp} {σ : L2.St} {H : Hp} {Q : VK} (q : tE (tpOf X) C (.chain o o2 a b d) σ H Q) : tChain (rC (tpOf X) o) (rC (tpOf X) o2) (tE (tpOf X) C a) (tE (tpOf X) C b) (tE (tpOf X) C d) σ H Q := by
  obtain ⟨M, G, ρ, S, d0, S', es, hp, k⟩ := q
  simp only [ev, Option.bind_eq_some_iff] at hp
  obtain ⟨⟨x, S1⟩, h1, ⟨y, S2⟩, h2, k1, h3, h4⟩ := hp
  refine ⟨M, G, ρ, S, x, S1, es, h1, fun v H1 es1 st1 rv => ⟨M, G, ρ, S1, y, S2, es1, h2, fun w H2 es2 st2 rw => ?_⟩⟩
  refine ⟨M, x, .d y, k1, .inl (rv.up (st2.cut es2.gm)), .inl rw, h3, k1, rfl, ?_⟩
  cases k1 with
  | false =>
    rw [if_neg Bool.false_ne_true] at h4 ⊢
    cases h4
    exact k _ H2 es2 (st1.trans st2) (.bl _)
  | true =>
    rw [if_pos rfl, Option.bind_eq_some_iff] at h4
    rw [if_pos rfl]
    obtain ⟨⟨z, S3⟩, h5, h6⟩ := h4
    rw [Option.map_eq_some_iff] at h6
    obtain ⟨k2, h7, e⟩ := h6
    cases e
    refine ⟨M, G, ρ, S2, z, S3, es2, h5, fun u H3 es3 st3 ru => ?_⟩
    exact ⟨M, y, .d z, k2, .inl (rw.up (st3.cut es3.gm)), .inl ru, h7, k _ H3 es3 (st1.trans (st2.trans st3)) (.bl _)⟩
theorem last_no {o o2 : CmpOp} (h1 : noSet d' = true) : lastMarks [o, o2] [b', d'] = false := noSet_marks h1
theorem se_chain {o o2 : CmpOp} (g : Cfg X c C) (hs : noSet d' = true) (pa : PE X a' (tE (tpOf X) C a)) (pb : PE X b' (tE (tpOf X) C b)) (pd : PE X d' (tE (tpOf X) C d)) : PE X (.Compare a' [o, o2] [b', d'] pos) (tE (tpOf X) C (.chain o o2 a b d)) :=
  PE.mono (pe_chain (op_cmpP g.room o) (op_cmpP g.room o2) pa pb pd (last_no hs)) fun _ _ _ => chain_read
theorem st_chain {o o2 : CmpOp} (g : Cfg X c C) (hs : noSet d' = true) (pa : PE X a' (tE (tpOf X) C a)) (pb : PE X b' (tE (tpOf X) C b)) (pd : PE X d' (tE (tpOf X) C d)) : PT X (.Compare a' [o, o2] [b', d'] pos) (tT (tpOf X) C (.chain o o2 a b d)) :=
  PT.mono (pt_chain (op_cmpP g.room o) (op_cmpP g.room o2) pa pb pd (last_no hs)) fun _ _ _ q => chain_read (tT_test q)
theorem se_neg (pa : PE X a' (tE (tpOf X) C a)) : PE X (.UnaryOp .USub a' pos) (tE (tpOf X) C (.neg a)) := by
  refine PE.mono (pe_un un_neg pa) fun σ H Q q => ?_
  obtain ⟨M, G, ρ, S, d, S', es, hp, k⟩ := q
  simp only [ev, Option.bind_eq_some_iff] at hp
  obtain ⟨⟨x, S1⟩, h1, h2⟩ := hp
  refine ⟨M, G, ρ, S, x, S1, es, h1, fun v H1 es1 st1 r => ?_⟩
  cases x <;> first | cases h2 | skip
  cases r
  exact ⟨_, rfl, k _ H1 es1 st1 (.int _)⟩
theorem bool_read {e : E} {σ : L2.St} {H : Hp} {M G : List Addr} {ρ : Rho} {S S1 : Sto} {b0 : Bool} {Q : VK} (es : Est (tpOf X) M G ρ S σ H) (h : boolOf (ev C e ρ S) = some (b0, S1)) (k : ∀ H', Est (tpOf X) M G ρ S1 σ H' → Stp G H H' → Q (.bl b0) H') : tE (tpOf X) C e σ H Q := by
  unfold boolOf at h
  rw [Option.bind_eq_some_iff] at h
  obtain ⟨⟨d, S2⟩, h1, h2⟩ := h
  split at h2
  · rename_i b1 e
    cases h2
    refine ⟨M, G, ρ, S, d, _, es, h1, fun v H' es' st r => ?_⟩
    have e' : d = .bool b0 := e
    subst e'
    cases r
    exact k H' es' st
  · cases h2
theorem se_not (pa : PE X a' (tE (tpOf X) C a)) : PE X (.UnaryOp .Not a' pos) (tE (tpOf X) C (.not a)) := by
  refine PE.mono (pe_not pa) fun σ H Q q => ?_
  obtain ⟨M, G, ρ, S, d, S', es, hp, k⟩ := q
  simp only [ev, Option.map_eq_some_iff] at hp
  obtain ⟨⟨x, S1⟩, h1, e⟩ := hp
  cases e
  exact bool_read es h1 fun H' es' st => ⟨x, rfl, k _ H' es' st (.bl _)⟩
theorem st_not (pa : PT X a' (tT (tpOf X) C a)) : PT X (.UnaryOp .Not a' pos) (tT (tpOf X) C (.not a)) := by
  refine PT.mono (pt_not pa) fun σ H Q q => ?_
  obtain ⟨M, G, ρ, S, b0, S', es, hp, k⟩ := q
  unfold boolOf at hp
  rw [ev, Option.bind_eq_some_iff] at hp
  obtain ⟨⟨x, S1⟩, h1, h2⟩ := hp
  rw [Option.map_eq_some_iff] at h1
  obtain ⟨⟨y, S2⟩, h3, e⟩ := h1
  cases e
  cases h2
  exact ⟨M, G, ρ, S, y, S2, es, h3, fun H' es' st => k H' es' st⟩
theorem se_ite {t : E} {t' : Expr} (pt : PT X t' (tT (tpOf X) C t)) (pa : PE X a' (tE (tpOf X) C a)) (pb : PE X b' (tE (tpOf X) C b)) : PE X (.IfExp t' a' b' pos) (tE (tpOf X) C (.ite t a b)) := by
  refine PE.mono (pe_ifExp pt pa pb) fun σ H Q q => ?_
  obtain ⟨M, G, ρ, S, d, S', es, hp, k⟩ := q
  simp only [ev, Option.bind_eq_some_iff] at hp
  obtain ⟨⟨x, S1⟩, h1, h2⟩ := hp
  refine ⟨M, G, ρ, S, x, S1, es, h1, fun H1 es1 st1 => ?_⟩
  cases x with
  | true =>
    rw [if_pos rfl] at h2 ⊢
    exact ⟨M, G, ρ, S1, d, S', es1, h2, fun v H' es' st r => k v H' es' (st1.trans st) r⟩
  | false =>
    rw [if_neg Bool.false_ne_true] at h2 ⊢
    exact ⟨M, G, ρ, S1, d, S', es1, h2, fun v H' es' st r => k v H' es' (st1.trans st) r⟩
/-- a or b, by truth -/
theorem rps_empty {M : List Addr} {H : Hp} {ds : List Dt} {vs : List V} (r : Rps X.K (cut M H) ds vs) : (!ds.isEmpty) = !vs.isEmpty := by
  have := r.len
  cases ds <;> cases vs <;> first | rfl | (simp at this)
theorem truD_ok {M : List Addr} {H : Hp} {d : Dt} {v : V} {k : Bool} (r : PvR (tpOf X) M H (.d d) v) (h : truD d = some k) : TruV X.K v H k := by
  cases d with
  | none => cases h; rw [r.non]; rfl
  | bool b => cases h; rw [r.bl]; rfl
  | list ds =>
    cases h
    obtain ⟨p, vs, rfl, e1, r1⟩ := PvR.lst r
    exact .inl ⟨_, .inl (.inl e1), rps_empty r1⟩
  | tuple ds =>
    cases h
    obtain ⟨p, vs, rfl, e1, r1⟩ := PvR.tup r
    exact .inr (.inl ⟨_, e1, rps_empty r1⟩)
  | _ => cases h
theorem se_orT (pa : PE X a' (tE (tpOf X) C a)) (pb : PE X b' (tE (tpOf X) C b)) : PE X (.BoolOp .Or [a', b'] pos) (tE (tpOf X) C (.orT a b)) := by
  refine PE.mono (pe_orT pa (pe_one pb)) fun σ H Q q => ?_
  obtain ⟨M, G, ρ, S, d, S', es, hp, k⟩ := q
  simp only [ev, Option.bind_eq_some_iff] at hp
  obtain ⟨⟨x, S1⟩, h1, c0, h2, h3⟩ := hp
  refine ⟨M, G, ρ, S, x, S1, es, h1, fun v H1 es1 st1 rv => ⟨c0, truD_ok (.inl rv) h2, ?_⟩⟩
  cases c0 with
  | true =>
    rw [if_pos rfl] at h3 ⊢
    cases h3
    exact k v H1 es1 st1 rv
  | false =>
    rw [if_neg Bool.false_ne_true] at h3 ⊢
    exact ⟨M, G, ρ, S1, d, S', es1, h3, fun v H' es' st r => k v H' es' (st1.trans st) r⟩
/-- the rest of an and, of an or -/
def tAndR (T : Tp) (C : Cl) (es : Es) : TE := fun σ H Q => ∃ M G ρ S d S', Est T M G ρ S σ H ∧ evAnd C es ρ S = some (d, S') ∧ ∀ v H', Est T M G ρ S' σ H' → Stp G H H' → Rp T.K (cut M H') d v → Q v H'
def tOrR (T : Tp) (C : Cl) (es : Es) : TE := fun σ H Q => ∃ M G ρ S d S', Est T M G ρ S σ H ∧ evOr C es ρ S = some (d, S') ∧ ∀ v H', Est T M G ρ S' σ H' → Stp G H H' → Rp T.K (cut M H') d v → Q v H'
theorem sa_one (pa : PE X a' (tE (tpOf X) C a)) : PE X (.BoolOp .And [a'] pos) (tAndR (tpOf X) C (.cons a .nil)) := PE.mono (pe_one pa) fun σ H Q q => by
  obtain ⟨M, G, ρ, S, d, S', es, hp, k⟩ := q
  simp only [evAnd] at hp
  exact ⟨M, G, ρ, S, d, S', es, hp, k⟩
theorem so_one (pa : PE X a' (tE (tpOf X) C a)) : PE X (.BoolOp .Or [a'] pos) (tOrR (tpOf X) C (.cons a .nil)) := PE.mono (pe_one pa) fun σ H Q q => by
  obtain ⟨M, G, ρ, S, d, S', es, hp, k⟩ := q
  simp only [evOr] at hp
  exact ⟨M, G, ρ, S, d, S', es, hp, k⟩
theorem sa_cons {r : Es} {xs : List Expr} (pa : PE X a' (tE (tpOf X) C a)) (pr : PE X (.BoolOp .And (b' :: xs) pos) (tAndR (tpOf X) C (.cons b r))) : PE X (.BoolOp .And (a' :: b' :: xs) pos) (tAndR (tpOf X) C (.cons a (.cons b r))) :=
  PE.mono (pe_and pa pr) fun σ H Q q => by
    obtain ⟨M, G, ρ, S, d, S', es, hp, k⟩ := q
    rw [evAnd, Option.bind_eq_some_iff] at hp
    obtain ⟨⟨x, S1⟩, h1, h2⟩ := hp
    refine bool_read es h1 fun H1 es1 st1 => ⟨x, rfl, ?_⟩
    cases x with
    | true =>
      rw [if_pos rfl] at h2 ⊢
      exact ⟨M, G, ρ, S1, d, S', es1, h2, fun v H' es' st r => k v H' es' (st1.trans st) r⟩
    | false =>
      rw [if_neg Bool.false_ne_true] at h2 ⊢
      cases h2
      exact k _ H1 es1 st1 (.bl _)
theorem so_cons {r : Es} {xs : List Expr} (pa : PE X a' (tE (tpOf X) C a)) (pr : PE X (.BoolOp .Or (b' :: xs) pos) (tOrR (tpOf X) C (.cons b r))) : PE X (.BoolOp .Or (a' :: b' :: xs) pos) (tOrR (tpOf X) C (.cons a (.cons b r))) :=
  PE.mono (pe_or pa pr) fun σ H Q q => by
    obtain ⟨M, G, ρ, S, d, S', es, hp, k⟩ := q
    rw [evOr, Option.bind_eq_some_iff] at hp
    obtain ⟨⟨x, S1⟩, h1, h2⟩ := hp
    refine bool_read es h1 fun H1 es1 st1 => ⟨x, rfl, ?_⟩
    cases x with
    | true =>
      rw [if_pos rfl] at h2 ⊢
      cases h2
      exact k _ H1 es1 st1 (.bl _)
    | false =>
      rw [if_neg Bool.false_ne_true] at h2 ⊢
      exact ⟨M, G, ρ, S1, d, S', es1, h2, fun v H' es' st r => k v H' es' (st1.trans st) r⟩
/-- the same as tests -/
def tAndT (T : Tp) (C : Cl) (es : Es) : TT := fun σ H Q => ∃ M G ρ S b S', Est T M G ρ S σ H ∧ boolOf (evAnd C es ρ S) = some (b, S') ∧ ∀ H', Est T M G ρ S' σ H' → Stp G H H' → Q b H'
def tOrT' (T : Tp) (C : Cl) (es : Es) : TT := fun σ H Q => ∃ M G ρ S b S', Est T M G ρ S σ H ∧ boolOf (evOr C es ρ S) = some (b, S') ∧ ∀ H', Est T M G ρ S' σ H' → Stp G H H' → Q b H'
theorem wa_one (pa : PT X a' (tT (tpOf X) C a)) : PW X (.BoolOp .And [a'] pos) (tAndT (tpOf X) C (.cons a .nil)) := PW.mono (pw_and1 pa) fun σ H Q q => by
  obtain ⟨M, G, ρ, S, d, S', es, hp, k⟩ := q
  simp only [evAnd] at hp
  exact ⟨M, G, ρ, S, d, S', es, hp, k⟩
theorem wo_one (pa : PT X a' (tT (tpOf X) C a)) : PW X (.BoolOp .Or [a'] pos) (tOrT' (tpOf X) C (.cons a .nil)) := PW.mono (pw_or1 pa) fun σ H Q q => by
  obtain ⟨M, G, ρ, S, d, S', es, hp, k⟩ := q
  simp only [evOr] at hp
  exact ⟨M, G, ρ, S, d, S', es, hp, k⟩
theorem wa_cons {r : Es} {xs : List Expr} (pa : PT X a' (tT (tpOf X) C a)) (pr : PW X (.BoolOp .And (b' :: xs) pos) (tAndT (tpOf X) C (.cons b r))) : PW X (.BoolOp .And (a' :: b' :: xs) pos) (tAndT (tpOf X) C (.cons a (.cons b r))) :=
  PW.mono (pw_and pa pr) fun σ H Q q => by
    obtain ⟨M, G, ρ, S, d, S', es, hp, k⟩ := q
    unfold boolOf at hp
    rw [evAnd, Option.bind_eq_some_iff] at hp
    obtain ⟨⟨y, S2⟩, h0, h9⟩ := hp
    rw [Option.bind_eq_some_iff] at h0
    obtain ⟨⟨x, S1⟩, h1, h2⟩ := h0
    refine ⟨M, G, ρ, S, x, S1, es, h1, fun H1 es1 st1 => ?_⟩
    cases x with
    | true =>
      rw [if_pos rfl] at h2 ⊢
      exact ⟨M, G, ρ, S1, d, S', es1, by unfold boolOf; rw [h2]; exact h9, fun H' es' st => k H' es' (st1.trans st)⟩
    | false =>
      rw [if_neg Bool.false_ne_true] at h2 ⊢
      cases h2
      cases h9
      exact k H1 es1 st1
theorem wo_cons {r : Es} {xs : List Expr} (pa : PT X a' (tT (tpOf X) C a)) (pr : PW X (.BoolOp .Or (b' :: xs) pos) (tOrT' (tpOf X) C (.cons b r))) : PW X (.BoolOp .Or (a' :: b' :: xs) pos) (tOrT' (tpOf X) C (.cons a (.cons b r))) :=
  PW.mono (pw_or pa pr) fun σ H Q q => by
    obtain ⟨M, G, ρ, S, d, S', es, hp, k⟩ := q
    unfold boolOf at hp
    rw [evOr, Option.bind_eq_some_iff] at hp
    obtain ⟨⟨y, S2⟩, h0, h9⟩ := hp
    rw [Option.bind_eq_some_iff] at h0
    obtain ⟨⟨x, S1⟩, h1, h2⟩ := h0
    refine ⟨M, G, ρ, S, x, S1, es, h1, fun H1 es1 st1 => ?_⟩
    cases x with
    | true =>
      rw [if_pos rfl] at h2 ⊢
      cases h2
      cases h9
      exact k H1 es1 st1
    | false =>
      rw [if_neg Bool.false_ne_true] at h2 ⊢
      exact ⟨M, G, ρ, S1, d, S', es1, by unfold boolOf; rw [h2]; exact h9, fun H' es' st => k H' es' (st1.trans st)⟩
end
end Fw

set_option autoImplicit false
set_option linter.all false
set_option maxRecDepth 100000
set_option maxHeartbeats 4000000
/-! expressions keep to the language: argument lists, displays, calls -/
namespace Fw
open PySem PySem.Spec PyProof.Rows L2

section
variable {X : Cx} {c : Ch} {C : Cl} {a b d : E} {a' b' d' : Expr} {pos p2 : Pos}
/-! lists of expressions -/
theorem sx_nil : PA X [] (tAs (tpOf X) C .nil) := PA.mono pa_nil fun σ H Q q => by
  obtain ⟨M, G, ρ, S, ds, S', es, hp, k⟩ := q
  simp only [evs] at hp
  cases hp
  exact k [] H es Stp.refl .nil
theorem sx_cons {r : Es} {xs : List Expr} (hs : nstar a' = true) (pa : PE X a' (tE (tpOf X) C a)) (pr : PA X xs (tAs (tpOf X) C r)) : PA X (a' :: xs) (tAs (tpOf X) C (.cons a r)) :=
  PA.mono (pa_cons pa pr (star_no hs)) fun σ H Q q => by
    obtain ⟨M, G, ρ, S, ds, S', es, hp, k⟩ := q
    simp only [evs, Option.bind_eq_some_iff, Option.map_eq_some_iff] at hp
    obtain ⟨⟨x, S1⟩, h1, ⟨ys, S2⟩, h2, e⟩ := hp
    cases e
    refine ⟨M, G, ρ, S, x, S1, es, h1, fun v H1 es1 st1 rv => ⟨M, G, ρ, S1, ys, _, es1, h2, fun vs H2 es2 st2 rvs => ?_⟩⟩
    exact k (v :: vs) H2 es2 (st1.trans st2) (.cons (rv.up (st2.cut es2.gm)) rvs)
theorem PvR.items {T : Tp} {M : List Addr} {H : Hp} {x : Dt} {v : V} {xs : List Dt} (r : PvR T M H (.d x) v) (h : itemsOf x = some xs) : ∃ p vs, v = .ref p ∧ (SqT T.K H p vs ∨ SqL T.K H p vs) ∧ Rps T.K (cut M H) xs vs := by
  cases x <;> first | cases h | skip
  · obtain ⟨p, vs, rfl, e, r⟩ := PvR.sq (.inl r); exact ⟨p, vs, rfl, e.symm, r⟩
  · obtain ⟨p, vs, rfl, e, r⟩ := PvR.sq (.inr r); exact ⟨p, vs, rfl, e.symm, r⟩
theorem sx_star {r : Es} {xs : List Expr} (pa : PE X a' (tP (tpOf X) C a)) (pr : PA X xs (tAs (tpOf X) C r)) : PA X (.Starred a' p2 :: xs) (tAs (tpOf X) C (.star a r)) :=
  PA.mono (StX.pa_star pa pr) fun σ H Q q => by
    obtain ⟨M, G, ρ, S, ds, S', es, hp, k⟩ := q
    simp only [evs, Option.bind_eq_some_iff] at hp
    obtain ⟨⟨x, S1⟩, h1, h2⟩ := hp
    cases x with
    | t _ => cases h2
    | d x =>
      simp only [Option.bind_eq_some_iff, Option.map_eq_some_iff] at h2
      obtain ⟨ys, h3, ⟨zs, S2⟩, h4, e⟩ := h2
      cases e
      refine ⟨M, G, ρ, S, .d x, S1, es, h1, fun v H1 es1 st1 rv => ?_⟩
      obtain ⟨p, vs, e1, e2, e3⟩ := rv.items h3
      refine ⟨p, vs, e1, e2, M, G, ρ, S1, zs, _, es1, h4, fun ws H2 es2 st2 rws => ?_⟩
      exact k (vs ++ ws) H2 es2 (st1.trans st2) ((e3.up (st2.cut es2.gm)).app rws)
theorem se_tup {r : Es} {xs : List Expr} {n : Nat} (pr : PA X xs (tAs (tpOf X) C r)) : PE X (.Tuple xs n pos) (tE (tpOf X) C (.tup r)) := PE.mono (pe_tup pr) fun σ H Q q => by
  obtain ⟨M, G, ρ, S, d, S', es, hp, k⟩ := q
  simp only [ev, Option.bind_eq_some_iff] at hp
  obtain ⟨⟨ds, S1⟩, h1, h2⟩ := hp
  split at h2
  · rename_i hz
    cases h2
    refine ⟨M, G, ρ, S, ds, _, es, h1, fun vs H1 es1 st1 rvs => ⟨by rw [← rvs.len]; exact fits_le hz, fun p hn => ?_⟩⟩
    exact k _ _ (es1.new hn) (st1.trans (Stp.new hn)) (Rp.newTup hn (es1.out hn) rvs)
  · cases h2
theorem se_lst {r : Es} {xs : List Expr} (pr : PA X xs (tAs (tpOf X) C r)) : PE X (.List xs pos) (tE (tpOf X) C (.lst r)) := PE.mono (pe_lst pr) fun σ H Q q => by
  obtain ⟨M, G, ρ, S, d, S', es, hp, k⟩ := q
  simp only [ev, Option.bind_eq_some_iff] at hp
  obtain ⟨⟨ds, S1⟩, h1, h2⟩ := hp
  split at h2
  · rename_i hz
    cases h2
    refine ⟨M, G, ρ, S, ds, _, es, h1, fun vs H1 es1 st1 rvs => ⟨by rw [← rvs.len]; exact fits_le hz, fun p hn => ?_⟩⟩
    exact k _ _ (es1.new hn) (st1.trans (Stp.new hn)) (Rp.newLst hn (es1.out hn) rvs)
  · cases h2
/-! arguments -/
theorem ArR.step {T : Tp} {M G : List Addr} {H H' : Hp} {x : Ar} {v : V} (gm : ∀ a ∈ G, a ∈ M) (st : Stp G H H') (r : ArR T M G H x v) : ArR T M G H' x v := by
  cases x with
  | d d => exact Rp.up (st.cut gm) r
  | r k => exact r
  | s ns => obtain ⟨a, h1, h2⟩ := r; exact ⟨a, h1, sql_up (st.cut gm) h2⟩
theorem sr_nil : PA X [] (tAr (tpOf X) C .nil) := PA.mono pa_nil fun σ H Q q => by
  obtain ⟨M, G, ρ, S, ds, S', es, hp, k⟩ := q
  simp only [evArgs] at hp
  cases hp
  exact k [] H es Stp.refl .nil
theorem sr_cons {r : Es} {xs : List Expr} (hs : nstar a' = true) (pa : PE X a' (tArg (tpOf X) C a)) (pr : PA X xs (tAr (tpOf X) C r)) : PA X (a' :: xs) (tAr (tpOf X) C (.cons a r)) :=
  PA.mono (pa_cons pa pr (star_no hs)) fun σ H Q q => by
    obtain ⟨M, G, ρ, S, ds, S', es, hp, k⟩ := q
    simp only [evArgs, Option.bind_eq_some_iff, Option.map_eq_some_iff] at hp
    obtain ⟨⟨x, S1⟩, h1, ⟨ys, S2⟩, h2, e⟩ := hp
    cases e
    refine ⟨M, G, ρ, S, x, S1, es, h1, fun v H1 es1 st1 rv => ⟨M, G, ρ, S1, ys, _, es1, h2, fun vs H2 es2 st2 rvs => ?_⟩⟩
    exact k (v :: vs) H2 es2 (st1.trans st2) (.cons (rv.step es2.gm st2) rvs)
theorem pe_callF {u : Addr} {x : Str} {e : Expr} {es : List Expr} {t : TA} {r : List V → Hp → VK → Prop} {p : Pos} (hc : CallR X (.ref u) r) (hk : PySem.W.keepIn X.K (.ref u) = true) (hg : Gl X x) (hm : X.mg x = some (.ref u)) (ha : PA X (e :: es) t)
    (hdb : (x == ("__debug__" : Str)) = false) (hn : nost (e :: es) = true) : PE X (.Call (.Name x p) (e :: es) [] pos) (tCB r t) := by
  refine ⟨fun pins s σ H Q I h => ?_⟩
  refine wpAny_Call_Name_kw (ld_glob I hg hm ?_ hdb)
  unfold nost at hn
  rw [Bool.and_eq_true] at hn
  refine PySem.W.callWith_K (h₀ := X.base) I.ok.mod.kin hk (thn (ha.run pos pins s σ H _ I h) fun us s1 ⟨vs, H1, I1, r, q⟩ => ⟨I1.kIn, ?_⟩) (star_no hn.1) (nost_star hn.2)
  exact hc pins s1 σ H1 vs us Q I1 r q
theorem se_call {f : Nat} {r : Es} {x : Str} {e : Expr} {es : List Expr} (g : Cfg X c C) (hf : c.fun_ f x = true) (hn : nost (e :: es) = true) (pr : PA X (e :: es) (tAr (tpOf X) C r)) : PE X (.Call (.Name x p2) (e :: es) [] pos) (tE (tpOf X) C (.call f r)) := by
  unfold Ch.fun_ at hf
  rw [Bool.and_eq_true] at hf
  obtain ⟨h1, h2⟩ := Ch.gl_ok g hf.1
  obtain ⟨h3, h4⟩ := okN_ok h2
  have hf2 := hf.2
  split at hf2
  · rename_i y e1
    have e2 := eqS_ok hf2
    subst e2
    obtain ⟨u, k, fd, ps, m1, m2, F, hr, hb⟩ := g.fns f y e1
    have cr : CallR X (.ref u) (fun vs H Q => spC (tpOf X) C f vs H Q E0) := fun pins s σ H xs us Q I rv q => run_fn F hr hb .nil pass0 I rv (by rw [List.append_nil]; exact q)
    refine PE.mono (pe_callF cr m2 h1 m1 pr h3 hn) fun σ H Q q => ?_
    obtain ⟨M, G, ρ, S, d, S', es, hp, k0⟩ := q
    simp only [ev, Option.bind_eq_some_iff] at hp
    obtain ⟨⟨as, S1⟩, h5, h6⟩ := hp
    refine ⟨M, G, ρ, S, as, S1, es, h5, fun vs H1 es1 st1 rvs => ?_⟩
    exact ⟨M, G, S1, as, d, S', es1.gm, es1.dom, es1.sto, rvs, h6, fun v H2 so st2 rv => k0 v H2 (es1.step st2 so) (st1.trans st2) rv⟩
  · cases hf2
/-! built-in functions -/
theorem gb {x : Str} (g : Cfg X c C) (h : x ∈ bNames) : X.mg x = none := g.blt x h
theorem pa_1 {t : TE} (hs : nstar a' = true) (pa : PE X a' t) : PA X [a'] (tCons t tNil) := pa_cons pa pa_nil (star_no hs)
/-- T(x), f(x) by the data -/
theorem u_read {f : Pv → Option Dt} {σ : L2.St} {H : Hp} {Q : VK} (q : ∃ M G ρ S d S', Est (tpOf X) M G ρ S σ H ∧ ((plc a ρ S (ev C a ρ S)).bind fun p => (f p.1).map fun d => (d, p.2)) = some (d, S') ∧ ∀ v H', Est (tpOf X) M G ρ S' σ H' → Stp G H H' → Rp (tpOf X).K (cut M H') d v → Q v H') :
    tCB (rU (tpOf X) f) (tCons (tP (tpOf X) C a) tNil) σ H Q := by
  obtain ⟨M, G, ρ, S, d, S', es, hp, k⟩ := q
  simp only [Option.bind_eq_some_iff, Option.map_eq_some_iff] at hp
  obtain ⟨⟨p, S1⟩, h1, d0, h2, e⟩ := hp
  cases e
  refine ⟨M, G, ρ, S, p, _, es, h1, fun v H1 es1 st1 rv => ?_⟩
  exact ⟨M, p, v, _, rfl, es1.dom, rv, h2, fun w H2 sm rw => k w H2 (es1.keep sm) (st1.trans (Same.stp sm)) rw⟩
theorem chE_nostar {e : E} {x : Expr} (h : chE c e x = true) : nstar x = true := by
  cases x <;> first | rfl | skip
  exfalso
  cases e <;> first | (unfold chE at h; exact absurd h Bool.false_ne_true) | skip
  · rename_i d; unfold chE isCst at h; cases d <;> exact absurd h Bool.false_ne_true
  · rename_i f _; unfold chE at h; cases f <;> exact absurd h Bool.false_ne_true
end
end Fw

set_option autoImplicit false
set_option linter.all false
set_option maxRecDepth 100000
set_option maxHeartbeats 4000000
/-! tables: made, stored into -/
namespace Fw
open PySem PySem.Spec PyProof.Rows L2

abbrev XE := NestedKey × Addr × V
abbrev UE := NestedKey × Addr × Value
def putX (k : NestedKey) (v : V) (x : XE) : XE := if x.1 = k then (x.1, x.2.1, v) else x
def storedX (xs : List XE) (k : NestedKey) (b : Addr) (v : V) : List XE := if k ∈ xs.map (·.1) then xs.map (putX k v) else xs ++ [(k, b, v)]
theorem Paired.app {α β : Type} {F : α → β → Prop} : ∀ {as as' : List α} {bs bs' : List β}, Paired F as bs → Paired F as' bs' → Paired F (as ++ as') (bs ++ bs')
  | _, _, _, _, .nil, q => q
  | _, _, _, _, .cons h t, q => .cons h (Paired.app t q)
theorem Paired.map2 {α β γ δ : Type} {F : α → β → Prop} {G : γ → δ → Prop} {f : α → γ} {g : β → δ} (h : ∀ a b, F a b → G (f a) (g b)) : ∀ {as : List α} {bs : List β}, Paired F as bs → Paired G (as.map f) (bs.map g)
  | _, _, .nil => .nil
  | _, _, .cons p t => .cons (h _ _ p) (Paired.map2 h t)
theorem Paired.keys {α β γ : Type} {F : α → β → Prop} {f : α → γ} {g : β → γ} (h : ∀ a b, F a b → f a = g b) : ∀ {as : List α} {bs : List β}, Paired F as bs → as.map f = bs.map g
  | _, _, .nil => rfl
  | _, _, .cons p t => by rw [List.map_cons, List.map_cons, h _ _ p, Paired.keys h t]
abbrev RX (p : XE) (q : UE) : Prop := p.1 = q.1 ∧ p.2.1 = q.2.1 ∧ RelV p.2.2 q.2.2
theorem atKey_mem {us : List UE} {k : NestedKey} : (atKey us k).isSome = true ↔ k ∈ us.map (·.1) := by
  unfold atKey
  rw [Option.isSome_map, List.find?_isSome]
  constructor
  · rintro ⟨x, h1, h2⟩; exact List.mem_map.mpr ⟨x, h1, of_decide_eq_true h2⟩
  · intro h; obtain ⟨x, h1, h2⟩ := List.mem_map.mp h; exact ⟨x, h1, decide_eq_true h2⟩
theorem tget_mem {kvs : List (NestedKey × Dt)} {k : NestedKey} : (tget kvs k).isSome = true ↔ k ∈ kvs.map (·.1) := by
  unfold tget
  rw [Option.isSome_map, List.find?_isSome]
  constructor
  · rintro ⟨x, h1, h2⟩; exact List.mem_map.mpr ⟨x, h1, of_decide_eq_true h2⟩
  · intro h; obtain ⟨x, h1, h2⟩ := List.mem_map.mp h; exact ⟨x, h1, decide_eq_true h2⟩
theorem storedX_rel {xs : List XE} {us : List UE} {k : NestedKey} {b : Addr} {v : V} {u : Value} (h : Paired RX xs us) (r : RelV v u) : Paired RX (storedX xs k b v) (storedH us k b u) := by
  have e := Paired.keys (f := fun (x : XE) => x.1) (g := fun (x : UE) => x.1) (fun _ _ h => h.1) h
  unfold storedX storedH
  by_cases c : k ∈ xs.map (·.1)
  · rw [if_pos c, if_pos (atKey_mem.mpr (by rw [← e]; exact c))]
    refine Paired.map2 (fun p q hp => ?_) h
    unfold putX putAt
    by_cases c2 : p.1 = k
    · rw [if_pos c2, if_pos (hp.1 ▸ c2)]; exact ⟨hp.1, hp.2.1, r⟩
    · rw [if_neg c2, if_neg (hp.1 ▸ c2)]; exact hp
  · rw [if_neg c, if_neg fun z => c (by rw [e]; exact atKey_mem.mp z)]
    exact Paired.app h (.cons ⟨rfl, rfl, r⟩ .nil)
/-- an entry of a table -/
abbrev RT (K : PySem.W.Frag) (H : Hp) (p : NestedKey × Dt) (q : XE) : Prop := p.1 = q.1 ∧ q.1.depth ≤ 8 ∧ (∃ ks, q.1 = .tup ks) ∧ Rp K H q.1.data (.ref q.2.1) ∧ Rp K H p.2 q.2.2
theorem tput_rel {K : PySem.W.Frag} {H : Hp} {kvs : List (NestedKey × Dt)} {xs : List XE} {k : NestedKey} {d : Dt} {b : Addr} {v : V} (h : Paired (RT K H) kvs xs) (r : RT K H (k, d) (k, b, v)) : Paired (RT K H) (tput kvs k d) (storedX xs k b v) := by
  have e := Paired.keys (f := fun (x : NestedKey × Dt) => x.1) (g := fun (x : XE) => x.1) (fun _ _ h => h.1) h
  unfold storedX tput
  by_cases c : k ∈ xs.map (·.1)
  · rw [if_pos c, if_pos (tget_mem.mpr (by rw [e]; exact c))]
    refine Paired.map2 (fun p q hp => ?_) h
    unfold putX
    by_cases c2 : q.1 = k
    · rw [if_pos c2, if_pos (hp.1.trans c2)]; exact ⟨hp.1, hp.2.1, hp.2.2.1, hp.2.2.2.1, r.2.2.2.2⟩
    · rw [if_neg c2, if_neg fun z => c2 (hp.1.symm.trans z)]; exact hp
  · rw [if_neg c, if_neg fun z => c (by rw [← e]; exact tget_mem.mp z)]
    exact Paired.app h (.cons r .nil)
theorem tput_len (kvs : List (NestedKey × Dt)) (k : NestedKey) (d : Dt) : (tput kvs k d).length ≤ kvs.length + 1 := by
  unfold tput
  split
  · rw [List.length_map]; omega
  · rw [List.length_append]; exact Nat.le_refl _
theorem Paired.len' {α β : Type} {F : α → β → Prop} : ∀ {as : List α} {bs : List β}, Paired F as bs → as.length = bs.length
  | _, _, .nil => rfl
  | _, _, .cons _ t => by rw [List.length_cons, List.length_cons, Paired.len' t]
/-- the object of a table as it lies -/
theorem tabO_ok {P : Program} {w : World} {T : Tp} {H : Hp} {h : Heap} {a : Addr} {xs : List XE} {us : List UE} (eP : T.P = P) (ew : T.w = w) (ha : (a == sysModules) = false) (hl : xs.length ≤ sizeLine) (r : Paired RX xs us) (d : h.DictOfH (nestedKind P w) a us) : ObjOk P w H h a (TabO T a xs) := by
  subst eP ew
  obtain ⟨o, es, ep, ho, he, hd, hes, _, hn⟩ := d
  refine ⟨⟨ha, hl, us, r, o, es, ep, ho, he, hd, hes, hn⟩, ⟨o, ho⟩, fun h1 h2 p k => ?_⟩
  obtain ⟨p1, p2, us', r', o', es', ep', ho', q⟩ := p
  exact ⟨p1, p2, us', r', o', es', ep', k _ ho', q⟩
section
variable {X : Cx} {pos : Pos}
/-- {} -/
def tNewT (T : Tp) : TE := fun _ H Q => ∀ p, H p = none → Q (.ref p) (upd H p (TabO T p []))
theorem pe_newT : PE X (.Dict [] [] pos) (tNewT (tpOf X)) := ⟨fun pins s σ H Q I h =>
  wpAny_Dict_empty ⟨.ref s.heap.objs.size, _, I.laid (a := s.heap.objs.size) (o := TabO (tpOf X) s.heap.objs.size []) (t' := s.toks) (fun _ _ q => Heap.get?_push_of_some _ q) (Nat.le_refl _) (tabO_ok (us := []) rfl rfl (beq_eq_false_iff_ne.mpr (Ne.symm (Nat.ne_of_lt I.big))) (Nat.zero_le _) .nil (Heap.DictOfH.new s.heap)), rfl, h _ (I.hok.fresh (Nat.le_refl _))⟩⟩
/-- d[k] = v -/
def rSetT (T : Tp) : TSet := fun o i v H Q => ∃ M a kvs x k d, o = .ref a ∧ a ∈ M ∧ TabR T M H a kvs ∧ Rp T.K (cut M H) x i ∧ tkey x = some k ∧ Rp T.K (cut M H) d v ∧ kvs.length < sizeLine ∧
  ∀ xs', (∀ p q, p = tput kvs k d → q = xs' → Paired (RT T.K (cut M H)) p q) → Q (upd H a (TabO T a xs'))
theorem set_tab (hu : X.A.units + 200 < cLine) : PSet X (rSetT (tpOf X)) := by
  intro pins s σ H o i v ov iv u Q I ro ri rv h
  obtain ⟨M, a, kvs, x, k, d, rfl, hm, hb, hx, hk, hv, hz, q⟩ := h
  cases ro
  obtain ⟨e1, e2, e3, ds, rfl⟩ := tkey_some hk
  obtain ⟨xs, us, g1, g2, g3, g4, g5, g6⟩ := tab_at I hb
  obtain ⟨p, vs, rfl, t1, t2⟩ : ∃ p vs, i = .ref p ∧ SqT X.K (cut M H) p vs ∧ Rps X.K (cut M H) ds vs := by cases hx with | tup h1 h2 => exact ⟨_, _, rfl, h1, h2⟩
  cases ri
  have hn := nested_of I _ _ _ (.ref p) e1 hx.full rfl
  have hkey : (nestedKind X.prog X.w).is s.heap k p := ⟨hn, e2⟩
  have room : (nestedKind X.prog X.w).room X.A.in1 := by show X.A.units + 1 + 8 < cLine; omega
  have hlx : us.length = kvs.length := by rw [← Paired.len' g6, ← Paired.len' g5]
  refine wpAny_setItem_heap (hsz := by rw [hlx]; omega) room hkey g4 fun h' hm' hs => ?_
  have rr : Paired RX (storedX xs k p v) (storedH us k p u) := storedX_rel g6 rv
  have rt : Paired (RT X.K (cut M H)) (tput kvs k d) (storedX xs k p v) := tput_rel g5 ⟨rfl, e2, e3, by rw [data_keyD _ _ e1]; exact hx, hv⟩
  have hl : (storedX xs k p v).length ≤ sizeLine := by rw [← Paired.len' rt]; have := tput_len kvs k d; omega
  refine ⟨upd H a (TabO (tpOf X) a (storedX xs k p v)), ?_, q _ fun _ _ h1 h2 => by rw [h1, h2]; exact rt⟩
  have he : ∃ q, h'.get? a = some q := let ⟨q, _, _, hq, _⟩ := hm'; ⟨q, hq⟩
  exact I.write (x := a) (e := a) (by rw [g1]; trivial) (.inl rfl) (fun b w hb' z => (hs.2 b hb').trans z) he (tabO_ok rfl rfl g2 hl rr hm')
end
end Fw

set_option autoImplicit false
set_option linter.all false
set_option maxRecDepth 100000
set_option maxHeartbeats 4000000
/-! the keys of a table, sorted; tables of one entry -/
namespace Fw
open PySem PySem.Spec PyProof.Rows L2 PySem.W PySem.SeqAt

section
variable {prog : Program} {w : World} {A : Around} {E : Value → Shared → Prop} {s : Shared} {T : String} {r d : Addr} {n : Nat} {P : Nat → Value → Prop} {OK : Heap → Prop}
/-- all that a source gives, as a list -/
theorem collect_src (K : KdlSrc prog w T r d n P OK) (hh : A.handled = none) (hok : OK s.heap) (hn : n ≤ sizeLine) {Q : List Value → Shared → Prop}
    (hQ : ∀ (h' : Heap) (tk : Nat) (acc : Array Value), (∀ b o, s.heap.get? b = some o → h'.get? b = some o) → ItemsOf P acc n → Q acc.toList { s with heap := h', toks := tk }) : wpAny (model prog w) A (collect (.ref r)) Q E s := by
  have lt := K.there _ hok
  have e0 : ([] : List Value).toArray = #[] := rfl
  unfold collect
  refine wpAny_bind (wpAny_runValue (codeAny_builtin PySem.F.entry_proto_collect (?_)))
  rw [Around.under_plainId (PySem.F.plain_proto_collect) _]
  show wpAny _ A.in1 ((newList []) >>= fun l => again (.builtin "list.__iadd__" ⟨[l, .ref r], []⟩)) _ _ s
  refine wpAny_bind (wpAny_newObj_type (?_))
  refine wpAny_pure ⟨plainId_quiet (PySem.F.plain_list_iadd) _, codeAny_builtin (PySem.F.entry_list_iadd) ?_⟩
  rw [Around.under_plainId (PySem.F.plain_list_iadd) _]
  have new : (s.heap.push { cls := .type "list", data := .seq ([] : List Value).toArray }).get? s.heap.objs.size = some { cls := .type "list", data := .seq #[] } := Heap.get?_push_size _ rfl
  show wpAny _ A.in1 (Builtin.List.listExtendWith (.ref s.heap.objs.size) (.ref r) (Value.ref s.heap.objs.size)) _ _ _
  have go := kdl_extend (s := { s with heap := s.heap.push { cls := .type "list", data := .seq ([] : List Value).toArray } }) (A := A) K hh (K.keep _ _ hok fun b _ o e => Heap.get?_push_of_some _ e) s.heap.objs.size (Nat.ne_of_gt lt.1) (Nat.ne_of_gt lt.2) (.ref s.heap.objs.size) 0 new
    (R := fun (q : Result) (s' : Shared) => ∃ (h' : Heap) (tk : Nat) (acc : Array Value) (c : Nat), q = .ok (.ret (.ref s.heap.objs.size)) ∧ s' = { s with heap := h', toks := tk } ∧ (∀ b o, s.heap.get? b = some o → h'.get? b = some o) ∧
      h'.get? s.heap.objs.size = some { cls := .type "list", dict := none, data := .seq acc c, slots := #[] } ∧ ItemsOf P acc n)
    (fun h' tk acc c k hS hi => ⟨h', tk, acc, c, rfl, rfl, fun b o e => k b o (Nat.ne_of_lt (Heap.lt_size e)) (Heap.get?_push_of_some _ e), hS, hi⟩) hn
  refine wpAny_mono go (fun fin s' x => ?_) fun e s' x => ?_
  · cases fin with
    | done f =>
      obtain ⟨h', tk, acc, c, q, rfl, k, hS, hi⟩ := x
      cases q
      show wpAny _ A ((load s.heap.objs.size) >>= _) _ _ _
      refine wpAny_bind (wpAny_load hS ?_)
      exact wpAny_pure (hQ h' tk acc k hi)
    | again c1 =>
      refine ⟨x.1, codeAny_mono x.2 fun q s2 y => ?_⟩
      obtain ⟨h', tk, acc, c, rfl, rfl, k, hS, hi⟩ := y
      show wpAny _ A ((load s.heap.objs.size) >>= _) _ _ _
      refine wpAny_bind (wpAny_load hS ?_)
      exact wpAny_pure (hQ h' tk acc k hi)
  · obtain ⟨_, _, _, _, z, _⟩ := x
    cases z
end
section
variable {X : Cx}
/-- sorted(a table) -/
def rSortTab (T : Tp) : List V → Hp → VK → Prop := fun xs H Q => ∃ M x kvs, xs = [x] ∧ (∀ p ∈ M, H p ≠ none) ∧ PvR T M H (.t kvs) x ∧ okSort (kvs.map fun p => p.1.data) = true ∧
  ∀ v H', Same H H' → Rp T.K (cut M H') (.list (sortD (kvs.map fun p => p.1.data))) v → Q v H'
theorem call_sortedTab (hc : X.calm = true) (hu : X.A.units + 200 < cLine) : CallR X (.builtin "sorted") (rSortTab (tpOf X)) := by
  intro pins s σ H xs us Q I r h
  obtain ⟨M, x, kvs, rfl, hM, ⟨a, rfl, hb⟩, hz, q⟩ := h
  obtain ⟨u, rfl, ru⟩ : ∃ u, us = [u] ∧ RelV (.ref a) u := by cases r with | cons h t => cases t; exact ⟨_, rfl, h⟩
  cases ru
  obtain ⟨xs, ws, g1, g2, g3, g4, g5, g6⟩ := tab_at I hb
  obtain ⟨o, es, ep, ho, he, hd, hes, his, hn⟩ := g4
  obtain ⟨h1, h2, h3⟩ := okSort_all hz
  have hlen : (kvs.map fun p => p.1.data).length ≤ sizeLine := by rw [List.length_map]; exact g3
  have hlw : ws.length = kvs.length := by rw [← Paired.len' g6, ← Paired.len' g5]
  have hle : es.size = ws.length := by rw [← Array.length_toList, hes, List.length_map]
  refine sorted_core (ds := kvs.map fun p => p.1.data) (R := Rv X.K (cut M H)) (fun E' Q' hq => ?_) h1 h2 hlen (fun d hd => by have := h3 d hd; omega) fun s1 s' p out c k1 g1 o1 k g o hp hg e => sorted_end (Inv.on I k1 g1 o1) hlen hM k g o hp hg e q
  refine collect_src (A := X.A.in1) (KdlSrc.rawDict (es := es) (ep := ep) g2) (I.ok.hd hc) ⟨o, ho, he, hd⟩ (by rw [hle, hlw]; exact g3) fun h' tk acc k hi => ?_
  refine hq _ _ (kvs.map fun p => p.1.data) k rfl rfl ?_ (List.Perm.refl _)
  -- the keys one by one
  have key : acc.toList = ws.map fun x => Value.ref x.2.1 := by
    refine List.ext_getElem? fun i => ?_
    rw [List.getElem?_map]
    by_cases hlt : i < es.size
    · have hia : i < acc.size := by rw [hi.1]; exact hlt
      obtain ⟨hi', e1⟩ := hi.2 i acc[i] (Array.getElem?_eq_getElem hia)
      have e2 : es.toList[i]? = some es[i] := by rw [Array.getElem?_toList, Array.getElem?_eq_getElem hlt]
      rw [hes, List.getElem?_map] at e2
      rw [Array.getElem?_toList, Array.getElem?_eq_getElem hia, e1]
      cases q2 : ws[i]? with
      | none => rw [q2] at e2; cases e2
      | some y => rw [q2] at e2; rw [← Option.some.inj e2]; rfl
    · rw [Array.getElem?_toList, Array.getElem?_eq_none (by rw [hi.1]; omega), List.getElem?_eq_none (by omega)]
      rfl
  rw [key]
  clear key hi hes hle hlw hz h1 h2 h3 hlen his hn q hq g1 hb g3
  induction g5 generalizing ws with
  | nil => cases g6; exact .nil
  | @cons p y ps ys hp tl ih =>
    cases g6 with
    | @cons _ z _ zs gz gt =>
      refine .cons ?_ (ih zs gt)
      obtain ⟨e1, e2, e3, e4, e5⟩ := hp
      obtain ⟨f1, f2, f3⟩ := gz
      show (Rv X.K (cut M H) (.ref z.2.1) p.1.data) ∧ ∃ as, Reads s.heap (.ref z.2.1) p.1.data as
      rw [← f2, e1]
      exact ⟨⟨.ref y.2.1, rfl, e4⟩, Dp.reads I _ _ _ e4.full.dp rfl⟩
/-- a display, its keys' objects told -/
theorem disp_walk {prog : Program} {w : World} {A : Around} {E : Value → Shared → Prop} {s : Shared} {K : Type} [DecidableEq K] {knd : HeapKind prog w K} {env : Env} {keys : List (Option Expr)} {values : List Expr} {pos : Pos} {pairs : List (Sem Value × Sem Value)} {Q : Value → Shared → Prop} (hu : knd.room A)
    (hs : (evalEachOpt keys env).zip ((evalEach values env).map fun v => do let x ← v; standAt pos; pure x) = (pairs.map fun p => (some p.1, p.2))) (h0 : pairs ≠ []) (hl : pairs.length ≤ 15)
    (h : wpAny (model prog w) A (evalPairs pairs) (fun vs s1 => ∃ ps, CarriesH knd s1.heap vs ps ∧ s1.heap.DictOfH knd s.heap.objs.size [] ∧
      ∀ h' tk, h'.DictOfH knd s.heap.objs.size (storedAllH [] ps) → Heap.SameBut s.heap.objs.size s1.heap h' → Q (.ref s.heap.objs.size) { s1 with heap := h', toks := tk }) E
      { s with heap := s.heap.push { cls := .type "dict", data := .dict #[] } }) : wpAny (model prog w) A (eval (.Dict keys values pos) env) Q E s := by
  rw [arm_eval_Dict, hs, dictDisplay_pairs pairs h0 (by omega)]
  refine wpAny_bind (wpAny_standAt (wpAny_bind (wpAny_subDictH (knd := knd) (Q := fun d s' => wpAny (model prog w) A (pure (Value.ref d)) Q E s') hu hl ?_)))
  refine wpAny_mono h (fun vs s1 h1 => ?_) fun _ _ e => e
  obtain ⟨ps, hc, hm, hq⟩ := h1
  exact ⟨ps, hc, hm, fun h' tk a b => wpAny_pure (hq h' tk a b)⟩
/-- {k: v} -/
def tOneT (T : Tp) (tk tv : TE) : TE := fun σ H Q => ∀ p, H p = none → tk σ (upd H p (TabO T p [])) fun x H1 => tv σ H1 fun y H2 => H2 p = some (TabO T p []) ∧ ∃ M d k b, x = .ref b ∧ Rp T.K (cut M H2) d x ∧ tkey d = some k ∧ Q (.ref p) (upd H2 p (TabO T p [(k, b, y)]))
theorem pe_oneT {k v : Expr} {pos : Pos} {tk tv : TE} (hu : X.A.units + 200 < cLine) (hk : PE X k tk) (hv : PE X v tv) : PE X (.Dict [some k] [v] pos) (tOneT (tpOf X) tk tv) := by
  refine ⟨fun pins s σ H Q I q => ?_⟩
  have hn := I.hok.fresh (Nat.le_refl s.heap.objs.size)
  have hsm : (s.heap.objs.size == sysModules) = false := beq_eq_false_iff_ne.mpr (Ne.symm (Nat.ne_of_lt I.big))
  have I1 := I.laid (a := s.heap.objs.size) (o := TabO (tpOf X) s.heap.objs.size []) (h' := s.heap.push { cls := .type "dict", data := .dict #[] }) (t' := s.toks) (fun _ _ q => Heap.get?_push_of_some _ q) (Nat.le_refl _) (tabO_ok (us := []) rfl rfl hsm (Nat.zero_le _) .nil (Heap.DictOfH.new s.heap))
  refine disp_walk (knd := nestedKind X.prog X.w) (pairs := [(eval k X.env, do let x ← eval v X.env; standAt pos; pure x)]) (by show X.A.units + 8 < cLine; omega) rfl (by simp) (by simp) ?_
  have step : wpAny (model X.prog X.w) X.A (evalPairs (pairTrees [some k] [v] X.env pos)) (fun vs s' => ∃ ps H', Inv X pins σ H' s' ∧ VV ps vs ∧ (match ps with | [(x, y)] => H' s.heap.objs.size = some (TabO (tpOf X) s.heap.objs.size []) ∧ ∃ M d k b, x = .ref b ∧ Rp X.K (cut M H') d x ∧ tkey d = some k ∧ Q (.ref s.heap.objs.size) (upd H' s.heap.objs.size (TabO (tpOf X) s.heap.objs.size [(k, b, y)])) | _ => False)) X.xe { s with heap := s.heap.push { cls := .type "dict", data := .dict #[] } } := by
    exact (pps_cons hk hv pps_nil).run pins _ σ _ _ I1 (q _ hn)
  refine wpAny_mono step (fun vs s1 x => ?_) fun _ _ e => e
  obtain ⟨ps, H2, I2, rel, x⟩ := x
  match ps, x with
  | [(x, y)], ⟨hp, M, d, key, b, ex, rd, hkey, q2⟩ =>
  subst ex
  cases rel with
  | @cons _ v1 _ _ r1 r2 =>
  cases r2
  obtain ⟨u1, u2⟩ := v1
  obtain ⟨ra, rb⟩ := r1
  cases ra
  obtain ⟨e1, e2, e3, ds, rfl⟩ := tkey_some hkey
  have hnest := nested_of I2 _ _ _ (.ref b) e1 rd.full rfl
  obtain ⟨⟨_, _, us, pu, o, es, ep, ho, he, hd, hes, hnd⟩, _, _⟩ := I2.hok _ _ hp
  cases pu
  refine ⟨[(key, b, u2)], ⟨rfl, rfl, ⟨hnest, e2⟩, True.intro⟩, ⟨o, es, ep, ho, he, hd, hes, fun _ h => (by cases h), List.nodup_nil⟩, fun h' tk hm hs => ?_⟩
  have hm : h'.DictOfH (nestedKind X.prog X.w) s.heap.objs.size [(key, b, u2)] := hm
  have he : ∃ q, h'.get? s.heap.objs.size = some q := let ⟨q, _, _, hq, _⟩ := hm; ⟨q, hq⟩
  exact ⟨.ref s.heap.objs.size, _, I2.write (x := s.heap.objs.size) (e := s.heap.objs.size) (by rw [hp]; trivial) (.inl rfl) (fun b w hb' z => (hs.2 b hb').trans z) he (tabO_ok rfl rfl hsm (by rw [sizeLine_eq]; show 1 ≤ _; omega) (.cons ⟨rfl, rfl, rb⟩ .nil) hm), rfl, q2⟩
end
end Fw

set_option autoImplicit false
set_option linter.all false
set_option maxRecDepth 100000
set_option maxHeartbeats 4000000
/-! expressions keep to the language: built-in functions, subscripts, slices -/
namespace Fw
open PySem PySem.Spec PyProof.Rows L2

section
variable {X : Cx} {c : Ch} {C : Cl} {a b d : E} {a' b' d' f' h' : Expr} {pos p2 p3 : Pos}
theorem bi_read {f : Bi} (hf : f ≠ .sset) {σ : L2.St} {H : Hp} {Q : VK} (q : tE (tpOf X) C (.bi f a) σ H Q) : tCB (rU (tpOf X) (biP f)) (tCons (tP (tpOf X) C a) tNil) σ H Q := by
  obtain ⟨M, G, ρ, S, d, S', es, hp, k⟩ := q
  simp only [ev] at hp
  exact u_read ⟨M, G, ρ, S, d, S', es, hp, k⟩
theorem se_biB {f : Bi} {id : String} {x : Str} (g : Cfg X c C) (hs : f ≠ .sset) (hx : x ∈ bNames) (hv : bootBuiltins x = some (.builtin id)) (hn : x ≠ "__name__") (hc : CallR X (.builtin id) (rU (tpOf X) (biP f))) (hg : Gl X x) (hk : okN x = true)
    (hst : nstar a' = true) (pa : PE X a' (tP (tpOf X) C a)) : PE X (.Call (.Name x p2) [a'] [] pos) (tE (tpOf X) C (.bi f a)) :=
  PE.mono (pe_callB hc hg (gb g hx) hv (pa_1 hst pa) hn (okN_ok hk).1 (star_no hst)) fun _ _ _ => bi_read hs
theorem se_biT {f : Bi} {id : String} {x : Str} (g : Cfg X c C) (hs : f ≠ .sset) (hx : x ∈ bNames) (hv : bootBuiltins x = some (.type id)) (hn : x ≠ "__name__") (hc : CallR X (.type id) (rU (tpOf X) (biP f))) (hg : Gl X x) (hk : okN x = true)
    (hst : nstar a' = true) (pa : PE X a' (tP (tpOf X) C a)) : PE X (.Call (.Name x p2) [a'] [] pos) (tE (tpOf X) C (.bi f a)) :=
  PE.mono (pe_callTy hc hg (gb g hx) hv (pa_1 hst pa) hn (okN_ok hk).1 (star_no hst)) fun _ _ _ => bi_read hs
theorem call_none {f : Value} {b : Bi} (h : ∀ p, biP b p = none) : CallR X f (rU (tpOf X) (biP b)) := by
  intro pins s σ H xs us Q I r hh
  obtain ⟨M, a, x, d, rfl, hM, ha, hf, q⟩ := hh
  rw [h a] at hf
  cases hf
theorem call_sortedP (g : Cfg X c C) : CallR X (.builtin "sorted") (rU (tpOf X) (biP .sorted)) := by
  refine CallR.up (CallR.or (call_sortedD1 g.room) (call_sortedTab g.calm g.room)) fun xs H Q h => ?_
  obtain ⟨M, a, x, d, e, hM, ha, hf, q⟩ := h
  cases a with
  | t kvs =>
    simp only [biP] at hf
    split at hf
    · rename_i hz; cases hf; exact .inr ⟨M, x, kvs, e, hM, ha, hz, q⟩
    · cases hf
  | d d0 => exact .inl ⟨M, .d d0, x, d, e, hM, ha, (by cases d0 <;> first | exact hf | cases hf), q⟩
theorem intsD_map : ∀ {ds : List Dt} {ns : List Int}, intsD ds = some ns → ds = ns.map .int
  | [], ns, h => by cases h; rfl
  | d :: ds, ns, h => by
    cases d <;> first | (rw [intsD] at h; rw [Option.map_eq_some_iff] at h; obtain ⟨ms, h1, rfl⟩ := h; rw [intsD_map h1]; rfl) | cases h
theorem rps_int {K : PySem.W.Frag} {H : Hp} : ∀ {ns : List Int} {vs : List V}, Rps K H (ns.map .int) vs → vs = ns.map .int
  | [], _, h => by cases h; rfl
  | n :: ns, _, h => by cases h with | cons h t => cases h; rw [rps_int t]; rfl
theorem fold_max : ∀ (r : List Int) (n : Int), (r.foldl (fun m x => if x > m then x else m) n ∈ n :: r) ∧ ∀ y ∈ n :: r, y ≤ r.foldl (fun m x => if x > m then x else m) n
  | [], n => ⟨List.mem_cons_self, fun y hy => by rw [List.mem_singleton] at hy; rw [hy]; exact Int.le_refl _⟩
  | x :: r, n => by
    rw [List.foldl_cons]
    obtain ⟨h1, h2⟩ := fold_max r (if x > n then x else n)
    refine ⟨?_, fun y hy => ?_⟩
    · rcases List.mem_cons.mp h1 with z | z
      · rw [z]; split <;> simp
      · simp [z]
    · have h3 := h2 _ List.mem_cons_self
      rcases List.mem_cons.mp hy with rfl | hy
      · refine Int.le_trans ?_ h3; split <;> omega
      · rcases List.mem_cons.mp hy with rfl | hy
        · refine Int.le_trans ?_ h3; split <;> omega
        · exact h2 y (List.mem_cons_of_mem _ hy)
theorem fold_min : ∀ (r : List Int) (n : Int), (r.foldl (fun m x => if x < m then x else m) n ∈ n :: r) ∧ ∀ y ∈ n :: r, r.foldl (fun m x => if x < m then x else m) n ≤ y
  | [], n => ⟨List.mem_cons_self, fun y hy => by rw [List.mem_singleton] at hy; rw [hy]; exact Int.le_refl _⟩
  | x :: r, n => by
    rw [List.foldl_cons]
    obtain ⟨h1, h2⟩ := fold_min r (if x < n then x else n)
    refine ⟨?_, fun y hy => ?_⟩
    · rcases List.mem_cons.mp h1 with z | z
      · rw [z]; split <;> simp
      · simp [z]
    · have h3 := h2 _ List.mem_cons_self
      rcases List.mem_cons.mp hy with rfl | hy
      · refine Int.le_trans h3 ?_; split <;> omega
      · rcases List.mem_cons.mp hy with rfl | hy
        · refine Int.le_trans h3 ?_; split <;> omega
        · exact h2 y (List.mem_cons_of_mem _ hy)
theorem call_maxL (g : Cfg X c C) : CallR X (.builtin "max") (rU (tpOf X) (biP .max)) := by
  refine CallR.up (cr_max g.calm) fun xs H Q h => ?_
  obtain ⟨M, a, x, d, rfl, hM, ha, hf, q⟩ := h
  cases a with
  | t kvs => cases hf
  | d d0 =>
    cases d0 <;> first | cases hf | skip
    rename_i ds
    simp only [biP, Option.bind_eq_some_iff] at hf
    obtain ⟨ns, h1, h2⟩ := hf
    cases ns with
    | nil => cases h2
    | cons n r =>
      cases h2
      rw [intsD_map h1] at ha
      obtain ⟨p, vs, rfl, e1, r1⟩ := ha.lst
      rw [rps_int r1] at e1
      refine ⟨p, n :: r, rfl, .inl (.inl e1), Nat.succ_pos _, fun m hm hb => ?_⟩
      obtain ⟨f1, f2⟩ := fold_max r n
      have : m = r.foldl (fun m x => if x > m then x else m) n := Int.le_antisymm (f2 m hm) (hb _ f1)
      rw [this]
      exact q _ H (Same.refl H) (.int _)
theorem call_minL (g : Cfg X c C) : CallR X (.builtin "min") (rU (tpOf X) (biP .min)) := by
  refine CallR.up (CallR.or (cr_min g.calm) (call_minD g.calm g.room)) fun xs H Q h => ?_
  obtain ⟨M, a, x, d, rfl, hM, ha, hf, q⟩ := h
  cases a with
  | t kvs => cases hf
  | d d0 =>
    cases d0 <;> first | cases hf | skip
    rename_i ds
    simp only [biP] at hf
    split at hf
    · rename_i ns h1
      cases ns with
      | nil => cases hf
      | cons n r =>
        cases hf
        rw [intsD_map h1] at ha
        obtain ⟨p, vs, rfl, e1, r1⟩ := ha.lst
        rw [rps_int r1] at e1
        refine .inl ⟨p, n :: r, rfl, .inl (.inl e1), Nat.succ_pos _, fun m hm hb => ?_⟩
        obtain ⟨f1, f2⟩ := fold_min r n
        have : m = r.foldl (fun m x => if x < m then x else m) n := Int.le_antisymm (hb _ f1) (f2 m hm)
        rw [this]
        exact q _ H (Same.refl H) (.int _)
    · exact .inr ⟨M, _, x, d, rfl, hM, ha, hf, q⟩
theorem se_bi {f : Bi} (g : Cfg X c C) (hs : f ≠ .sset) (hf : isNm c (biN f) f' = true) (hst : nstar a' = true) (pa : PE X a' (tP (tpOf X) C a)) : PE X (.Call f' [a'] [] pos) (tE (tpOf X) C (.bi f a)) := by
  obtain ⟨p, rfl, hg, hk⟩ := isNm_ok g hf
  cases f with
  | len => exact se_biB g hs (by decide) boot_len (by decide) call_lenD hg hk hst pa
  | int => exact se_biT g hs (by decide) (by decide +kernel) (by decide) call_intD hg hk hst pa
  | list => exact se_biT g hs (by decide) (by decide +kernel) (by decide) call_listD hg hk hst pa
  | tuple => exact se_biT g hs (by decide) (by decide +kernel) (by decide) call_tupleD hg hk hst pa
  | sorted => exact se_biB g hs (by decide) boot_sorted (by decide) (call_sortedP g) hg hk hst pa
  | sset => exact absurd rfl hs
  | max => exact se_biB (id := "max") g hs (by decide) (by decide +kernel) (by decide) (call_maxL g) hg hk hst pa
  | min => exact se_biB (id := "min") g hs (by decide) (by decide +kernel) (by decide) (call_minL g) hg hk hst pa
  | all => exact se_biB g hs (by decide) (by decide +kernel) (by decide) (call_allD g.calm) hg hk hst pa
  | any => exact se_biB g hs (by decide) (by decide +kernel) (by decide) (call_anyD g.calm) hg hk hst pa
  | bool => exact se_biT g hs (by decide) (by decide +kernel) (by decide) call_boolD hg hk hst pa
  | str => exact se_biT g hs (by decide) (by decide +kernel) (by decide) call_strD hg hk hst pa
/-- sorted(set(x)) -/
theorem se_sset (g : Cfg X c C) (hf : isNm c "sorted" f' = true) (hh : isNm c "set" h' = true) (hst : nstar a' = true) (pa : PE X a' (tP (tpOf X) C a)) :
    PE X (.Call f' [.Call h' [a'] [] p3] [] pos) (tE (tpOf X) C (.bi .sset a)) := by
  obtain ⟨p, rfl, hg, hk⟩ := isNm_ok g hf
  obtain ⟨p', rfl, hg', hk'⟩ := isNm_ok g hh
  have inner := pe_callTy (pos := p3) (p := p') (call_setD g.calm g.room) hg' (gb g (x := "set") (by decide)) (by decide +kernel) (pa_1 hst pa) (by decide) (okN_ok hk').1 (star_no hst)
  refine PE.mono (pe_callB (call_sortedSetD g.calm g.room) hg (gb g (x := "sorted") (by decide)) boot_sorted (pa_1 rfl inner) (by decide) (okN_ok hk).1 rfl) fun σ H Q q => ?_
  obtain ⟨M, G, ρ, S, d, S', es, hp, k⟩ := q
  simp only [ev, Option.bind_eq_some_iff, Option.map_eq_some_iff] at hp
  obtain ⟨⟨p0, S1⟩, h1, d0, h2, e⟩ := hp
  cases e
  refine ⟨M, G, ρ, S, p0, _, es, h1, fun v H1 es1 st1 rv => ?_⟩
  cases p0 with
  | t _ => cases h2
  | d p0 =>
    cases p0 <;> first | cases h2 | skip
    rename_i ds
    simp only [biP, Option.map_eq_some_iff] at h2
    obtain ⟨d1, h2, e⟩ := h2
    subst e
    unfold ssetD at h2
    rw [Option.bind_eq_some_iff] at h2
    obtain ⟨ks, h3, h4⟩ := h2
    split at h4
    · rename_i hz
      cases h4
      refine ⟨M, ds, ks, v, rfl, rv, h3, hz.1, hz.2.1, fun p us es' hn h5 h6 => ?_⟩
      refine ⟨M, p, us, es', _, rfl, (es1.new hn).dom, upd_same, h5.mono fun u d ⟨w, r1, r2⟩ => ⟨w, r1, r2.up ((Same.stp (G := G) (same_new hn)).cut es1.gm)⟩, h6, hz.2.2, ?_, fun w H2 sm rw => ?_⟩
      · rw [List.length_map]
        have q1 := hz.2.1
        have q2 : (69 : Nat) ≤ sizeLine := by decide
        omega
      · exact k w H2 ((es1.new hn).keep sm) (st1.trans ((Stp.new hn).trans (Same.stp sm))) rw
    · cases h4
theorem se_bi2 {f : Bi2} (g : Cfg X c C) (hf : isNm c (bi2N f) f' = true) (h1 : nstar a' = true) (h2 : nstar b' = true)
    (pa : PE X a' (tE (tpOf X) C a)) (pb : PE X b' (tE (tpOf X) C b)) : PE X (.Call f' [a', b'] [] pos) (tE (tpOf X) C (.bi2 f a b)) := by
  obtain ⟨p, rfl, hg, hk⟩ := isNm_ok g hf
  have hn : nost [b'] = true := by unfold nost; rw [Bool.and_eq_true]; exact ⟨h2, rfl⟩
  have fin : ∀ {σ : L2.St} {H : Hp} {Q : VK}, tE (tpOf X) C (.bi2 f a b) σ H Q → tCB (fun xs H Q => ∃ M a b x y d, xs = [x, y] ∧ Rp X.K (cut M H) a x ∧ Rp X.K (cut M H) b y ∧ bi2D f a b = some d ∧ ∀ v, Rp X.K (cut M H) d v → Q v H) (tCons (tE (tpOf X) C a) (tCons (tE (tpOf X) C b) tNil)) σ H Q := by
    intro σ H Q q
    obtain ⟨M, G, ρ, S, d, S', es, hp, k⟩ := q
    simp only [ev, Option.bind_eq_some_iff, Option.map_eq_some_iff] at hp
    obtain ⟨⟨x, S1⟩, h3, ⟨y, S2⟩, h4, d0, h5, e⟩ := hp
    cases e
    refine ⟨M, G, ρ, S, x, S1, es, h3, fun v H1 es1 st1 rv => ⟨M, G, ρ, S1, y, _, es1, h4, fun w H2 es2 st2 rw => ?_⟩⟩
    exact ⟨M, x, y, v, w, _, rfl, rv.up (st2.cut es2.gm), rw, h5, fun u ru => k u H2 es2 (st1.trans st2) ru⟩
  cases f with
  | max => exact PE.mono (pe_callB (call_bi2 g.calm .max) hg (gb g (x := "max") (by decide)) (by decide +kernel) (pa_cons pa (pa_1 h2 pb) (star_no h1)) (by decide) (okN_ok hk).1 (star_no h1) (nost_star hn)) fun _ _ _ => fin
  | min => exact PE.mono (pe_callB (call_bi2 g.calm .min) hg (gb g (x := "min") (by decide)) (by decide +kernel) (pa_cons pa (pa_1 h2 pb) (star_no h1)) (by decide) (okN_ok hk).1 (star_no h1) (nost_star hn)) fun _ _ _ => fin
/-- isinstance -/
theorem pe_ty (g : Cfg X c C) {t : Ty} {x : Expr} (h : isNm c (tyS t) x = true) : PE X x (tC (.ty (tyN t))) := by
  obtain ⟨p, rfl, hg, hk⟩ := isNm_ok g h
  cases t with
  | int => exact pe_bltn hg (gb g (x := "int") (by decide)) (u := .type "int") (by decide +kernel) rfl (by decide) (okN_ok hk).1
  | bool => exact pe_bltn hg (gb g (x := "bool") (by decide)) (u := .type "bool") (by decide +kernel) rfl (by decide) (okN_ok hk).1
  | str => exact pe_bltn hg (gb g (x := "str") (by decide)) (u := .type "str") (by decide +kernel) rfl (by decide) (okN_ok hk).1
  | list => exact pe_bltn hg (gb g (x := "list") (by decide)) (u := .type "list") (by decide +kernel) rfl (by decide) (okN_ok hk).1
  | tuple => exact pe_bltn hg (gb g (x := "tuple") (by decide)) (u := .type "tuple") (by decide +kernel) rfl (by decide) (okN_ok hk).1
theorem isNm_nostar {x : Str} {e : Expr} (h : isNm c x e = true) : nstar e = true := by
  cases e <;> first | rfl | exact absurd h Bool.false_ne_true
theorem pa_tys (g : Cfg X c C) : ∀ {ts : List Ty} {xs : List Expr}, isNms c ts xs = true → PA X xs (fun _ H Q => Q (ts.map fun t => V.ty (tyN t)) H)
  | [], [], _ => PA.mono pa_nil fun _ _ _ q => q
  | [], _ :: _, h => absurd h Bool.false_ne_true
  | _ :: _, [], h => absurd h Bool.false_ne_true
  | t :: ts, x :: xs, h => by
    unfold isNms at h
    rw [Bool.and_eq_true] at h
    exact PA.mono (pa_cons (pe_ty g h.1) (pa_tys g h.2) (star_no (isNm_nostar h.1))) fun _ _ _ q => q
theorem isi_read {ts : List Ty} {σ : L2.St} {H : Hp} {Q : VK} (q : tE (tpOf X) C (.isi a ts) σ H Q) : tE (tpOf X) C a σ H fun v H1 => ∃ M d, Rp X.K (cut M H1) d v ∧ (∀ p ∈ M, H1 p ≠ none) ∧ ∀ H2, Same H1 H2 → Q (.bl (ts.any fun t => isTy d t)) H2 := by
  obtain ⟨M, G, ρ, S, d, S', es, hp, k⟩ := q
  simp only [ev, Option.map_eq_some_iff] at hp
  obtain ⟨⟨x, S1⟩, h1, e⟩ := hp
  cases e
  exact ⟨M, G, ρ, S, x, _, es, h1, fun v H1 es1 st1 rv => ⟨M, x, rv, es1.dom, fun H2 sm => k _ H2 (es1.keep sm) (st1.trans (Same.stp sm)) (.bl _)⟩⟩
theorem se_isi1 {t : Ty} (g : Cfg X c C) (hf : isNm c "isinstance" f' = true) (h1 : nstar a' = true) (hb : isNm c (tyS t) b' = true) (pa : PE X a' (tE (tpOf X) C a)) : PE X (.Call f' [a', b'] [] pos) (tE (tpOf X) C (.isi a [t])) := by
  obtain ⟨p, rfl, hg, hk⟩ := isNm_ok g hf
  have h2 := isNm_nostar hb
  have hn : nost [b'] = true := by unfold nost; rw [Bool.and_eq_true]; exact ⟨h2, rfl⟩
  refine PE.mono (pe_callB (call_isi1 t) hg (gb g (x := "isinstance") (by decide)) (by decide +kernel) (pa_cons pa (pa_1 h2 (pe_ty g hb)) (star_no h1)) (by decide) (okN_ok hk).1 (star_no h1) (nost_star hn)) fun σ H Q q => ?_
  have q2 := isi_read q
  obtain ⟨M, G, ρ, S, d, S', es, hp, k⟩ := q2
  refine ⟨M, G, ρ, S, d, S', es, hp, fun v H1 es1 st1 rv => ?_⟩
  obtain ⟨M2, d2, r2, _, k2⟩ := k v H1 es1 st1 rv
  refine ⟨v, d2, rfl, r2.full, ?_⟩
  have := k2 H1 (Same.refl H1)
  simpa using this
theorem se_isiN {ts : List Ty} {us : List Expr} {n : Nat} (g : Cfg X c C) (hf : isNm c "isinstance" f' = true) (h1 : nstar a' = true) (hb : isNms c ts us = true) (hl : ts.length ≤ 100) (pa : PE X a' (tE (tpOf X) C a)) :
    PE X (.Call f' [a', .Tuple us n p3] [] pos) (tE (tpOf X) C (.isi a ts)) := by
  obtain ⟨p, rfl, hg, hk⟩ := isNm_ok g hf
  refine PE.mono (pe_callB (call_isiN ts) hg (gb g (x := "isinstance") (by decide)) (by decide +kernel) (pa_cons pa (pa_1 rfl (pe_tup (pa_tys g hb))) (star_no h1)) (by decide) (okN_ok hk).1 (star_no h1) (by rfl)) fun σ H Q q => ?_
  have q2 := isi_read q
  obtain ⟨M, G, ρ, S, d, S', es, hp, k⟩ := q2
  refine ⟨M, G, ρ, S, d, S', es, hp, fun v H1 es1 st1 rv => ?_⟩
  obtain ⟨M2, d2, r2, _, k2⟩ := k v H1 es1 st1 rv
  refine ⟨?_, fun tp hn => ?_⟩
  · rw [List.length_map]
    have : (100 : Nat) ≤ sizeLine := by decide
    omega
  · exact ⟨v, tp, d2, rfl, upd_same, r2.full.up (same_new hn), k2 _ (same_new hn)⟩
/-- subscripts -/
theorem plainIx {x : Expr} (h : notSlice x = true) : PlainIx x := by
  intro o i
  cases x <;> first | rfl | exact absurd h Bool.false_ne_true
theorem se_sub (g : Cfg X c C) (hs : notSlice b' = true) (pa : PE X a' (tF (tpOf X) C a)) (pb : PE X b' (tE (tpOf X) C b)) : PE X (.Subscript a' b' pos) (tE (tpOf X) C (.sub a b)) := by
  refine PE.mono (pe_ix (ix_subP g.room) pa pb (plainIx hs)) fun σ H Q q => ?_
  obtain ⟨M, G, ρ, S, d, S', es, hp, k⟩ := q
  simp only [ev, Option.bind_eq_some_iff, Option.map_eq_some_iff] at hp
  obtain ⟨⟨p, S1⟩, h1, ⟨y, S2⟩, h2, x, h3, d0, h4, e⟩ := hp
  cases e
  refine ⟨M, G, ρ, S, p, S1, es, h1, hx_of es h1 h3, fun v H1 es1 st1 kv => ⟨M, G, ρ, S1, y, _, es1, h2, fun w H2 es2 st2 rw => ?_⟩⟩
  exact ⟨M, x, y, _, kv _ H2 _ es2 st2 h3, rw, h4, fun u ru => k u H2 es2 (st1.trans st2) ru⟩
/-- a part of a slice -/
def tO (T : Tp) (C : Cl) (o : Oe) : TO := fun σ H Q => ∃ M G ρ S r S', Est T M G ρ S σ H ∧ evIx C o ρ S = some (r, S') ∧ ∀ H', Est T M G ρ S' σ H' → Stp G H H' → Q r H'
theorem so_no : PO X none (tO (tpOf X) C .no) := ⟨fun pins s σ H Q I q => po_none.run pins s σ H Q I (by
  obtain ⟨M, G, ρ, S, r, S', es, hp, k⟩ := q
  simp only [evIx] at hp
  cases hp
  exact k H es Stp.refl)⟩
theorem so_yes (pa : PE X a' (tE (tpOf X) C a)) : PO X (some a') (tO (tpOf X) C (.yes a)) := ⟨fun pins s σ H Q I q => (po_some pa).run pins s σ H Q I (by
  obtain ⟨M, G, ρ, S, r, S', es, hp, k⟩ := q
  simp only [evIx, Option.bind_eq_some_iff] at hp
  obtain ⟨⟨x, S1⟩, h1, h2⟩ := hp
  refine ⟨M, G, ρ, S, x, S1, es, h1, fun v H1 es1 st1 rv => ?_⟩
  cases x <;> first | cases h2 | skip
  cases rv
  exact ⟨_, rfl, k H1 es1 st1⟩)⟩
theorem se_slc {lo hi : Oe} {lo' hi' : Option Expr} (pa : PE X a' (tE (tpOf X) C a)) (pl : PO X lo' (tO (tpOf X) C lo)) (ph : PO X hi' (tO (tpOf X) C hi)) : PE X (.Subscript a' (.Slice lo' hi' none p2) pos) (tE (tpOf X) C (.slc a lo hi)) := by
  refine PE.mono (pe_slice sl_slcD pa pl ph) fun σ H Q q => ?_
  obtain ⟨M, G, ρ, S, d, S', es, hp, k⟩ := q
  simp only [ev, Option.bind_eq_some_iff, Option.map_eq_some_iff] at hp
  obtain ⟨⟨x, S1⟩, h1, ⟨l, S2⟩, h2, ⟨h, S3⟩, h3, d0, h4, e⟩ := hp
  cases e
  refine ⟨M, G, ρ, S, x, S1, es, h1, fun v H1 es1 st1 rv => ⟨M, G, ρ, S1, l, S2, es1, h2, fun H2 es2 st2 => ⟨M, G, ρ, S2, h, _, es2, h3, fun H3 es3 st3 => ?_⟩⟩⟩
  exact ⟨M, x, _, es3.dom, rv.up ((st2.trans st3).cut es3.gm), h4, fun u H4 sm ru => k u H4 (es3.keep sm) (st1.trans (st2.trans (st3.trans (Same.stp sm)))) ru⟩
theorem se_rev {u : Expr} (hu : isMinus1 u = true) (pa : PE X a' (tE (tpOf X) C a)) : PE X (.Subscript a' (.Slice none none (some u) p2) pos) (tE (tpOf X) C (.rev a)) := by
  unfold isMinus1 at hu
  split at hu
  · rw [decide_eq_true_eq] at hu
    subst hu
    refine PE.mono (pe_revA pa) fun σ H Q q => ?_
    obtain ⟨M, G, ρ, S, d, S', es, hp, k⟩ := q
    simp only [ev, Option.bind_eq_some_iff] at hp
    obtain ⟨⟨x, S1⟩, h1, h2⟩ := hp
    refine ⟨M, G, ρ, S, x, S1, es, h1, fun v H1 es1 st1 rv => ?_⟩
    cases x with
    | list ds =>
      cases h2
      cases rv with
      | lst e r =>
        exact ⟨_, _, rfl, .inl ⟨.inl (.inl (cut_some e).2), fun p hn => k _ _ (es1.new hn) (st1.trans (Stp.new hn)) (Rp.newLst hn (es1.out hn) r.rev)⟩⟩
    | tuple ds =>
      cases h2
      obtain ⟨p, vs, rfl, e1, r1⟩ := PvR.tup (.inl rv)
      exact ⟨_, _, rfl, .inr ⟨e1, fun p hn => k _ _ (es1.new hn) (st1.trans (Stp.new hn)) (Rp.newTup hn (es1.out hn) r1.rev)⟩⟩
    | _ => cases h2
  · cases hu
/-- list(the script) -/
theorem se_scr {i : Nat} {y : Str} (g : Cfg X c C) (hf : isNm c "list" f' = true) (h1 : c.at_ i y = true) (h2 : c.vis y = true) : PE X (.Call f' [.Name y p2] [] pos) (tE (tpOf X) C (.scr i)) := by
  obtain ⟨p, rfl, hg, hk⟩ := isNm_ok g hf
  obtain ⟨q1, q2⟩ := Ch.at_ok g h1
  obtain ⟨q3, q4⟩ := okN_ok q2
  refine PE.mono (pe_callTy (call_list_of (X := X)) hg (gb g (x := "list") (by decide)) (by decide +kernel) (pa_1 rfl (pe_var q1 (Ch.vis_ok g h2) q3 q4)) (by decide) (okN_ok hk).1 rfl) fun σ H Q q => ?_
  obtain ⟨M, G, ρ, S, d, S', es, hp, k⟩ := q
  simp only [ev] at hp
  split at hp
  · rename_i ns e
    cases hp
    obtain ⟨a, r1, r2⟩ := es.env i _ e
    refine ⟨_, r1, a, ns.map V.int, rfl, .inl (sql_up cut_same r2), fun l hl => ?_⟩
    exact k _ _ (es.new hl) (Stp.new hl) (Rp.newLst hl (es.out hl) (Rps.ints ns))
  · cases hp
end
end Fw

set_option autoImplicit false
set_option linter.all false
set_option maxRecDepth 100000
set_option maxHeartbeats 4000000
/-! what a for walks -/
namespace Fw
open PySem PySem.Spec PyProof.Rows L2

/-- J walks the data xs while Gd stands -/
structure Wk (T : Tp) (J : L2.It) (xs : List Dt) (Gd : List Addr → Hp → Prop) : Prop where
  ex : ∃ Y : Nat → Hp → V → Hp → Prop, Walk J xs.length (fun H => ∃ M, Gd M H) Y ∧ ∀ M i H x H', i < xs.length → Gd M H → (∀ p ∈ M, H p ≠ none) → Y i H x H' → Same H H' ∧ ∃ d, xs[i]? = some d ∧ Rp T.K (cut M H') d x
  stab : ∀ M1 H1 M2 H2, Same (cut M1 H1) (cut M2 H2) → Gd M1 H1 → Gd M2 H2
/-- the same within one expression; p a new list -/
structure WkC (T : Tp) (M G : List Addr) (J : L2.It) (xs : List Dt) (Gd : List Addr → Hp → Prop) : Prop where
  ex : ∃ Y : Nat → Hp → V → Hp → Prop, Walk J xs.length (fun H => ∃ M, Gd M H) Y ∧ ∀ M i H x H', i < xs.length → Gd M H → (∀ p ∈ M, H p ≠ none) → Y i H x H' → Same H H' ∧ ∃ d, xs[i]? = some d ∧ Rp T.K (cut M H') d x
  start : ∀ H p o, H p = none → Gd M H → Gd (p :: M) (upd H p o)
  stab : ∀ H1 H2 p, p ∉ M → (∀ a ∈ G, a ∈ M) → Stp (p :: G) H1 H2 → Gd (p :: M) H1 → Gd (p :: M) H2
theorem cut_D0 {G M : List Addr} {D : Addr} {H H' : Hp} (st : Stp (D :: G) H H') (gm : ∀ a ∈ G, a ∈ M) : Same (cut (D :: M) H) (cut (D :: M) H') := cut_step fun a o n e => st a o (fun z => n (by
  rcases List.mem_cons.mp z with z | z
  · rw [z]; exact List.mem_cons_self
  · exact List.mem_cons_of_mem _ (gm a z))) e
theorem cut_fresh {M : List Addr} {p : Addr} {H : Hp} {o : HO} (hn : H p = none) : Same (cut M H) (cut (p :: M) (upd H p o)) := fun a u h => by
  obtain ⟨n, h⟩ := cut_some h
  have ne : a ≠ p := ne_of_none h hn
  rw [cut_out (by simp only [List.mem_cons, not_or]; exact ⟨ne, n⟩), upd_ne ne]
  exact h
theorem Wk.toC {T : Tp} {M G : List Addr} {J : L2.It} {xs : List Dt} {Gd : List Addr → Hp → Prop} (w : Wk T J xs Gd) : WkC T M G J xs Gd :=
  ⟨w.ex, fun H p o hn h => w.stab _ _ _ _ (cut_fresh hn) h, fun H1 H2 p _ gm st h => w.stab _ _ _ _ (cut_D0 st gm) h⟩
def tIF (T : Tp) (C : Cl) (it : It) : TI := fun σ H R => ∃ M G ρ S xs S', Est T M G ρ S σ H ∧ evIt C it ρ S = some (xs, S') ∧ ∀ J H' Gd, Est T M G ρ S' σ H' → Stp G H H' → Wk T J xs Gd → Gd M H' → R J H'
def tIC (T : Tp) (C : Cl) (it : It) : TI := fun σ H R => ∃ M G ρ S xs S', Est T M G ρ S σ H ∧ evIt C it ρ S = some (xs, S') ∧ ∀ J H' Gd, Est T M G ρ S' σ H' → Stp G H H' → WkC T M G J xs Gd → Gd M H' → R J H'
section
variable {X : Cx} {c : Ch} {C : Cl} {a b : E} {a' b' tg f' : Expr} {pos p2 : Pos} {T : Tp}
theorem tIC_of {it : It} {x : Expr} (p : PI X tg x (tIF (tpOf X) C it)) : PI X tg x (tIC (tpOf X) C it) := PI.mono p fun σ H R q => by
  obtain ⟨M, G, ρ, S, xs, S', es, hp, k⟩ := q
  exact ⟨M, G, ρ, S, xs, S', es, hp, fun J H' Gd es' st w h => k J H' Gd es' st w.toC h⟩

theorem wk_list {p : Addr} {ds : List Dt} {vs : List V} (hl : ds.length = vs.length) : Wk T (Itl T.K p) ds (fun M H => cut M H p = some (.lst vs) ∧ Rps T.K (cut M H) ds vs) := by
  refine ⟨⟨YAt vs, ?_, fun M i H x H' hi h dm y => ?_⟩, fun M1 H1 M2 H2 sm h => ⟨sm _ _ h.1, h.2.up sm⟩⟩
  · rw [hl]
    exact (walk_list (K := T.K) (a := p) (xs := vs)).mono (fun H ⟨M, h, _⟩ => .inl (.inl (cut_some h).2)) fun _ _ _ _ _ _ y => y
  · obtain ⟨rfl, e⟩ := y
    obtain ⟨d, e1, e2⟩ := h.2.atv e
    exact ⟨Same.refl _, d, e1, e2⟩
theorem wk_tup {p : Addr} {ds : List Dt} {vs : List V} (hl : ds.length = vs.length) : Wk T (Itt T.K p) ds (fun M H => SqT T.K (cut M H) p vs ∧ Rps T.K (cut M H) ds vs) := by
  refine ⟨⟨YAt vs, ?_, fun M i H x H' hi h dm y => ?_⟩, fun M1 H1 M2 H2 sm h => ⟨sqt_up sm h.1, h.2.up sm⟩⟩
  · rw [hl]
    exact (walk_tup (K := T.K) (a := p) (xs := vs)).mono (fun H ⟨M, h, _⟩ => sqt_up cut_same h) fun _ _ _ _ _ _ y => y
  · obtain ⟨rfl, e⟩ := y
    obtain ⟨d, e1, e2⟩ := h.2.atv e
    exact ⟨Same.refl _, d, e1, e2⟩
theorem wk_str {z : Str} : Wk T (Its z) (strItems z) (fun _ _ => True) := by
  have hl : (strItems z).length = z.cps.size := by unfold strItems; rw [List.length_map, Array.length_toList]
  refine ⟨⟨_, (by rw [hl]; exact walk_str.mono (fun _ _ => trivial) fun _ _ _ _ _ _ y => y), fun M i H x H' hi h dm y => ?_⟩, fun _ _ _ _ _ _ => trivial⟩
  obtain ⟨rfl, ch, e, rfl⟩ := y
  refine ⟨Same.refl _, .str ⟨#[ch]⟩, ?_, .str _⟩
  unfold strItems
  rw [List.getElem?_map, Array.getElem?_toList, e]
  rfl
theorem enumD_get : ∀ (xs : List Dt) (n i : Nat), (enumD n xs)[i]? = xs[i]?.map fun d => .tuple [.int ((n + i : Nat) : Int), d]
  | [], _, _ => by simp [enumD]
  | d :: r, n, 0 => by simp [enumD]
  | d :: r, n, i + 1 => by
    rw [enumD, List.getElem?_cons_succ, List.getElem?_cons_succ, enumD_get r (n + 1) i]
    have e : n + 1 + i = n + (i + 1) := by omega
    rw [e]
theorem enumD_len : ∀ (xs : List Dt) (n : Nat), (enumD n xs).length = xs.length
  | [], _ => rfl
  | d :: r, n => by rw [enumD, List.length_cons, List.length_cons, enumD_len r]
theorem pair_new {K : PySem.W.Frag} {M : List Addr} {H : Hp} {p : Addr} {d e : Dt} {v w : V} (hn : H p = none) (dm : ∀ p ∈ M, H p ≠ none) (r1 : Rp K (cut M H) d v) (r2 : Rp K (cut M H) e w) : Rp K (cut M (upd H p (.tup [v, w]))) (.tuple [d, e]) (.ref p) := by
  have sm : Same (cut M H) (cut M (upd H p (.tup [v, w]))) := cut_step fun a o _ q => same_new hn a o q
  exact .tup (.inl (.inl (by rw [cut_out fun z => dm p z hn]; exact upd_same))) (.cons (r1.up sm) (.cons (r2.up sm) .nil))
theorem wk_enum {p : Addr} {ds : List Dt} {vs : List V} (hl : ds.length = vs.length) : Wk T (Ite T.K p) (enumD 0 ds) (fun M H => cut M H p = some (.lst vs) ∧ Rps T.K (cut M H) ds vs) := by
  refine ⟨⟨_, (by rw [enumD_len, hl]; exact (walk_enum (K := T.K) (a := p) (xs := vs)).mono (fun H ⟨M, h, _⟩ => .inl (.inl (cut_some h).2)) fun _ _ _ _ _ _ y => y), fun M i H x H' hi h dm y => ?_⟩, fun M1 H1 M2 H2 sm h => ⟨sm _ _ h.1, h.2.up sm⟩⟩
  obtain ⟨q, x1, x2, rfl, hn, rfl, e1, e2⟩ := y
  cases e1
  obtain ⟨d, e3, e4⟩ := h.2.atv e2
  refine ⟨same_new hn, .tuple [.int (i : Nat), d], ?_, pair_new hn dm (.int _) e4⟩
  rw [enumD_get, e3]
  simp
theorem wk_enumT {p : Addr} {ds : List Dt} {vs : List V} (hl : ds.length = vs.length) : Wk T (IteT T.K p) (enumD 0 ds) (fun M H => SqT T.K (cut M H) p vs ∧ Rps T.K (cut M H) ds vs) := by
  refine ⟨⟨_, (by rw [enumD_len, hl]; exact (walk_enumT (K := T.K) (a := p) (xs := vs)).mono (fun H ⟨M, h, _⟩ => sqt_up cut_same h) fun _ _ _ _ _ _ y => y), fun M i H x H' hi h dm y => ?_⟩, fun M1 H1 M2 H2 sm h => ⟨sqt_up sm h.1, h.2.up sm⟩⟩
  obtain ⟨q, x1, x2, rfl, hn, rfl, e1, e2⟩ := y
  cases e1
  obtain ⟨d, e3, e4⟩ := h.2.atv e2
  refine ⟨same_new hn, .tuple [.int (i : Nat), d], ?_, pair_new hn dm (.int _) e4⟩
  rw [enumD_get, e3]
  simp
theorem wk_rng {lo : Int} {n : Nat} : Wk T (Itr lo n) (rangeD lo n) (fun _ _ => True) := by
  have hl : (rangeD lo n).length = n := by unfold rangeD; rw [List.length_map, List.length_range]
  refine ⟨⟨_, (by rw [hl]; exact walk_range.mono (fun _ _ => trivial) fun _ _ _ _ _ _ y => y), fun M i H x H' hi h dm y => ?_⟩, fun _ _ _ _ _ _ => trivial⟩
  obtain ⟨rfl, rfl⟩ := y
  rw [hl] at hi
  refine ⟨Same.refl _, .int (lo + (i : Int)), ?_, .int _⟩
  unfold rangeD
  rw [List.getElem?_map, List.getElem?_range hi]
  rfl
theorem zipD_len (xs ys : List Dt) : (zipD xs ys).length = min xs.length ys.length := by unfold zipD; rw [List.length_map, List.length_zip]
theorem zipD_get {xs ys : List Dt} {i : Nat} {d e : Dt} (h1 : xs[i]? = some d) (h2 : ys[i]? = some e) : (zipD xs ys)[i]? = some (.tuple [d, e]) := by
  unfold zipD
  rw [List.getElem?_map, List.zip, List.getElem?_zipWith, h1, h2]
  rfl
theorem wk_zip {p q : Addr} {ds es : List Dt} {vs ws : List V} (hl : ds.length = vs.length) (hl2 : es.length = ws.length) : Wk T (Itz T.K p q) (zipD ds es) (fun M H => (cut M H p = some (.lst vs) ∧ Rps T.K (cut M H) ds vs) ∧ cut M H q = some (.lst ws) ∧ Rps T.K (cut M H) es ws) := by
  refine ⟨⟨_, (walk_zip (K := T.K) (a := p) (b := q) (xs := vs) (ys := ws) (by rw [zipD_len, hl, hl2])).mono (fun H ⟨M, h⟩ => ⟨.inl (.inl (cut_some h.1.1).2), .inl (.inl (cut_some h.2.1).2)⟩) fun _ _ _ _ _ _ y => y, fun M i H x H' hi h dm y => ?_⟩,
    fun M1 H1 M2 H2 sm h => ⟨⟨sm _ _ h.1.1, h.1.2.up sm⟩, sm _ _ h.2.1, h.2.2.up sm⟩⟩
  obtain ⟨t, x1, x2, rfl, hn, rfl, e1, e2⟩ := y
  obtain ⟨d, e3, e4⟩ := h.1.2.atv e1
  obtain ⟨e, e5, e6⟩ := h.2.2.atv e2
  exact ⟨same_new hn, .tuple [d, e], zipD_get e3 e5, pair_new hn dm e4 e6⟩
theorem walk_zipT {K : PySem.W.Frag} {p q : Addr} {xs ys : List V} {n : Nat} (hn : n = min xs.length ys.length) : Walk (RZ.ItzT K p q) n (fun H => SqT K H p xs ∧ SqT K H q ys) (YPair (fun i => xs[i]?) (fun i => ys[i]?)) := by
  subst hn
  refine ⟨fun i _ hi q => ?_, fun _ q => ⟨xs, ys, q.1, q.2, by omega⟩, fun i H v H' _ q y => ?_⟩
  · have h1 : i < xs.length := by omega
    have h2 : i < ys.length := by omega
    exact ⟨xs, ys, xs[i], ys[i], q.1, q.2, by simp [h1], by simp [h2]⟩
  · obtain ⟨T, x, z, h1, h2, h3, h4, h5⟩ := y
    exact ⟨T, x, z, h1, h2, h3, h4 xs q.1, h5 ys q.2⟩
theorem wk_zipT {p q : Addr} {ds es : List Dt} {vs ws : List V} (hl : ds.length = vs.length) (hl2 : es.length = ws.length) : Wk T (RZ.ItzT T.K p q) (zipD ds es) (fun M H => (SqT T.K (cut M H) p vs ∧ Rps T.K (cut M H) ds vs) ∧ SqT T.K (cut M H) q ws ∧ Rps T.K (cut M H) es ws) := by
  refine ⟨⟨_, (walk_zipT (K := T.K) (p := p) (q := q) (xs := vs) (ys := ws) (by rw [zipD_len, hl, hl2])).mono (fun H ⟨M, h⟩ => ⟨sqt_up cut_same h.1.1, sqt_up cut_same h.2.1⟩) fun _ _ _ _ _ _ y => y, fun M i H x H' hi h dm y => ?_⟩,
    fun M1 H1 M2 H2 sm h => ⟨⟨sqt_up sm h.1.1, h.1.2.up sm⟩, sqt_up sm h.2.1, h.2.2.up sm⟩⟩
  obtain ⟨t, x1, x2, rfl, hn, rfl, e1, e2⟩ := y
  obtain ⟨d, e3, e4⟩ := h.1.2.atv e1
  obtain ⟨e, e5, e6⟩ := h.2.2.atv e2
  exact ⟨same_new hn, .tuple [d, e], zipD_get e3 e5, pair_new hn dm e4 e6⟩

/-! the iterators -/
theorem sI_of (pa : PE X a' (tE (tpOf X) C a)) : PI X tg a' (tIF (tpOf X) C (.of a)) := by
  refine PI.mono (PI.or (pi_list pa) (PI.or (pi_tup pa) (pi_str pa))) fun σ H R q => ?_
  obtain ⟨M, G, ρ, S, xs, S', es, hp, k⟩ := q
  simp only [evIt, Option.bind_eq_some_iff, Option.map_eq_some_iff] at hp
  obtain ⟨⟨d, S1⟩, h1, ys, h2, e⟩ := hp
  cases e
  cases d <;> first | cases h2 | skip
  · rename_i z
    simp only [iterD] at h2
    split at h2
    · cases h2
      exact .inr (.inr ⟨M, G, ρ, S, _, _, es, h1, fun v H1 es1 st1 rv => by cases rv; exact ⟨z, rfl, k _ H1 _ es1 st1 wk_str trivial⟩⟩)
    · cases h2
  · refine .inl ⟨M, G, ρ, S, _, _, es, h1, fun v H1 es1 st1 rv => ?_⟩
    cases rv with
    | lst e r => exact ⟨_, rfl, ⟨_, .inl (.inl (cut_some e).2)⟩, k _ H1 _ es1 st1 (wk_list r.len) ⟨e, r⟩⟩
  · refine .inr (.inl ⟨M, G, ρ, S, _, _, es, h1, fun v H1 es1 st1 rv => ?_⟩)
    cases rv with
    | tup e r => exact ⟨_, rfl, ⟨_, sqt_up cut_same e⟩, k _ H1 _ es1 st1 (wk_tup r.len) ⟨e, r⟩⟩
theorem sI_enum (g : Cfg X c C) (ht : isTupE tg = true) (hf : isNm c "enumerate" f' = true) (hst : nstar a' = true) (pa : PE X a' (tE (tpOf X) C a)) : PI X tg (.Call f' [a'] [] pos) (tIF (tpOf X) C (.enum a)) := by
  obtain ⟨p, rfl, hg, hk⟩ := isNm_ok g hf
  cases tg <;> first | exact absurd ht Bool.false_ne_true | skip
  have hm := gb g (x := "enumerate") (by decide)
  refine PI.mono (PI.or (pi_enum hg hm (pa_1 hst pa) (star_no hst)) (pi_enumT hg hm (pa_1 hst pa) (star_no hst))) fun σ H R q => ?_
  obtain ⟨M, G, ρ, S, xs, S', es, hp, k⟩ := q
  simp only [evIt, Option.bind_eq_some_iff, Option.map_eq_some_iff] at hp
  obtain ⟨⟨d, S1⟩, h1, ys, h2, e⟩ := hp
  cases e
  cases d <;> first | cases h2 | skip
  · refine .inl ⟨M, G, ρ, S, _, _, es, h1, fun v H1 es1 st1 rv => ?_⟩
    cases rv with
    | lst e r => exact ⟨_, _, rfl, .inl (.inl (cut_some e).2), k _ H1 _ es1 st1 (wk_enum r.len) ⟨e, r⟩⟩
  · refine .inr ⟨M, G, ρ, S, _, _, es, h1, fun v H1 es1 st1 rv => ?_⟩
    cases rv with
    | tup e r => exact ⟨_, _, rfl, sqt_up cut_same e, k _ H1 _ es1 st1 (wk_enumT r.len) ⟨e, r⟩⟩
theorem rangeOk_ok {lo hi : Int} (h : rangeOk lo hi = true) : -(2 ^ 62) ≤ lo ∧ lo < 2 ^ 62 ∧ -(2 ^ 62) ≤ hi ∧ hi < 2 ^ 62 := by
  unfold rangeOk at h
  simp only [Bool.and_eq_true, decide_eq_true_eq] at h
  exact ⟨h.1.1.1.1, h.1.1.1.2, h.1.1.2, h.1.2⟩
theorem sI_rng (g : Cfg X c C) (hf : isNm c "range" f' = true) (hst : nstar a' = true) (pa : PE X a' (tE (tpOf X) C a)) : PI X tg (.Call f' [a'] [] pos) (tIF (tpOf X) C (.rng a)) := by
  obtain ⟨p, rfl, hg, hk⟩ := isNm_ok g hf
  refine PI.mono (pi_range1 hg (gb g (x := "range") (by decide)) (pa_1 hst pa) (star_no hst)) fun σ H R q => ?_
  obtain ⟨M, G, ρ, S, xs, S', es, hp, k⟩ := q
  simp only [evIt, Option.bind_eq_some_iff] at hp
  obtain ⟨⟨d, S1⟩, h1, h2⟩ := hp
  cases d <;> first | cases h2 | skip
  simp only at h2
  split at h2
  · rename_i hz
    cases h2
    refine ⟨M, G, ρ, S, _, _, es, h1, fun v H1 es1 st1 rv => ?_⟩
    cases rv
    obtain ⟨_, _, z3, z4⟩ := rangeOk_ok hz
    exact ⟨_, rfl, z3, z4, k _ H1 _ es1 st1 wk_rng trivial⟩
  · cases h2
theorem sI_rng2 (g : Cfg X c C) (hf : isNm c "range" f' = true) (hst : nstar a' = true) (hst2 : nstar b' = true) (pa : PE X a' (tE (tpOf X) C a)) (pb : PE X b' (tE (tpOf X) C b)) : PI X tg (.Call f' [a', b'] [] pos) (tIF (tpOf X) C (.rng2 a b)) := by
  obtain ⟨p, rfl, hg, hk⟩ := isNm_ok g hf
  have e2 : starEach [b'] X.env = [(false, eval b' X.env)] := star_no hst2
  refine PI.mono (pi_range2 hg (gb g (x := "range") (by decide)) (pa_cons pa (pa_1 hst2 pb) (star_no hst)) (by rw [star_no hst, e2]) e2) fun σ H R q => ?_
  obtain ⟨M, G, ρ, S, xs, S', es, hp, k⟩ := q
  simp only [evIt, Option.bind_eq_some_iff] at hp
  obtain ⟨⟨d, S1⟩, h1, ⟨d2, S2⟩, h2, h3⟩ := hp
  cases d <;> first | cases h3 | skip
  cases d2 <;> first | cases h3 | skip
  simp only at h3
  split at h3
  · rename_i hz
    cases h3
    refine ⟨M, G, ρ, S, _, _, es, h1, fun v H1 es1 st1 rv => ?_⟩
    cases rv
    refine ⟨M, G, ρ, S1, _, _, es1, h2, fun w H2 es2 st2 rw => ?_⟩
    cases rw
    exact ⟨_, _, rfl, rangeOk_ok hz, k _ H2 _ es2 (st1.trans st2) wk_rng trivial⟩
  · cases h3
theorem sI_zip (g : Cfg X c C) (ht : isTupE tg = true) (hf : isNm c "zip" f' = true) (hst : nstar a' = true) (hst2 : nstar b' = true) (pa : PE X a' (tE (tpOf X) C a)) (pb : PE X b' (tE (tpOf X) C b)) : PI X tg (.Call f' [a', b'] [] pos) (tIF (tpOf X) C (.zip a b)) := by
  obtain ⟨p, rfl, hg, hk⟩ := isNm_ok g hf
  cases tg <;> first | exact absurd ht Bool.false_ne_true | skip
  have hn : nost [b'] = true := by unfold nost; rw [Bool.and_eq_true]; exact ⟨hst2, rfl⟩
  refine PI.mono (RZ.pi_zipA hg (gb g (x := "zip") (by decide)) (pa_cons pa (pa_1 hst2 pb) (star_no hst)) (star_no hst) (nost_star hn)) fun σ H R q => ?_
  obtain ⟨M, G, ρ, S, xs, S', es, hp, k⟩ := q
  simp only [evIt, Option.bind_eq_some_iff] at hp
  obtain ⟨⟨d, S1⟩, h1, ⟨d2, S2⟩, h2, h3⟩ := hp
  cases d <;> first | cases h3 | skip
  · cases d2 <;> first | cases h3 | skip
    refine ⟨M, G, ρ, S, _, _, es, h1, fun v H1 es1 st1 rv => ⟨M, G, ρ, S1, _, _, es1, h2, fun w H2 es2 st2 rw => ?_⟩⟩
    cases rv with
    | lst e r =>
      cases rw with
      | lst e' r' =>
        have sm := st2.cut es1.gm
        exact ⟨_, _, _, _, rfl, .inl ⟨.inl (.inl (cut_some (sm _ _ e)).2), .inl (.inl (cut_some e').2), k _ H2 _ es2 (st1.trans st2) (wk_zip r.len r'.len) ⟨⟨sm _ _ e, r.up sm⟩, e', r'⟩⟩⟩
  · cases d2 <;> first | cases h3 | skip
    refine ⟨M, G, ρ, S, _, _, es, h1, fun v H1 es1 st1 rv => ⟨M, G, ρ, S1, _, _, es1, h2, fun w H2 es2 st2 rw => ?_⟩⟩
    cases rv with
    | tup e r =>
      cases rw with
      | tup e' r' =>
        have sm := st2.cut es1.gm
        exact ⟨_, _, _, _, rfl, .inr ⟨sqt_up cut_same (sqt_up sm e), sqt_up cut_same e', k _ H2 _ es2 (st1.trans st2) (wk_zipT r.len r'.len) ⟨⟨sqt_up sm e, r.up sm⟩, e', r'⟩⟩⟩
/-- a name's list as it stands -/
theorem sI_peek {i : Nat} {y : Str} (g : Cfg X c C) (h1 : c.at_ i y = true) (h2 : c.vis y = true) : PI X tg (.Name y pos) (tIC (tpOf X) C (.peek i)) := by
  obtain ⟨q1, q2⟩ := Ch.at_ok g h1
  obtain ⟨q3, q4⟩ := okN_ok q2
  have pv : PE X (.Name y pos) (tVar i) := pe_var q1 (Ch.vis_ok g h2) q3 q4
  refine PI.mono (PI.or (pi_list pv) (pi_tup pv)) fun σ H R q => ?_
  obtain ⟨M, G, ρ, S, xs, S', es, hp, k⟩ := q
  simp only [evIt, Option.bind_eq_some_iff, Option.map_eq_some_iff] at hp
  obtain ⟨d, h3, ys, h4, e⟩ := hp
  cases e
  unfold peek at h3
  split at h3
  · rename_i d' e
    cases h3
    obtain ⟨v, r1, r2⟩ := es.env i _ e
    cases d <;> first | cases h4 | skip
    · cases r2 with
      | lst e r => exact .inl ⟨_, r1, _, rfl, ⟨_, .inl (.inl (cut_some e).2)⟩, k _ H _ es Stp.refl (Wk.toC (wk_list r.len)) ⟨e, r⟩⟩
    · cases r2 with
      | tup e r => exact .inr ⟨_, r1, _, rfl, ⟨_, sqt_up cut_same e⟩, k _ H _ es Stp.refl (Wk.toC (wk_tup r.len)) ⟨e, r⟩⟩
  · rename_i ds e
    cases h3
    cases h4
    obtain ⟨p, vs, r1, r2, r3, r4, r5⟩ := es.env i _ e
    refine .inl ⟨_, r1, _, rfl, ⟨_, .inl (.inl r4)⟩, k (Itl X.K p) H (fun M H => H p = some (.lst vs) ∧ Rps X.K (cut M H) _ vs) es Stp.refl ?_ ⟨r4, r5⟩⟩
    refine ⟨⟨YAt vs, ?_, fun M i H x H' hi h dm y => ?_⟩, fun H q o hn h => ⟨by rw [upd_ne (ne_of_none h.1 hn)]; exact h.1, h.2.up (cut_fresh hn)⟩, fun H1 H2 q nq gm st h => ⟨st _ _ (by
      simp only [List.mem_cons, not_or]
      exact ⟨fun z => nq (by rw [← z]; exact r2), r3⟩) h.1, h.2.up (cut_D0 st gm)⟩⟩
    · rw [r5.len]
      exact (walk_list (K := X.K) (a := p) (xs := vs)).mono (fun H ⟨_, h⟩ => .inl (.inl h.1)) fun _ _ _ _ _ _ y => y
    · obtain ⟨rfl, e⟩ := y
      obtain ⟨d, e1, e2⟩ := h.2.atv e
      exact ⟨Same.refl _, d, e1, e2⟩
  · cases h3
end
end Fw

set_option autoImplicit false
set_option linter.all false
set_option maxRecDepth 100000
set_option maxHeartbeats 4000000
/-! a comprehension's state -/
namespace Fw
open PySem PySem.Spec PyProof.Rows L2

def isOwn : Slot → Bool
  | .own _ => true
  | .ownd _ => true
  | _ => false
/-- the state while a list is built at D -/
structure EstD (T : Tp) (D : Addr) (M G : List Addr) (ρ : Rho) (S : Sto) (σ : L2.St) (H : Hp) : Prop where
  es : Est T (D :: M) G ρ S σ H
  ap : ∀ (i : Nat) s, ρ[i]? = some s → isOwn s = true → σ[i]? ≠ some (some (.ref D))
  dg : D ∉ G
section
variable {T : Tp} {D : Addr} {M M' G : List Addr} {ρ : Rho} {S S' : Sto} {σ : L2.St} {H H' H1 : Hp}
theorem TabR.sub {a : Addr} {kvs : List (NestedKey × Dt)} (h : ∀ x ∈ M, x ∈ M') (r : TabR T M' H a kvs) : TabR T M H a kvs := by
  obtain ⟨xs, h1, p⟩ := r
  exact ⟨xs, h1, L2.Paired.mapP p fun _ _ ⟨h1, h2, h3, h4, h5⟩ => ⟨h1, h2, h3, h4.up (cut_sub h), h5.up (cut_sub h)⟩⟩
theorem ObR.sub {a : Addr} {ob : Ob} (h : ∀ x ∈ M, x ∈ M') (r : ObR T M' H a ob) : ObR T M H a ob := by
  cases ob with
  | lst ds => obtain ⟨vs, h1, h2⟩ := r; exact ⟨vs, h1, h2.up (cut_sub h)⟩
  | dct kvs => exact TabR.sub h r
theorem StoR.sub (h : ∀ x ∈ M, x ∈ M') (s : StoR T M' G S H) : StoR T M G S H := ⟨s.len, s.nd, fun k ob e => let ⟨a, h1, h2⟩ := s.at_ k ob e; ⟨a, h1, h2.sub h⟩⟩
/-- a change at D alone, with new things -/
theorem cut_D (st : Stp (D :: G) H H') (gm : ∀ a ∈ G, a ∈ M) : Same (cut (D :: M) H) (cut (D :: M) H') := cut_step fun a o n e => st a o (fun z => n (by
  rcases List.mem_cons.mp z with z | z
  · rw [z]; exact List.mem_cons_self
  · exact List.mem_cons_of_mem _ (gm a z))) e
theorem Stp.consD (st : Stp G H H') : Stp (D :: G) H H' := fun a o n e => st a o (fun z => n (List.mem_cons_of_mem _ z)) e
theorem SlotR.stepD {s : Slot} {o : Option (Option V)} (gm : ∀ a ∈ G, a ∈ M) (st : Stp (D :: G) H H') (ap : isOwn s = true → o ≠ some (some (.ref D))) (r : SlotR T (D :: M) G H s o) : SlotR T (D :: M) G H' s o := by
  have e := cut_D st gm
  cases s with
  | un => trivial
  | val d => obtain ⟨v, h1, h2⟩ := r; exact ⟨v, h1, h2.up e⟩
  | own ds =>
    obtain ⟨a, vs, h1, h2, h3, h4, h5⟩ := r
    have ne : a ≠ D := fun z => ap rfl (by rw [h1, z])
    exact ⟨a, vs, h1, h2, h3, st a _ (by simp only [List.mem_cons, not_or]; exact ⟨ne, h3⟩) h4, h5.up e⟩
  | ownd kvs =>
    obtain ⟨a, h1, h2, h3, h4⟩ := r
    have ne : a ≠ D := fun z => ap rfl (by rw [h1, z])
    exact ⟨a, h1, h2, h3, h4.step e fun o q => st a o (by simp only [List.mem_cons, not_or]; exact ⟨ne, h3⟩) q⟩
  | ref k => exact r
  | scr ns => obtain ⟨a, h1, h2⟩ := r; exact ⟨a, h1, sql_up e h2⟩
theorem Est.gmD (e : Est T M G ρ S σ H) : ∀ a ∈ G, a ∈ D :: M := fun a h => List.mem_cons_of_mem _ (e.gm a h)
theorem EstD.step (gm : ∀ a ∈ G, a ∈ M) (e : EstD T D M G ρ S σ H) (st : Stp (D :: G) H H') (so : StoR T (D :: M) G S' H') (hD : H' D ≠ none) : EstD T D M G ρ S' σ H' := by
  refine ⟨⟨fun i x h => (e.es.env i x h).stepD gm st (e.ap i x h), e.es.len, so, e.es.gm, fun a ha => ?_⟩, e.ap, e.dg⟩
  rcases List.mem_cons.mp ha with z | z
  · rw [z]; exact hD
  · by_cases hd : a ∈ D :: G
    · rcases List.mem_cons.mp hd with z2 | z2
      · rw [z2]; exact hD
      · exact so.dom a z2
    · cases q : H a with
      | none => exact absurd q (e.es.dom a ha)
      | some o => rw [st a o hd q]; exact fun z => nomatch z
/-- at the start -/
theorem EstD.start (e : Est T M G ρ S σ H) (hD : H D = none) : EstD T D M G ρ S σ (upd H D (.lst [])) := by
  have nm : D ∉ M := fun z => e.dom D z hD
  have sm : Same (cut M H) (cut (D :: M) (upd H D (.lst []))) := fun a o h => by
    obtain ⟨n, h⟩ := cut_some h
    have ne : a ≠ D := ne_of_none h hD
    rw [cut_out (by simp only [List.mem_cons, not_or]; exact ⟨ne, n⟩), upd_ne ne]
    exact h
  have keep : ∀ a o, H a = some o → upd H D (.lst []) a = some o := fun a o h => same_new hD a o h
  refine ⟨⟨fun i s h => ?_, e.len, ⟨e.sto.len, e.sto.nd, fun k ob h => ?_⟩, e.gmD, fun a ha => ?_⟩, fun i s h ho z => ?_, fun z => nm (e.gm D z)⟩
  · have r := e.env i s h
    cases s with
    | un => trivial
    | val d => obtain ⟨v, h1, h2⟩ := r; exact ⟨v, h1, h2.up sm⟩
    | own ds => obtain ⟨a, vs, h1, h2, h3, h4, h5⟩ := r; exact ⟨a, vs, h1, List.mem_cons_of_mem _ h2, h3, keep _ _ h4, h5.up sm⟩
    | ownd kvs =>
      obtain ⟨a, h1, h2, h3, xs, h4, p⟩ := r
      exact ⟨a, h1, List.mem_cons_of_mem _ h2, h3, xs, keep _ _ h4, L2.Paired.mapP p fun _ _ ⟨h1, h2, h3, h4, h5⟩ => ⟨h1, h2, h3, h4.up sm, h5.up sm⟩⟩
    | ref k => exact r
    | scr ns => obtain ⟨a, h1, h2⟩ := r; exact ⟨a, h1, sql_up sm h2⟩
  · obtain ⟨a, h1, h2⟩ := e.sto.at_ k ob h
    refine ⟨a, h1, ?_⟩
    cases ob with
    | lst ds => obtain ⟨vs, h3, h4⟩ := h2; exact ⟨vs, keep _ _ h3, h4.up sm⟩
    | dct kvs =>
      obtain ⟨xs, h4, p⟩ := h2
      exact ⟨xs, keep _ _ h4, L2.Paired.mapP p fun _ _ ⟨h1, h2, h3, h4, h5⟩ => ⟨h1, h2, h3, h4.up sm, h5.up sm⟩⟩
  · rcases List.mem_cons.mp ha with z | z
    · rw [z, upd_same]; exact fun z => nomatch z
    · cases q : H a with
      | none => exact absurd q (e.dom a z)
      | some o => rw [keep a o q]; exact fun z => nomatch z
  · have r := e.env i s h
    cases s with
    | own ds => obtain ⟨a, vs, h1, h2, h3, h4, h5⟩ := r; rw [h1] at z; cases z; rw [hD] at h4; cases h4
    | ownd kvs => obtain ⟨a, h1, h2, h3, xs, h4, p⟩ := r; rw [h1] at z; cases z; rw [hD] at h4; cases h4
    | _ => cases ho

/-! slots put and forgotten -/
theorem Est.put {i : Nat} {d : Dt} {v : V} (e : Est T M G ρ S σ H) (r : Rp T.K (cut M H) d v) : Est T M G (ρ.set i (.val d)) S (σ.set i (some v)) H := by
  refine ⟨fun j s h => ?_, by rw [List.length_set, List.length_set]; exact e.len, e.sto, e.gm, e.dom⟩
  by_cases hj : i = j
  · subst hj
    by_cases hl : i < ρ.length
    · rw [List.getElem?_set_self hl] at h
      cases h
      exact ⟨v, List.getElem?_set_self (by rw [← e.len]; exact hl), r⟩
    · rw [List.getElem?_eq_none (by rw [List.length_set]; omega)] at h
      cases h
  · rw [List.getElem?_set_ne hj] at h
    rw [List.getElem?_set_ne hj]
    exact e.env j s h
theorem Est.forget {i : Nat} (e : Est T M G ρ S σ H) : Est T M G (ρ.set i .un) S (σ.set i none) H := by
  refine ⟨fun j s h => ?_, by rw [List.length_set, List.length_set]; exact e.len, e.sto, e.gm, e.dom⟩
  by_cases hj : i = j
  · subst hj
    by_cases hl : i < ρ.length
    · rw [List.getElem?_set_self hl] at h
      cases h
      trivial
    · rw [List.getElem?_eq_none (by rw [List.length_set]; omega)] at h
      cases h
  · rw [List.getElem?_set_ne hj] at h
    rw [List.getElem?_set_ne hj]
    exact e.env j s h
theorem Est.wipe (e : Est T M G ρ S σ H) : ∀ vs : List Nat, Est T M G (wipeR ρ vs) S (wipe σ vs) H
  | [] => e
  | v :: vs => (Est.wipe e vs).forget
theorem EstD.put {i : Nat} {d : Dt} {v : V} (e : EstD T D M G ρ S σ H) (r : Rp T.K (cut (D :: M) H) d v) : EstD T D M G (ρ.set i (.val d)) S (σ.set i (some v)) H := by
  refine ⟨e.es.put r, fun j s h ho => ?_, e.dg⟩
  by_cases hj : i = j
  · subst hj
    by_cases hl : i < ρ.length
    · rw [List.getElem?_set_self hl] at h
      cases h
      cases ho
    · rw [List.getElem?_eq_none (by rw [List.length_set]; omega)] at h
      cases h
  · rw [List.getElem?_set_ne hj] at h
    rw [List.getElem?_set_ne hj]
    exact e.ap j s h ho
theorem EstD.forget {i : Nat} (e : EstD T D M G ρ S σ H) : EstD T D M G (ρ.set i .un) S (σ.set i none) H := by
  refine ⟨e.es.forget, fun j s h ho => ?_, e.dg⟩
  by_cases hj : i = j
  · subst hj
    by_cases hl : i < ρ.length
    · rw [List.getElem?_set_self hl] at h
      cases h
      cases ho
    · rw [List.getElem?_eq_none (by rw [List.length_set]; omega)] at h
      cases h
  · rw [List.getElem?_set_ne hj] at h
    rw [List.getElem?_set_ne hj]
    exact e.ap j s h ho
theorem EstD.wipe (e : EstD T D M G ρ S σ H) : ∀ vs : List Nat, EstD T D M G (wipeR ρ vs) S (L2.wipe σ vs) H
  | [] => e
  | v :: vs => (EstD.wipe e vs).forget
theorem wipe_get {σ : L2.St} {i : Nat} : ∀ {vs : List Nat}, i ∈ vs → i < σ.length → (wipe σ vs)[i]? = some none
  | v :: vs, h, hl => by
    unfold L2.wipe
    by_cases hi : v = i
    · subst hi
      rw [List.getElem?_set_self (by rw [wipe_length]; exact hl)]
    · rw [List.getElem?_set_ne hi]
      rcases List.mem_cons.mp h with z | z
      · exact absurd z.symm hi
      · exact wipe_get z hl
theorem wipe_eq {σ σ' : L2.St} {vs : List Nat} (hl : σ.length = σ'.length) (h : ∀ i, i ∉ vs → σ[i]? = σ'[i]?) : wipe σ vs = wipe σ' vs := by
  refine List.ext_getElem? fun i => ?_
  by_cases hi : i ∈ vs
  · by_cases hb : i < σ.length
    · rw [wipe_get hi hb, wipe_get hi (by rw [← hl]; exact hb)]
    · rw [List.getElem?_eq_none (by rw [wipe_length]; omega), List.getElem?_eq_none (by rw [wipe_length]; omega)]
  · rw [wipe_out hi, wipe_out hi, h i hi]

/-! targets -/
def tgG (K : PySem.W.Frag) : Tg → TG
  | .one i => gName i
  | .two i j => gTup K 2 (gCons (gName i) (gCons (gName j) gNil))
  | .three i j k => gTup K 3 (gCons (gName i) (gCons (gName j) (gCons (gName k) gNil)))
theorem sg_tg {X : Cx} {c : Ch} {C : Cl} {t : Tg} {tg : Expr} (g : Cfg X c C) (h : chTg c t tg = true) : PG X tg (tgG X.K t) := by
  have hN : X.N.Nodup := by rw [g.N]; exact g.nd
  have nm : ∀ {i : Nat} {x : Str} {p : Pos}, c.at_ i x = true → c.loc x = true → PG X (.Name x p) (gName i) := fun h1 h2 => pg_name hN (Ch.at_ok g h1).1 (Ch.loc_ok g h2).1 (Ch.loc_ok g h2).2
  cases t with
  | one i =>
    unfold chTg at h
    split at h <;> first | cases h | skip
    · rename_i i' x p e
      cases e
      rw [Bool.and_eq_true] at h
      exact nm h.1 h.2
    · rename_i e; cases e
    · rename_i e; cases e
  | two i j =>
    unfold chTg at h
    split at h <;> first | cases h | skip
    · rename_i e; cases e
    · rename_i i' j' x p y p2 n p3 e
      cases e
      simp only [Bool.and_eq_true, decide_eq_true_eq] at h
      exact pg_tup g.calm (pgs_cons (nm h.1.1.1.1 h.1.1.1.2) (pgs_cons (nm h.1.1.2 h.1.2) pgs_nil))
    · rename_i e; cases e
  | three i j k =>
    unfold chTg at h
    split at h <;> first | cases h | skip
    · rename_i e; cases e
    · rename_i e; cases e
    · rename_i i' j' k' x p y p2 z p3 n p4 e
      cases e
      simp only [Bool.and_eq_true, decide_eq_true_eq] at h
      exact pg_tup g.calm (pgs_cons (nm h.1.1.1.1.1.1 h.1.1.1.1.1.2) (pgs_cons (nm h.1.1.1.1.2 h.1.1.1.2) (pgs_cons (nm h.1.1.2 h.1.2) pgs_nil)))
/-- what the slots hold then -/
theorem bnd_read {t : Tg} {d : Dt} {x : V} {ρ1 : Rho} {Q : L2.St → Hp → Prop} {P : Rho → L2.St → Prop} (r : Rp T.K (cut M H) d x) (hb : bnd t d ρ = some ρ1) (p0 : P ρ σ) (pp : ∀ ρ σ i d v, P ρ σ → Rp T.K (cut M H) d v → P (ρ.set i (.val d)) (σ.set i (some v)))
    (k : ∀ σ1, P ρ1 σ1 → σ1.length = σ.length → (∀ i, i ∉ t.slots → σ1[i]? = σ[i]?) → Q σ1 H) : tgG T.K t x σ H Q := by
  have sn : ∀ {σ : L2.St} {i j : Nat} {v : Option V}, ¬ j = i → (σ.set i v)[j]? = σ[j]? := fun h => List.getElem?_set_ne fun e => h e.symm
  cases t with
  | one i =>
    simp only [bnd] at hb
    cases hb
    exact k _ (pp _ _ _ _ _ p0 r) (List.length_set ..) fun j hj => sn (by simpa [Tg.slots] using hj)
  | two i j =>
    simp only [bnd] at hb
    split at hb
    · rename_i a b
      cases hb
      cases r with
      | tup e ra =>
        cases ra with
        | cons r1 ra =>
          cases ra with
          | cons r2 ra =>
            cases ra
            refine ⟨_, _, rfl, sqt_up cut_same e, rfl, _, _, rfl, _, _, rfl, rfl, ?_⟩
            refine k _ (pp _ _ _ _ _ (pp _ _ _ _ _ p0 r1) r2) (by rw [List.length_set, List.length_set]) fun m hm => ?_
            simp only [Tg.slots, List.mem_cons, List.not_mem_nil, or_false, not_or] at hm
            rw [sn hm.2, sn hm.1]
    · cases hb
  | three i j l =>
    simp only [bnd] at hb
    split at hb
    · rename_i a b c
      cases hb
      cases r with
      | tup e ra =>
        cases ra with
        | cons r1 ra =>
          cases ra with
          | cons r2 ra =>
            cases ra with
            | cons r3 ra =>
              cases ra
              refine ⟨_, _, rfl, sqt_up cut_same e, rfl, _, _, rfl, _, _, rfl, _, _, rfl, rfl, ?_⟩
              refine k _ (pp _ _ _ _ _ (pp _ _ _ _ _ (pp _ _ _ _ _ p0 r1) r2) r3) (by rw [List.length_set, List.length_set, List.length_set]) fun m hm => ?_
              simp only [Tg.slots, List.mem_cons, List.not_mem_nil, or_false, not_or] at hm
              rw [sn hm.2.2, sn hm.2.1, sn hm.1]
    · cases hb
end
end Fw

set_option autoImplicit false
set_option linter.all false
set_option maxRecDepth 100000
set_option maxHeartbeats 4000000
/-! comprehensions -/
namespace Fw
open PySem PySem.Spec PyProof.Rows L2

theorem gather_next {f : Dt → Sto → Option (List Dt × Sto)} {xs : List Dt} {i : Nat} {d : Dt} {S S' : Sto} {rest : List Dt} (h : gather f (xs.drop i) S = some (rest, S')) (hx : xs[i]? = some d) :
    ∃ q S1 rest', f d S = some (q, S1) ∧ gather f (xs.drop (i + 1)) S1 = some (rest', S') ∧ rest = q ++ rest' := by
  have e : xs.drop i = d :: xs.drop (i + 1) := by
    obtain ⟨hl, hd⟩ := List.getElem?_eq_some_iff.mp hx
    rw [List.drop_eq_getElem_cons hl, hd]
  rw [e, gather, Option.bind_eq_some_iff] at h
  obtain ⟨⟨q, S1⟩, h1, h2⟩ := h
  rw [Option.map_eq_some_iff] at h2
  obtain ⟨⟨r, S2⟩, h3, e2⟩ := h2
  cases e2
  exact ⟨q, S1, r, h1, h3, rfl⟩
theorem gather_end {f : Dt → Sto → Option (List Dt × Sto)} {xs : List Dt} {S S' : Sto} {rest : List Dt} (h : gather f (xs.drop xs.length) S = some (rest, S')) : rest = [] ∧ S = S' := by
  rw [List.drop_length, gather] at h
  cases h
  exact ⟨rfl, rfl⟩
/-- a test's reading -/
def tTs (T : Tp) (C : Cl) (o : Oe) : TT := fun σ H Q => ∃ M G ρ S b S', Est T M G ρ S σ H ∧ evTest C o ρ S = some (b, S') ∧ ∀ H', Est T M G ρ S' σ H' → Stp G H H' → Q b H'
theorem sts_no {X : Cx} {C : Cl} : PTs X [] (tTs (tpOf X) C .no) := ⟨fun pins s σ H Q I q => pts_nil.run pins s σ H Q I (by
  obtain ⟨M, G, ρ, S, b, S', es, hp, k⟩ := q
  simp only [evTest] at hp
  cases hp
  exact k H es Stp.refl)⟩
theorem sts_yes {X : Cx} {C : Cl} {e : E} {x : Expr} (p : PT X x (tT (tpOf X) C e)) : PTs X [x] (tTs (tpOf X) C (.yes e)) := ⟨fun pins s σ H Q I q => (pts_one p).run pins s σ H Q I q⟩

section
variable {T : Tp} {D : Addr} {M G : List Addr} {ρ ρ1 : Rho} {S S1 S2 S' : Sto} {σ σ1 : L2.St} {H H' H1 H2 : Hp} {C : Cl}
/-- the list so far -/
def Acc (T : Tp) (D : Addr) (M : List Addr) (H : Hp) (accd : List Dt) : Prop := ∃ acc, H D = some (.lst acc) ∧ Rps T.K (cut (D :: M) H) accd acc
theorem Acc.some {accd : List Dt} (a : Acc T D M H accd) : H D ≠ none := by obtain ⟨acc, h, _⟩ := a; rw [h]; exact fun z => nomatch z
theorem Acc.step {accd : List Dt} (gm : ∀ a ∈ G, a ∈ M) (dg : D ∉ G) (st : Stp G H H') (a : Acc T D M H accd) : Acc T D M H' accd := by
  obtain ⟨acc, h, r⟩ := a
  exact ⟨acc, st _ _ dg h, r.up (cut_D0 st.consD gm)⟩
theorem Stp.dropD (hn : H D = none) (st : Stp (D :: G) H H') : Stp G H H' := fun a o n h => st a o (by
  simp only [List.mem_cons, not_or]
  exact ⟨ne_of_none h hn, n⟩) h
/-- an item is appended -/
theorem app_D {accd : List Dt} {d : Dt} {y : V} (gm : ∀ a ∈ G, a ∈ M) (dg : D ∉ G) (so : StoR T (D :: M) G S H) (a : Acc T D M H accd) (r : Rp T.K (cut (D :: M) H) d y) :
    ∃ acc, H D = some (.lst acc) ∧ acc.length = accd.length ∧ Stp (D :: G) H (upd H D (.lst (acc ++ [y]))) ∧ StoR T (D :: M) G S (upd H D (.lst (acc ++ [y]))) ∧ Acc T D M (upd H D (.lst (acc ++ [y]))) (accd ++ [d]) := by
  obtain ⟨acc, h, ra⟩ := a
  have st : Stp (D :: G) H (upd H D (.lst (acc ++ [y]))) := fun b o n e => by rw [upd_ne (fun z => n (by rw [z]; exact List.mem_cons_self))]; exact e
  have sm := cut_D0 st gm
  refine ⟨acc, h, ra.len.symm, st, ⟨so.len, so.nd, fun k ob e => ?_⟩, ⟨_, upd_same, (ra.app (.one r)).up sm⟩⟩
  obtain ⟨b, h1, h2⟩ := so.at_ k ob e
  have hb : b ∈ G := List.mem_of_getElem? h1
  have ne : b ≠ D := fun z => dg (by rw [← z]; exact hb)
  exact ⟨b, h1, h2.step sm fun o q => by rw [upd_ne ne]; exact q⟩
theorem Stp.thenD (hn : H D = none) (a : Stp G H H1) (b : Stp (D :: G) H1 H2) : Stp G H H2 := fun x o n h => b x o (by
  simp only [List.mem_cons, not_or]
  exact ⟨ne_of_none h hn, n⟩) (a x o n h)
/-- a test and an item -/
def bodyD (C : Cl) (el : E) (cs : Oe) (ρ1 : Rho) (S : Sto) : Option (List Dt × Sto) := (evTest C cs ρ1 S).bind fun k => if k.1 = true then (ev C el ρ1 k.2).map fun r => ([r.1], r.2) else some ([], k.2)
theorem body_read {el : E} {cs : Oe} {accd q : List Dt} {N : Hp → Prop} (gm : ∀ a ∈ G, a ∈ M) (e : EstD T D M G ρ1 S σ1 H) (a : Acc T D M H accd) (h : bodyD C el cs ρ1 S = some (q, S1)) (hz : (accd ++ q).length ≤ sizeLine)
    (hN : ∀ H', StoR T (D :: M) G S1 H' → Stp (D :: G) H H' → Acc T D M H' (accd ++ q) → N H') :
    tTs T C cs σ1 H fun b H3 => if b = true then tE T C el σ1 H3 fun y H4 => ∃ acc, H4 D = some (.lst acc) ∧ acc.length < sizeLine ∧ N (upd H4 D (.lst (acc ++ [y]))) else N H3 := by
  unfold bodyD at h
  rw [Option.bind_eq_some_iff] at h
  obtain ⟨⟨b, S2⟩, h1, h2⟩ := h
  refine ⟨D :: M, G, ρ1, S, b, S2, e.es, h1, fun H3 es3 st3 => ?_⟩
  cases b with
  | true =>
    rw [if_pos rfl, Option.map_eq_some_iff] at h2
    rw [if_pos rfl]
    obtain ⟨⟨d, S3⟩, h3, e2⟩ := h2
    cases e2
    refine ⟨D :: M, G, ρ1, S2, d, S3, es3, h3, fun y H4 es4 st4 ry => ?_⟩
    obtain ⟨acc, k1, k2, k3, k4, k5⟩ := app_D gm e.dg es4.sto (a.step gm e.dg (st3.trans st4)) ry
    refine ⟨acc, k1, ?_, hN _ k4 ((st3.trans st4).consD.trans k3) k5⟩
    rw [List.length_append] at hz
    have : ([(d, S3).fst] : List Dt).length = 1 := rfl
    omega
  | false =>
    rw [if_neg Bool.false_ne_true] at h2 ⊢
    cases h2
    refine hN H3 es3.sto st3.consD ?_
    rw [List.append_nil]
    exact a.step gm e.dg st3
end
section
variable {X : Cx} {c : Ch} {C : Cl} {el : E} {el' : Expr} {pos : Pos}
theorem own_snd {as : List Str} {bs : List Nat} (h : as.length = bs.length) : (as.zip bs).map (·.2) = bs := List.map_snd_zip (Nat.le_of_eq h.symm)
theorem blk_ok {scope : Scope} {own : List (Str × Nat)} (g : Cfg X c C) (h : blkB c scope own = true) : BlkOk X.N X.env.scope scope own := by
  unfold blkB at h
  simp only [Bool.and_eq_true, List.all_eq_true, decide_eq_true_eq] at h
  obtain ⟨⟨⟨⟨h1, h2⟩, h3⟩, h4⟩, h5⟩ := h
  refine ⟨h1, h2, fun p hp => (Ch.at_ok g (h3 p hp)).1, fun y hy e => ?_, fun y hy e => ?_⟩
  · have q := h4 y hy
    rw [g.sc]
    rw [Bool.or_eq_true] at q
    rcases q with q | q
    · simp [e] at q
    · split at q
      · rename_i z; exact .inl z
      · rename_i z; exact .inr z
      · cases q
  · have q := h5 y hy
    rw [Bool.or_eq_true, Bool.or_eq_true] at q
    rcases q with (q | q) | q
    · rcases e with e | e <;> simp [e] at q
    · obtain ⟨p, hp, e2⟩ := List.any_eq_true.mp q
      exact .inl (List.mem_map.mpr ⟨p, hp, eqS_ok e2⟩)
    · refine .inr fun z => ?_
      rw [g.N] at z
      have q2 : (c.N.any fun z => eqS z y.1) = true := List.any_eq_true.mpr ⟨y.1, z, by unfold eqS; simp⟩
      rw [q2] at q
      cases q
theorem Cfg.blk {scope : Scope} (g : Cfg X c C) (hk : scope.kind = .function) (s : Shared) (H : Hp) (L : Addr) (cl : List (Str × Addr)) (fp : List Addr) : Cfg (X.blk s H scope (compEnvC scope cl L X.env) fp) (c.blk scope) C where
  N := g.N
  sc := by
    show relS scope X.env.scope = relS scope c.sc
    rw [g.sc]
  fn := rfl
  calm := g.calm
  kind := hk
  nd := g.nd
  room := g.room
  blt := g.blt
  gls := g.gls
  fns := g.fns
theorem noSet_fold {x : Expr} {env : Env} (h : noSet x = true) : ∀ v, foldedSetIterable x env v = pure v := by
  intro v
  cases x <;> first | rfl | exact absurd h Bool.false_ne_true
theorem comp_read {t : Tg} {it : It} {cs : Oe} {σ : L2.St} {H : Hp} {Q : VK} (q : tE (tpOf X) C (.comp el t it cs) σ H Q) : tLc (tIC (tpOf X) C it) (tgG X.K t) (tTs (tpOf X) C cs) (tE (tpOf X) C el) t.slots σ H Q := by
  obtain ⟨M, G, ρ, S, d, S', es, hp, k⟩ := q
  simp only [ev, Option.bind_eq_some_iff] at hp
  obtain ⟨⟨xs, S1⟩, h1, ⟨total, S2⟩, h2, h3⟩ := hp
  split at h3
  · rename_i hz
    cases h3
    refine ⟨M, G, ρ, S, xs, S1, es, h1, fun J H1 Gd es1 st1 w hG D hD => ?_⟩
    obtain ⟨Y, w1, w2⟩ := w.ex
    have nm : D ∉ M := es1.out hD
    have gm := es1.gm
    have hz := fits_le hz
    refine lc_it w1 (fun i H => ∃ Si rest accd, gather (fun x S1 => (bnd t x (wipeR ρ t.slots)).bind fun ρ1 => bodyD C el cs ρ1 S1) (xs.drop i) Si = some (rest, S2) ∧ accd ++ rest = total ∧ EstD (tpOf X) D M G ρ Si σ H ∧ Acc (tpOf X) D M H accd ∧ Stp G H1 H ∧ Gd (D :: M) H)
      ⟨S1, total, [], h2, rfl, EstD.start es1 hD, ⟨[], upd_same, .nil⟩, Stp.new hD, w.start _ _ _ hD hG⟩ (fun i H _ ⟨_, _, _, _, _, _, _, _, h⟩ => ⟨_, h⟩) (fun i x Hi H' hi ⟨Si, rest, accd, g1, g2, g3, g4, g5, g6⟩ hy => ?_) fun Hn ⟨Si, rest, accd, g1, g2, g3, g4, g5, g6⟩ => ?_
    · obtain ⟨sm, dx, e1, rx⟩ := w2 _ i Hi x H' hi g6 g3.es.dom hy
      obtain ⟨q, S3, rest', e2, e3, e4⟩ := gather_next g1 e1
      rw [Option.bind_eq_some_iff] at e2
      obtain ⟨ρ1, e5, e6⟩ := e2
      have stD : Stp (D :: G) Hi H' := (Same.stp sm).consD
      have aD : Acc (tpOf X) D M H' accd := g4.step gm g3.dg (Same.stp sm)
      have f1 : EstD (tpOf X) D M G ρ Si σ H' := g3.step gm stD (g3.es.sto.keep sm) aD.some
      refine bnd_read (T := tpOf X) (M := D :: M) (P := fun ρ σ => EstD (tpOf X) D M G ρ Si σ H') rx e5 (f1.wipe t.slots) (fun _ _ _ _ _ p r => p.put r) fun σ1 f2 hl ho => ⟨wipe_eq (by rw [hl, wipe_length]) fun j hj => by rw [ho j hj, wipe_out hj], ?_⟩
      subst e4
      refine body_read gm f2 aD e6 ?_ fun Hn so stn an => ?_
      · refine Nat.le_trans ?_ hz
        rw [← g2, List.length_append, List.length_append, List.length_append]
        omega
      · refine ⟨S3, rest', accd ++ q, e3, by rw [List.append_assoc]; exact g2, f1.step gm stn so an.some, an, (g5.thenD hD stD).thenD hD stn, w.stab _ _ _ nm gm stn (w.stab _ _ _ nm gm stD g6)⟩
    · obtain ⟨e1, e2⟩ := gather_end g1
      subst e1 e2
      rw [List.append_nil] at g2
      subst g2
      obtain ⟨acc, k1, k2⟩ := g4
      refine k _ Hn (es1.step g5 (g3.es.sto.sub fun x hx => List.mem_cons_of_mem _ hx)) (st1.trans g5) ?_
      exact .lst (by rw [cut_out nm]; exact k1) (k2.up (cut_sub fun x hx => List.mem_cons_of_mem _ hx))
  · cases h3
theorem se_comp {t : Tg} {it : It} {cs : Oe} {tg iter : Expr} {ifs : List Expr} {scope : Scope} (g : Cfg X c C) (hs : noSet iter = true) (hb : blkB c scope ((tgN tg).zip t.slots) = true) (hl : (tgN tg).length = t.slots.length) (hg : chTg (c.blk scope) t tg = true)
    (pi : PI X tg iter (tIC (tpOf X) C it)) (pc : ∀ X', Cfg X' (c.blk scope) C → PTs X' ifs (tTs (tpOf X') C cs)) (pe : ∀ X', Cfg X' (c.blk scope) C → PE X' el' (tE (tpOf X') C el)) :
    PE X (.ListComp el' [⟨tg, iter, ifs, 0⟩] scope pos) (tE (tpOf X) C (.comp el t it cs)) := by
  have hN : X.N.Nodup := by rw [g.N]; exact g.nd
  have q := pe_lc (pos := pos) (elt := el') (tt := tTs (tpOf X) C cs) (te := tE (tpOf X) C el) (g := tgG X.K t) g.calm hN pi (blk_ok g hb) (fun s H L cl fp => sg_tg (g.blk (scope := scope) (blk_ok g hb).kind s H L cl fp) hg) (fun s H L cl fp => pc _ (g.blk (blk_ok g hb).kind s H L cl fp)) (fun s H L cl fp => pe _ (g.blk (blk_ok g hb).kind s H L cl fp)) (noSet_fold hs)
  rw [own_snd hl] at q
  exact PE.mono q fun _ _ _ => comp_read
theorem comp2_read {t1 t2 : Tg} {i1 i2 : It} {c1 c2 : Oe} {σ : L2.St} {H : Hp} {Q : VK} (q : tE (tpOf X) C (.comp2 el t1 i1 c1 t2 i2 c2) σ H Q) :
    tLc2 (tIC (tpOf X) C i1) (tgG X.K t1) (tTs (tpOf X) C c1) (tIF (tpOf X) C i2) (tgG X.K t2) (tTs (tpOf X) C c2) (tE (tpOf X) C el) (t1.slots ++ t2.slots) t2.slots σ H Q := by
  obtain ⟨M, G, ρ, S, d, S', es, hp, k⟩ := q
  simp only [ev, Option.bind_eq_some_iff] at hp
  obtain ⟨⟨xs, S1⟩, h1, ⟨total, S2⟩, h2, h3⟩ := hp
  split at h3
  · rename_i hz
    cases h3
    refine ⟨M, G, ρ, S, xs, S1, es, h1, fun J H1 Gd es1 st1 w hG D hD => ?_⟩
    obtain ⟨Y, w1, w2⟩ := w.ex
    have nm : D ∉ M := es1.out hD
    have gm := es1.gm
    have hz := fits_le hz
    -- the outer walk
    let f1 : Dt → Sto → Option (List Dt × Sto) := fun x S1 => (bnd t1 x (wipeR ρ (t1.slots ++ t2.slots))).bind fun ρ1 => (evTest C c1 ρ1 S1).bind fun k =>
        if k.1 = true then (evIt C i2 ρ1 k.2).bind fun q => gather (fun y S2 => (bnd t2 y (wipeR ρ1 t2.slots)).bind fun ρ2 => bodyD C el c2 ρ2 S2) q.1 q.2
        else some ([], k.2)
    let Pv : Nat → Hp → Prop := fun i H => ∃ Si rest accd, gather f1 (xs.drop i) Si = some (rest, S2) ∧ accd ++ rest = total ∧ EstD (tpOf X) D M G ρ Si σ H ∧ Acc (tpOf X) D M H accd ∧ Stp G H1 H ∧ Gd (D :: M) H
    have p0 : Pv 0 (upd H1 D (.lst [])) := ⟨S1, total, [], h2, rfl, EstD.start es1 hD, ⟨[], upd_same, .nil⟩, Stp.new hD, w.start _ _ _ hD hG⟩
    refine ⟨fun i m H => m = xs.length - i ∧ i ≤ xs.length ∧ Pv i H, ⟨xs.length, by simp, Nat.zero_le _, p0⟩, ?_⟩
    rintro i m Hi ⟨rfl, hi, Si, rest, accd, g1, g2, g3, g4, g5, g6⟩
    by_cases hlt : i < xs.length
    · refine .inr ⟨w1.goes i Hi hlt ⟨_, g6⟩, Pv (i + 1), fun H' p' => ⟨xs.length - (i + 1), by omega, rfl, hlt, p'⟩, fun x H' hy => ?_⟩
      have hy := w1.yields i Hi x H' hlt ⟨_, g6⟩ hy
      obtain ⟨sm, dx, e1, rx⟩ := w2 _ i Hi x H' hlt g6 g3.es.dom hy
      obtain ⟨q, S3, rest', e2, e3, e4⟩ := gather_next g1 e1
      rw [Option.bind_eq_some_iff] at e2
      obtain ⟨ρ1, e5, e6⟩ := e2
      rw [Option.bind_eq_some_iff] at e6
      obtain ⟨⟨b, S4⟩, e7, e8⟩ := e6
      have stD : Stp (D :: G) Hi H' := (Same.stp sm).consD
      have aD : Acc (tpOf X) D M H' accd := g4.step gm g3.dg (Same.stp sm)
      have q1 : EstD (tpOf X) D M G ρ Si σ H' := g3.step gm stD (g3.es.sto.keep sm) aD.some
      have q6 : Gd (D :: M) H' := w.stab _ _ _ nm gm stD g6
      have q5 : Stp G H1 H' := g5.thenD hD stD
      subst e4
      refine bnd_read (T := tpOf X) (M := D :: M) (P := fun ρ σ => EstD (tpOf X) D M G ρ Si σ H') rx e5 (q1.wipe (t1.slots ++ t2.slots)) (fun _ _ _ _ _ p r => p.put r) fun σ1 f2 hl ho => ⟨wipe_eq (by rw [hl, wipe_length]) fun j hj => by rw [ho j (fun z => hj (List.mem_append_left _ z)), wipe_out hj], ?_⟩
      refine ⟨D :: M, G, ρ1, Si, b, S4, f2.es, e7, fun H3 es3 st3 => ?_⟩
      have a3 : Acc (tpOf X) D M H3 accd := aD.step gm g3.dg st3
      have nx : ∀ Hn S' accd', S' = S3 → accd' = accd ++ q → StoR (tpOf X) (D :: M) G S' Hn → Stp (D :: G) H' Hn → Acc (tpOf X) D M Hn accd' → Pv (i + 1) Hn := fun Hn S' accd' es ea so stn an => by
        subst es ea
        exact ⟨_, rest', accd ++ q, e3, by rw [List.append_assoc]; exact g2, q1.step gm stn so an.some, an, q5.thenD hD stn, w.stab _ _ _ nm gm stn q6⟩
      cases b with
      | false =>
        rw [if_neg Bool.false_ne_true] at e8
        cases e8
        show if false = true then _ else _
        rw [if_neg Bool.false_ne_true]
        exact nx H3 _ accd rfl (List.append_nil _).symm es3.sto st3.consD a3
      | true =>
        rw [if_pos rfl, Option.bind_eq_some_iff] at e8
        show if true = true then _ else _
        rw [if_pos rfl]
        obtain ⟨⟨ys, S5⟩, i1, i2⟩ := e8
        refine ⟨D :: M, G, ρ1, S4, ys, S5, es3, i1, fun J1 H4 Gd1 es4 st4 wi hG1 => ?_⟩
        obtain ⟨Y1, v1, v2⟩ := wi.ex
        have f4 : EstD (tpOf X) D M G ρ1 S5 σ1 H4 := f2.step gm (st3.trans st4).consD es4.sto (a3.step gm g3.dg st4).some
        let f5 : Dt → Sto → Option (List Dt × Sto) := fun y S2 => (bnd t2 y (wipeR ρ1 t2.slots)).bind fun ρ2 => bodyD C el c2 ρ2 S2
        let Pw : Nat → Hp → Prop := fun j H => ∃ Sj rest1 accj, gather f5 (ys.drop j) Sj = some (rest1, S3) ∧ accj ++ rest1 = accd ++ q ∧ EstD (tpOf X) D M G ρ1 Sj σ1 H ∧ Acc (tpOf X) D M H accj ∧ Stp (D :: G) H' H ∧ Gd1 (D :: M) H
        have w0 : Pw 0 H4 := ⟨S5, q, accd, i2, rfl, f4, a3.step gm g3.dg st4, (st3.trans st4).consD, hG1⟩
        refine ⟨fun j k H => k = ys.length - j ∧ j ≤ ys.length ∧ Pw j H, ⟨ys.length, by simp, Nat.zero_le _, w0⟩, ?_⟩
        rintro j k' Hj ⟨rfl, hj, Sj, rest1, accj, j1, j2, j3, j4, j5, j6⟩
        by_cases hlj : j < ys.length
        · refine .inr ⟨v1.goes j Hj hlj ⟨_, j6⟩, Pw (j + 1), fun Hx p' => ⟨ys.length - (j + 1), by omega, rfl, hlj, p'⟩, fun y Hy hy => ?_⟩
          have hy := v1.yields j Hj y Hy hlj ⟨_, j6⟩ hy
          obtain ⟨sm2, dy, k1, ry⟩ := v2 _ j Hj y Hy hlj j6 j3.es.dom hy
          obtain ⟨q2, S6, rest2, k2, k3, k4⟩ := gather_next j1 k1
          rw [Option.bind_eq_some_iff] at k2
          obtain ⟨ρ2, k5, k6⟩ := k2
          have st2 : Stp (D :: G) Hj Hy := (Same.stp sm2).consD
          have a2 : Acc (tpOf X) D M Hy accj := j4.step gm g3.dg (Same.stp sm2)
          have l1 : EstD (tpOf X) D M G ρ1 Sj σ1 Hy := j3.step gm st2 (j3.es.sto.keep sm2) a2.some
          have l6 : Gd1 (D :: M) Hy := wi.stab _ _ _ _ (cut_D0 st2 gm) j6
          subst k4
          refine bnd_read (T := tpOf X) (M := D :: M) (P := fun ρ σ => EstD (tpOf X) D M G ρ Sj σ Hy) ry k5 (l1.wipe t2.slots) (fun _ _ _ _ _ p r => p.put r) fun σ2 l2 hl2 ho2 => ⟨wipe_eq (by rw [hl2, wipe_length]) fun m hm => by rw [ho2 m hm, wipe_out hm], ?_⟩
          refine body_read gm l2 a2 k6 ?_ fun Hn so stn an => ?_
          · refine Nat.le_trans ?_ hz
            rw [← g2, ← List.append_assoc, ← j2, List.length_append, List.length_append, List.length_append, List.length_append]
            omega
          · exact ⟨S6, rest2, accj ++ q2, k3, by rw [List.append_assoc]; exact j2, l1.step gm stn so an.some, an, (j5.trans st2).trans stn, wi.stab _ _ _ _ (cut_D0 stn gm) l6⟩
        · have ej : j = ys.length := by omega
          subst ej
          obtain ⟨n1, n2⟩ := gather_end j1
          refine .inl ⟨v1.stops Hj ⟨_, j6⟩, nx Hj Sj accj n2 ?_ j3.es.sto j5 j4⟩
          rw [← j2, n1, List.append_nil]
    · have ei : i = xs.length := by omega
      subst ei
      refine .inl ⟨w1.stops Hi ⟨_, g6⟩, ?_⟩
      obtain ⟨e1, e2⟩ := gather_end g1
      subst e1 e2
      rw [List.append_nil] at g2
      subst g2
      obtain ⟨acc, k1, k2⟩ := g4
      refine k _ Hi (es1.step g5 (g3.es.sto.sub fun x hx => List.mem_cons_of_mem _ hx)) (st1.trans g5) ?_
      exact .lst (by rw [cut_out nm]; exact k1) (k2.up (cut_sub fun x hx => List.mem_cons_of_mem _ hx))
  · cases h3
theorem se_comp2 {t1 t2 : Tg} {i1 i2 : It} {c1 c2 : Oe} {tg tg2 iter iter2 : Expr} {ifs ifs2 : List Expr} {scope : Scope} (g : Cfg X c C) (hs : noSet iter = true) (hs2 : noSet iter2 = true)
    (hb : blkB c scope ((tgN tg ++ tgN tg2).zip (t1.slots ++ t2.slots)) = true) (hl : (tgN tg).length = t1.slots.length) (hl2 : (tgN tg2).length = t2.slots.length) (hg : chTg (c.blk scope) t1 tg = true) (hg2 : chTg (c.blk scope) t2 tg2 = true)
    (pi : PI X tg iter (tIC (tpOf X) C i1)) (pc : ∀ X', Cfg X' (c.blk scope) C → PTs X' ifs (tTs (tpOf X') C c1)) (pi2 : ∀ X', Cfg X' (c.blk scope) C → PI X' tg2 iter2 (tIF (tpOf X') C i2)) (pc2 : ∀ X', Cfg X' (c.blk scope) C → PTs X' ifs2 (tTs (tpOf X') C c2))
    (pe : ∀ X', Cfg X' (c.blk scope) C → PE X' el' (tE (tpOf X') C el)) :
    PE X (.ListComp el' [⟨tg, iter, ifs, 0⟩, ⟨tg2, iter2, ifs2, 0⟩] scope pos) (tE (tpOf X) C (.comp2 el t1 i1 c1 t2 i2 c2)) := by
  have hN : X.N.Nodup := by rw [g.N]; exact g.nd
  have ho : ((tgN tg ++ tgN tg2).zip (t1.slots ++ t2.slots)).map (·.2) = t1.slots ++ t2.slots := own_snd (by rw [List.length_append, List.length_append, hl, hl2])
  have q := pe_lc2 (pos := pos) (elt := el') (tt := tTs (tpOf X) C c1) (wi1 := tIF (tpOf X) C i2) (tt1 := tTs (tpOf X) C c2) (te := tE (tpOf X) C el) (g := tgG X.K t1) (g1 := tgG X.K t2) (vs1 := t2.slots) g.calm hN pi (blk_ok g hb)
    (by rw [ho]; exact fun i hi => List.mem_append_right _ hi)
    (fun s H L cl fp => sg_tg (g.blk (scope := scope) (blk_ok g hb).kind s H L cl fp) hg) (fun s H L cl fp => pc _ (g.blk (blk_ok g hb).kind s H L cl fp)) (fun s H L cl fp => pi2 _ (g.blk (blk_ok g hb).kind s H L cl fp)) (fun s H L cl fp => sg_tg (g.blk (scope := scope) (blk_ok g hb).kind s H L cl fp) hg2) (fun s H L cl fp => pc2 _ (g.blk (blk_ok g hb).kind s H L cl fp)) (fun s H L cl fp => pe _ (g.blk (blk_ok g hb).kind s H L cl fp)) (noSet_fold hs) (fun _ => noSet_fold hs2)
  rw [ho] at q
  exact PE.mono q fun _ _ _ => comp2_read
end
end Fw

set_option autoImplicit false
set_option linter.all false
set_option maxRecDepth 100000
set_option maxHeartbeats 4000000
/-! every expression that is checked keeps to the language -/
namespace Fw
open PySem PySem.Spec PyProof.Rows L2

section
variable {C : Cl}
theorem pe_nev {X : Cx} {e : Expr} {t : TE} (h : ∀ σ H Q, ¬ t σ H Q) : PE X e t := ⟨fun _ _ σ H Q _ q => absurd q (h σ H Q)⟩
theorem pw_nev {X : Cx} {e : Expr} {t : TT} (h : ∀ σ H Q, ¬ t σ H Q) : PW X e t := ⟨fun _ _ _ σ H Q _ q => absurd q (h σ H Q)⟩
theorem pa_nev {X : Cx} {e : List Expr} {t : TA} (h : ∀ σ H Q, ¬ t σ H Q) : PA X e t := ⟨fun _ _ _ σ H Q _ q => absurd q (h σ H Q)⟩

theorem and_nev {X : Cx} {r : Es} {xs : List Expr} (h : ∀ ρ S, evAnd C r ρ S = none) : (∀ pos, PE X (.BoolOp .And xs pos) (tAndR (tpOf X) C r)) ∧ (chTs r = true → ∀ pos, PW X (.BoolOp .And xs pos) (tAndT (tpOf X) C r)) := by
  refine ⟨fun pos => pe_nev fun σ H Q q => ?_, fun _ pos => pw_nev fun σ H Q q => ?_⟩
  · obtain ⟨M, G, ρ, S, d, S', es', hp, k⟩ := q
    rw [h] at hp
    cases hp
  · obtain ⟨M, G, ρ, S, d, S', es', hp, k⟩ := q
    rw [h] at hp
    cases hp
theorem or_nev {X : Cx} {r : Es} {xs : List Expr} (h : ∀ ρ S, evOr C r ρ S = none) : (∀ pos, PE X (.BoolOp .Or xs pos) (tOrR (tpOf X) C r)) ∧ (chTs r = true → ∀ pos, PW X (.BoolOp .Or xs pos) (tOrT' (tpOf X) C r)) := by
  refine ⟨fun pos => pe_nev fun σ H Q q => ?_, fun _ pos => pw_nev fun σ H Q q => ?_⟩
  · obtain ⟨M, G, ρ, S, d, S', es', hp, k⟩ := q
    rw [h] at hp
    cases hp
  · obtain ⟨M, G, ρ, S, d, S', es', hp, k⟩ := q
    rw [h] at hp
    cases hp
theorem both {X : Cx} {x : Expr} {e : E} (q : PE X x (tE (tpOf X) C e)) (he : ∀ whole, isTrue x X.env whole = (do let v ← whole; standAt x.pos; holding [v] (truthy v))) : PE X x (tE (tpOf X) C e) ∧ (chT e = true → PT X x (tT (tpOf X) C e)) :=
  ⟨q, fun _ => PT.mono (pt_val q he) fun _ _ _ => tT_test⟩
mutual
theorem sE : ∀ (e : E) (X : Cx) (c : Ch) (x : Expr), Cfg X c C → chE c e x = true → PE X x (tE (tpOf X) C e) ∧ (chT e = true → PT X x (tT (tpOf X) C e))
  | .c d, X, c, x, g, h => by
    have q : PE X x (tE (tpOf X) C (.c d)) := by unfold chE at h; exact se_c h
    refine ⟨q, fun z => ?_⟩
    have hx : ∀ whole, isTrue x X.env whole = (do let v ← whole; standAt x.pos; holding [v] (truthy v)) := by
      unfold chE isCst at h
      intro whole
      split at h <;> first | rfl | cases h
    exact PT.mono (pt_val q hx) fun _ _ _ => tT_test
  | .v i, X, c, x, g, h => by
    unfold chE at h
    split at h
    · rename_i y pos
      rw [Bool.and_eq_true] at h
      exact both (se_v (C := C) (pos := pos) g h.1 h.2) (by intro _; rfl)
    · cases h
  | .g x d, X, c, e, g, h => by
    unfold chE at h
    split at h
    · rename_i y pos
      simp only [Bool.and_eq_true] at h
      obtain ⟨⟨h1, h2⟩, h3⟩ := h
      have e1 := eqS_ok h1
      subst e1
      split at h3
      · rename_i d' hd
        rw [Bool.and_eq_true] at h3
        have e2 := eqv_alike d' d h3.1 h3.2
        subst e2
        obtain ⟨hg, hk⟩ := Ch.gl_ok g h2
        obtain ⟨v, u, m1, m2, m3⟩ := g.gls _ _ hd
        have p : PE X (.Name x pos) (tE (tpOf X) C (.g x d')) := PE.mono (pe_glob hg m1 m2 (okN_ok hk).1) fun σ H Q q => by
          obtain ⟨M, G, ρ, S, d, S', es, hp, k⟩ := q
          simp only [ev] at hp
          cases hp
          exact k v H es Stp.refl (m3 _)
        exact both p (by intro _; rfl)
      · cases h3
    · cases h
  | .scr i, X, c, x, g, h => by
    unfold chE at h
    split at h
    · simp only [Bool.and_eq_true] at h
      exact both (se_scr (C := C) g h.1.1 h.1.2 h.2) (by intro _; rfl)
    · cases h
  | .bin o a b, X, c, x, g, h => by
    unfold chE at h
    split at h
    · simp only [Bool.and_eq_true, decide_eq_true_eq] at h
      obtain ⟨⟨e, h1⟩, h2⟩ := h
      subst e
      exact both (se_bin (C := C) (tF_of g h1 (sE a X c _ g h1).1) (tP_of g h2 (sE b X c _ g h2).1)) (by intro _; rfl)
    · cases h
  | .neg a, X, c, x, g, h => by
    unfold chE at h
    split at h
    · exact both (se_neg (C := C) (sE a X c _ g h).1) (by intro _; rfl)
    · cases h
  | .not a, X, c, x, g, h => by
    unfold chE at h
    split at h
    · exact ⟨se_not (sE a X c _ g h).1, fun ht => st_not ((sE a X c _ g h).2 (by unfold chT at ht; exact ht))⟩
    · cases h
  | .and es, X, c, x, g, h => by
    unfold chE at h
    split at h
    · have q := sAnd es X c _ g h
      refine ⟨PE.mono (q.1 _) fun σ H Q r => ?_, fun ht => (PW.mono (q.2 (by unfold chT at ht; exact ht) _) fun σ H Q r => ?_).pt⟩
      · obtain ⟨M, G, ρ, S, d, S', es', hp, k⟩ := r
        exact ⟨M, G, ρ, S, d, S', es', by simpa only [ev] using hp, k⟩
      · obtain ⟨M, G, ρ, S, d, S', es', hp, k⟩ := r
        exact ⟨M, G, ρ, S, d, S', es', by simpa only [ev] using hp, k⟩
    · cases h
  | .or es, X, c, x, g, h => by
    unfold chE at h
    split at h
    · have q := sOr es X c _ g h
      refine ⟨PE.mono (q.1 _) fun σ H Q r => ?_, fun ht => (PW.mono (q.2 (by unfold chT at ht; exact ht) _) fun σ H Q r => ?_).pt⟩
      · obtain ⟨M, G, ρ, S, d, S', es', hp, k⟩ := r
        exact ⟨M, G, ρ, S, d, S', es', by simpa only [ev] using hp, k⟩
      · obtain ⟨M, G, ρ, S, d, S', es', hp, k⟩ := r
        exact ⟨M, G, ρ, S, d, S', es', by simpa only [ev] using hp, k⟩
    · cases h
  | .orT a b, X, c, x, g, h => by
    unfold chE at h
    split at h
    · simp only [Bool.and_eq_true] at h
      exact ⟨se_orT (C := C) (sE a X c _ g h.1).1 (sE b X c _ g h.2).1, fun z => by unfold chT at z; cases z⟩
    · cases h
  | .cmp o a b, X, c, x, g, h => by
    unfold chE at h
    split at h
    · simp only [Bool.and_eq_true, decide_eq_true_eq] at h
      obtain ⟨⟨⟨e, hs⟩, h1⟩, h2⟩ := h
      subst e
      have pa := tF_of g h1 (sE a X c _ g h1).1
      have pb := tP_of g h2 (sE b X c _ g h2).1
      exact ⟨se_cmp g hs pa pb, fun _ => st_cmp g hs pa pb⟩
    · cases h
  | .chain o o2 a b d, X, c, x, g, h => by
    unfold chE at h
    split at h
    · simp only [Bool.and_eq_true, decide_eq_true_eq] at h
      obtain ⟨⟨⟨⟨⟨⟨e, e2⟩, hs⟩, hs2⟩, h1⟩, h2⟩, h3⟩ := h
      subst e e2
      have pa := (sE a X c _ g h1).1
      have pb := (sE b X c _ g h2).1
      have pd := (sE d X c _ g h3).1
      exact ⟨se_chain g hs2 pa pb pd, fun _ => st_chain g hs2 pa pb pd⟩
    · cases h
  | .ite t a b, X, c, x, g, h => by
    unfold chE at h
    split at h
    · simp only [Bool.and_eq_true] at h
      obtain ⟨⟨⟨ht, h0⟩, h1⟩, h2⟩ := h
      exact ⟨se_ite ((sE t X c _ g h0).2 ht) (sE a X c _ g h1).1 (sE b X c _ g h2).1, fun z => by unfold chT at z; cases z⟩
    · cases h
  | .call f as, X, c, x, g, h => by
    unfold chE at h
    split at h
    · simp only [Bool.and_eq_true] at h
      exact both (se_call (C := C) g h.1.1 h.1.2 (sR as X c _ g h.2)) (by intro _; rfl)
    · cases h
  | .calld _ _, X, c, x, g, h => by unfold chE at h; cases h
  | .bi f a, X, c, x, g, h => by
    unfold chE at h
    split at h
    · split at h
      · simp only [Bool.and_eq_true] at h
        exact both (se_sset (C := C) g h.1.1 h.1.2 (chE_nostar h.2) (tP_of g h.2 (sE a X c _ g h.2).1)) (by intro _; rfl)
      · cases h
    · rename_i hf
      split at h
      · simp only [Bool.and_eq_true] at h
        exact both (se_bi (C := C) g hf h.1 (chE_nostar h.2) (tP_of g h.2 (sE a X c _ g h.2).1)) (by intro _; rfl)
      · cases h
  | .bi2 f a b, X, c, x, g, h => by
    unfold chE at h
    split at h
    · simp only [Bool.and_eq_true] at h
      exact both (se_bi2 (C := C) g h.1.1 (chE_nostar h.1.2) (chE_nostar h.2) (sE a X c _ g h.1.2).1 (sE b X c _ g h.2).1) (by intro _; rfl)
    · cases h
  | .isi a ts, X, c, x, g, h => by
    unfold chE at h
    split at h
    · simp only [Bool.and_eq_true] at h
      obtain ⟨⟨h1, h2⟩, h3⟩ := h
      split at h3
      · rw [Bool.and_eq_true, decide_eq_true_eq] at h3
        exact both (se_isiN (C := C) g h1 (chE_nostar h2) h3.2 h3.1 (sE a X c _ g h2).1) (by intro _; rfl)
      · split at h3
        · exact both (se_isi1 (C := C) g h1 (chE_nostar h2) h3 (sE a X c _ g h2).1) (by intro _; rfl)
        · cases h3
    · cases h
  | .sub a i, X, c, x, g, h => by
    unfold chE at h
    split at h
    · simp only [Bool.and_eq_true] at h
      exact both (se_sub (C := C) g h.1.1 (tF_of g h.1.2 (sE a X c _ g h.1.2).1) (sE i X c _ g h.2).1) (by intro _; rfl)
    · cases h
  | .slc a lo hi, X, c, x, g, h => by
    unfold chE at h
    split at h
    · simp only [Bool.and_eq_true] at h
      exact both (se_slc (C := C) (sE a X c _ g h.1.1).1 (sO lo X c _ g h.1.2) (sO hi X c _ g h.2)) (by intro _; rfl)
    · cases h
  | .rev a, X, c, x, g, h => by
    unfold chE at h
    split at h
    · simp only [Bool.and_eq_true] at h
      exact both (se_rev (C := C) h.1 (sE a X c _ g h.2).1) (by intro _; rfl)
    · cases h
  | .tup es, X, c, x, g, h => by
    unfold chE at h
    split at h
    · exact both (se_tup (C := C) (sS es X c _ g h)) (by intro _; rfl)
    · cases h
  | .lst es, X, c, x, g, h => by
    unfold chE at h
    split at h
    · exact both (se_lst (C := C) (sS es X c _ g h)) (by intro _; rfl)
    · cases h
  | .comp el t it cs, X, c, x, g, h => by
    unfold chE at h
    split at h
    · rename_i el' tg iter ifs z scope pos
      simp only [Bool.and_eq_true, decide_eq_true_eq] at h
      obtain ⟨⟨⟨⟨⟨⟨⟨⟨h1, h2⟩, h3⟩, h4⟩, h5⟩, h6⟩, h7⟩, h8⟩, h9⟩ := h
      subst h1
      exact both (se_comp (C := C) (pos := pos) g h2 h3 h4 h7 (sI it X c tg iter g h5 h6) (fun X' g' => sC cs X' _ ifs g' h8) (fun X' g' => (sE el X' _ el' g' h9).1)) (by intro _; rfl)
    · cases h
  | .comp2 el t1 i1 c1 t2 i2 c2, X, c, x, g, h => by
    unfold chE at h
    split at h
    · rename_i el' tg iter ifs z tg2 iter2 ifs2 z2 scope pos
      simp only [Bool.and_eq_true, decide_eq_true_eq] at h
      obtain ⟨⟨⟨⟨⟨⟨⟨⟨⟨⟨⟨⟨⟨⟨⟨⟨h1, h1'⟩, h2⟩, h2'⟩, h3⟩, h4⟩, h4'⟩, h5⟩, h5'⟩, h55⟩, h6⟩, h7⟩, h8⟩, h6'⟩, h7'⟩, h8'⟩, h9⟩ := h
      subst h1 h1'
      exact both (se_comp2 (C := C) (pos := pos) g h2 h2' h3 h4 h4' h7 h7' (sI i1 X c tg iter g h5 h6) (fun X' g' => sC c1 X' _ ifs g' h8) (fun X' g' => sIF i2 X' _ tg2 iter2 g' h55 h5' h6') (fun X' g' => sC c2 X' _ ifs2 g' h8') (fun X' g' => (sE el X' _ el' g' h9).1)) (by intro _; rfl)
    · cases h
theorem sS : ∀ (r : Es) (X : Cx) (c : Ch) (xs : List Expr), Cfg X c C → chEs c r xs = true → PA X xs (tAs (tpOf X) C r)
  | .nil, X, c, xs, g, h => by
    unfold chEs at h
    split at h
    · exact sx_nil
    · cases h
  | .cons e r, X, c, xs, g, h => by
    unfold chEs at h
    split at h
    · simp only [Bool.and_eq_true] at h
      exact sx_cons h.1.1 (sE e X c _ g h.1.2).1 (sS r X c _ g h.2)
    · cases h
  | .star e r, X, c, xs, g, h => by
    unfold chEs at h
    split at h
    · simp only [Bool.and_eq_true] at h
      exact sx_star (tP_of g h.1 (sE e X c _ g h.1).1) (sS r X c _ g h.2)
    · cases h
theorem sR : ∀ (r : Es) (X : Cx) (c : Ch) (xs : List Expr), Cfg X c C → chEs c r xs = true → PA X xs (tAr (tpOf X) C r)
  | .nil, X, c, xs, g, h => by
    unfold chEs at h
    split at h
    · exact sr_nil
    · cases h
  | .cons e r, X, c, xs, g, h => by
    unfold chEs at h
    split at h
    · simp only [Bool.and_eq_true] at h
      exact sr_cons h.1.1 (tArg_of g h.1.2 (sE e X c _ g h.1.2).1) (sR r X c _ g h.2)
    · cases h
  | .star e r, X, c, xs, g, h => pa_nev fun σ H Q q => by
    obtain ⟨M, G, ρ, S, d, S', es', hp, k⟩ := q
    simp only [evArgs] at hp
    cases hp
theorem sAnd : ∀ (r : Es) (X : Cx) (c : Ch) (xs : List Expr), Cfg X c C → chEs c r xs = true → (∀ pos, PE X (.BoolOp .And xs pos) (tAndR (tpOf X) C r)) ∧ (chTs r = true → ∀ pos, PW X (.BoolOp .And xs pos) (tAndT (tpOf X) C r))
  | .nil, X, c, xs, g, h => and_nev fun ρ S => by simp only [evAnd]
  | .star e r, X, c, xs, g, h => and_nev fun ρ S => by simp only [evAnd]
  | .cons e .nil, X, c, xs, g, h => by
    unfold chEs at h
    split at h
    · simp only [Bool.and_eq_true] at h
      have h2 := h.2
      unfold chEs at h2
      split at h2
      · exact ⟨fun pos => sa_one (sE e X c _ g h.1.2).1, fun ht pos => wa_one ((sE e X c _ g h.1.2).2 (by unfold chTs at ht; rw [Bool.and_eq_true] at ht; exact ht.1))⟩
      · cases h2
    · cases h
  | .cons e (.star b r), X, c, xs, g, h => and_nev fun ρ S => by simp only [evAnd]
  | .cons e (.cons b r), X, c, xs, g, h => by
    unfold chEs at h
    split at h
    · simp only [Bool.and_eq_true] at h
      have ih := sAnd (.cons b r) X c _ g h.2
      have h2 := h.2
      unfold chEs at h2
      split at h2
      · exact ⟨fun pos => sa_cons (sE e X c _ g h.1.2).1 (ih.1 pos), fun ht pos => by
          unfold chTs at ht
          rw [Bool.and_eq_true] at ht
          exact wa_cons ((sE e X c _ g h.1.2).2 ht.1) (ih.2 ht.2 pos)⟩
      · cases h2
    · cases h
theorem sOr : ∀ (r : Es) (X : Cx) (c : Ch) (xs : List Expr), Cfg X c C → chEs c r xs = true → (∀ pos, PE X (.BoolOp .Or xs pos) (tOrR (tpOf X) C r)) ∧ (chTs r = true → ∀ pos, PW X (.BoolOp .Or xs pos) (tOrT' (tpOf X) C r))
  | .nil, X, c, xs, g, h => or_nev fun ρ S => by simp only [evOr]
  | .star e r, X, c, xs, g, h => or_nev fun ρ S => by simp only [evOr]
  | .cons e .nil, X, c, xs, g, h => by
    unfold chEs at h
    split at h
    · simp only [Bool.and_eq_true] at h
      have h2 := h.2
      unfold chEs at h2
      split at h2
      · exact ⟨fun pos => so_one (sE e X c _ g h.1.2).1, fun ht pos => wo_one ((sE e X c _ g h.1.2).2 (by unfold chTs at ht; rw [Bool.and_eq_true] at ht; exact ht.1))⟩
      · cases h2
    · cases h
  | .cons e (.star b r), X, c, xs, g, h => or_nev fun ρ S => by simp only [evOr]
  | .cons e (.cons b r), X, c, xs, g, h => by
    unfold chEs at h
    split at h
    · simp only [Bool.and_eq_true] at h
      have ih := sOr (.cons b r) X c _ g h.2
      have h2 := h.2
      unfold chEs at h2
      split at h2
      · exact ⟨fun pos => so_cons (sE e X c _ g h.1.2).1 (ih.1 pos), fun ht pos => by
          unfold chTs at ht
          rw [Bool.and_eq_true] at ht
          exact wo_cons ((sE e X c _ g h.1.2).2 ht.1) (ih.2 ht.2 pos)⟩
      · cases h2
    · cases h
theorem sO : ∀ (o : Oe) (X : Cx) (c : Ch) (x : Option Expr), Cfg X c C → chO c o x = true → PO X x (tO (tpOf X) C o)
  | .no, X, c, x, g, h => by
    unfold chO at h
    cases x with
    | none => exact so_no
    | some _ => cases h
  | .yes e, X, c, x, g, h => by
    unfold chO at h
    split at h
    · exact so_yes (sE e X c _ g h).1
    · cases h
theorem sC : ∀ (o : Oe) (X : Cx) (c : Ch) (xs : List Expr), Cfg X c C → chC c o xs = true → PTs X xs (tTs (tpOf X) C o)
  | .no, X, c, xs, g, h => by
    unfold chC at h
    split at h
    · exact sts_no
    · cases h
  | .yes e, X, c, xs, g, h => by
    unfold chC at h
    split at h
    · rw [Bool.and_eq_true] at h
      exact sts_yes ((sE e X c _ g h.2).2 h.1)
    · cases h
theorem sIF : ∀ (it : It) (X : Cx) (c : Ch) (tg x : Expr), Cfg X c C → noPeek it = true → itTg it tg = true → chI c it x = true → PI X tg x (tIF (tpOf X) C it)
  | .of e, X, c, tg, x, g, hn, ht, h => by
    unfold chI at h
    exact sI_of (sE e X c _ g h).1
  | .peek i, X, c, tg, x, g, hn, ht, h => by cases hn
  | .enum e, X, c, tg, x, g, hn, ht, h => by
    unfold chI at h
    split at h
    · rw [Bool.and_eq_true] at h
      exact sI_enum g ht h.1 (chE_nostar h.2) (sE e X c _ g h.2).1
    · cases h
  | .rng a, X, c, tg, x, g, hn, ht, h => by
    unfold chI at h
    split at h
    · rw [Bool.and_eq_true] at h
      exact sI_rng g h.1 (chE_nostar h.2) (sE a X c _ g h.2).1
    · cases h
  | .rng2 a b, X, c, tg, x, g, hn, ht, h => by
    unfold chI at h
    split at h
    · simp only [Bool.and_eq_true] at h
      exact sI_rng2 g h.1.1 (chE_nostar h.1.2) (chE_nostar h.2) (sE a X c _ g h.1.2).1 (sE b X c _ g h.2).1
    · cases h
  | .zip a b, X, c, tg, x, g, hn, ht, h => by
    unfold chI at h
    split at h
    · simp only [Bool.and_eq_true] at h
      exact sI_zip g ht h.1.1 (chE_nostar h.1.2) (chE_nostar h.2) (sE a X c _ g h.1.2).1 (sE b X c _ g h.2).1
    · cases h
theorem sI : ∀ (it : It) (X : Cx) (c : Ch) (tg x : Expr), Cfg X c C → itTg it tg = true → chI c it x = true → PI X tg x (tIC (tpOf X) C it)
  | .peek i, X, c, tg, x, g, ht, h => by
    unfold chI at h
    split at h
    · rw [Bool.and_eq_true] at h
      exact sI_peek g h.1 h.2
    · cases h
  | .of e, X, c, tg, x, g, ht, h => tIC_of (sIF (.of e) X c tg x g rfl ht h)
  | .enum e, X, c, tg, x, g, ht, h => tIC_of (sIF (.enum e) X c tg x g rfl ht h)
  | .rng a, X, c, tg, x, g, ht, h => tIC_of (sIF (.rng a) X c tg x g rfl ht h)
  | .rng2 a b, X, c, tg, x, g, ht, h => tIC_of (sIF (.rng2 a b) X c tg x g rfl ht h)
  | .zip a b, X, c, tg, x, g, ht, h => tIC_of (sIF (.zip a b) X c tg x g rfl ht h)
end
end
end Fw

set_option autoImplicit false
set_option linter.all false
set_option maxRecDepth 100000
set_option maxHeartbeats 4000000
/-! the state between statements -/
namespace Fw
open PySem PySem.Spec PyProof.Rows L2

/-- the state of a def that began at H0, its caller's objects M0, the store's G0 -/
structure StR (T : Tp) (M0 G0 : List Addr) (H0 : Hp) (M G : List Addr) (ρ : Rho) (S : Sto) (σ : L2.St) (H : Hp) : Prop where
  es : Est T M G ρ S σ H
  sub0 : ∀ a ∈ M0, a ∈ M
  dom0 : ∀ a ∈ M0, H0 a ≠ none
  g0 : ∃ Gx, G = G0 ++ Gx
  gnew : ∀ a ∈ G, a ∉ G0 → H0 a = none
  own : ∀ (i : Nat) s a, ρ[i]? = some s → isOwn s = true → σ[i]? = some (some (.ref a)) → H0 a = none
  uniq : ∀ (i j : Nat) s s' a, ρ[i]? = some s → isOwn s = true → σ[i]? = some (some (.ref a)) → ρ[j]? = some s' → isOwn s' = true → σ[j]? = some (some (.ref a)) → i = j
  keep : Stp G0 H0 H
section
variable {T : Tp} {M0 G0 M G : List Addr} {ρ : Rho} {S S' : Sto} {σ : L2.St} {H0 H H' : Hp}
theorem StR.step (st : StR T M0 G0 H0 M G ρ S σ H) (e : Est T M G ρ S' σ H') (k : Stp G H H') : StR T M0 G0 H0 M G ρ S' σ H' := by
  refine ⟨e, st.sub0, st.dom0, st.g0, st.gnew, st.own, st.uniq, fun a o n h => ?_⟩
  by_cases g : a ∈ G
  · rw [st.gnew a g n] at h; cases h
  · exact k a o g (st.keep a o n h)
theorem StR.put {i : Nat} {d : Dt} {v : V} (st : StR T M0 G0 H0 M G ρ S σ H) (r : Rp T.K (cut M H) d v) : StR T M0 G0 H0 M G (ρ.set i (.val d)) S (σ.set i (some v)) H := by
  have back : ∀ (j : Nat) s, (ρ.set i (.val d))[j]? = some s → isOwn s = true → i ≠ j ∧ ρ[j]? = some s := fun j s h ho => by
    by_cases hj : i = j
    · subst hj
      by_cases hl : i < ρ.length
      · rw [List.getElem?_set_self hl] at h; cases h; cases ho
      · rw [List.getElem?_eq_none (by rw [List.length_set]; omega)] at h; cases h
    · rw [List.getElem?_set_ne hj] at h; exact ⟨hj, h⟩
  refine ⟨st.es.put r, st.sub0, st.dom0, st.g0, st.gnew, fun j s a h ho hs => ?_, fun j k s s' a h ho hs h' ho' hs' => ?_, st.keep⟩
  · obtain ⟨n, h⟩ := back j s h ho
    rw [List.getElem?_set_ne n] at hs
    exact st.own j s a h ho hs
  · obtain ⟨n, h⟩ := back j s h ho
    obtain ⟨n', h'⟩ := back k s' h' ho'
    rw [List.getElem?_set_ne n] at hs
    rw [List.getElem?_set_ne n'] at hs'
    exact st.uniq j k s s' a h ho hs h' ho' hs'
/-- objects that may change leave the rest -/
theorem cut_upd {a : Addr} {o : HO} (h : a ∈ M) : Same (cut M H) (cut M (upd H a o)) := cut_step fun b u n e => by rw [upd_ne (fun z => n (by rw [z]; exact h))]; exact e
theorem cut_upd' {a : Addr} {o : HO} (h : a ∈ M) : Same (cut M (upd H a o)) (cut M H) := cut_step fun b u n e => by rw [upd_ne (fun z => n (by rw [z]; exact h))] at e; exact e
/-- a list that a slot owns is written -/
theorem StR.write {i : Nat} {ds ds' : List Dt} {a : Addr} {vs' : List V} (st : StR T M0 G0 H0 M G ρ S σ H) (hi : ρ[i]? = some (.own ds)) (ha : σ[i]? = some (some (.ref a))) (r : Rps T.K (cut M H) ds' vs') :
    StR T M0 G0 H0 M G (ρ.set i (.own ds')) S σ (upd H a (.lst vs')) := by
  obtain ⟨b, vs, e1, e2, e3, e4, e5⟩ := st.es.env i _ hi
  rw [ha] at e1
  cases e1
  have sm : Same (cut M H) (cut M (upd H a (.lst vs'))) := cut_upd e2
  have hl : i < ρ.length := (List.getElem?_eq_some_iff.mp hi).1
  have back : ∀ (j : Nat) s, (ρ.set i (.own ds'))[j]? = some s → (i = j ∧ s = .own ds') ∨ (i ≠ j ∧ ρ[j]? = some s) := fun j s h => by
    by_cases hj : i = j
    · subst hj; rw [List.getElem?_set_self hl] at h; cases h; exact .inl ⟨rfl, rfl⟩
    · rw [List.getElem?_set_ne hj] at h; exact .inr ⟨hj, h⟩
  have ownb : ∀ (j : Nat) s, (ρ.set i (.own ds'))[j]? = some s → isOwn s = true → ∃ s', ρ[j]? = some s' ∧ isOwn s' = true := fun j s h ho => by
    rcases back j s h with ⟨rfl, rfl⟩ | ⟨_, h⟩
    · exact ⟨_, hi, rfl⟩
    · exact ⟨_, h, ho⟩
  refine ⟨⟨fun j s h => ?_, by rw [List.length_set]; exact st.es.len, ⟨st.es.sto.len, st.es.sto.nd, fun k ob e => ?_⟩, st.es.gm, fun b hb => ?_⟩, st.sub0, st.dom0, st.g0, st.gnew, fun j s b h ho hs => ?_, fun j k s s' b h ho hs h' ho' hs' => ?_, fun b o n e => ?_⟩
  · rcases back j s h with ⟨rfl, rfl⟩ | ⟨nj, h⟩
    · exact ⟨a, vs', ha, e2, e3, upd_same, r.up sm⟩
    · have q := st.es.env j s h
      have apart : ∀ b, isOwn s = true → σ[j]? = some (some (.ref b)) → b ≠ a := fun b ho hb z => nj (st.uniq i j _ s a hi rfl ha h ho (by rw [← z]; exact hb))
      cases s with
      | un => trivial
      | val d => obtain ⟨v, h1, h2⟩ := q; exact ⟨v, h1, h2.up sm⟩
      | own es => obtain ⟨b, ws, h1, h2, h3, h4, h5⟩ := q; exact ⟨b, ws, h1, h2, h3, by rw [upd_ne (apart b rfl h1)]; exact h4, h5.up sm⟩
      | ownd kvs => obtain ⟨b, h1, h2, h3, h4⟩ := q; exact ⟨b, h1, h2, h3, h4.step sm fun o e => by rw [upd_ne (apart b rfl h1)]; exact e⟩
      | ref k => exact q
      | scr ns => obtain ⟨b, h1, h2⟩ := q; exact ⟨b, h1, sql_up sm h2⟩
  · obtain ⟨b, h1, h2⟩ := st.es.sto.at_ k ob e
    have ne : b ≠ a := fun z => e3 (by rw [← z]; exact List.mem_of_getElem? h1)
    exact ⟨b, h1, h2.step sm fun o q => by rw [upd_ne ne]; exact q⟩
  · by_cases z : b = a
    · rw [z, upd_same]; exact fun z => nomatch z
    · rw [upd_ne z]; exact st.es.dom b hb
  · obtain ⟨s', h', ho'⟩ := ownb j s h ho
    exact st.own j s' b h' ho' hs
  · obtain ⟨t, h1, h2⟩ := ownb j s h ho
    obtain ⟨t', h3, h4⟩ := ownb k s' h' ho'
    exact st.uniq j k t t' b h1 h2 hs h3 h4 hs'
  · have ne : b ≠ a := fun z => by rw [z, st.own i _ a hi rfl ha] at e; cases e
    rw [upd_ne ne]
    exact st.keep b o n e
/-- a list of the store is written -/
theorem StR.writeS {k : Nat} {ds ds' : List Dt} {a : Addr} {vs' : List V} (st : StR T M0 G0 H0 M G ρ S σ H) (hk : S[k]? = some (.lst ds)) (ha : G[k]? = some a) (r : Rps T.K (cut M H) ds' vs') :
    StR T M0 G0 H0 M G ρ (S.set k (.lst ds')) σ (upd H a (.lst vs')) := by
  have hg : a ∈ G := List.mem_of_getElem? ha
  have hm := st.es.gm a hg
  have sm : Same (cut M H) (cut M (upd H a (.lst vs'))) := cut_upd hm
  have hl : k < S.length := (List.getElem?_eq_some_iff.mp hk).1
  refine ⟨⟨fun j s h => ?_, st.es.len, ⟨by rw [List.length_set]; exact st.es.sto.len, st.es.sto.nd, fun n ob e => ?_⟩, st.es.gm, fun b hb => ?_⟩, st.sub0, st.dom0, st.g0, st.gnew, st.own, st.uniq, fun b o n e => ?_⟩
  · have q := st.es.env j s h
    cases s with
    | un => trivial
    | val d => obtain ⟨v, h1, h2⟩ := q; exact ⟨v, h1, h2.up sm⟩
    | own es => obtain ⟨b, ws, h1, h2, h3, h4, h5⟩ := q; exact ⟨b, ws, h1, h2, h3, by rw [upd_ne (fun z => h3 (by rw [z]; exact hg))]; exact h4, h5.up sm⟩
    | ownd kvs => obtain ⟨b, h1, h2, h3, h4⟩ := q; exact ⟨b, h1, h2, h3, h4.step sm fun o e => by rw [upd_ne (fun z => h3 (by rw [z]; exact hg))]; exact e⟩
    | ref k => exact q
    | scr ns => obtain ⟨b, h1, h2⟩ := q; exact ⟨b, h1, sql_up sm h2⟩
  · by_cases hn : k = n
    · subst hn
      rw [List.getElem?_set_self hl] at e
      cases e
      exact ⟨a, ha, vs', upd_same, r.up sm⟩
    · rw [List.getElem?_set_ne hn] at e
      obtain ⟨b, h1, h2⟩ := st.es.sto.at_ n ob e
      have ne : b ≠ a := fun z => hn ((List.getElem?_inj (List.getElem?_eq_some_iff.mp ha).1 st.es.sto.nd).mp (by rw [ha, h1, z]))
      exact ⟨b, h1, h2.step sm fun o q => by rw [upd_ne ne]; exact q⟩
  · by_cases z : b = a
    · rw [z, upd_same]; exact fun z => nomatch z
    · rw [upd_ne z]; exact st.es.dom b hb
  · have ne : b ≠ a := fun z => by
      rw [z] at n e
      rw [st.gnew a hg n] at e; cases e
    rw [upd_ne ne]
    exact st.keep b o n e
/-- a new thing that the slots may own: p -/
theorem Est.more {p : Addr} {o : HO} (e : Est T M G ρ S σ H) (hn : H p = none) : Est T (p :: M) G ρ S σ (upd H p o) := by
  have sm : Same (cut M H) (cut (p :: M) (upd H p o)) := cut_fresh hn
  have keep : ∀ a u, H a = some u → upd H p o a = some u := fun a u h => same_new hn a u h
  refine ⟨fun i s h => ?_, e.len, ⟨e.sto.len, e.sto.nd, fun k ob h => ?_⟩, e.gmD, fun a ha => ?_⟩
  · have r := e.env i s h
    cases s with
    | un => trivial
    | val d => obtain ⟨v, h1, h2⟩ := r; exact ⟨v, h1, h2.up sm⟩
    | own ds => obtain ⟨a, vs, h1, h2, h3, h4, h5⟩ := r; exact ⟨a, vs, h1, List.mem_cons_of_mem _ h2, h3, keep _ _ h4, h5.up sm⟩
    | ownd kvs =>
      obtain ⟨a, h1, h2, h3, xs, h4, p⟩ := r
      exact ⟨a, h1, List.mem_cons_of_mem _ h2, h3, xs, keep _ _ h4, L2.Paired.mapP p fun _ _ ⟨h1, h2, h3, h4, h5⟩ => ⟨h1, h2, h3, h4.up sm, h5.up sm⟩⟩
    | ref k => exact r
    | scr ns => obtain ⟨a, h1, h2⟩ := r; exact ⟨a, h1, sql_up sm h2⟩
  · obtain ⟨a, h1, h2⟩ := e.sto.at_ k ob h
    refine ⟨a, h1, ?_⟩
    cases ob with
    | lst ds => obtain ⟨vs, h3, h4⟩ := h2; exact ⟨vs, keep _ _ h3, h4.up sm⟩
    | dct kvs =>
      obtain ⟨xs, h4, p⟩ := h2
      exact ⟨xs, keep _ _ h4, L2.Paired.mapP p fun _ _ ⟨h1, h2, h3, h4, h5⟩ => ⟨h1, h2, h3, h4.up sm, h5.up sm⟩⟩
  · rcases List.mem_cons.mp ha with z | z
    · rw [z, upd_same]; exact fun z => nomatch z
    · cases q : H a with
      | none => exact absurd q (e.dom a z)
      | some o => rw [keep a o q]; exact fun z => nomatch z
theorem StR.h0none {p : Addr} (st : StR T M0 G0 H0 M G ρ S σ H) (hn : H p = none) : H0 p = none := by
  cases q : H0 p with
  | none => rfl
  | some o =>
    by_cases g : p ∈ G0
    · obtain ⟨Gx, e⟩ := st.g0
      exact absurd hn (st.es.dom p (st.es.gm p (by rw [e]; exact List.mem_append_left _ g)))
    · rw [st.keep p o g q] at hn; cases hn
theorem StR.more {p : Addr} {o : HO} (st : StR T M0 G0 H0 M G ρ S σ H) (hn : H p = none) : StR T M0 G0 H0 (p :: M) G ρ S σ (upd H p o) :=
  ⟨st.es.more hn, fun a h => List.mem_cons_of_mem _ (st.sub0 a h), st.dom0, st.g0, st.gnew, st.own, st.uniq, fun a u n h => same_new hn a u (st.keep a u n h)⟩
/-- a slot gets a list that nothing else knows -/
theorem StR.own_new {i : Nat} {p : Addr} {ds : List Dt} {vs : List V} (st : StR T M0 G0 H0 M G ρ S σ H) (hm : p ∈ M) (hg : p ∉ G) (hp : H p = some (.lst vs)) (h0 : H0 p = none) (hf : ∀ (j : Nat) s, ρ[j]? = some s → isOwn s = true → σ[j]? ≠ some (some (.ref p))) (r : Rps T.K (cut M H) ds vs) :
    StR T M0 G0 H0 M G (ρ.set i (.own ds)) S (σ.set i (some (.ref p))) H := by
  have back : ∀ (j : Nat) s, (ρ.set i (.own ds))[j]? = some s → (i = j ∧ s = .own ds ∧ (σ.set i (some (.ref p)))[j]? = some (some (.ref p))) ∨ (i ≠ j ∧ ρ[j]? = some s ∧ (σ.set i (some (.ref p)))[j]? = σ[j]?) := fun j s h => by
    by_cases hj : i = j
    · subst hj
      by_cases hl : i < ρ.length
      · rw [List.getElem?_set_self hl] at h; cases h; exact .inl ⟨rfl, rfl, List.getElem?_set_self (by rw [← st.es.len]; exact hl)⟩
      · rw [List.getElem?_eq_none (by rw [List.length_set]; omega)] at h; cases h
    · rw [List.getElem?_set_ne hj] at h; exact .inr ⟨hj, h, List.getElem?_set_ne hj⟩
  refine ⟨⟨fun j s h => ?_, by rw [List.length_set, List.length_set]; exact st.es.len, st.es.sto, st.es.gm, st.es.dom⟩, st.sub0, st.dom0, st.g0, st.gnew, fun j s a h ho hs => ?_, fun j k s s' a h ho hs h' ho' hs' => ?_, st.keep⟩
  · rcases back j s h with ⟨rfl, rfl, e⟩ | ⟨_, h1, e⟩
    · rw [e]; exact ⟨p, vs, rfl, hm, hg, hp, r⟩
    · rw [e]; exact st.es.env j s h1
  · rcases back j s h with ⟨rfl, rfl, e⟩ | ⟨_, h1, e⟩
    · rw [e] at hs; cases hs; exact h0
    · rw [e] at hs; exact st.own j s a h1 ho hs
  · rcases back j s h with ⟨rfl, rfl, e⟩ | ⟨_, h1, e⟩
    · rcases back k s' h' with ⟨rfl, rfl, e'⟩ | ⟨_, h2, e'⟩
      · rfl
      · rw [e] at hs; cases hs
        rw [e'] at hs'
        exact absurd hs' (hf k s' h2 ho')
    · rcases back k s' h' with ⟨rfl, rfl, e'⟩ | ⟨_, h2, e'⟩
      · rw [e'] at hs'; cases hs'
        rw [e] at hs
        exact absurd hs (hf j s h1 ho)
      · rw [e] at hs
        rw [e'] at hs'
        exact st.uniq j k s s' a h1 ho hs h2 ho' hs'
/-- a slot names an object of the store -/
theorem StR.ref_put {i k : Nat} {p : Addr} (st : StR T M0 G0 H0 M G ρ S σ H) (hk : G[k]? = some p) : StR T M0 G0 H0 M G (ρ.set i (.ref k)) S (σ.set i (some (.ref p))) H := by
  have back : ∀ (j : Nat) s, (ρ.set i (.ref k))[j]? = some s → (i = j ∧ s = .ref k ∧ (σ.set i (some (.ref p)))[j]? = some (some (.ref p))) ∨ (i ≠ j ∧ ρ[j]? = some s ∧ (σ.set i (some (.ref p)))[j]? = σ[j]?) := fun j s h => by
    by_cases hj : i = j
    · subst hj
      by_cases hl : i < ρ.length
      · rw [List.getElem?_set_self hl] at h; cases h; exact .inl ⟨rfl, rfl, List.getElem?_set_self (by rw [← st.es.len]; exact hl)⟩
      · rw [List.getElem?_eq_none (by rw [List.length_set]; omega)] at h; cases h
    · rw [List.getElem?_set_ne hj] at h; exact .inr ⟨hj, h, List.getElem?_set_ne hj⟩
  refine ⟨⟨fun j s h => ?_, by rw [List.length_set, List.length_set]; exact st.es.len, st.es.sto, st.es.gm, st.es.dom⟩, st.sub0, st.dom0, st.g0, st.gnew, fun j s a h ho hs => ?_, fun j k s s' a h ho hs h' ho' hs' => ?_, st.keep⟩
  · rcases back j s h with ⟨rfl, rfl, e⟩ | ⟨_, h1, e⟩
    · rw [e]; exact ⟨p, rfl, hk⟩
    · rw [e]; exact st.es.env j s h1
  · rcases back j s h with ⟨rfl, rfl, e⟩ | ⟨_, h1, e⟩
    · cases ho
    · rw [e] at hs; exact st.own j s a h1 ho hs
  · rcases back j s h with ⟨rfl, rfl, e⟩ | ⟨_, h1, e⟩
    · cases ho
    · rcases back k s' h' with ⟨rfl, rfl, e'⟩ | ⟨_, h2, e'⟩
      · cases ho'
      · rw [e] at hs
        rw [e'] at hs'
        exact st.uniq j k s s' a h1 ho hs h2 ho' hs'
end
end Fw

set_option autoImplicit false
set_option linter.all false
set_option maxRecDepth 100000
set_option maxHeartbeats 4000000
/-! the state, an object written -/
namespace Fw
open PySem PySem.Spec PyProof.Rows L2

section
variable {T : Tp} {M0 G0 M G : List Addr} {ρ : Rho} {S S' : Sto} {σ : L2.St} {H0 H H' : Hp}
theorem SlotR.poke {s : Slot} {w : Option (Option V)} {a : Addr} {o : HO} (hm : a ∈ M) (gm : a ∉ G) (ap : isOwn s = true → w ≠ some (some (.ref a))) (r : SlotR T M G H s w) : SlotR T M G (upd H a o) s w := by
  have sm : Same (cut M H) (cut M (upd H a o)) := cut_upd hm
  cases s with
  | un => trivial
  | val d => obtain ⟨v, h1, h2⟩ := r; exact ⟨v, h1, h2.up sm⟩
  | own es =>
    obtain ⟨b, ws, h1, h2, h3, h4, h5⟩ := r
    have ne : b ≠ a := fun z => ap rfl (by rw [h1, z])
    exact ⟨b, ws, h1, h2, h3, by rw [upd_ne ne]; exact h4, h5.up sm⟩
  | ownd kvs =>
    obtain ⟨b, h1, h2, h3, h4⟩ := r
    have ne : b ≠ a := fun z => ap rfl (by rw [h1, z])
    exact ⟨b, h1, h2, h3, h4.step sm fun o e => by rw [upd_ne ne]; exact e⟩
  | ref k => exact r
  | scr ns => obtain ⟨b, h1, h2⟩ := r; exact ⟨b, h1, sql_up sm h2⟩
theorem ObR.poke {ob : Ob} {a b : Addr} {o : HO} (hm : a ∈ M) (ne : b ≠ a) (r : ObR T M H b ob) : ObR T M (upd H a o) b ob := r.step (cut_upd hm) fun o q => by rw [upd_ne ne]; exact q
/-- what a slot owns is written -/
theorem StR.writeG {i : Nat} {sl sl' : Slot} {a : Addr} {o : HO} (st : StR T M0 G0 H0 M G ρ S σ H) (hi : ρ[i]? = some sl) (ho : isOwn sl = true) (ha : σ[i]? = some (some (.ref a))) (ho' : isOwn sl' = true) (hm : a ∈ M) (hg : a ∉ G)
    (r : SlotR T M G (upd H a o) sl' (some (some (.ref a)))) : StR T M0 G0 H0 M G (ρ.set i sl') S σ (upd H a o) := by
  have hl : i < ρ.length := (List.getElem?_eq_some_iff.mp hi).1
  have back : ∀ (j : Nat) s, (ρ.set i sl')[j]? = some s → (i = j ∧ s = sl') ∨ (i ≠ j ∧ ρ[j]? = some s) := fun j s h => by
    by_cases hj : i = j
    · subst hj; rw [List.getElem?_set_self hl] at h; cases h; exact .inl ⟨rfl, rfl⟩
    · rw [List.getElem?_set_ne hj] at h; exact .inr ⟨hj, h⟩
  have ownb : ∀ (j : Nat) s, (ρ.set i sl')[j]? = some s → isOwn s = true → ∃ s', ρ[j]? = some s' ∧ isOwn s' = true := fun j s h ho => by
    rcases back j s h with ⟨rfl, rfl⟩ | ⟨_, h⟩
    · exact ⟨_, hi, by assumption⟩
    · exact ⟨_, h, ho⟩
  refine ⟨⟨fun j s h => ?_, by rw [List.length_set]; exact st.es.len, ⟨st.es.sto.len, st.es.sto.nd, fun k ob e => ?_⟩, st.es.gm, fun b hb => ?_⟩, st.sub0, st.dom0, st.g0, st.gnew, fun j s b h hso hs => ?_, fun j k s s' b h hso hs h' hso' hs' => ?_, fun b u n e => ?_⟩
  · rcases back j s h with ⟨rfl, rfl⟩ | ⟨nj, h⟩
    · rw [ha]; exact r
    · exact (st.es.env j s h).poke hm hg fun hso z => nj (st.uniq i j _ s a hi ho ha h hso z)
  · obtain ⟨b, h1, h2⟩ := st.es.sto.at_ k ob e
    exact ⟨b, h1, h2.poke hm fun z => hg (by rw [← z]; exact List.mem_of_getElem? h1)⟩
  · by_cases z : b = a
    · rw [z, upd_same]; exact fun z => nomatch z
    · rw [upd_ne z]; exact st.es.dom b hb
  · obtain ⟨s', h', hso'⟩ := ownb j s h hso
    exact st.own j s' b h' hso' hs
  · obtain ⟨t, h1, h2⟩ := ownb j s h hso
    obtain ⟨t', h3, h4⟩ := ownb k s' h' hso'
    exact st.uniq j k t t' b h1 h2 hs h3 h4 hs'
  · have ne : b ≠ a := fun z => by rw [z, st.own i _ a hi ho ha] at e; cases e
    rw [upd_ne ne]
    exact st.keep b u n e
/-- an object of the store is written -/
theorem StR.writeSG {k : Nat} {ob ob' : Ob} {a : Addr} {o : HO} (st : StR T M0 G0 H0 M G ρ S σ H) (hk : S[k]? = some ob) (ha : G[k]? = some a) (r : ObR T M (upd H a o) a ob') :
    StR T M0 G0 H0 M G ρ (S.set k ob') σ (upd H a o) := by
  have hg : a ∈ G := List.mem_of_getElem? ha
  have hm := st.es.gm a hg
  have hl : k < S.length := (List.getElem?_eq_some_iff.mp hk).1
  have sm : Same (cut M H) (cut M (upd H a o)) := cut_upd hm
  refine ⟨⟨fun j s h => ?_, st.es.len, ⟨by rw [List.length_set]; exact st.es.sto.len, st.es.sto.nd, fun n ob e => ?_⟩, st.es.gm, fun b hb => ?_⟩, st.sub0, st.dom0, st.g0, st.gnew, st.own, st.uniq, fun b u n e => ?_⟩
  · have q := st.es.env j s h
    cases s with
    | un => trivial
    | val d => obtain ⟨v, h1, h2⟩ := q; exact ⟨v, h1, h2.up sm⟩
    | own es => obtain ⟨b, ws, h1, h2, h3, h4, h5⟩ := q; exact ⟨b, ws, h1, h2, h3, by rw [upd_ne (fun z => h3 (by rw [z]; exact hg))]; exact h4, h5.up sm⟩
    | ownd kvs => obtain ⟨b, h1, h2, h3, h4⟩ := q; exact ⟨b, h1, h2, h3, h4.step sm fun o e => by rw [upd_ne (fun z => h3 (by rw [z]; exact hg))]; exact e⟩
    | ref k => exact q
    | scr ns => obtain ⟨b, h1, h2⟩ := q; exact ⟨b, h1, sql_up sm h2⟩
  · by_cases hn : k = n
    · subst hn
      rw [List.getElem?_set_self hl] at e
      cases e
      exact ⟨a, ha, r⟩
    · rw [List.getElem?_set_ne hn] at e
      obtain ⟨b, h1, h2⟩ := st.es.sto.at_ n ob e
      have ne : b ≠ a := fun z => hn ((List.getElem?_inj (List.getElem?_eq_some_iff.mp ha).1 st.es.sto.nd).mp (by rw [ha, h1, z]))
      exact ⟨b, h1, h2.poke hm ne⟩
  · by_cases z : b = a
    · rw [z, upd_same]; exact fun z => nomatch z
    · rw [upd_ne z]; exact st.es.dom b hb
  · have ne : b ≠ a := fun z => by
      rw [z] at n e
      rw [st.gnew a hg n] at e; cases e
    rw [upd_ne ne]
    exact st.keep b u n e
/-- a thing that nothing knows yet is written -/
theorem StR.pokeF {a : Addr} {o : HO} (st : StR T M0 G0 H0 M G ρ S σ H) (hm : a ∈ M) (hg : a ∉ G) (h0 : H0 a = none) (hf : ∀ (j : Nat) s, ρ[j]? = some s → isOwn s = true → σ[j]? ≠ some (some (.ref a))) : StR T M0 G0 H0 M G ρ S σ (upd H a o) := by
  refine ⟨⟨fun j s h => (st.es.env j s h).poke hm hg fun ho => hf j s h ho, st.es.len, ⟨st.es.sto.len, st.es.sto.nd, fun k ob e => ?_⟩, st.es.gm, fun b hb => ?_⟩, st.sub0, st.dom0, st.g0, st.gnew, st.own, st.uniq, fun b u n e => ?_⟩
  · obtain ⟨b, h1, h2⟩ := st.es.sto.at_ k ob e
    exact ⟨b, h1, h2.poke hm fun z => hg (by rw [← z]; exact List.mem_of_getElem? h1)⟩
  · by_cases z : b = a
    · rw [z, upd_same]; exact fun z => nomatch z
    · rw [upd_ne z]; exact st.es.dom b hb
  · have ne : b ≠ a := fun z => by rw [z, h0] at e; cases e
    rw [upd_ne ne]
    exact st.keep b u n e
theorem tabR_new {a : Addr} {xs : List XE} {kvs : List (NestedKey × Dt)} (hm : a ∈ M) (p : Paired (RT T.K (cut M H)) kvs xs) : TabR T M (upd H a (TabO T a xs)) a kvs := by
  have sm : Same (cut M H) (cut M (upd H a (TabO T a xs))) := cut_upd hm
  exact ⟨xs, upd_same, L2.Paired.mapP p fun _ _ ⟨h1, h2, h3, h4, h5⟩ => ⟨h1, h2, h3, h4.up sm, h5.up sm⟩⟩
end
end Fw

set_option autoImplicit false
set_option linter.all false
set_option maxRecDepth 100000
set_option maxHeartbeats 4000000
/-! what a name is given -/
namespace Fw
open PySem PySem.Spec PyProof.Rows L2

/-- what goes on from (M, G, H) to (M', G', H') -/
structure Ext (M G : List Addr) (H : Hp) (M' G' : List Addr) (H' : Hp) : Prop where
  sub : ∀ a ∈ M, a ∈ M'
  cs : Same (cut M H) (cut M' H')
  st : Stp G H H'
  gx : ∃ Gx, G' = G ++ Gx ∧ ∀ a ∈ Gx, H a = none
section
variable {T : Tp} {M0 G0 M G M' G' : List Addr} {ρ : Rho} {S S' : Sto} {σ : L2.St} {H0 H H' : Hp}
theorem Ext.of (gm : ∀ a ∈ G, a ∈ M) (st : Stp G H H') : Ext M G H M G H' := ⟨fun _ h => h, st.cut gm, st, [], (List.append_nil _).symm, fun _ h => by cases h⟩
theorem SlotR.ext {s : Slot} {o : Option (Option V)} (e : Ext M G H M' G' H') (r : SlotR T M G H s o) : SlotR T M' G' H' s o := by
  obtain ⟨Gx, eg, fg⟩ := e.gx
  have out : ∀ a u, a ∉ G → H a = some u → a ∉ G' := fun a u n h z => by
    rw [eg] at z
    rcases List.mem_append.mp z with z | z
    · exact n z
    · rw [fg a z] at h; cases h
  cases s with
  | un => trivial
  | val d => obtain ⟨v, h1, h2⟩ := r; exact ⟨v, h1, h2.up e.cs⟩
  | own ds => obtain ⟨a, vs, h1, h2, h3, h4, h5⟩ := r; exact ⟨a, vs, h1, e.sub a h2, out a _ h3 h4, e.st a _ h3 h4, h5.up e.cs⟩
  | ownd kvs =>
    obtain ⟨a, h1, h2, h3, xs, h4, p⟩ := r
    exact ⟨a, h1, e.sub a h2, out a _ h3 h4, xs, e.st a _ h3 h4, L2.Paired.mapP p fun _ _ ⟨h1, h2, h3, h4, h5⟩ => ⟨h1, h2, h3, h4.up e.cs, h5.up e.cs⟩⟩
  | ref k =>
    obtain ⟨a, h1, h2⟩ := r
    refine ⟨a, h1, ?_⟩
    rw [eg, List.getElem?_append_left (List.getElem?_eq_some_iff.mp h2).1]
    exact h2
  | scr ns => obtain ⟨a, h1, h2⟩ := r; exact ⟨a, h1, sql_up e.cs h2⟩
theorem StR.put_new {i : Nat} {sl : Slot} {v : V} (st : StR T M0 G0 H0 M G ρ S σ H) (r : SlotR T M G H sl (some (some v))) (f : isOwn sl = true → ∀ a, v = .ref a → H0 a = none ∧ ∀ (j : Nat) s, ρ[j]? = some s → isOwn s = true → σ[j]? ≠ some (some (.ref a))) :
    StR T M0 G0 H0 M G (ρ.set i sl) S (σ.set i (some v)) H := by
  have back : ∀ (j : Nat) s, (ρ.set i sl)[j]? = some s → (i = j ∧ s = sl ∧ (σ.set i (some v))[j]? = some (some v)) ∨ (i ≠ j ∧ ρ[j]? = some s ∧ (σ.set i (some v))[j]? = σ[j]?) := fun j s h => by
    by_cases hj : i = j
    · subst hj
      by_cases hl : i < ρ.length
      · rw [List.getElem?_set_self hl] at h; cases h; exact .inl ⟨rfl, rfl, List.getElem?_set_self (by rw [← st.es.len]; exact hl)⟩
      · rw [List.getElem?_eq_none (by rw [List.length_set]; omega)] at h; cases h
    · rw [List.getElem?_set_ne hj] at h; exact .inr ⟨hj, h, List.getElem?_set_ne hj⟩
  refine ⟨⟨fun j s h => ?_, by rw [List.length_set, List.length_set]; exact st.es.len, st.es.sto, st.es.gm, st.es.dom⟩, st.sub0, st.dom0, st.g0, st.gnew, fun j s a h ho hs => ?_, fun j k s s' a h ho hs h' ho' hs' => ?_, st.keep⟩
  · rcases back j s h with ⟨rfl, rfl, e⟩ | ⟨_, h1, e⟩
    · rw [e]; exact r
    · rw [e]; exact st.es.env j s h1
  · rcases back j s h with ⟨rfl, rfl, e⟩ | ⟨_, h1, e⟩
    · rw [e] at hs; cases hs; exact (f ho a rfl).1
    · rw [e] at hs; exact st.own j s a h1 ho hs
  · rcases back j s h with ⟨rfl, rfl, e⟩ | ⟨_, h1, e⟩
    · rcases back k s' h' with ⟨rfl, rfl, e'⟩ | ⟨_, h2, e'⟩
      · rfl
      · rw [e] at hs; cases hs
        rw [e'] at hs'
        exact absurd hs' ((f ho a rfl).2 k s' h2 ho')
    · rcases back k s' h' with ⟨rfl, rfl, e'⟩ | ⟨_, h2, e'⟩
      · rw [e'] at hs'; cases hs'
        rw [e] at hs
        exact absurd hs ((f ho' a rfl).2 j s h1 ho)
      · rw [e] at hs
        rw [e'] at hs'
        exact st.uniq j k s s' a h1 ho hs h2 ho' hs'
/-- what is new is in no slot -/
theorem StR.fresh_own {a : Addr} (st : StR T M0 G0 H0 M G ρ S σ H) (hn : H a = none) : H0 a = none ∧ ∀ (j : Nat) s, ρ[j]? = some s → isOwn s = true → σ[j]? ≠ some (some (.ref a)) := by
  refine ⟨st.h0none hn, fun j s h ho z => ?_⟩
  have r := st.es.env j s h
  cases s with
  | own ds => obtain ⟨b, vs, h1, h2, h3, h4, h5⟩ := r; rw [h1] at z; cases z; rw [hn] at h4; cases h4
  | ownd kvs => obtain ⟨b, h1, h2, h3, xs, h4, p⟩ := r; rw [h1] at z; cases z; rw [hn] at h4; cases h4
  | _ => cases ho
end
def tK (T : Tp) (C : Cl) (k : Kd) : TE := fun σ H Q => ∃ M0 G0 H0 M G ρ S sl S', StR T M0 G0 H0 M G ρ S σ H ∧ evKd C k ρ S = some (sl, S') ∧
  ∀ M' G' v H', StR T M0 G0 H0 M' G' ρ S' σ H' → Ext M G H M' G' H' → SlotR T M' G' H' sl (some (some v)) → (isOwn sl = true → ∀ a, v = .ref a → H a = none) → Q v H'
def chK (c : Ch) : Kd → Expr → Bool
  | .val e, x => chE c e x
  | .own es, x => match x with | .List xs _ => chEs c es xs | _ => false
  | .copy e, x => match x with | .Call f [a] [] _ => isNm c "list" f && chE c e a | _ => false
  | .ref es, x => match x with | .List xs _ => chEs c es xs | _ => false
  | .tab, x => match x with | .Dict [] [] _ => true | _ => false
  | .tab1 k v, x => match x with | .Dict [some k'] [v'] _ => chE c k k' && chE c v v' | _ => false
  | .reft, x => match x with | .Dict [] [] _ => true | _ => false
section
variable {X : Cx} {c : Ch} {C : Cl} {pos : Pos}
/-- a list display, its list new -/
def tNew (T : Tp) (C : Cl) (es : Es) : TE := fun σ H Q => ∃ M G ρ S ds S', Est T M G ρ S σ H ∧ evs C es ρ S = some (ds, S') ∧ fits ds.length = true ∧ ∀ p vs H', Est T M G ρ S' σ H' → Stp G H H' → H' p = none → Rps T.K (cut M H') ds vs → Q (.ref p) (upd H' p (.lst vs))
theorem s_new {es : Es} {xs : List Expr} (p : PA X xs (tAs (tpOf X) C es)) : PE X (.List xs pos) (tNew (tpOf X) C es) := PE.mono (pe_lst p) fun σ H Q q => by
  obtain ⟨M, G, ρ, S, ds, S', e, h, hz, k⟩ := q
  exact ⟨M, G, ρ, S, ds, S', e, h, fun vs H1 es1 st1 r => ⟨by rw [← r.len]; exact fits_le hz, fun p hn => k p vs H1 es1 st1 hn r⟩⟩
theorem stp_none {G : List Addr} {H H' : Hp} {a : Addr} (gd : ∀ a ∈ G, H' a ≠ none) (st : Stp G H H') (h : H' a = none) : H a = none := by
  cases q : H a with
  | none => rfl
  | some o =>
    by_cases g : a ∈ G
    · exact absurd h (gd a g)
    · rw [st a o g q] at h; cases h
theorem sK (k : Kd) (x : Expr) (g : Cfg X c C) (h : chK c k x = true) : PE X x (tK (tpOf X) C k) := by
  cases k with
  | val e =>
    simp only [chK] at h
    refine PE.mono (sE e X c x g h).1 fun σ H Q q => ?_
    obtain ⟨M0, G0, H0, M, G, ρ, S, sl, S', st, hp, k⟩ := q
    simp only [evKd, Option.map_eq_some_iff] at hp
    obtain ⟨⟨d, S1⟩, h1, e⟩ := hp
    cases e
    exact ⟨M, G, ρ, S, d, _, st.es, h1, fun v H' es' st' r => k M G v H' (st.step es' st') (Ext.of st.es.gm st') ⟨v, rfl, r⟩ fun z => by cases z⟩
  | own es =>
    simp only [chK] at h
    split at h
    · refine PE.mono (s_new (sS es X c _ g h)) fun σ H Q q => ?_
      obtain ⟨M0, G0, H0, M, G, ρ, S, sl, S', st, hp, k⟩ := q
      simp only [evKd, Option.bind_eq_some_iff] at hp
      obtain ⟨⟨ds, S1⟩, h1, h2⟩ := hp
      split at h2
      · rename_i hz
        cases h2
        refine ⟨M, G, ρ, S, ds, _, st.es, h1, hz, fun p vs H1 es1 st1 hn r => ?_⟩
        have st2 := st.step es1 st1
        have ng : p ∉ G := fun z => es1.dom p (es1.gm p z) hn
        refine k (p :: M) G _ _ (st2.more hn) ⟨fun a ha => List.mem_cons_of_mem _ ha, fun a o z => cut_fresh hn _ _ (st1.cut st.es.gm _ _ z), st1.trans (Stp.new hn), [], (List.append_nil _).symm, fun _ z => by cases z⟩
          ⟨p, vs, rfl, List.mem_cons_self, ng, upd_same, r.up (cut_fresh hn)⟩ fun _ a e => ?_
        cases e
        exact stp_none es1.sto.dom st1 hn
      · cases h2
    · cases h
  | copy e =>
    simp only [chK] at h
    split at h
    · rw [Bool.and_eq_true] at h
      obtain ⟨p, rfl, hg, hk⟩ := isNm_ok g h.1
      refine PE.mono (pe_callTy (call_list_of (X := X)) hg (gb g (x := "list") (by decide)) (by decide +kernel) (pa_1 (chE_nostar h.2) (tP_of g h.2 (sE e X c _ g h.2).1)) (by decide) (okN_ok hk).1 (star_no (chE_nostar h.2))) fun σ H Q q => ?_
      obtain ⟨M0, G0, H0, M, G, ρ, S, sl, S', st, hp, k⟩ := q
      simp only [evKd, Option.bind_eq_some_iff] at hp
      obtain ⟨⟨p0, S1⟩, h1, h2⟩ := hp
      refine ⟨M, G, ρ, S, p0, S1, st.es, h1, fun v H1 es1 st1 rv => ?_⟩
      cases p0 with
      | t _ => cases h2
      | d x =>
        simp only [Option.map_eq_some_iff] at h2
        obtain ⟨ds, h3, e⟩ := h2
        cases e
        obtain ⟨q, vs, rfl, e2, r⟩ := rv.items h3
        refine ⟨q, vs, rfl, e2.symm, fun l hn => ?_⟩
        have st2 := st.step es1 st1
        have ng : l ∉ G := fun z => es1.dom l (es1.gm l z) hn
        refine k (l :: M) G _ _ (st2.more hn) ⟨fun a ha => List.mem_cons_of_mem _ ha, fun a o z => cut_fresh hn _ _ (st1.cut st.es.gm _ _ z), st1.trans (Stp.new hn), [], (List.append_nil _).symm, fun _ z => by cases z⟩
          ⟨l, vs, rfl, List.mem_cons_self, ng, upd_same, r.up (cut_fresh hn)⟩ fun _ a e => ?_
        cases e
        exact stp_none es1.sto.dom st1 hn
    · cases h
  | ref es =>
    simp only [chK] at h
    split at h
    · refine PE.mono (s_new (sS es X c _ g h)) fun σ H Q q => ?_
      obtain ⟨M0, G0, H0, M, G, ρ, S, sl, S', st, hp, k⟩ := q
      simp only [evKd, Option.bind_eq_some_iff] at hp
      obtain ⟨⟨ds, S1⟩, h1, h2⟩ := hp
      split at h2
      · rename_i hz
        cases h2
        refine ⟨M, G, ρ, S, ds, _, st.es, h1, hz, fun p vs H1 es1 st1 hn r => ?_⟩
        have st2 := (st.step es1 st1).more (o := .lst vs) hn
        have ng : p ∉ G := fun z => es1.dom p (es1.gm p z) hn
        have el := es1.sto.len
        have eg : (G ++ [p])[S1.length]? = some p := by rw [el, List.getElem?_append_right (Nat.le_refl _), Nat.sub_self]; rfl
        have ex : Ext (p :: M) G (upd H1 p (.lst vs)) (p :: M) (G ++ [p]) (upd H1 p (.lst vs)) → True := fun _ => trivial
        have so : StoR (tpOf X) (p :: M) (G ++ [p]) (S1 ++ [.lst ds]) (upd H1 p (.lst vs)) := by
          refine ⟨by rw [List.length_append, List.length_append, el]; rfl, ?_, fun n ob e => ?_⟩
          · rw [List.nodup_append]
            refine ⟨es1.sto.nd, List.nodup_cons.mpr ⟨by simp, List.nodup_nil⟩, fun a ha b hb z => ?_⟩
            rw [List.mem_singleton] at hb
            subst hb z
            exact ng ha
          · by_cases hn' : n < S1.length
            · rw [List.getElem?_append_left hn'] at e
              obtain ⟨b, h1, h2⟩ := st2.es.sto.at_ n ob e
              exact ⟨b, by rw [List.getElem?_append_left (List.getElem?_eq_some_iff.mp h1).1]; exact h1, h2⟩
            · rw [List.getElem?_append_right (by omega)] at e
              have : n - S1.length = 0 := by
                cases hh : n - S1.length with
                | zero => rfl
                | succ m => rw [hh] at e; simp at e
              rw [this] at e
              cases e
              have : n = S1.length := by omega
              subst this
              exact ⟨p, eg, vs, upd_same, r.up (cut_fresh hn)⟩
        have st3 : StR (tpOf X) M0 G0 H0 (p :: M) (G ++ [p]) ρ (S1 ++ [.lst ds]) σ (upd H1 p (.lst vs)) := by
          refine ⟨⟨fun j s h => ?_, st2.es.len, so, fun a ha => ?_, st2.es.dom⟩, st2.sub0, st2.dom0, ?_, fun a ha n => ?_, st2.own, st2.uniq, st2.keep⟩
          · have q := st2.es.env j s h
            cases s with
            | own es =>
              obtain ⟨b, ws, h1, h2, h3, h4, h5⟩ := q
              refine ⟨b, ws, h1, h2, fun z => ?_, h4, h5⟩
              rcases List.mem_append.mp z with z | z
              · exact h3 z
              · rw [List.mem_singleton] at z
                have f := (st.step es1 st1).fresh_own hn
                exact f.2 j _ h rfl (by rw [← z]; exact h1)
            | ownd kvs =>
              obtain ⟨b, h1, h2, h3, h4⟩ := q
              refine ⟨b, h1, h2, fun z => ?_, h4⟩
              rcases List.mem_append.mp z with z | z
              · exact h3 z
              · rw [List.mem_singleton] at z
                have f := (st.step es1 st1).fresh_own hn
                exact f.2 j _ h rfl (by rw [← z]; exact h1)
            | ref k =>
              obtain ⟨a, h1, h2⟩ := q
              exact ⟨a, h1, by rw [List.getElem?_append_left (List.getElem?_eq_some_iff.mp h2).1]; exact h2⟩
            | un => trivial
            | val d => exact q
            | scr ns => exact q
          · rcases List.mem_append.mp ha with z | z
            · exact st2.es.gm a z
            · rw [List.mem_singleton] at z; rw [z]; exact List.mem_cons_self
          · obtain ⟨Gx, e⟩ := st2.g0
            exact ⟨Gx ++ [p], by rw [e, List.append_assoc]⟩
          · rcases List.mem_append.mp ha with z | z
            · exact st2.gnew a z n
            · rw [List.mem_singleton] at z; rw [z]; exact (st.step es1 st1).h0none hn
        refine k (p :: M) (G ++ [p]) _ _ st3 ⟨fun a ha => List.mem_cons_of_mem _ ha, fun a o z => cut_fresh hn _ _ (st1.cut st.es.gm _ _ z), st1.trans (Stp.new hn), [p], rfl, fun a z => ?_⟩ ⟨p, rfl, eg⟩ fun z => by cases z
        rw [List.mem_singleton] at z
        rw [z]
        exact stp_none es1.sto.dom st1 hn
      · cases h2
    · cases h
  | tab =>
    simp only [chK] at h
    split at h
    · refine PE.mono pe_newT fun σ H Q q => ?_
      obtain ⟨M0, G0, H0, M, G, ρ, S, sl, S', st, hp, k⟩ := q
      simp only [evKd] at hp
      cases hp
      intro p hn
      have ng : p ∉ G := fun z => st.es.dom p (st.es.gm p z) hn
      refine k (p :: M) G _ _ (st.more hn) ⟨fun a ha => List.mem_cons_of_mem _ ha, cut_fresh hn, Stp.new hn, [], (List.append_nil _).symm, fun _ z => by cases z⟩
        ⟨p, rfl, List.mem_cons_self, ng, [], upd_same, .nil⟩ fun _ a e => ?_
      cases e
      exact hn
    · cases h
  | tab1 ke ve =>
    simp only [chK] at h
    split at h
    · rename_i k' v' pos'
      rw [Bool.and_eq_true] at h
      refine PE.mono (pe_oneT g.room (sE ke X c k' g h.1).1 (sE ve X c v' g h.2).1) fun σ H Q q => ?_
      obtain ⟨M0, G0, H0, M, G, ρ, S, sl, S', st, hp, k⟩ := q
      simp only [evKd, Option.bind_eq_some_iff, Option.map_eq_some_iff] at hp
      obtain ⟨⟨d1, S1⟩, h1, ⟨d2, S2⟩, h2, key, h3, e⟩ := hp
      cases e
      intro p hn
      have ng : p ∉ G := fun z => st.es.dom p (st.es.gm p z) hn
      have st1 := st.more (o := TabO (tpOf X) p []) hn
      refine ⟨p :: M, G, ρ, S, d1, S1, st1.es, h1, fun v H1 es1 sp1 r1 => ⟨p :: M, G, ρ, S1, d2, _, es1, h2, fun w H2 es2 sp2 r2 => ?_⟩⟩
      have hp2 : H2 p = some (TabO (tpOf X) p []) := sp2 _ _ ng (sp1 _ _ ng upd_same)
      obtain ⟨e1, e2, e3, ds, rfl⟩ := tkey_some h3
      have r1' := r1.up (sp2.cut es1.gm)
      obtain ⟨b, rfl⟩ : ∃ b, v = .ref b := by cases r1 with | tup _ _ => exact ⟨_, rfl⟩
      have fr := st.fresh_own hn
      have st3 := ((st1.step es1 sp1).step es2 sp2).pokeF (a := p) (o := TabO (tpOf X) p [(key, b, w)]) List.mem_cons_self ng fr.1 fr.2
      refine ⟨hp2, p :: M, _, key, b, rfl, r1', h3, k (p :: M) G _ _ st3 ⟨fun a ha => List.mem_cons_of_mem _ ha, fun a o z => cut_upd List.mem_cons_self _ _ ((sp1.trans sp2).cut st1.es.gm _ _ (cut_fresh hn _ _ z)), fun a o n z => ?_, [], (List.append_nil _).symm, fun _ z => by cases z⟩
        ⟨p, rfl, List.mem_cons_self, ng, tabR_new List.mem_cons_self (.cons ⟨rfl, e2, e3, by rw [data_keyD _ _ e1]; exact r1', r2⟩ .nil)⟩ fun _ a e => ?_⟩
      · have ne : a ≠ p := ne_of_none z hn
        rw [upd_ne ne]
        exact sp2 _ _ n (sp1 _ _ n (by rw [upd_ne ne]; exact z))
      · cases e
        exact hn
    · cases h
  | reft =>
    simp only [chK] at h
    split at h
    · refine PE.mono pe_newT fun σ H Q q => ?_
      obtain ⟨M0, G0, H0, M, G, ρ, S, sl, S', st, hp, k⟩ := q
      simp only [evKd] at hp
      cases hp
      intro p hn
      have st2 := st.more (o := TabO (tpOf X) p []) hn
      have ng : p ∉ G := fun z => st.es.dom p (st.es.gm p z) hn
      have el := st.es.sto.len
      have eg : (G ++ [p])[S.length]? = some p := by rw [el, List.getElem?_append_right (Nat.le_refl _), Nat.sub_self]; rfl
      have so : StoR (tpOf X) (p :: M) (G ++ [p]) (S ++ [.dct []]) (upd H p (TabO (tpOf X) p [])) := by
        refine ⟨by rw [List.length_append, List.length_append, el]; rfl, ?_, fun n ob e => ?_⟩
        · rw [List.nodup_append]
          refine ⟨st.es.sto.nd, List.nodup_cons.mpr ⟨by simp, List.nodup_nil⟩, fun a ha b hb z => ?_⟩
          rw [List.mem_singleton] at hb
          subst hb z
          exact ng ha
        · by_cases hn' : n < S.length
          · rw [List.getElem?_append_left hn'] at e
            obtain ⟨b, h1, h2⟩ := st2.es.sto.at_ n ob e
            exact ⟨b, by rw [List.getElem?_append_left (List.getElem?_eq_some_iff.mp h1).1]; exact h1, h2⟩
          · rw [List.getElem?_append_right (by omega)] at e
            have : n - S.length = 0 := by
              cases hh : n - S.length with
              | zero => rfl
              | succ m => rw [hh] at e; simp at e
            rw [this] at e
            cases e
            have : n = S.length := by omega
            subst this
            exact ⟨p, eg, [], upd_same, .nil⟩
      have st3 : StR (tpOf X) M0 G0 H0 (p :: M) (G ++ [p]) ρ (S ++ [.dct []]) σ (upd H p (TabO (tpOf X) p [])) := by
        refine ⟨⟨fun j s h => ?_, st2.es.len, so, fun a ha => ?_, st2.es.dom⟩, st2.sub0, st2.dom0, ?_, fun a ha n => ?_, st2.own, st2.uniq, st2.keep⟩
        · have q := st2.es.env j s h
          cases s with
          | own es =>
            obtain ⟨b, ws, h1, h2, h3, h4, h5⟩ := q
            refine ⟨b, ws, h1, h2, fun z => ?_, h4, h5⟩
            rcases List.mem_append.mp z with z | z
            · exact h3 z
            · rw [List.mem_singleton] at z
              exact (st.fresh_own hn).2 j _ h rfl (by rw [← z]; exact h1)
          | ownd kvs =>
            obtain ⟨b, h1, h2, h3, h4⟩ := q
            refine ⟨b, h1, h2, fun z => ?_, h4⟩
            rcases List.mem_append.mp z with z | z
            · exact h3 z
            · rw [List.mem_singleton] at z
              exact (st.fresh_own hn).2 j _ h rfl (by rw [← z]; exact h1)
          | ref k =>
            obtain ⟨a, h1, h2⟩ := q
            exact ⟨a, h1, by rw [List.getElem?_append_left (List.getElem?_eq_some_iff.mp h2).1]; exact h2⟩
          | un => trivial
          | val d => exact q
          | scr ns => exact q
        · rcases List.mem_append.mp ha with z | z
          · exact st2.es.gm a z
          · rw [List.mem_singleton] at z; rw [z]; exact List.mem_cons_self
        · obtain ⟨Gx, e⟩ := st2.g0
          exact ⟨Gx ++ [p], by rw [e, List.append_assoc]⟩
        · rcases List.mem_append.mp ha with z | z
          · exact st2.gnew a z n
          · rw [List.mem_singleton] at z; rw [z]; exact st.h0none hn
      refine k (p :: M) (G ++ [p]) _ _ st3 ⟨fun a ha => List.mem_cons_of_mem _ ha, cut_fresh hn, Stp.new hn, [p], rfl, fun a z => ?_⟩ ⟨p, rfl, eg⟩ fun z => by cases z
      rw [List.mem_singleton] at z
      rw [z]
      exact hn
    · cases h
end
end Fw

set_option autoImplicit false
set_option linter.all false
set_option maxRecDepth 100000
set_option maxHeartbeats 4000000
/-! statements: what is checked -/
namespace Fw
open PySem PySem.Spec PyProof.Rows L2

/-- name = [..] on one line is stored within -/
def swB (c : Ch) (y : Str) (py : Pos) : Expr → Bool
  | .ListComp _ _ scope p => decide (c.sc.names.lookup y = some .local) && (py.line == p.line) && !(scope.names.any fun (n, k) => n == y && (k == .local || k == .cell))
  | _ => false
def notLC : Expr → Bool
  | .ListComp .. => false
  | .SetComp .. => false
  | .DictComp .. => false
  | _ => true
def nosd : Expr → Bool
  | .SetComp .. => false
  | .DictComp .. => false
  | _ => true
def notTup : Expr → Bool
  | .Tuple .. => false
  | _ => true
/-- a, b = x, y is stored from the right -/
def swap2 (c : Ch) (y : Str) (py : Pos) (z : Str) (pz : Pos) (a b : Expr) : Bool :=
  decide (c.sc.names.lookup y = some .local) && decide (c.sc.names.lookup z = some .local) && (pz.line == py.line) && !(y == z) && !([a, b].all (foldedForSure 8)) && !([a, b].all (constantsAlone 8))
/-- or as a tuple -/
def plain2 (c : Ch) (y : Str) (py : Pos) (z : Str) (pz : Pos) (a b : Expr) : Bool :=
  !decide (c.sc.names.lookup y = some .local) || !decide (c.sc.names.lookup z = some .local) || [a, b].all (foldedForSure 8)
def swap3 (c : Ch) (y : Str) (py : Pos) (z : Str) (pz : Pos) (w : Str) (pw : Pos) (a b d : Expr) : Bool :=
  decide (c.sc.names.lookup y = some .local) && decide (c.sc.names.lookup z = some .local) && decide (c.sc.names.lookup w = some .local) && (pz.line == py.line) && (pw.line == py.line) && !(y == z) && !(y == w) && !(z == w) && !([a, b, d].all (foldedForSure 8)) && !([a, b, d].all (constantsAlone 8))

mutual
def chS (c : Ch) : St → Stmt → Bool
  | .frz _ s, x => chS c s x
  | .set i k, x => match x with | .Assign [.Name y _] v _ => c.at_ i y && c.loc y && chK c k v | _ => false
  | .par i j k l, x => match x with
    | .Assign [.Tuple [.Name y py, .Name z pz] _ _] (.Tuple [a, b] _ _) _ => decide (i ≠ j) && c.at_ i y && c.loc y && c.at_ j z && c.loc z && nstar a && nstar b && chK c k a && chK c l b && (swap2 c y py z pz a b || plain2 c y py z pz a b)
    | _ => false
  | .par3 i j n k l m, x => match x with
    | .Assign [.Tuple [.Name y py, .Name z pz, .Name w pw] _ _] (.Tuple [a, b, d] _ _) _ => decide (i ≠ j ∧ i ≠ n ∧ j ≠ n) && c.at_ i y && c.at_ j z && c.at_ n w && nstar a && nstar b && nstar d && chK c k a && chK c l b && chK c m d && swap3 c y py z pz w pw a b d
    | _ => false
  | .unp t e, x => match x with | .Assign [tg] v _ => isTupE tg && chTg c t tg && notLC v && notTup v && chE c e v | _ => false
  | .app i e, x => match x with | .Expr (.Call (.Attribute (.Name y _) at_ apos) [v] [] cpos) _ => eqS at_ "append" && c.at_ i y && c.vis y && (apos.endLine == cpos.line) && chE c e v | _ => false
  | .pop i j, x => match x with | .Assign [.Name y _] (.Call (.Attribute (.Name z _) at_ apos) [] [] cpos) _ => eqS at_ "pop" && c.at_ i y && c.loc y && c.at_ j z && c.vis z && (apos.endLine == cpos.line) | _ => false
  | .popAt _ _, _ => false
  | .popu t j, x => match x with | .Assign [tg] (.Call (.Attribute (.Name z _) at_ apos) [] [] cpos) _ => isTupE tg && chTg c t tg && eqS at_ "pop" && c.at_ j z && c.vis z && (apos.endLine == cpos.line) | _ => false
  | .ins _ _ _, _ => false
  | .put i k e, x => match x with | .Assign [.Subscript (.Name y _) ix _] v _ => c.at_ i y && c.vis y && notSlice ix && notLC v && chE c k ix && chE c e v | _ => false
  | .ifs t a b, x => match x with | .If t' a' b' _ => chT t && chE c t t' && chSs c a a' && chSs c b b' | _ => false
  | .whl t b, x => match x with | .While t' b' [] _ => chT t && chE c t t' && chSs c b b' | _ => false
  | .for t it b, x => match x with | .For tg iter b' [] _ => noSet iter && noPeek it && itTg it tg && chTg c t tg && chI c it iter && chSs c b b' | _ => false
  | .ret e, x => match x with | .Return (some v) _ => chE c e v | _ => false
  | .retn, x => match x with | .Return none _ => true | _ => false
  | .pass, x => match x with | .Pass _ => true | _ => false
def chSs (c : Ch) : Ss → List Stmt → Bool
  | .nil, xs => match xs with | [] => true | _ => false
  | .cons s r, xs => match xs with | x :: xs => chS c s x && chSs c r xs | [] => false
end

/-! what is wanted behind a statement -/
def Post (T : Tp) (M0 G0 : List Addr) (H0 : Hp) (M : List Addr) (H : Hp) (D : Ends) : Out × Rho × Sto → Prop
  | (.next, ρ', S') => ∀ M' G' σ' H', StR T M0 G0 H0 M' G' ρ' S' σ' H' → Same (cut M H) (cut M' H') → D.nx σ' H'
  | (.ret d, _, S') => ∀ M' G' ρ' σ' v H', StR T M0 G0 H0 M' G' ρ' S' σ' H' → Rp T.K (cut M' H') d v → D.rt v H'
def tS (T : Tp) (C : Cl) (N : Nat) (s : St) : TS := fun D σ H => ∃ M0 G0 H0 M G ρ S r, StR T M0 G0 H0 M G ρ S σ H ∧ xc C N s ρ S = some r ∧ Post T M0 G0 H0 M H D r
def tSs (T : Tp) (C : Cl) (N : Nat) (s : Ss) : TS := fun D σ H => ∃ M0 G0 H0 M G ρ S r, StR T M0 G0 H0 M G ρ S σ H ∧ xcs C N s ρ S = some r ∧ Post T M0 G0 H0 M H D r
section
variable {T : Tp} {M0 G0 M G : List Addr} {ρ : Rho} {S S' : Sto} {σ : L2.St} {H0 H H' H1 : Hp} {D : Ends} {r : Out × Rho × Sto}
theorem Post.pre {M1 : List Addr} (p : Post T M0 G0 H0 M H D r) (e : Same (cut M H) (cut M1 H1)) : Post T M0 G0 H0 M1 H1 D r := by
  obtain ⟨o, ρ', S'⟩ := r
  cases o with
  | next => exact fun M' G' σ' H' st sm => p M' G' σ' H' st (e.trans sm)
  | ret d => exact p
/-- a list is no longer owned -/
theorem StR.thaw {i : Nat} {ds : List Dt} (st : StR T M0 G0 H0 M G ρ S σ H) (hi : ρ[i]? = some (.own ds)) : ∃ M', StR T M0 G0 H0 M' G (ρ.set i (.val (.list ds))) S σ H ∧ Same (cut M H) (cut M' H) := by
  obtain ⟨a, vs, h1, h2, h3, h4, h5⟩ := st.es.env i _ hi
  have hl : i < ρ.length := (List.getElem?_eq_some_iff.mp hi).1
  have sub : ∀ b ∈ M.filter (fun b => decide (b ≠ a)), b ∈ M := fun b hb => (List.mem_filter.mp hb).1
  have sm : Same (cut M H) (cut (M.filter (fun b => decide (b ≠ a))) H) := cut_sub sub
  have na : a ∉ M.filter (fun b => decide (b ≠ a)) := fun z => by have := (List.mem_filter.mp z).2; simp at this
  have inn : ∀ b, b ∈ M → b ≠ a → b ∈ M.filter (fun b => decide (b ≠ a)) := fun b hb hn => List.mem_filter.mpr ⟨hb, by simpa using hn⟩
  have back : ∀ (j : Nat) s, (ρ.set i (.val (.list ds)))[j]? = some s → (i = j ∧ s = .val (.list ds)) ∨ (i ≠ j ∧ ρ[j]? = some s) := fun j s h => by
    by_cases hj : i = j
    · subst hj; rw [List.getElem?_set_self hl] at h; cases h; exact .inl ⟨rfl, rfl⟩
    · rw [List.getElem?_set_ne hj] at h; exact .inr ⟨hj, h⟩
  have obk : ∀ (j : Nat) s, (ρ.set i (.val (.list ds)))[j]? = some s → isOwn s = true → i ≠ j ∧ ρ[j]? = some s := fun j s h ho => by
    rcases back j s h with ⟨rfl, rfl⟩ | q
    · cases ho
    · exact q
  refine ⟨M.filter (fun b => decide (b ≠ a)), ⟨⟨fun j s h => ?_, by rw [List.length_set]; exact st.es.len, st.es.sto.sub sub, fun b hb => inn b (st.es.gm b hb) (fun z => h3 (by rw [← z]; exact hb)), fun b hb => st.es.dom b (sub b hb)⟩,
    fun b hb => inn b (st.sub0 b hb) (fun z => st.dom0 b hb (by rw [z]; exact st.own i _ a hi rfl h1)), st.dom0, st.g0, st.gnew, fun j s b h ho hs => ?_, fun j k s s' b h ho hs h' ho' hs' => ?_, st.keep⟩, sm⟩
  · rcases back j s h with ⟨rfl, rfl⟩ | ⟨nj, h⟩
    · exact ⟨_, h1, .lst (by rw [cut_out na]; exact h4) (h5.up sm)⟩
    · have q := st.es.env j s h
      have apart : ∀ b, isOwn s = true → σ[j]? = some (some (.ref b)) → b ≠ a := fun b ho hb z => nj (st.uniq i j _ s a hi rfl h1 h ho (by rw [← z]; exact hb))
      cases s with
      | un => trivial
      | val d => obtain ⟨v, k1, k2⟩ := q; exact ⟨v, k1, k2.up sm⟩
      | own es => obtain ⟨b, ws, k1, k2, k3, k4, k5⟩ := q; exact ⟨b, ws, k1, inn b k2 (apart b rfl k1), k3, k4, k5.up sm⟩
      | ownd kvs => obtain ⟨b, k1, k2, k3, k4⟩ := q; exact ⟨b, k1, inn b k2 (apart b rfl k1), k3, k4.sub sub⟩
      | ref k => exact q
      | scr ns => obtain ⟨b, k1, k2⟩ := q; exact ⟨b, k1, sql_up sm k2⟩
  · obtain ⟨n, h⟩ := obk j s h ho
    exact st.own j s b h ho hs
  · obtain ⟨n, h⟩ := obk j s h ho
    obtain ⟨n', h'⟩ := obk k s' h' ho'
    exact st.uniq j k s s' b h ho hs h' ho' hs'
theorem StR.freeze (st : StR T M0 G0 H0 M G ρ S σ H) : ∀ is : List Nat, ∃ M', StR T M0 G0 H0 M' G (freeze ρ is) S σ H ∧ Same (cut M H) (cut M' H)
  | [] => ⟨M, st, Same.refl _⟩
  | i :: r => by
    obtain ⟨M1, st1, sm1⟩ := StR.freeze st r
    unfold Fw.freeze
    split
    · rename_i ds e
      obtain ⟨M2, st2, sm2⟩ := st1.thaw e
      exact ⟨M2, st2, sm1.trans sm2⟩
    · exact ⟨M1, st1, sm1⟩
end
end Fw

set_option autoImplicit false
set_option linter.all false
set_option maxRecDepth 100000
set_option maxHeartbeats 4000000
/-! statements keep to the language: assignments -/
namespace Fw
open PySem PySem.Spec PyProof.Rows L2

section
variable {X : Cx} {c : Ch} {C : Cl} {N : Nat} {pos py pz pw : Pos} {y z w : Str}
theorem sw_false {v : Expr} {l : Nat} (g : Cfg X c C) (hn : nosd v = true) (h : swB c y py v = false) : swapsWith v (some (.Name y py)) l X.env = pure false := by
  cases v <;> first | rfl | exact absurd hn Bool.false_ne_true | skip
  rename_i elt gs scope p
  unfold swB at h
  have hb : X.env.blockKind = .function := by unfold Env.blockKind; rw [g.kind]; rfl
  unfold swapsWith
  simp only [hb, Expr.pos, Env.kindOf, g.sc]
  have e : ((decide (c.sc.names.lookup y = some .local)) : Bool) = (c.sc.names.lookup y == some NameKind.local) := by
    rw [Bool.eq_iff_iff]; simp
  rw [e] at h
  have e2 : ((NameKind.local == NameKind.local) : Bool) = true := rfl
  simp only [BEq.rfl, Bool.true_and]
  rw [show ((c.sc.names.lookup y == some NameKind.local && py.line == p.line && !(scope.names.any fun (n, k) => n == y && (k == NameKind.local || k == NameKind.cell)))) = false from h]
theorem sw_yes {elt : Expr} {gs : List Comprehension} {scope : Scope} {p : Pos} {l : Nat} (g : Cfg X c C) (h : swB c y py (.ListComp elt gs scope p) = true) : swapsWith (.ListComp elt gs scope p) (some (.Name y py)) l X.env = pure true ∧ X.env.scope.names.lookup y = some .local := by
  unfold swB at h
  simp only [Bool.and_eq_true, decide_eq_true_eq] at h
  obtain ⟨⟨h1, h2⟩, h3⟩ := h
  have hl : X.env.scope.names.lookup y = some .local := by rw [g.sc]; exact h1
  exact ⟨sw_true g.kind hl h2 (by simpa using h3), hl⟩
theorem chE_nosd {e : E} {x : Expr} (h : chE c e x = true) : nosd x = true := by
  cases x <;> first | rfl | skip
  all_goals
    exfalso
    cases e <;> first | (unfold chE at h; exact absurd h Bool.false_ne_true) | skip
    · rename_i d; unfold chE isCst at h; cases d <;> exact absurd h Bool.false_ne_true
    · rename_i f _; unfold chE at h; cases f <;> exact absurd h Bool.false_ne_true
theorem chK_nosd {k : Kd} {x : Expr} (h : chK c k x = true) : nosd x = true := by
  cases k with
  | val e => simp only [chK] at h; exact chE_nosd h
  | _ => simp only [chK] at h; split at h <;> first | rfl | cases h
/-- name = [..] within -/
theorem sSetLc {e : E} {elt : Expr} {gs : List Comprehension} {scope : Scope} {p : Pos} {i : Nat} (g : Cfg X c C) (hi : X.N[i]? = some y) (hw : swB c y py (.ListComp elt gs scope p) = true) (h : chE c e (.ListComp elt gs scope p) = true) :
    PS X (.Assign [.Name y py] (.ListComp elt gs scope p) pos) (tAsg (tE (tpOf X) C e) (gName i)) := by
  obtain ⟨sw, hl⟩ := sw_yes (l := pos.line) g hw
  have hN : X.N.Nodup := by rw [g.N]; exact g.nd
  cases e <;> first | (unfold chE at h; exact absurd h Bool.false_ne_true) | skip
  · rename_i d; unfold chE isCst at h; cases d <;> exact absurd h Bool.false_ne_true
  · rename_i f _; unfold chE at h; cases f <;> exact absurd h Bool.false_ne_true
  · rename_i el t it cs
    unfold chE at h
    split at h
    · rename_i e0 el' tg iter ifs z scope' pos' e1
      cases e1
      simp only [Bool.and_eq_true, decide_eq_true_eq] at h
      obtain ⟨⟨⟨⟨⟨⟨⟨⟨h1, hs⟩, hb⟩, hl2⟩, h5⟩, h6⟩, hg⟩, h8⟩, h9⟩ := h
      subst h1
      have q := ps_setLc (i := i) (py := py) (pos := p) (spos := pos) (elt := elt) (tt := tTs (tpOf X) C cs) (te := tE (tpOf X) C el) (g := tgG X.K t) g.calm hN hi hl sw (sI it X c tg iter g h5 h6) (blk_ok g hb) (fun s H L cl fp => sg_tg (g.blk (scope := scope) (blk_ok g hb).kind s H L cl fp) hg)
        (fun s H L cl fp => sC cs _ _ ifs (g.blk (blk_ok g hb).kind s H L cl fp) h8) (fun s H L cl fp => (sE el _ _ elt (g.blk (blk_ok g hb).kind s H L cl fp) h9).1) (noSet_fold hs)
      rw [own_snd hl2] at q
      exact PS.mono q fun D σ H r => comp_read r
    · cases h
  · rename_i el t1 i1 c1 t2 i2 c2
    unfold chE at h
    split at h
    · rename_i e0 el' tg iter ifs z tg2 iter2 ifs2 z2 scope' pos' e1
      cases e1
      simp only [Bool.and_eq_true, decide_eq_true_eq] at h
      obtain ⟨⟨⟨⟨⟨⟨⟨⟨⟨⟨⟨⟨⟨⟨⟨⟨h1, h1'⟩, h2⟩, h2'⟩, hb⟩, h4⟩, h4'⟩, h5⟩, h5'⟩, h55⟩, h6⟩, h7⟩, h8⟩, h6'⟩, h7'⟩, h8'⟩, h9⟩ := h
      subst h1 h1'
      have ho : ((tgN tg ++ tgN tg2).zip (t1.slots ++ t2.slots)).map (·.2) = t1.slots ++ t2.slots := own_snd (by rw [List.length_append, List.length_append, h4, h4'])
      have q := ps_setLc2 (i := i) (py := py) (pos := p) (spos := pos) (elt := elt) (tt := tTs (tpOf X) C c1) (wi1 := tIF (tpOf X) C i2) (tt1 := tTs (tpOf X) C c2) (te := tE (tpOf X) C el) (g := tgG X.K t1) (g1 := tgG X.K t2) (vs1 := t2.slots) g.calm hN hi hl sw (sI i1 X c tg iter g h5 h6) (blk_ok g hb)
        (by rw [ho]; exact fun i hi => List.mem_append_right _ hi)
        (fun s H L cl fp => sg_tg (g.blk (scope := scope) (blk_ok g hb).kind s H L cl fp) h7) (fun s H L cl fp => sC c1 _ _ ifs (g.blk (blk_ok g hb).kind s H L cl fp) h8) (fun s H L cl fp => sIF i2 _ _ tg2 iter2 (g.blk (blk_ok g hb).kind s H L cl fp) h55 h5' h6') (fun s H L cl fp => sg_tg (g.blk (scope := scope) (blk_ok g hb).kind s H L cl fp) h7')
        (fun s H L cl fp => sC c2 _ _ ifs2 (g.blk (blk_ok g hb).kind s H L cl fp) h8') (fun s H L cl fp => (sE el _ _ elt (g.blk (blk_ok g hb).kind s H L cl fp) h9).1) (noSet_fold h2) (fun _ => noSet_fold h2')
      rw [ho] at q
      exact PS.mono q fun D σ H r => comp2_read r
    · cases h
theorem set_read {i : Nat} {k : Kd} {D : Ends} {σ : L2.St} {H : Hp} (q : tS (tpOf X) C N (.set i k) D σ H) : tAsg (tK (tpOf X) C k) (gName i) D σ H := by
  obtain ⟨M0, G0, H0, M, G, ρ, S, r, st, hp, po⟩ := q
  simp only [xc, Option.map_eq_some_iff] at hp
  obtain ⟨⟨sl, S1⟩, h1, e⟩ := hp
  subst e
  refine ⟨M0, G0, H0, M, G, ρ, S, sl, S1, st, h1, fun M' G' v H' st' ex r f => ?_⟩
  refine po M' G' _ H' (st'.put_new r fun ho a e => ?_) ex.cs
  refine ⟨st.h0none (f ho a e), fun j s h ho' z => ?_⟩
  exact (st.fresh_own (f ho a e)).2 j s h ho' z
theorem set_readE {i : Nat} {e : E} {D : Ends} {σ : L2.St} {H : Hp} (q : tS (tpOf X) C N (.set i (.val e)) D σ H) : tAsg (tE (tpOf X) C e) (gName i) D σ H := by
  obtain ⟨M0, G0, H0, M, G, ρ, S, r, st, hp, po⟩ := q
  simp only [xc, evKd, Option.map_eq_some_iff] at hp
  obtain ⟨⟨sl, S1⟩, ⟨⟨d, S2⟩, h1, e1⟩, e⟩ := hp
  cases e1
  subst e
  exact ⟨M, G, ρ, S, d, _, st.es, h1, fun v H' es' st' r => po M G _ H' ((st.step es' st').put r) (st'.cut st.es.gm)⟩
theorem ss_set {i : Nat} {k : Kd} {v : Expr} (g : Cfg X c C) (h1 : c.at_ i y = true) (h2 : c.loc y = true) (h3 : chK c k v = true) : PS X (.Assign [.Name y py] v pos) (tS (tpOf X) C N (.set i k)) := by
  obtain ⟨q1, q2⟩ := Ch.at_ok g h1
  obtain ⟨q3, q4⟩ := Ch.loc_ok g h2
  have hN : X.N.Nodup := by rw [g.N]; exact g.nd
  cases hw : swB c y py v with
  | false => exact PS.mono (ps_set hN q1 q3 (sK k v g h3) (sw_false g (chK_nosd h3) hw) q4) fun _ _ _ => set_read
  | true =>
    cases v <;> first | (unfold swB at hw; exact absurd hw Bool.false_ne_true) | skip
    cases k with
    | val e => simp only [chK] at h3; exact PS.mono (sSetLc g q1 hw h3) fun _ _ _ => set_readE
    | _ => simp only [chK] at h3; exact absurd h3 Bool.false_ne_true
/-! a, b = x, y -/
theorem swap2_ok {a b : Expr} {kt k2 : Nat} {pt pt2 : Pos} (g : Cfg X c C) (ha : nstar a = true) (hb : nstar b = true) (h : swap2 c y py z pz a b = true) :
    swappedStores [.Tuple [.Name y py, .Name z pz] kt pt] (.Tuple [a, b] k2 pt2) X.env = pure (some [y, z]) ∧ X.env.scope.names.lookup y = some .local ∧ X.env.scope.names.lookup z = some .local := by
  unfold swap2 at h
  simp only [Bool.and_eq_true, decide_eq_true_eq, Bool.not_eq_true'] at h
  obtain ⟨⟨⟨⟨⟨h1, h2⟩, h3⟩, h4⟩, h5⟩, h6⟩ := h
  have k1 : X.env.scope.names.lookup y = some .local := by rw [g.sc]; exact h1
  have k2 : X.env.scope.names.lookup z = some .local := by rw [g.sc]; exact h2
  have hb' : X.env.blockKind = .function := by unfold Env.blockKind; rw [g.kind]; rfl
  refine ⟨?_, k1, k2⟩
  have dup : [y, z].eraseDups = [y, z] := by
    have ne : (z == y) = false := by
      cases q : z == y with
      | false => rfl
      | true => rw [beq_iff_eq] at q; rw [q] at h4; simp at h4
    simp [List.eraseDups_cons, ne]
  unfold swappedStores
  simp only [List.length_cons, List.length_nil, hb', Env.kindOf, k1, k2, List.head?_cons, Option.map_some, Option.getD_some, Expr.pos, List.filterMap_cons, List.filterMap_nil, BEq.rfl, Bool.true_and, h3, if_true, dup, h5, h6]
  rw [if_neg (by decide)]
  split
  · rename_i hB
    exfalso
    simp only [List.any_cons, List.any_nil, Bool.or_false, Bool.or_eq_true] at hB
    rcases hB with q | q
    · cases a <;> first | exact absurd q Bool.false_ne_true | exact absurd ha Bool.false_ne_true
    · cases b <;> first | exact absurd q Bool.false_ne_true | exact absurd hb Bool.false_ne_true
  · rw [if_neg (by decide)]
    rfl
theorem plain2_ok {a b : Expr} {kt k2 : Nat} {pt pt2 : Pos} (g : Cfg X c C) (h : plain2 c y py z pz a b = true) : swappedStores [.Tuple [.Name y py, .Name z pz] kt pt] (.Tuple [a, b] k2 pt2) X.env = pure none := by
  unfold plain2 at h
  simp only [Bool.or_eq_true, Bool.not_eq_true', decide_eq_false_iff_not] at h
  have hb' : X.env.blockKind = .function := by unfold Env.blockKind; rw [g.kind]; rfl
  unfold swappedStores
  simp only [List.length_cons, List.length_nil, hb', Env.kindOf, List.head?_cons, Option.map_some, Option.getD_some, Expr.pos, List.filterMap_cons, List.filterMap_nil]
  rw [if_neg (by decide)]
  have key : (X.env.scope.names.lookup y == some NameKind.local) = false ∨ (X.env.scope.names.lookup z == some NameKind.local) = false ∨ [a, b].all (foldedForSure 8) = true := by
    rcases h with (h | h) | h
    · left
      rw [g.sc]
      cases q : (c.sc.names.lookup y == some NameKind.local) with
      | false => rfl
      | true => exact absurd (beq_iff_eq.mp q) h
    · right; left
      rw [g.sc]
      cases q : (c.sc.names.lookup z == some NameKind.local) with
      | false => rfl
      | true => exact absurd (beq_iff_eq.mp q) h
    · exact .inr (.inr h)
  split
  · rfl
  · rcases key with k | k | k
    · simp only [k, Bool.false_and, Bool.false_eq_true, if_false]
      by_cases hz : (X.env.scope.names.lookup z == some NameKind.local && pz.line == py.line) = true
      · simp only [hz, if_true]; rfl
      · simp only [hz, if_false]; rfl
    · simp only [k, Bool.false_and, Bool.false_eq_true, if_false]
      by_cases hz : (X.env.scope.names.lookup y == some NameKind.local && py.line == py.line) = true
      · simp only [hz, if_true]; rfl
      · simp only [hz, if_false]; rfl
    · simp only [k, if_true, ite_self]
end
end Fw

set_option autoImplicit false
set_option linter.all false
set_option maxRecDepth 100000
set_option maxHeartbeats 4000000
/-! statements keep to the language: the rest but loops -/
namespace Fw
open PySem PySem.Spec PyProof.Rows L2

section
variable {X : Cx} {c : Ch} {C : Cl} {N : Nat} {pos py pz pw p2 p3 : Pos} {y z w : Str}
theorem StR.keepS {T : Tp} {M0 G0 M G : List Addr} {H0 H H' : Hp} {ρ : Rho} {S : Sto} {σ : L2.St} (st : StR T M0 G0 H0 M G ρ S σ H) (k : Same H H') : StR T M0 G0 H0 M G ρ S σ H' := st.step (st.es.keep k) (Same.stp k)
theorem Ext.trans {M G M1 G1 M2 G2 : List Addr} {H H1 H2 : Hp} (gd : ∀ a ∈ G, H a ≠ none) (a : Ext M G H M1 G1 H1) (b : Ext M1 G1 H1 M2 G2 H2) : Same (cut M H) (cut M2 H2) := a.cs.trans b.cs
/-- two values, two names -/
theorem par_read {i j : Nat} {k l : Kd} {D : Ends} {σ : L2.St} {H : Hp} (q : tS (tpOf X) C N (.par i j k l) D σ H) :
    tCons (tK (tpOf X) C k) (tCons (tK (tpOf X) C l) tNil) σ H fun vs H1 => ∃ v w, vs = [v, w] ∧ ∀ H2, Same H1 H2 → D.nx ((σ.set i (some v)).set j (some w)) H2 := by
  obtain ⟨M0, G0, H0, M, G, ρ, S, r, st, hp, po⟩ := q
  simp only [xc, Option.bind_eq_some_iff, Option.map_eq_some_iff] at hp
  obtain ⟨⟨p, S1⟩, h1, ⟨q, S2⟩, h2, e⟩ := hp
  subst e
  refine ⟨M0, G0, H0, M, G, ρ, S, p, S1, st, h1, fun M1 G1 v H1 st1 e1 r1 f1 => ⟨M0, G0, H0, M1, G1, ρ, S1, q, S2, st1, h2, fun M2 G2 w H2 st2 e2 r2 f2 => ?_⟩⟩
  refine ⟨v, w, rfl, fun H3 sm => ?_⟩
  have g1 : isOwn p = true → ∀ a, v = .ref a → H0 a = none ∧ ∀ (j : Nat) s, ρ[j]? = some s → isOwn s = true → σ[j]? ≠ some (some (.ref a)) := fun ho a e => st.fresh_own (f1 ho a e)
  have s1 := st1.put_new (i := i) r1 g1
  have s2 := (st2.put_new (i := i) (r1.ext e2) g1).put_new (i := j) r2 fun ho a e => s1.fresh_own (f2 ho a e)
  have sc : Same (cut M2 H2) (cut M2 H3) := (Same.stp (G := G2) sm).cut st2.es.gm
  exact po M2 G2 _ H3 (s2.keepS sm) (e1.cs.trans (e2.cs.trans sc))
theorem ss_par {i j : Nat} {k l : Kd} {a b : Expr} {kt k2 : Nat} (g : Cfg X c C) (hij : i ≠ j) (hy : c.at_ i y = true) (ly : c.loc y = true) (hz : c.at_ j z = true) (lz : c.loc z = true) (na : nstar a = true) (nb : nstar b = true) (ha : chK c k a = true) (hb : chK c l b = true)
    (hw : (swap2 c y py z pz a b || plain2 c y py z pz a b) = true) : PS X (.Assign [.Tuple [.Name y py, .Name z pz] kt p2] (.Tuple [a, b] k2 p3) pos) (tS (tpOf X) C N (.par i j k l)) := by
  obtain ⟨q1, _⟩ := Ch.at_ok g hy
  obtain ⟨q2, _⟩ := Ch.at_ok g hz
  have hN : X.N.Nodup := by rw [g.N]; exact g.nd
  have pa : PA X [a, b] (tCons (tK (tpOf X) C k) (tCons (tK (tpOf X) C l) tNil)) := pa_cons (sK k a g ha) (pa_1 nb (sK l b g hb)) (star_no na)
  rw [Bool.or_eq_true] at hw
  rcases hw with hw | hw
  · obtain ⟨w1, w2, w3⟩ := swap2_ok (kt := kt) (k2 := k2) (pt := p2) (pt2 := p3) g na nb hw
    refine PS.mono (ps_par g.calm hN q1 q2 hij w2 w3 pa w1) fun D σ H q => ?_
    have h := par_read q
    obtain ⟨M0, G0, H0, M, G, ρ, S, p, S1, st, h1, k0⟩ := h
    refine ⟨M0, G0, H0, M, G, ρ, S, p, S1, st, h1, fun M1 G1 v H1 st1 e1 r1 f1 => ?_⟩
    obtain ⟨M0', G0', H0', M, G, ρ, S, p, S1, st, h1, k0⟩ := k0 M1 G1 v H1 st1 e1 r1 f1
    refine ⟨M0', G0', H0', M, G, ρ, S, p, S1, st, h1, fun M1 G1 w H2 st1 e1 r1 f1 => ?_⟩
    obtain ⟨v', w', e, k⟩ := k0 M1 G1 w H2 st1 e1 r1 f1
    exact ⟨v', w', e, k H2 (Same.refl _)⟩
  · refine PS.mono (ps_asg (pe_tup pa) (pg_tup g.calm (pgs_cons (pg_name hN q1 (Ch.loc_ok g ly).1 (Ch.loc_ok g ly).2) (pgs_cons (pg_name hN q2 (Ch.loc_ok g lz).1 (Ch.loc_ok g lz).2) pgs_nil))) rfl (plain2_ok g hw)) fun D σ H q => ?_
    have h := par_read q
    obtain ⟨M0, G0, H0, M, G, ρ, S, p, S1, st, h1, k0⟩ := h
    refine ⟨M0, G0, H0, M, G, ρ, S, p, S1, st, h1, fun M1 G1 v H1 st1 e1 r1 f1 => ?_⟩
    obtain ⟨M0', G0', H0', M, G, ρ, S, p, S1, st, h1, k0⟩ := k0 M1 G1 v H1 st1 e1 r1 f1
    refine ⟨M0', G0', H0', M, G, ρ, S, p, S1, st, h1, fun M1 G1 w H2 st1 e1 r1 f1 => ?_⟩
    obtain ⟨v', w', e, k⟩ := k0 M1 G1 w H2 st1 e1 r1 f1
    cases e
    exact ⟨by show 2 ≤ sizeLine; decide, fun t hn => ⟨t, _, rfl, .inl (.inl upd_same), rfl, _, _, rfl, _, _, rfl, rfl, k _ (same_new hn)⟩⟩
/-- three -/
theorem swap3_ok {a b d : Expr} {kt k2 : Nat} {pt pt2 : Pos} (g : Cfg X c C) (ha : nstar a = true) (hb : nstar b = true) (hd : nstar d = true) (h : swap3 c y py z pz w pw a b d = true) :
    swappedStores [.Tuple [.Name y py, .Name z pz, .Name w pw] kt pt] (.Tuple [a, b, d] k2 pt2) X.env = pure (some [y, z, w]) ∧ X.env.scope.names.lookup y = some .local ∧ X.env.scope.names.lookup z = some .local ∧ X.env.scope.names.lookup w = some .local := by
  unfold swap3 at h
  simp only [Bool.and_eq_true, decide_eq_true_eq, Bool.not_eq_true'] at h
  obtain ⟨⟨⟨⟨⟨⟨⟨⟨⟨h1, h2⟩, h2'⟩, h3⟩, h3'⟩, h4⟩, h4'⟩, h4''⟩, h5⟩, h6⟩ := h
  have k1 : X.env.scope.names.lookup y = some .local := by rw [g.sc]; exact h1
  have k2 : X.env.scope.names.lookup z = some .local := by rw [g.sc]; exact h2
  have k3 : X.env.scope.names.lookup w = some .local := by rw [g.sc]; exact h2'
  have hb' : X.env.blockKind = .function := by unfold Env.blockKind; rw [g.kind]; rfl
  refine ⟨?_, k1, k2, k3⟩
  have sw : ∀ {a b : Str}, (a == b) = false → (b == a) = false := fun {a b} h => by
    cases q : b == a with
    | false => rfl
    | true => rw [beq_iff_eq] at q; rw [q] at h; simp at h
  have dup : [y, z, w].eraseDups = [y, z, w] := by
    simp [List.eraseDups_cons, sw h4, sw h4', sw h4'']
  unfold swappedStores
  simp only [List.length_cons, List.length_nil, hb', Env.kindOf, k1, k2, k3, List.head?_cons, Option.map_some, Option.getD_some, Expr.pos, List.filterMap_cons, List.filterMap_nil, BEq.rfl, Bool.true_and, h3, h3', if_true, dup, h5, h6]
  rw [if_neg (by decide)]
  split
  · rename_i hB
    exfalso
    simp only [List.any_cons, List.any_nil, Bool.or_false, Bool.or_eq_true] at hB
    rcases hB with q | q | q
    · cases a <;> first | exact absurd q Bool.false_ne_true | exact absurd ha Bool.false_ne_true
    · cases b <;> first | exact absurd q Bool.false_ne_true | exact absurd hb Bool.false_ne_true
    · cases d <;> first | exact absurd q Bool.false_ne_true | exact absurd hd Bool.false_ne_true
  · rw [if_neg (by decide)]
    rfl
theorem ss_par3 {i j n : Nat} {k l m : Kd} {a b d : Expr} {kt k2 : Nat} (g : Cfg X c C) (hij : i ≠ j ∧ i ≠ n ∧ j ≠ n) (hy : c.at_ i y = true) (hz : c.at_ j z = true) (hw' : c.at_ n w = true) (na : nstar a = true) (nb : nstar b = true) (nd : nstar d = true) (ha : chK c k a = true) (hb : chK c l b = true) (hd : chK c m d = true)
    (hw : swap3 c y py z pz w pw a b d = true) : PS X (.Assign [.Tuple [.Name y py, .Name z pz, .Name w pw] kt p2] (.Tuple [a, b, d] k2 p3) pos) (tS (tpOf X) C N (.par3 i j n k l m)) := by
  obtain ⟨q1, _⟩ := Ch.at_ok g hy
  obtain ⟨q2, _⟩ := Ch.at_ok g hz
  obtain ⟨q3, _⟩ := Ch.at_ok g hw'
  have hN : X.N.Nodup := by rw [g.N]; exact g.nd
  have pa : PA X [a, b, d] (tCons (tK (tpOf X) C k) (tCons (tK (tpOf X) C l) (tCons (tK (tpOf X) C m) tNil))) := pa_cons (sK k a g ha) (pa_cons (sK l b g hb) (pa_1 nd (sK m d g hd)) (star_no nb)) (star_no na)
  obtain ⟨w1, w2, w3, w4⟩ := swap3_ok (kt := kt) (k2 := k2) (pt := p2) (pt2 := p3) g na nb nd hw
  refine PS.mono (ps_par3 g.calm hN q1 q2 q3 hij.1 hij.2.1 hij.2.2 w2 w3 w4 pa w1) fun D σ H q => ?_
  obtain ⟨M0, G0, H0, M, G, ρ, S, r, st, hp, po⟩ := q
  simp only [xc, Option.bind_eq_some_iff, Option.map_eq_some_iff] at hp
  obtain ⟨⟨p, S1⟩, h1, ⟨q, S2⟩, h2, ⟨t, S3⟩, h3, e⟩ := hp
  subst e
  refine ⟨M0, G0, H0, M, G, ρ, S, p, S1, st, h1, fun M1 G1 v H1 st1 e1 r1 f1 => ⟨M0, G0, H0, M1, G1, ρ, S1, q, S2, st1, h2, fun M2 G2 w H2 st2 e2 r2 f2 => ⟨M0, G0, H0, M2, G2, ρ, S2, t, S3, st2, h3, fun M3 G3 u H3 st3 e3 r3 f3 => ?_⟩⟩⟩
  refine ⟨v, w, u, rfl, ?_⟩
  have g1 : isOwn p = true → ∀ a, v = .ref a → H0 a = none ∧ ∀ (j : Nat) s, ρ[j]? = some s → isOwn s = true → σ[j]? ≠ some (some (.ref a)) := fun ho a e => st.fresh_own (f1 ho a e)
  have s1 := st1.put_new (i := i) r1 g1
  have g2 : isOwn q = true → ∀ a, w = .ref a → H0 a = none ∧ ∀ (m : Nat) s, (ρ.set i p)[m]? = some s → isOwn s = true → (σ.set i (some v))[m]? ≠ some (some (.ref a)) := fun ho a e => s1.fresh_own (f2 ho a e)
  have s2 := (st2.put_new (i := i) (r1.ext e2) g1).put_new (i := j) r2 g2
  have s3 := ((st3.put_new (i := i) ((r1.ext e2).ext e3) g1).put_new (i := j) (r2.ext e3) g2).put_new (i := n) r3 fun ho a e => s2.fresh_own (f3 ho a e)
  exact po M3 G3 _ H3 s3 (e1.cs.trans (e2.cs.trans e3.cs))
/-- a, b = e -/
theorem ss_unp {t : Tg} {e : E} {tg v : Expr} (g : Cfg X c C) (ht : isTupE tg = true) (hg : chTg c t tg = true) (hn : notLC v = true) (hu : notTup v = true) (he : chE c e v = true) : PS X (.Assign [tg] v pos) (tS (tpOf X) C N (.unp t e)) := by
  cases tg <;> first | exact absurd ht Bool.false_ne_true | skip
  rename_i elts kk pp
  have h1 : swapsWithSole [.Tuple elts kk pp] v pos.line X.env = pure false := by
    cases v <;> first | rfl | exact absurd hn Bool.false_ne_true
  have h2 : swappedStores [.Tuple elts kk pp] v X.env = pure none := by
    cases v <;> first | rfl | exact absurd hu Bool.false_ne_true
  refine PS.mono (ps_asg (sE e X c v g he).1 (sg_tg g hg) h1 h2) fun D σ H q => ?_
  obtain ⟨M0, G0, H0, M, G, ρ, S, r, st, hp, po⟩ := q
  simp only [xc, Option.bind_eq_some_iff, Option.map_eq_some_iff] at hp
  obtain ⟨⟨d, S1⟩, h3, ρ1, h4, e⟩ := hp
  subst e
  refine ⟨M, G, ρ, S, d, S1, st.es, h3, fun x H1 es1 st1 rx => ?_⟩
  exact bnd_read (T := tpOf X) (P := fun ρ σ => StR (tpOf X) M0 G0 H0 M G ρ S1 σ H1) rx h4 (st.step es1 st1) (fun _ _ _ _ _ p r => p.put r) fun σ1 s1 _ _ => po M G σ1 H1 s1 (st1.cut st.es.gm)
/-- xs.append(e) -/
theorem lst_at {T : Tp} {M0 G0 M G : List Addr} {H0 H : Hp} {ρ : Rho} {S : Sto} {σ : L2.St} {i : Nat} (st : StR T M0 G0 H0 M G ρ S σ H) (h : lstAt ρ S i = true) : ∃ a vs, σ[i]? = some (some (.ref a)) ∧ H a = some (.lst vs) := by
  unfold lstAt at h
  split at h
  · rename_i ds e
    obtain ⟨a, vs, h1, _, _, h4, _⟩ := st.es.env i _ e
    exact ⟨a, vs, h1, h4⟩
  · rename_i k e
    obtain ⟨a, h1, h2⟩ := st.es.env i _ e
    split at h
    · rename_i ds e2
      obtain ⟨b, h3, vs, h4, _⟩ := st.es.sto.at_ k _ e2
      rw [h2] at h3
      cases h3
      exact ⟨a, vs, h1, h4⟩
    · cases h
  · cases h
/-- a list is changed, the new one written -/
theorem change_write {T : Tp} {M0 G0 M G : List Addr} {H0 H : Hp} {ρ : Rho} {S : Sto} {σ : L2.St} {i : Nat} {f : List Dt → Option (List Dt)} {r : Rho × Sto} (st : StR T M0 G0 H0 M G ρ S σ H) (h : change i ρ S f (fun _ => none) = some r) :
    ∃ a ds vs ds', σ[i]? = some (some (.ref a)) ∧ a ∈ M ∧ H a = some (.lst vs) ∧ Rps T.K (cut M H) ds vs ∧ f ds = some ds' ∧ ∀ vs', Rps T.K (cut M H) ds' vs' → StR T M0 G0 H0 M G r.1 r.2 σ (upd H a (.lst vs')) := by
  unfold change at h
  split at h
  · rename_i ds e
    rw [Option.map_eq_some_iff] at h
    obtain ⟨ds', h1, rfl⟩ := h
    obtain ⟨a, vs, k1, k2, k3, k4, k5⟩ := st.es.env i _ e
    exact ⟨a, ds, vs, ds', k1, k2, k4, k5, h1, fun vs' r => st.write e k1 r⟩
  · rw [Option.map_eq_some_iff] at h
    obtain ⟨_, h1, _⟩ := h
    cases h1
  · rename_i k e
    obtain ⟨a, k1, k2⟩ := st.es.env i _ e
    split at h
    · rename_i ds e2
      rw [Option.map_eq_some_iff] at h
      obtain ⟨ds', h1, rfl⟩ := h
      obtain ⟨b, h3, vs, h4, h5⟩ := st.es.sto.at_ k _ e2
      rw [k2] at h3
      cases h3
      exact ⟨a, ds, vs, ds', k1, st.es.gm a (List.mem_of_getElem? k2), h4, h5, h1, fun vs' r => st.writeS e2 k2 r⟩
    · rw [Option.map_eq_some_iff] at h
      obtain ⟨_, h1, _⟩ := h
      cases h1
    · cases h
  · cases h
theorem ss_app {i : Nat} {e : E} {v : Expr} {apos cpos : Pos} {at_ : Str} (g : Cfg X c C) (ha : eqS at_ "append" = true) (h1 : c.at_ i y = true) (h2 : c.vis y = true) (hl : (apos.endLine == cpos.line) = true) (he : chE c e v = true) :
    PS X (.Expr (.Call (.Attribute (.Name y py) at_ apos) [v] [] cpos) pos) (tS (tpOf X) C N (.app i e)) := by
  have ea := eqS_ok ha
  subst ea
  obtain ⟨q1, q2⟩ := Ch.at_ok g h1
  obtain ⟨q3, q4⟩ := okN_ok q2
  have hst := chE_nostar he
  have hm : MtR X "list.append" rAppend := mt_append
  have pe := pe_bm (o := .Name y py) (name := "append") (apos := apos) (cpos := cpos) F.plainAttrs_list F.slot_list_append F.type_list_append hm (pe_var q1 (Ch.vis_ok g h2) q3 q4) (pa_1 hst (sE e X c v g he).1) rfl (by rw [star_no hst]; rfl) hl (star_no hst) rfl
  refine PS.mono (ps_expr pe rfl) fun D σ H q => ?_
  obtain ⟨M0, G0, H0, M, G, ρ, S, r, st, hp, po⟩ := q
  simp only [xc] at hp
  split at hp
  · rename_i hla
    simp only [Option.bind_eq_some_iff, Option.map_eq_some_iff] at hp
    obtain ⟨⟨d, S1⟩, k1, ⟨ρ', S'⟩, k2, e1⟩ := hp
    subst e1
    obtain ⟨a0, vs0, z1, z2⟩ := lst_at st hla
    refine ⟨_, z1, .inl ⟨rfl, vs0, .inl (.inl z2)⟩, M, G, ρ, S, d, S1, st.es, k1, fun x H1 es1 st1 rx => ?_⟩
    have s1 := st.step es1 st1
    obtain ⟨a, ds, vs, ds', c1, c2, c3, c4, c5, c6⟩ := change_write s1 k2
    rw [z1] at c1
    cases c1
    split at c5
    · rename_i hz
      cases c5
      have hz := fits_le hz
      refine ⟨_, vs, x, rfl, rfl, c3, by rw [← c4.len]; omega, ?_⟩
      exact po M G σ _ (c6 _ (c4.app (.one rx))) (fun b o h => cut_upd c2 _ _ (st1.cut st.es.gm _ _ h))
    · cases c5
  · cases hp
theorem Rps.dropLast {K : PySem.W.Frag} {H : Hp} {ds : List Dt} {vs : List V} (r : Rps K H ds vs) : Rps K H ds.dropLast vs.dropLast := by
  rw [List.dropLast_eq_take, List.dropLast_eq_take, r.len]
  exact r.take _
/-- x = xs.pop() -/
theorem ss_pop {i j : Nat} {apos cpos : Pos} {at_ : Str} (g : Cfg X c C) (ha : eqS at_ "pop" = true) (h1 : c.at_ i y = true) (h1' : c.loc y = true) (h2 : c.at_ j z = true) (h3 : c.vis z = true) (hl : (apos.endLine == cpos.line) = true) :
    PS X (.Assign [.Name y py] (.Call (.Attribute (.Name z pz) at_ apos) [] [] cpos) pos) (tS (tpOf X) C N (.pop i j)) := by
  have ea := eqS_ok ha
  subst ea
  obtain ⟨q1, _⟩ := Ch.at_ok g h1
  obtain ⟨q5, q2⟩ := Ch.at_ok g h2
  obtain ⟨q3, q4⟩ := okN_ok q2
  have hN : X.N.Nodup := by rw [g.N]; exact g.nd
  have hm : MtR X "list.pop" rPop := mt_pop
  have pe := pe_bm0 (o := .Name z pz) (name := "pop") (apos := apos) (cpos := cpos) F.plainAttrs_list F.slot_list_pop F.type_list_pop hm (pe_var q5 (Ch.vis_ok g h3) q3 q4) rfl hl
  refine PS.mono (ps_set hN q1 (Ch.loc_ok g h1').1 pe rfl (Ch.loc_ok g h1').2) fun D σ H q => ?_
  obtain ⟨M0, G0, H0, M, G, ρ, S, r, st, hp, po⟩ := q
  simp only [xc] at hp
  split at hp
  · rename_i ds e
    split at hp
    · rename_i d e2
      cases hp
      obtain ⟨a, vs, k1, k2, k3, k4, k5⟩ := st.es.env j _ e
      have hne : ds ≠ [] := fun z => by rw [z] at e2; cases e2
      have hd : ds[ds.length - 1]? = some d := by rw [← List.getLast?_eq_getElem?]; exact e2
      obtain ⟨v, hv, rv⟩ := k5.at hd
      refine ⟨_, k1, .inl ⟨rfl, vs, .inl (.inl k4)⟩, a, vs, v, rfl, rfl, k4, by rw [← k5.len]; exact hv, ?_⟩
      have s1 := st.write e k1 (ds' := ds.dropLast) (vs' := vs.dropLast) k5.dropLast
      exact po M G _ _ (s1.put (rv.up (cut_upd k2))) (cut_upd k2)
    · cases hp
  · cases hp
/-- x, y = xs.pop() -/
theorem ss_popu {t : Tg} {j : Nat} {tg : Expr} {apos cpos : Pos} {at_ : Str} (g : Cfg X c C) (ht : isTupE tg = true) (hg : chTg c t tg = true) (ha : eqS at_ "pop" = true) (h2 : c.at_ j z = true) (h3 : c.vis z = true) (hl : (apos.endLine == cpos.line) = true) :
    PS X (.Assign [tg] (.Call (.Attribute (.Name z pz) at_ apos) [] [] cpos) pos) (tS (tpOf X) C N (.popu t j)) := by
  have ea := eqS_ok ha
  subst ea
  obtain ⟨q5, q2⟩ := Ch.at_ok g h2
  obtain ⟨q3, q4⟩ := okN_ok q2
  have hm : MtR X "list.pop" rPop := mt_pop
  have pe := pe_bm0 (o := .Name z pz) (name := "pop") (apos := apos) (cpos := cpos) F.plainAttrs_list F.slot_list_pop F.type_list_pop hm (pe_var q5 (Ch.vis_ok g h3) q3 q4) rfl hl
  cases tg <;> first | exact absurd ht Bool.false_ne_true | skip
  rename_i elts kk pp
  refine PS.mono (ps_asg pe (sg_tg g hg) rfl rfl) fun D σ H q => ?_
  obtain ⟨M0, G0, H0, M, G, ρ, S, r, st, hp, po⟩ := q
  simp only [xc] at hp
  split at hp
  · rename_i ds e
    split at hp
    · rename_i d e2
      rw [Option.map_eq_some_iff] at hp
      obtain ⟨ρ1, h4, e3⟩ := hp
      subst e3
      obtain ⟨a, vs, k1, k2, k3, k4, k5⟩ := st.es.env j _ e
      have hne : ds ≠ [] := fun z => by rw [z] at e2; cases e2
      have hd : ds[ds.length - 1]? = some d := by rw [← List.getLast?_eq_getElem?]; exact e2
      obtain ⟨v, hv, rv⟩ := k5.at hd
      refine ⟨_, k1, .inl ⟨rfl, vs, .inl (.inl k4)⟩, a, vs, v, rfl, rfl, k4, by rw [← k5.len]; exact hv, ?_⟩
      have s1 := st.write e k1 (ds' := ds.dropLast) (vs' := vs.dropLast) k5.dropLast
      exact bnd_read (T := tpOf X) (P := fun ρ σ => StR (tpOf X) M0 G0 H0 M G ρ S σ (upd H a (.lst vs.dropLast))) (rv.up (cut_upd k2)) h4 s1 (fun _ _ _ _ _ p r => p.put r) fun σ1 s1 _ _ => po M G σ1 _ s1 (cut_upd k2)
    · cases hp
  · cases hp
/-- xs[k] = e -/
theorem assign_sub {o i : Expr} {p : Pos} (h : notSlice i = true) (v : Value) : assign (.Subscript o i p) X.env v = (do
      let ov ← holding [v] (eval o X.env)
      let iv ← holding [v, ov] (eval i X.env)
      standAt p
      holding [v, ov, iv] (setItem ov iv v)
      release [v, ov, iv] []) := by
  cases i <;> first | rfl | exact absurd h Bool.false_ne_true
theorem PSet.or2 {t u : TSet} (a : PSet X t) (b : PSet X u) : PSet X (fun o i v H Q => t o i v H Q ∨ u o i v H Q) := fun pins s σ H o i v ov iv w Q I ro ri rv h => h.elim (a pins s σ H o i v ov iv w Q I ro ri rv) (b pins s σ H o i v ov iv w Q I ro ri rv)
theorem change_both {T : Tp} {M0 G0 M G : List Addr} {H0 H : Hp} {ρ : Rho} {S : Sto} {σ : L2.St} {i : Nat} {f : List Dt → Option (List Dt)} {f2 : List (NestedKey × Dt) → Option (List (NestedKey × Dt))} {r : Rho × Sto} (st : StR T M0 G0 H0 M G ρ S σ H) (h : change i ρ S f f2 = some r) :
    (∃ a ds vs ds', σ[i]? = some (some (.ref a)) ∧ a ∈ M ∧ H a = some (.lst vs) ∧ Rps T.K (cut M H) ds vs ∧ f ds = some ds' ∧ ∀ vs', Rps T.K (cut M H) ds' vs' → StR T M0 G0 H0 M G r.1 r.2 σ (upd H a (.lst vs'))) ∨
    ∃ a kvs kvs', σ[i]? = some (some (.ref a)) ∧ a ∈ M ∧ TabR T M H a kvs ∧ f2 kvs = some kvs' ∧ ∀ o, TabR T M (upd H a o) a kvs' → StR T M0 G0 H0 M G r.1 r.2 σ (upd H a o) := by
  unfold change at h
  split at h
  · rename_i ds e
    rw [Option.map_eq_some_iff] at h
    obtain ⟨ds', h1, rfl⟩ := h
    obtain ⟨a, vs, k1, k2, k3, k4, k5⟩ := st.es.env i _ e
    exact .inl ⟨a, ds, vs, ds', k1, k2, k4, k5, h1, fun vs' r => st.write e k1 r⟩
  · rename_i kvs e
    rw [Option.map_eq_some_iff] at h
    obtain ⟨kvs', h1, rfl⟩ := h
    obtain ⟨a, k1, k2, k3, k4⟩ := st.es.env i _ e
    exact .inr ⟨a, kvs, kvs', k1, k2, k4, h1, fun o r => st.writeG e rfl k1 rfl k2 k3 ⟨a, rfl, k2, k3, r⟩⟩
  · rename_i k e
    obtain ⟨a, k1, k2⟩ := st.es.env i _ e
    split at h
    · rename_i ds e2
      rw [Option.map_eq_some_iff] at h
      obtain ⟨ds', h1, rfl⟩ := h
      obtain ⟨b, h3, vs, h4, h5⟩ := st.es.sto.at_ k _ e2
      rw [k2] at h3
      cases h3
      exact .inl ⟨a, ds, vs, ds', k1, st.es.gm a (List.mem_of_getElem? k2), h4, h5, h1, fun vs' r => st.writeS e2 k2 r⟩
    · rename_i kvs e2
      rw [Option.map_eq_some_iff] at h
      obtain ⟨kvs', h1, rfl⟩ := h
      obtain ⟨b, h3, h4⟩ := st.es.sto.at_ k _ e2
      rw [k2] at h3
      cases h3
      exact .inr ⟨a, kvs, kvs', k1, st.es.gm a (List.mem_of_getElem? k2), h4, h1, fun o r => st.writeSG e2 k2 r⟩
    · cases h
  · cases h
theorem ss_put {i : Nat} {k e : E} {ix v : Expr} (g : Cfg X c C) (h1 : c.at_ i y = true) (h2 : c.vis y = true) (hs : notSlice ix = true) (hn : notLC v = true) (hk : chE c k ix = true) (he : chE c e v = true) : PS X (.Assign [.Subscript (.Name y py) ix p2] v pos) (tS (tpOf X) C N (.put i k e)) := by
  obtain ⟨q1, q2⟩ := Ch.at_ok g h1
  obtain ⟨q3, q4⟩ := okN_ok q2
  have h3 : swapsWithSole [.Subscript (.Name y py) ix p2] v pos.line X.env = pure false := by
    cases v <;> first | rfl | exact absurd hn Bool.false_ne_true
  have h4 : swappedStores [.Subscript (.Name y py) ix p2] v X.env = pure none := by
    cases v <;> rfl
  refine PS.mono (ps_asg (sE e X c v g he).1 (pg_sub (pe_var q1 (Ch.vis_ok g h2) q3 q4) (sE k X c ix g hk).1 (PSet.or2 set_list (set_tab g.room)) (assign_sub hs)) h3 h4) fun D σ H q => ?_
  obtain ⟨M0, G0, H0, M, G, ρ, S, r, st, hp, po⟩ := q
  simp only [xc, Option.bind_eq_some_iff, Option.map_eq_some_iff] at hp
  obtain ⟨⟨d, S1⟩, k1, ⟨x, S2⟩, k2, ⟨ρ', S'⟩, k3, e1⟩ := hp
  subst e1
  refine ⟨M, G, ρ, S, d, S1, st.es, k1, fun w H1 es1 st1 rw => ?_⟩
  have s1 := st.step es1 st1
  obtain ⟨a, ha⟩ : ∃ a, σ[i]? = some (some (.ref a)) := by
    unfold change at k3
    split at k3
    · rename_i ds e; obtain ⟨a, vs, z, _⟩ := st.es.env i _ e; exact ⟨a, z⟩
    · rename_i ds e; obtain ⟨a, z, _⟩ := st.es.env i _ e; exact ⟨a, z⟩
    · rename_i k e; obtain ⟨a, z, _⟩ := st.es.env i _ e; exact ⟨a, z⟩
    · cases k3
  refine ⟨_, ha, M, G, ρ, S1, x, S2, es1, k2, fun u H2 es2 st2 ru => ?_⟩
  have s2 := s1.step es2 st2
  have rw2 := rw.up (st2.cut st.es.gm)
  rcases change_both s2 k3 with ⟨a', ds, vs, ds', c1, c2, c3, c4, c5, c6⟩ | ⟨a', kvs, kvs', c1, c2, c3, c4, c5⟩
  · rw [ha] at c1
    cases c1
    cases x <;> first | cases c5 | skip
    cases ru
    simp only [Option.map_eq_some_iff] at c5
    obtain ⟨m, c7, c8⟩ := c5
    subst c8
    refine .inl ⟨a, vs, _, m, rfl, rfl, c3, by rw [← c4.len]; exact c7, ?_⟩
    exact po M G σ _ (c6 _ (Rps.set rw2 m c4)) (fun b o h => cut_upd c2 _ _ (st2.cut st.es.gm _ _ (st1.cut st.es.gm _ _ h)))
  · rw [ha] at c1
    cases c1
    rw [Option.bind_eq_some_iff] at c4
    obtain ⟨key, c7, c8⟩ := c4
    split at c8
    · rename_i hz
      cases c8
      refine .inr ⟨M, a, kvs, x, key, d, rfl, c2, c3, ru, c7, rw2, ?_, fun xs' hx => ?_⟩
      · have := fits_le hz; omega
      · exact po M G σ _ (c5 _ (tabR_new c2 (hx _ _ rfl rfl))) (fun b o h => cut_upd c2 _ _ (st2.cut st.es.gm _ _ (st1.cut st.es.gm _ _ h)))
    · cases c8
end
end Fw

set_option autoImplicit false
set_option linter.all false
set_option maxRecDepth 100000
set_option maxHeartbeats 4000000
/-! loops, and every statement that is checked -/
namespace Fw
open PySem PySem.Spec PyProof.Rows L2

section
variable {X : Cx} {c : Ch} {C : Cl} {N : Nat} {pos : Pos}
/-- the ends of a loop's body -/
theorem Post.body {T : Tp} {M0 G0 : List Addr} {H0 : Hp} {M : List Addr} {H : Hp} {D : Ends} {P : L2.St → Hp → Prop} {o : Out} {ρ' : Rho} {S' : Sto}
    (hn : o = .next → ∀ M' G' σ' H', StR T M0 G0 H0 M' G' ρ' S' σ' H' → Same (cut M H) (cut M' H') → P σ' H') (hr : ∀ d, o = .ret d → Post T M0 G0 H0 M H D (o, ρ', S')) : Post T M0 G0 H0 M H { D with nx := P, ct := P, bk := D.nx } (o, ρ', S') := by
  cases o with
  | next => exact hn rfl
  | ret d => exact hr d rfl
theorem ss_whl {t : E} {b : Ss} {t' : Expr} {b' : List Stmt} (hp : PassesOwn (model X.prog X.w) X.A X.env X.xe) (pt : PT X t' (tT (tpOf X) C t)) (pb : PSs X b' (tSs (tpOf X) C N b)) : PS X (.While t' b' [] pos) (tS (tpOf X) C N (.whl t b)) := by
  refine PS.mono (ps_while hp pt pb) fun D σ H q => ?_
  obtain ⟨M0, G0, H0, M, G, ρ, S, r, st, hx, po⟩ := q
  simp only [xc] at hx
  refine ⟨fun m σ H => ∃ M1 G1 ρ1 S1, StR (tpOf X) M0 G0 H0 M1 G1 ρ1 S1 σ H ∧ whileGo (fun ρ S => boolOf (ev C t ρ S)) (fun ρ S => xcs C N b ρ S) m ρ1 S1 = some r ∧ Post (tpOf X) M0 G0 H0 M1 H D r, ⟨N, M, G, ρ, S, st, hx, po⟩, ?_⟩
  rintro m σ1 H1 ⟨M1, G1, ρ1, S1, s1, hw, p1⟩
  cases m with
  | zero => cases hw
  | succ m =>
    rw [whileGo, Option.bind_eq_some_iff] at hw
    obtain ⟨⟨k, S2⟩, h1, h2⟩ := hw
    refine ⟨M1, G1, ρ1, S1, k, S2, s1.es, h1, fun H2 es2 st2 => ?_⟩
    have s2 := s1.step es2 st2
    have p2 := p1.pre (st2.cut s1.es.gm)
    cases k with
    | false =>
      rw [if_neg Bool.false_ne_true] at h2
      show if false = true then _ else _
      rw [if_neg Bool.false_ne_true]
      cases h2
      exact p2 M1 G1 σ1 H2 s2 (Same.refl _)
    | true =>
      rw [if_pos rfl, Option.bind_eq_some_iff] at h2
      show if true = true then _ else _
      rw [if_pos rfl]
      obtain ⟨⟨o, ρ3, S3⟩, h3, h4⟩ := h2
      refine ⟨fun σ H => ∃ M1 G1 ρ1 S1, StR (tpOf X) M0 G0 H0 M1 G1 ρ1 S1 σ H ∧ whileGo (fun ρ S => boolOf (ev C t ρ S)) (fun ρ S => xcs C N b ρ S) m ρ1 S1 = some r ∧ Post (tpOf X) M0 G0 H0 M1 H D r, fun σ' H' h => ⟨m, Nat.lt_succ_self m, h⟩, ?_⟩
      refine ⟨M0, G0, H0, M1, G1, ρ1, S2, (o, ρ3, S3), s2, h3, Post.body (fun e M' G' σ' H' s' sm => ?_) fun d e => ?_⟩
      · subst e
        exact ⟨M', G', ρ3, S3, s', h4, p2.pre sm⟩
      · subst e
        cases h4
        exact p2
theorem ss_for {t : Tg} {it : It} {b : Ss} {tg iter : Expr} {b' : List Stmt} (g : Cfg X c C) (hp : PassesOwn (model X.prog X.w) X.A X.env X.xe) (hs : noSet iter = true) (hg : chTg c t tg = true) (hn : noPeek it = true) (pi : PI X tg iter (tIF (tpOf X) C it)) (pb : PSs X b' (tSs (tpOf X) C N b)) :
    PS X (.For tg iter b' [] pos) (tS (tpOf X) C N (.for t it b)) := by
  refine PS.mono (ps_for hp g.calm pi (sg_tg g hg) pb (noSet_fold hs)) fun D σ H q => ?_
  obtain ⟨M0, G0, H0, M, G, ρ, S, r, st, hx, po⟩ := q
  have hx : ((evIt C it ρ S).bind fun p => forGo (fun x ρ S => (bnd t x ρ).bind fun ρ1 => xcs C N b ρ1 S) p.1 ρ p.2) = some r := by
    simp only [xc] at hx
    cases it <;> first | exact hx | cases hn
  rw [Option.bind_eq_some_iff] at hx
  obtain ⟨⟨xs, S1⟩, h1, h2⟩ := hx
  refine ⟨M, G, ρ, S, xs, S1, st.es, h1, fun J H1 Gd es1 st1 w hG => ?_⟩
  obtain ⟨Y, w1, w2⟩ := w.ex
  refine for_it w1 (fun i σ H => ∃ M1 G1 ρ1 S1, StR (tpOf X) M0 G0 H0 M1 G1 ρ1 S1 σ H ∧ forGo (fun x ρ S => (bnd t x ρ).bind fun ρ1 => xcs C N b ρ1 S) (xs.drop i) ρ1 S1 = some r ∧ Post (tpOf X) M0 G0 H0 M1 H D r ∧ Gd M1 H)
    ⟨M, G, ρ, S1, st.step es1 st1, h2, po.pre (st1.cut st.es.gm), hG⟩ (fun i σ H _ ⟨M1, _, _, _, _, _, _, h⟩ => ⟨M1, h⟩) (fun i x σ1 Hi H' hi ⟨M1, G1, ρ1, S2, s1, hf, p1, hGi⟩ hy => ?_) fun σ1 Hn ⟨M1, G1, ρ1, S2, s1, hf, p1, hGi⟩ => ?_
  · obtain ⟨sm, d, e1, rx⟩ := w2 M1 i Hi x H' hi hGi s1.es.dom hy
    have ed : xs.drop i = d :: xs.drop (i + 1) := by
      obtain ⟨hl, hd⟩ := List.getElem?_eq_some_iff.mp e1
      rw [List.drop_eq_getElem_cons hl, hd]
    rw [ed, forGo, Option.bind_eq_some_iff] at hf
    obtain ⟨⟨o, ρ3, S3⟩, h3, h4⟩ := hf
    rw [Option.bind_eq_some_iff] at h3
    obtain ⟨ρ2, h5, h6⟩ := h3
    have sc : Same (cut M1 Hi) (cut M1 H') := (Same.stp (G := G1) sm).cut s1.es.gm
    have p2 := p1.pre sc
    have G2 : Gd M1 H' := w.stab _ _ _ _ sc hGi
    refine bnd_read (T := tpOf X) (P := fun ρ σ => StR (tpOf X) M0 G0 H0 M1 G1 ρ S2 σ H') rx h5 (s1.keepS sm) (fun _ _ _ _ _ p r => p.put r) fun σ2 s2 _ _ => ?_
    refine ⟨M0, G0, H0, M1, G1, ρ2, S2, (o, ρ3, S3), s2, h6, Post.body (fun e M' G' σ' H'' s' sm' => ?_) fun d e => ?_⟩
    · subst e
      exact ⟨M', G', ρ3, S3, s', h4, p2.pre sm', w.stab _ _ _ _ sm' G2⟩
    · subst e
      cases h4
      exact p2
  · rw [List.drop_length, forGo] at hf
    cases hf
    exact p1 M1 G1 σ1 Hn s1 (Same.refl _)
mutual
theorem sSt : ∀ (s : St) (x : Stmt), Cfg X c C → PassesOwn (model X.prog X.w) X.A X.env X.xe → chS c s x = true → PS X x (tS (tpOf X) C N s)
  | .frz is s, x, g, hp, h => by
    unfold chS at h
    refine PS.mono (sSt s x g hp h) fun D σ H q => ?_
    obtain ⟨M0, G0, H0, M, G, ρ, S, r, st, hx, po⟩ := q
    simp only [xc] at hx
    obtain ⟨M', s', sm⟩ := st.freeze is
    exact ⟨M0, G0, H0, M', G, _, S, r, s', hx, po.pre sm⟩
  | .set i k, x, g, hp, h => by
    unfold chS at h
    split at h
    · simp only [Bool.and_eq_true] at h
      exact ss_set g h.1.1 h.1.2 h.2
    · cases h
  | .par i j k l, x, g, hp, h => by
    unfold chS at h
    split at h
    · simp only [Bool.and_eq_true, decide_eq_true_eq] at h
      obtain ⟨⟨⟨⟨⟨⟨⟨⟨⟨h1, h2⟩, h3⟩, h4⟩, h5⟩, h6⟩, h7⟩, h8⟩, h9⟩, h10⟩ := h
      exact ss_par g h1 h2 h3 h4 h5 h6 h7 h8 h9 h10
    · cases h
  | .par3 i j n k l m, x, g, hp, h => by
    unfold chS at h
    split at h
    · simp only [Bool.and_eq_true, decide_eq_true_eq] at h
      obtain ⟨⟨⟨⟨⟨⟨⟨⟨⟨⟨h1, h2⟩, h3⟩, h4⟩, h5⟩, h6⟩, h7⟩, h8⟩, h9⟩, h10⟩, h11⟩ := h
      exact ss_par3 g h1 h2 h3 h4 h5 h6 h7 h8 h9 h10 h11
    · cases h
  | .unp t e, x, g, hp, h => by
    unfold chS at h
    split at h
    · simp only [Bool.and_eq_true] at h
      obtain ⟨⟨⟨⟨h1, h2⟩, h3⟩, h4⟩, h5⟩ := h
      exact ss_unp g h1 h2 h3 h4 h5
    · cases h
  | .app i e, x, g, hp, h => by
    unfold chS at h
    split at h
    · simp only [Bool.and_eq_true] at h
      obtain ⟨⟨⟨⟨h1, h2⟩, h3⟩, h4⟩, h5⟩ := h
      exact ss_app g h1 h2 h3 h4 h5
    · cases h
  | .pop i j, x, g, hp, h => by
    unfold chS at h
    split at h
    · simp only [Bool.and_eq_true] at h
      obtain ⟨⟨⟨⟨⟨h1, h2⟩, h3⟩, h4⟩, h5⟩, h6⟩ := h
      exact ss_pop g h1 h2 h3 h4 h5 h6
    · cases h
  | .popAt _ _, x, g, hp, h => by unfold chS at h; cases h
  | .popu t j, x, g, hp, h => by
    unfold chS at h
    split at h
    · simp only [Bool.and_eq_true] at h
      obtain ⟨⟨⟨⟨⟨h1, h2⟩, h3⟩, h4⟩, h5⟩, h6⟩ := h
      exact ss_popu g h1 h2 h3 h4 h5 h6
    · cases h
  | .ins _ _ _, x, g, hp, h => by unfold chS at h; cases h
  | .put i k e, x, g, hp, h => by
    unfold chS at h
    split at h
    · simp only [Bool.and_eq_true] at h
      obtain ⟨⟨⟨⟨⟨h1, h2⟩, h3⟩, h4⟩, h5⟩, h6⟩ := h
      exact ss_put g h1 h2 h3 h4 h5 h6
    · cases h
  | .ifs t a b, x, g, hp, h => by
    unfold chS at h
    split at h
    · simp only [Bool.and_eq_true] at h
      obtain ⟨⟨⟨h1, h2⟩, h3⟩, h4⟩ := h
      refine PS.mono (ps_if ((sE t X c _ g h2).2 h1) (sSs a _ g hp h3) (sSs b _ g hp h4)) fun D σ H q => ?_
      obtain ⟨M0, G0, H0, M, G, ρ, S, r, st, hx, po⟩ := q
      simp only [xc, Option.bind_eq_some_iff] at hx
      obtain ⟨⟨k, S1⟩, k1, k2⟩ := hx
      refine ⟨M, G, ρ, S, k, S1, st.es, k1, fun H1 es1 st1 => ?_⟩
      have p1 := po.pre (st1.cut st.es.gm)
      cases k with
      | true =>
        rw [if_pos rfl] at k2
        show if true = true then _ else _
        rw [if_pos rfl]
        exact ⟨M0, G0, H0, M, G, ρ, S1, r, st.step es1 st1, k2, p1⟩
      | false =>
        rw [if_neg Bool.false_ne_true] at k2
        show if false = true then _ else _
        rw [if_neg Bool.false_ne_true]
        exact ⟨M0, G0, H0, M, G, ρ, S1, r, st.step es1 st1, k2, p1⟩
    · cases h
  | .whl t b, x, g, hp, h => by
    unfold chS at h
    split at h
    · simp only [Bool.and_eq_true] at h
      exact ss_whl hp ((sE t X c _ g h.1.2).2 h.1.1) (sSs b _ g hp h.2)
    · cases h
  | .for t it b, x, g, hp, h => by
    unfold chS at h
    split at h
    · simp only [Bool.and_eq_true] at h
      obtain ⟨⟨⟨⟨⟨h1, h2⟩, h3⟩, h4⟩, h5⟩, h6⟩ := h
      exact ss_for g hp h1 h4 h2 (sIF it X c _ _ g h2 h3 h5) (sSs b _ g hp h6)
    · cases h
  | .ret e, x, g, hp, h => by
    unfold chS at h
    split at h
    · refine PS.mono (ps_ret (sE e X c _ g h).1) fun D σ H q => ?_
      obtain ⟨M0, G0, H0, M, G, ρ, S, r, st, hx, po⟩ := q
      simp only [xc, Option.map_eq_some_iff] at hx
      obtain ⟨⟨d, S1⟩, k1, k2⟩ := hx
      subst k2
      exact ⟨M, G, ρ, S, d, S1, st.es, k1, fun v H1 es1 st1 rv => po M G ρ σ v H1 (st.step es1 st1) rv⟩
    · cases h
  | .retn, x, g, hp, h => by
    unfold chS at h
    split at h
    · refine PS.mono ps_retN fun D σ H q => ?_
      obtain ⟨M0, G0, H0, M, G, ρ, S, r, st, hx, po⟩ := q
      simp only [xc] at hx
      cases hx
      exact po M G ρ σ _ H st .non
    · cases h
  | .pass, x, g, hp, h => by
    unfold chS at h
    split at h
    · refine PS.mono ps_pass fun D σ H q => ?_
      obtain ⟨M0, G0, H0, M, G, ρ, S, r, st, hx, po⟩ := q
      simp only [xc] at hx
      cases hx
      exact po M G σ H st (Same.refl _)
    · cases h
theorem sSs : ∀ (s : Ss) (xs : List Stmt), Cfg X c C → PassesOwn (model X.prog X.w) X.A X.env X.xe → chSs c s xs = true → PSs X xs (tSs (tpOf X) C N s)
  | .nil, xs, g, hp, h => by
    unfold chSs at h
    split at h
    · refine PSs.mono pss_nil fun D σ H q => ?_
      obtain ⟨M0, G0, H0, M, G, ρ, S, r, st, hx, po⟩ := q
      simp only [xcs] at hx
      cases hx
      exact po M G σ H st (Same.refl _)
    · cases h
  | .cons s r, xs, g, hp, h => by
    unfold chSs at h
    split at h
    · rw [Bool.and_eq_true] at h
      refine PSs.mono (pss_cons (sSt s _ g hp h.1) (sSs r _ g hp h.2)) fun D σ H q => ?_
      obtain ⟨M0, G0, H0, M, G, ρ, S, r', st, hx, po⟩ := q
      simp only [xcs, Option.bind_eq_some_iff] at hx
      obtain ⟨⟨o, ρ1, S1⟩, k1, k2⟩ := hx
      refine ⟨M0, G0, H0, M, G, ρ, S, (o, ρ1, S1), st, k1, ?_⟩
      cases o with
      | next => exact fun M' G' σ' H' s' sm => ⟨M0, G0, H0, M', G', ρ1, S1, r', s', k2, po.pre sm⟩
      | ret d => cases k2; exact po
    · cases h
end
end
end Fw

set_option autoImplicit false
set_option linter.all false
set_option maxRecDepth 100000
set_option maxHeartbeats 4000000
/-! defs keep to the language, so many calls deep -/
namespace Fw
open PySem PySem.Spec PyProof.Rows L2

/-- a def: its number, its name, its slots, its parameters, its text in the language; its row's arguments, body and scope -/
structure Df where
  id : Nat
  name : Str
  N : List Str
  ps : List Str
  body : Ss
  args : Arguments
  row : List Stmt
  scope : Scope
abbrev Df.fn (d : Df) : Fn := ⟨d.ps.length, d.N.length, d.body⟩
abbrev Df.ch (d : Df) (fs : Nat → Option Str) (gs : Str → Option Dt) : Ch := ⟨d.N, d.scope, fun _ => true, fs, gs⟩
def nameOf (D : List Df) (f : Nat) : Option Str := (D.find? fun d => d.id == f).map (·.name)
/-- what the kernel checks of a def -/
structure Df.Good (d : Df) (D : List Df) (Φ : Nat → Option Fn) (gs : Str → Option Dt) : Prop where
  sc : FnScope d.N d.ps d.scope
  ch : chSs (d.ch (nameOf D) gs) d.body d.row = true
  fn : Φ d.id = some d.fn
  bd : ∀ (kV doc pm : Value) (an : Option Addr) (cdv ct : Value) (us : List Value), us.length = d.ps.length → bindArgs (PySem.W.fnOf d.name d.name d.args d.row d.scope .none kV doc pm an cdv ct) ⟨us, []⟩ = pure (d.ps.zip us)
section
variable {P : Program} {w : World} {K : PySem.W.Frag} {mg : Str → Option Value} {base : Heap} {D : List Df} {Φ : Nat → Option Fn} {N : Nat}
/-- the module, as far as the defs ask -/
structure Mdl (K : PySem.W.Frag) (mg : Str → Option Value) (D : List Df) (gs : Str → Option Dt) : Prop where
  gl : ∀ x d, gs x = some d → ∃ v u, mg x = some u ∧ RelV v u ∧ ∀ H, Rp K H d v
  fd : ∀ d ∈ D, ∃ f fd, FunD K d.name d.name d.args d.row d.scope [] [] f fd ∧ mg d.name = some (.ref f)
  bl : ∀ x ∈ bNames, mg x = none
theorem paired_len {α β : Type} {R : α → β → Prop} : ∀ {xs : List α} {ys : List β}, Paired R xs ys → xs.length = ys.length
  | _, _, .nil => rfl
  | _, _, .cons _ r => by rw [List.length_cons, List.length_cons, paired_len r]
theorem cal_len {k f : Nat} {as : List Ar} {S S' : Sto} {d : Dt} {fn : Fn} (hf : Φ f = some fn) (h : cal Φ N k f as S = some (d, S')) : as.length = fn.ps := by
  cases k with
  | zero => cases h
  | succ k =>
    unfold cal at h
    rw [hf] at h
    simp only [Option.bind_some] at h
    unfold runFn at h
    split at h
    · rename_i e; exact e
    · cases h
theorem start_est {T : Tp} {M G : List Addr} {S : Sto} {H : Hp} {as : List Ar} {vs : List V} {names : List Str} (gm : ∀ a ∈ G, a ∈ M) (dm : ∀ a ∈ M, H a ≠ none) (so : StoR T M G S H) (r : Paired (ArR T M G H) as vs) (hl : as.length ≤ names.length) :
    StR T M G H M G (start0 names.length as) S (start names vs) H := by
  have el := paired_len r
  have at_ : ∀ (i : Nat) s, (start0 names.length as)[i]? = some s → (∃ a v, as[i]? = some a ∧ s = a.slot ∧ (start names vs)[i]? = some (some v) ∧ ArR T M G H a v) ∨ s = .un := by
    have pr : ∀ {as : List Ar} {vs : List V} {i : Nat} {a : Ar}, Paired (ArR T M G H) as vs → as[i]? = some a → ∃ v, vs[i]? = some v ∧ ArR T M G H a v := by
      intro as vs i a p
      induction p generalizing i with
      | nil => intro h; simp at h
      | cons h _ ih =>
        intro e
        cases i with
        | zero => simp at e; subst e; exact ⟨_, rfl, h⟩
        | succ i =>
          obtain ⟨v, h1, h2⟩ := ih (by simpa using e)
          exact ⟨v, by simpa using h1, h2⟩
    intro i s h
    unfold start0 at h
    by_cases hi : i < as.length
    · rw [List.getElem?_append_left (by rw [List.length_map]; exact hi), List.getElem?_map, List.getElem?_eq_getElem hi] at h
      cases h
      obtain ⟨v, h1, h2⟩ := pr r (List.getElem?_eq_getElem hi)
      refine .inl ⟨as[i], v, List.getElem?_eq_getElem hi, rfl, ?_, h2⟩
      unfold L2.start
      rw [List.getElem?_append_left (by rw [List.length_map, ← el]; exact hi), List.getElem?_map, h1]
      rfl
    · rw [List.getElem?_append_right (by rw [List.length_map]; omega), List.getElem?_replicate] at h
      split at h
      · cases h; exact .inr rfl
      · cases h
  have noown : ∀ (i : Nat) s, (start0 names.length as)[i]? = some s → isOwn s = true → False := fun i s h ho => by
    rcases at_ i s h with ⟨a, v, _, e, _⟩ | e
    · subst e; cases a <;> cases ho
    · subst e; cases ho
  refine ⟨⟨fun i s h => ?_, ?_, so, gm, dm⟩, fun a h => h, dm, ⟨[], (List.append_nil _).symm⟩, fun a h n => absurd h n, fun i s a h ho _ => (noown i s h ho).elim, fun i j s s' a h ho _ _ _ _ => (noown i s h ho).elim, Stp.refl⟩
  · rcases at_ i s h with ⟨a, v, _, e, e2, q⟩ | e
    · subst e
      rw [e2]
      cases a with
      | d d => exact ⟨v, rfl, q⟩
      | r k => obtain ⟨b, e, h⟩ := q; exact ⟨b, by rw [e], h⟩
      | s ns => obtain ⟨b, e, h⟩ := q; exact ⟨b, by rw [e], h⟩
    · subst e; trivial
  · unfold start0 L2.start
    rw [List.length_append, List.length_append, List.length_map, List.length_map, List.length_replicate, List.length_replicate, el]
theorem StoR.front {T : Tp} {M G Gx : List Addr} {S : Sto} {H : Hp} (s : StoR T M (G ++ Gx) S H) : StoR T M G (S.take G.length) H := by
  refine ⟨?_, (List.nodup_append.mp s.nd).1, fun k ob h => ?_⟩
  · rw [List.length_take, s.len, List.length_append]; omega
  · rw [List.getElem?_take] at h
    split at h
    · rename_i hk
      obtain ⟨a, h1, h2⟩ := s.at_ k ob h
      exact ⟨a, by rw [List.getElem?_append_left hk] at h1; exact h1, h2⟩
    · cases h
theorem nameOf_mem {f : Nat} {x : Str} (h : nameOf D f = some x) : ∃ d ∈ D, d.id = f ∧ d.name = x := by
  unfold nameOf at h
  rw [Option.map_eq_some_iff] at h
  obtain ⟨d, h1, h2⟩ := h
  exact ⟨d, List.mem_of_find?_eq_some h1, by simpa using List.find?_some h1, h2⟩
/-- every def, at every depth -/
theorem all_fn {gs : Str → Option Dt} (m : Mdl K mg D gs) (hg : ∀ d ∈ D, d.Good D Φ gs) : ∀ k : Nat, ∀ d ∈ D, ∀ f fd, FunD K d.name d.name d.args d.row d.scope [] [] f fd → FnOk P w K mg base CX0 k f fd d.ps (spC ⟨K, P, w⟩ (cal Φ N k) d.id)
  | 0, d, hd, f, fd, F => by
    have no : ∀ vs H Q E, ¬ spC ⟨K, P, w⟩ (cal Φ N 0) d.id vs H Q E := fun vs H Q E h => by
      obtain ⟨M, G, S, as, x, S', _, _, _, _, h, _⟩ := h
      cases h
    exact ⟨fun vs H Q E h => (no _ _ _ _ h).elim, fun A outer s H args us vs Q E _ _ _ _ h => (no _ _ _ _ h).elim⟩
  | k + 1, d, hd, f, fd, F => by
    have gd := hg d hd
    refine F.ok gd.sc (fun vs H Q E h => ?_) fun cdv A outer s H vs Q E hr h => ?_
    · obtain ⟨M, G, S, as, x, S', _, _, _, r, h, _⟩ := h
      rw [← paired_len r]
      exact cal_len gd.fn h
    · obtain ⟨M, G, S, as, x, S', gm, dm, so, r, h, q⟩ := h
      have hl := cal_len gd.fn h
      unfold cal at h
      rw [gd.fn] at h
      simp only [Option.bind_some] at h
      unfold runFn at h
      rw [if_pos hl, Option.map_eq_some_iff] at h
      obtain ⟨⟨o, ρ', S1⟩, h1, h2⟩ := h
      have hpl : d.ps.length ≤ d.N.length := by have := congrArg List.length gd.sc.pre; rw [List.length_take] at this; omega
      refine ⟨tSs ⟨K, P, w⟩ (cal Φ N k) N d.body, PSs.nox (sSs (C := cal Φ N k) (c := d.ch (nameOf D) gs) d.body d.row ?_ PassesOwn.never gd.ch), M, G, H, M, G, start0 d.N.length as, S, (o, ρ', S1), start_est gm dm so r (by rw [hl]; exact hpl), h1, ?_⟩
      · refine ⟨rfl, rfl, rfl, rfl, gd.sc.kind, gd.sc.nd, ?_, m.bl, m.gl, fun f' x' hf => ?_⟩
        · have := hr.un
          show (A.deeper _).units + 200 < cLine
          omega
        · obtain ⟨d', hd', rfl, rfl⟩ := nameOf_mem hf
          obtain ⟨u, fd', F', hm⟩ := m.fd d' hd'
          exact ⟨u, k, fd', d'.ps, hm, F'.kp, all_fn m hg k d' hd' u fd' F', hr, F'.bindsN (hg d' hd').bd⟩
      · cases o with
        | next =>
          cases h2
          refine fun M' G' σ' H' st sm => ?_
          obtain ⟨Gx, e⟩ := st.g0
          have so' := st.es.sto
          rw [e] at so'
          have el := so.len
          refine q .non H' ?_ st.keep .non
          rw [el]
          exact so'.front.sub st.sub0
        | ret x' =>
          cases h2
          refine fun M' G' ρ'' σ' v H' st rv => ?_
          obtain ⟨Gx, e⟩ := st.g0
          have so' := st.es.sto
          rw [e] at so'
          have el := so.len
          refine q v H' ?_ st.keep (rv.up (cut_sub st.sub0))
          rw [el]
          exact so'.front.sub st.sub0
end
end Fw

set_option autoImplicit false
set_option linter.all false
set_option maxRecDepth 100000
set_option maxHeartbeats 4000000
/-! a law from its head and what the language says -/
namespace Fw
open PySem PySem.Spec PyProof.Rows L2

def Df.dd (d : Df) : He.DefD := ⟨(d.name, none), d.name, d.name, d.args, d.row, d.scope, [], []⟩
def faD (D : List Df) : List He.Fa := D.map (fun d => .glo d.name) ++ bNames.map .free
section
variable {P : Program} {w : World} {K : PySem.W.Frag} {mg : Str → Option Value} {h : Heap} {D : List Df}
/-- constants of the module -/
def valB (K : PySem.W.Frag) : Value → Dt → Bool
  | .int j _, .int i => decide (i = j)
  | .str y _, .str x => decide (x = y)
  | .ref a, .tuple ds => (match K.lookup a with
    | some ⟨.type t, _, .seq its _, _⟩ => decide (t = "tuple") && decide (its.size ≤ sizeLine) && (ds.map fun d => match d with | .str x => some x | _ => none) == (its.toList.map fun v => match v with | .str x _ => some x | _ => none) && ds.all fun d => match d with | .str _ => true | _ => false
    | _ => false)
  | _, _ => false
def glB (K : PySem.W.Frag) (p : Str × Dt) : Bool := match PySem.W.nsIn K mainGlobals p.1 with
  | some (some v) => valB K v p.2
  | _ => false
theorem strs_rel {K : PySem.W.Frag} {H : Hp} : ∀ (ds : List Dt) (its : List Value), (ds.map fun d => match d with | .str x => some x | _ => none) = (its.map fun v => match v with | .str x _ => some x | _ => none) → (ds.all fun d => match d with | .str _ => true | _ => false) = true → ∃ vs, Vals vs its ∧ Rps K H ds vs
  | [], [], _, _ => ⟨[], .nil, .nil⟩
  | [], _ :: _, h, _ => by cases h
  | _ :: _, [], h, _ => by cases h
  | d :: ds, v :: its, h, ha => by
    rw [List.map_cons, List.map_cons, List.cons.injEq] at h
    rw [List.all_cons, Bool.and_eq_true] at ha
    obtain ⟨vs, h1, h2⟩ := strs_rel (K := K) (H := H) ds its h.2 ha.2
    cases d with
    | str x =>
      cases v with
      | str y t =>
        have e : x = y := Option.some.inj h.1
        subst e
        exact ⟨.str x :: vs, .cons ⟨t, rfl⟩ h1, .cons (.str x) h2⟩
      | _ => exact absurd (show some x = none from h.1) (by simp)
    | _ => exact absurd ha.1 Bool.false_ne_true
theorem valB_ok {v : Value} {d : Dt} (c : valB K v d = true) : ∃ w, RelV w v ∧ ∀ H, Rp K H d w := by
  unfold valB at c
  split at c
  · rename_i j t i
    have e := of_decide_eq_true c
    subst e
    exact ⟨.int i, ⟨t, rfl⟩, fun _ => .int i⟩
  · rename_i y t x
    have e := of_decide_eq_true c
    subst e
    exact ⟨.str x, ⟨t, rfl⟩, fun _ => .str x⟩
  · rename_i a ds
    split at c
    · rename_i t od its n sl q
      simp only [Bool.and_eq_true, decide_eq_true_eq, beq_iff_eq] at c
      obtain ⟨⟨⟨c1, c2⟩, c3⟩, c4⟩ := c
      subst c1
      refine ⟨.ref a, rfl, fun H => ?_⟩
      obtain ⟨vs, h1, h2⟩ := strs_rel (K := K) (H := H) ds its.toList c3 c4
      exact .tup (.inr ⟨_, its, n, q, rfl, rfl, c2, h1⟩) h2
    · cases c
  · cases c
def gsOf (Gl : List (Str × Dt)) (x : Str) : Option Dt := (Gl.find? fun p => decide (p.1 = x)).map (·.2)
theorem mdl_of {Gl : List (Str × Dt)} (X : K.In h) (G : h.Ns mainGlobals mg) (c : He.SaysD (faD D) (D.map Df.dd) K) (cx : (Gl.all fun p => glB K p) = true) : Mdl K mg D (gsOf Gl) := by
  refine ⟨fun x d e => ?_, fun d hd => ?_, fun x hx => ?_⟩
  · unfold gsOf at e
    rw [Option.map_eq_some_iff] at e
    obtain ⟨⟨y, d'⟩, e1, e2⟩ := e
    cases e2
    have e3 : y = x := by simpa using List.find?_some e1
    subst e3
    have q := List.all_eq_true.mp cx _ (List.mem_of_find?_eq_some e1)
    unfold glB at q
    split at q
    · rename_i v e4
      obtain ⟨w, h1, h2⟩ := valB_ok q
      exact ⟨w, v, PySem.W.mg_of X G e4, h1, h2⟩
    · cases q
  · obtain ⟨fd, F⟩ := c.defs (d := d.dd) (List.mem_map.mpr ⟨d, hd, rfl⟩)
    exact ⟨_, fd, F, He.glo_ok X G (c.facts (f := .glo d.name) (List.mem_append_left _ (List.mem_map.mpr ⟨d, hd, rfl⟩)))⟩
  · exact He.free_ok X G (c.facts (f := .free x) (List.mem_append_right _ (List.mem_map.mpr ⟨x, hx, rfl⟩)))
/-- what is told of the heap: the defs, the constants -/
abbrev AlG : Type := He.AlD × Bool
def obsG (n : Nat) (fa : List He.Fa) (fn : List He.DefD) (Gl : List (Str × Dt)) (g : Addr → Option Obj) : AlG := (He.obsDG n fa fn g, Gl.all fun p => glB (He.frG g (He.asD g n)) p)
def hookG (n : Nat) (fa : List He.Fa) (fn : List He.DefD) (Gl : List (Str × Dt)) : PySem.W.Hook where
  α := AlG
  obs := fun s => obsG n fa fn Gl s.heap.get?
  val := fun _ => (He.valD fn, true)
  says := fun _ h => ∃ K : PySem.W.Frag, K.In h ∧ He.SaysD fa fn K ∧ (Gl.all fun p => glB K p) = true
  of := fun _ _ e => ⟨_, He.frG_in, congrArg (fun z : AlG => z.1) e, congrArg (fun z : AlG => z.2) e⟩
  keeps := fun _ _ _ ⟨K, hK, c⟩ k => ⟨K, PySem.W.Frag.In.keeps hK k, c⟩
theorem obsG_eq {n : Nat} {fa : List He.Fa} {fn : List He.DefD} {Gl : List (Str × Dt)} {g : Addr → Option Obj} {s : Shared} (h : ∀ a, g a = s.heap.get? a) : obsG n fa fn Gl g = (hookG n fa fn Gl).obs s := by
  have e : g = s.heap.get? := funext h
  rw [e] <;> rfl
/-- the law's def -/
theorem law_sp {N k f : Nat} {Φ : Nat → Option Fn} {a : Addr} {ns : List Int} {H : Hp} {S' : Sto} (hS : SqL K H a (ns.map V.int)) (hc : cal Φ N k f [.s ns] [] = some (.bool true, S')) (E : XK) :
    spC ⟨K, P, w⟩ (cal Φ N k) f [.ref a] H (fun v _ => v = .bl true) E := by
  have sm : Same H (cut [] H) := fun b o e => by rw [cut_out (by simp)]; exact e
  refine ⟨[], [], [], [.s ns], .bool true, S', fun _ h => h, fun _ h => (nomatch h), ⟨rfl, List.nodup_nil, fun k ob h => (by simp at h)⟩, .cons ⟨a, rfl, sql_up sm hS⟩ .nil, hc, fun v H' _ _ r => ?_⟩
  cases r
  rfl
end
end Fw

set_option autoImplicit false
set_option maxRecDepth 100000
set_option maxHeartbeats 4000000
/-! the defs in the language -/
namespace Fw
open PySem

abbrev b_are_met : Ss := (.cons (.ret (.bi .all (.comp (.cmp .GtE (.bi .len (.comp (.v 2) (.one 2) (.of (.v 4)) (.yes (.cmp .In (.v 2) (.v 1))))) (.v 3)) (.two 3 4) (.of (.v 0)) .no)))
    .nil)
abbrev b_has_ended : Ss := (.cons (.ret (.call 0 (.cons (.sub (.v 0) (.c (.int 1))) (.cons (.v 1) .nil))))
    .nil)
abbrev b_ready_steps : Ss := (.cons (.ret (.comp (.v 2) (.two 2 3) (.enum (.sub (.v 0) (.c (.int 0)))) (.yes (.and (.cons (.cmp .NotIn (.v 2) (.v 1)) (.cons (.call 0 (.cons (.sub (.v 3) (.c (.int 1))) (.cons (.v 1) .nil))) .nil))))))
    .nil)
abbrev b_next_step : Ss := (.cons (.set 3 (.val (.comp (.v 4) (.one 4) (.of (.call 2 (.cons (.v 0) (.cons (.v 1) .nil)))) (.yes (.cmp .Eq (.sub (.sub (.sub (.v 0) (.c (.int 0))) (.v 4)) (.c (.int 0))) (.v 2))))))
    (.cons (.ret (.ite (.cmp .NotEq (.v 3) (.lst .nil)) (.sub (.v 3) (.c (.int 0))) (.c .none)))
    .nil))
abbrev b_fallen : Ss := (.cons (.set 2 (.val (.bi .tuple (.comp (.v 3) (.one 3) (.of (.v 1)) (.yes (.call 0 (.cons (.sub (.sub (.sub (.v 0) (.c (.int 0))) (.v 3)) (.c (.int 1))) (.cons (.v 1) .nil))))))))
    (.cons (.ret (.ite (.cmp .Eq (.v 2) (.v 1)) (.v 1) (.call 4 (.cons (.v 0) (.cons (.v 2) .nil)))))
    .nil))
abbrev b_after : Ss := (.cons (.unp (.two 3 4) (.v 2))
    (.cons (.ifs (.cmp .Eq (.v 3) (.c (.str "change"))) (.cons (.ret (.call 4 (.cons (.v 0) (.cons (.bi .tuple (.comp (.v 5) (.one 5) (.of (.v 1)) (.yes (.cmp .NotIn (.v 4) (.sub (.sub (.sub (.v 0) (.c (.int 0))) (.v 5)) (.c (.int 2))))))) .nil))))
    .nil) .nil)
    (.cons (.set 5 (.val (.call 3 (.cons (.v 0) (.cons (.v 1) (.cons (.v 4) .nil))))))
    (.cons (.ifs (.cmp .Is (.v 5) (.c .none)) (.cons (.ret (.c .none))
    .nil) .nil)
    (.cons (.ifs (.cmp .Eq (.v 3) (.c (.str "sign"))) (.cons (.ret (.bi .tuple (.bi .sorted (.lst (.star (.v 1) (.cons (.v 5) .nil))))))
    .nil) .nil)
    (.cons (.set 6 (.val (.comp2 (.v 9) (.two 7 8) (.of (.sub (.sub (.sub (.v 0) (.c (.int 0))) (.v 5)) (.c (.int 1)))) .no (.one 9) (.of (.v 8)) .no)))
    (.cons (.set 10 (.val (.bi .tuple (.comp (.v 9) (.one 9) (.of (.v 1)) (.yes (.cmp .NotIn (.v 9) (.v 6)))))))
    (.cons (.ret (.ite (.cmp .Eq (.v 10) (.v 1)) (.c .none) (.call 4 (.cons (.v 0) (.cons (.v 10) .nil)))))
    .nil))))))))
abbrev b_follow : Ss := (.cons (.par 2 3 (.own .nil) (.val (.tup .nil)))
    (.cons (.for (.one 4) (.of (.v 1)) (.cons (.set 5 (.val (.call 5 (.cons (.v 0) (.cons (.v 3) (.cons (.v 4) .nil))))))
    (.cons (.set 3 (.val (.ite (.cmp .Is (.v 5) (.c .none)) (.v 3) (.v 5))))
    (.cons (.app 2 (.v 3))
    .nil))))
    (.cons (.frz [2] (.ret (.v 2)))
    .nil)))
abbrev b_refused : Ss := (.cons (.par 2 3 (.own .nil) (.val (.tup .nil)))
    (.cons (.for (.two 4 5) (.enum (.v 1)) (.cons (.set 6 (.val (.call 5 (.cons (.v 0) (.cons (.v 3) (.cons (.v 5) .nil))))))
    (.cons (.ifs (.cmp .Is (.v 6) (.c .none)) (.cons (.app 2 (.v 4))
    .nil) (.cons (.set 3 (.val (.v 6)))
    .nil))
    .nil)))
    (.cons (.frz [2] (.ret (.v 2)))
    .nil)))
abbrev b_law_draw : Ss := (.cons (.set 2 (.val (.c (.int 2305843009213693951))))
    (.cons (.ifs (.cmp .Lt (.sub (.v 0) (.c (.int 2))) (.v 1)) (.cons (.set 3 (.val (.c (.int 0))))
    (.cons (.ifs (.cmp .Gt (.bi .len (.sub (.v 0) (.c (.int 0)))) (.c (.int 0))) (.cons (.set 3 (.val (.sub (.sub (.v 0) (.c (.int 0))) (.bin .Mod (.bi .int (.sub (.v 0) (.c (.int 1)))) (.bi .len (.sub (.v 0) (.c (.int 0))))))))
    .nil) .nil)
    (.cons (.ifs (.or (.cons (.cmp .GtE (.sub (.v 0) (.c (.int 1))) (.bi .len (.sub (.v 0) (.c (.int 0))))) (.cons (.cmp .Lt (.v 3) (.bin .Pow (.c (.int 10)) (.c (.int 18)))) .nil))) (.cons (.set 3 (.val (.bin .Mod (.bi .int (.bin .Add (.v 3) (.bin .Mult (.c (.int 1000003)) (.sub (.v 0) (.c (.int 1)))))) (.v 2))))
    (.cons (.set 3 (.val (.bin .Mod (.bi .int (.bin .Add (.bin .Add (.bin .Mult (.v 3) (.v 3)) (.bin .Mult (.c (.int 1181783497276652981)) (.v 3))) (.c (.int 2049848353892358983)))) (.v 2))))
    (.cons (.set 3 (.val (.bin .Mod (.bi .int (.bin .Add (.bin .Mult (.v 3) (.v 3)) (.c (.int 1442695040888963407)))) (.v 2))))
    .nil))) .nil)
    (.cons (.put 0 (.c (.int 1)) (.bin .Add (.sub (.v 0) (.c (.int 1))) (.c (.int 1))))
    (.cons (.put 0 (.c (.int 2)) (.v 3))
    .nil))))) .nil)
    (.cons (.set 4 (.val (.bin .Mod (.bi .int (.sub (.v 0) (.c (.int 2)))) (.v 1))))
    (.cons (.put 0 (.c (.int 2)) (.bin .FloorDiv (.sub (.v 0) (.c (.int 2))) (.v 1)))
    (.cons (.ret (.v 4))
    .nil)))))
abbrev b_law_like : Ss := (.cons (.ifs (.isi (.v 0) [.list, .tuple]) (.cons (.ifs (.or (.cons (.cmp .NotEq (.isi (.v 0) [.list]) (.isi (.v 1) [.list])) (.cons (.cmp .NotEq (.isi (.v 0) [.tuple]) (.isi (.v 1) [.tuple])) .nil))) (.cons (.ret (.c (.bool false)))
    .nil) .nil)
    (.cons (.ifs (.cmp .NotEq (.bi .len (.v 0)) (.bi .len (.v 1))) (.cons (.ret (.c (.bool false)))
    .nil) .nil)
    (.cons (.ret (.cmp .Eq (.comp (.v 2) (.one 2) (.rng (.bi .len (.v 0))) (.yes (.not (.call 9 (.cons (.sub (.v 0) (.v 2)) (.cons (.sub (.v 1) (.v 2)) .nil)))))) (.lst .nil)))
    .nil))) .nil)
    (.cons (.ifs (.isi (.v 1) [.list, .tuple]) (.cons (.ret (.c (.bool false)))
    .nil) .nil)
    (.cons (.ret (.and (.cons (.cmp .Eq (.isi (.v 0) [.bool]) (.isi (.v 1) [.bool])) (.cons (.cmp .Eq (.v 0) (.v 1)) .nil))))
    .nil)))
abbrev b_law_some : Ss := (.cons (.set 3 (.val (.comp (.v 4) (.one 4) (.rng (.v 1)) (.yes (.cmp .NotEq (.v 4) (.v 2))))))
    (.cons (.set 5 (.own .nil))
    (.cons (.for (.one 6) (.rng (.bin .Add (.c (.int 1)) (.call 8 (.cons (.v 0) (.cons (.c (.int 3)) .nil))))) (.cons (.ifs (.cmp .NotEq (.v 3) (.lst .nil)) (.cons (.app 5 (.sub (.v 3) (.call 8 (.cons (.v 0) (.cons (.bi .len (.v 3)) .nil)))))
    .nil) .nil)
    .nil))
    (.cons (.ret (.bi .tuple (.bi .sset (.v 5))))
    .nil))))
abbrev b_law_needs : Ss := (.cons (.set 4 (.val (.tup .nil)))
    (.cons (.for (.one 5) (.rng (.bi2 .max (.v 3) (.sub (.lst (.cons (.c (.int 0)) (.cons (.c (.int 1)) (.cons (.c (.int 1)) (.cons (.c (.int 2)) .nil))))) (.call 8 (.cons (.v 0) (.cons (.c (.int 4)) .nil)))))) (.cons (.set 6 (.val (.call 10 (.cons (.v 0) (.cons (.v 1) (.cons (.v 2) .nil))))))
    (.cons (.ifs (.cmp .NotEq (.v 6) (.tup .nil)) (.cons (.set 4 (.val (.bin .Add (.v 4) (.tup (.cons (.tup (.cons (.sub (.lst (.cons (.c (.int 1)) (.cons (.c (.int 1)) (.cons (.c (.int 2)) (.cons (.bi .len (.v 6)) .nil))))) (.call 8 (.cons (.v 0) (.cons (.c (.int 4)) .nil)))) (.cons (.v 6) .nil))) .nil)))))
    .nil) .nil)
    .nil)))
    (.cons (.ret (.v 4))
    .nil)))
abbrev b_law_rule : Ss := (.cons (.set 2 (.val (.bin .Add (.c (.int 1)) (.call 8 (.cons (.v 0) (.cons (.v 1) .nil))))))
    (.cons (.set 3 (.val (.tup .nil)))
    (.cons (.for (.one 4) (.rng (.v 2)) (.cons (.set 5 (.val (.call 11 (.cons (.v 0) (.cons (.ite (.cmp .Eq (.call 8 (.cons (.v 0) (.cons (.c (.int 5)) .nil))) (.c (.int 0))) (.v 2) (.v 4)) (.cons (.v 4) (.cons (.c (.int 0)) .nil)))))))
    (.cons (.set 6 (.val (.sub (.lst (.cons (.c (.str "boss")) (.cons (.c (.str "clerk")) (.cons (.c (.str "audit")) (.cons (.c (.str "clerk")) (.cons (.c (.str "chief")) .nil)))))) (.call 8 (.cons (.v 0) (.cons (.c (.int 5)) .nil))))))
    (.cons (.set 7 (.val (.sub (.lst (.cons (.tup .nil) (.cons (.tup (.cons (.c (.str "a")) .nil)) (.cons (.tup (.cons (.c (.str "b")) .nil)) (.cons (.tup (.cons (.c (.str "a")) (.cons (.c (.str "b")) .nil))) (.cons (.tup (.cons (.c (.str "c")) .nil)) .nil)))))) (.call 8 (.cons (.v 0) (.cons (.c (.int 5)) .nil))))))
    (.cons (.set 3 (.val (.bin .Add (.v 3) (.tup (.cons (.tup (.cons (.v 6) (.cons (.v 5) (.cons (.v 7) .nil)))) .nil)))))
    .nil)))))
    (.cons (.ret (.tup (.cons (.v 3) (.cons (.call 11 (.cons (.v 0) (.cons (.v 2) (.cons (.neg (.c (.int 1))) (.cons (.c (.int 1)) .nil))))) .nil))))
    .nil))))
abbrev b_law_met : Ss := (.cons (.for (.two 2 3) (.of (.v 0)) (.cons (.ifs (.cmp .Lt (.bi .len (.comp (.v 4) (.one 4) (.of (.v 3)) (.yes (.cmp .In (.v 4) (.v 1))))) (.v 2)) (.cons (.ret (.c (.bool false)))
    .nil) .nil)
    .nil))
    (.cons (.ret (.c (.bool true)))
    .nil))
abbrev b_law_ready : Ss := (.cons (.ret (.comp (.v 2) (.one 2) (.rng (.bi .len (.sub (.v 0) (.c (.int 0))))) (.yes (.and (.cons (.cmp .NotIn (.v 2) (.v 1)) (.cons (.call 13 (.cons (.sub (.sub (.sub (.v 0) (.c (.int 0))) (.v 2)) (.c (.int 1))) (.cons (.v 1) .nil))) .nil))))))
    .nil)
abbrev b_law_next : Ss := (.cons (.for (.one 3) (.of (.call 14 (.cons (.v 0) (.cons (.v 1) .nil)))) (.cons (.ifs (.cmp .Eq (.sub (.sub (.sub (.v 0) (.c (.int 0))) (.v 3)) (.c (.int 0))) (.v 2)) (.cons (.ret (.v 3))
    .nil) .nil)
    .nil))
    (.cons (.ret (.c .none))
    .nil))
abbrev b_law_left : Ss := (.cons (.set 2 (.val (.c (.bool true))))
    (.cons (.whl (.v 2) (.cons (.set 3 (.val (.comp (.v 4) (.one 4) (.of (.v 1)) (.yes (.call 13 (.cons (.sub (.sub (.sub (.v 0) (.c (.int 0))) (.v 4)) (.c (.int 1))) (.cons (.v 1) .nil)))))))
    (.cons (.set 2 (.val (.cmp .Lt (.bi .len (.v 3)) (.bi .len (.v 1)))))
    (.cons (.set 1 (.val (.v 3)))
    .nil))))
    (.cons (.ret (.bi .tuple (.bi .sorted (.v 1))))
    .nil)))
abbrev b_law_event : Ss := (.cons (.unp (.two 3 4) (.v 2))
    (.cons (.ifs (.cmp .Eq (.v 3) (.c (.str "change"))) (.cons (.ret (.tup (.cons (.call 16 (.cons (.v 0) (.cons (.comp (.v 5) (.one 5) (.of (.v 1)) (.yes (.cmp .NotIn (.v 4) (.sub (.sub (.sub (.v 0) (.c (.int 0))) (.v 5)) (.c (.int 2)))))) .nil))) (.cons (.c (.bool false)) .nil))))
    .nil) .nil)
    (.cons (.set 5 (.val (.call 15 (.cons (.v 0) (.cons (.v 1) (.cons (.v 4) .nil))))))
    (.cons (.ifs (.cmp .Is (.v 5) (.c .none)) (.cons (.ret (.tup (.cons (.v 1) (.cons (.c (.bool true)) .nil))))
    .nil) .nil)
    (.cons (.ifs (.cmp .Eq (.v 3) (.c (.str "sign"))) (.cons (.ret (.tup (.cons (.bi .tuple (.bi .sorted (.bin .Add (.v 1) (.tup (.cons (.v 5) .nil))))) (.cons (.c (.bool false)) .nil))))
    .nil) .nil)
    (.cons (.set 6 (.val (.lst .nil)))
    (.cons (.for (.two 7 8) (.of (.sub (.sub (.sub (.v 0) (.c (.int 0))) (.v 5)) (.c (.int 1)))) (.cons (.set 6 (.val (.bin .Add (.v 6) (.bi .list (.v 8)))))
    .nil))
    (.cons (.set 9 (.val (.comp (.v 10) (.one 10) (.of (.v 1)) (.yes (.cmp .NotIn (.v 10) (.v 6))))))
    (.cons (.ret (.ite (.cmp .Eq (.bi .len (.v 9)) (.bi .len (.v 1))) (.tup (.cons (.v 1) (.cons (.c (.bool true)) .nil))) (.tup (.cons (.call 16 (.cons (.v 0) (.cons (.v 9) .nil))) (.cons (.c (.bool false)) .nil)))))
    .nil)))))))))
abbrev b_law_desks : Ss := (.cons (.ret (.bi .sset (.comp (.sub (.v 1) (.c (.int 0))) (.one 1) (.of (.sub (.v 0) (.c (.int 0)))) .no)))
    .nil)
abbrev b_law_events : Ss := (.cons (.set 1 (.val (.lst .nil)))
    (.cons (.for (.one 2) (.of (.v 0)) (.cons (.for (.one 3) (.of (.call 18 (.cons (.v 2) .nil))) (.cons (.set 1 (.val (.bin .Add (.v 1) (.lst (.cons (.tup (.cons (.c (.str "sign")) (.cons (.v 3) .nil))) (.cons (.tup (.cons (.c (.str "back")) (.cons (.v 3) .nil))) .nil))))))
    .nil))
    .nil))
    (.cons (.ret (.bi .sset (.bin .Add (.v 1) (.comp (.tup (.cons (.c (.str "change")) (.cons (.v 4) .nil))) (.one 4) (.of (.c (.str "abc"))) .no))))
    .nil)))
abbrev b_law_row : Ss := (.cons (.par 3 4 (.val (.call 19 (.cons (.v 1) .nil))) (.val (.tup .nil)))
    (.cons (.for (.one 5) (.rng (.call 8 (.cons (.v 0) (.cons (.bin .Add (.v 2) (.c (.int 1))) .nil)))) (.cons (.set 6 (.val (.sub (.v 3) (.call 8 (.cons (.v 0) (.cons (.bi .len (.v 3)) .nil))))))
    (.cons (.ifs (.and (.cons (.cmp .Gt (.call 8 (.cons (.v 0) (.cons (.c (.int 3)) .nil))) (.c (.int 0))) (.cons (.cmp .Eq (.sub (.v 6) (.c (.int 0))) (.c (.str "back"))) .nil))) (.cons (.set 6 (.val (.tup (.cons (.c (.str "sign")) (.cons (.sub (.v 6) (.c (.int 1))) .nil)))))
    .nil) .nil)
    (.cons (.set 4 (.val (.bin .Add (.v 4) (.tup (.cons (.v 6) .nil)))))
    .nil))))
    (.cons (.ret (.v 4))
    .nil)))
abbrev b_law_followed : Ss := (.cons (.par3 2 3 4 (.own .nil) (.val (.lst .nil)) (.val (.tup .nil)))
    (.cons (.for (.two 5 6) (.enum (.v 1)) (.cons (.unp (.two 4 7) (.call 17 (.cons (.v 0) (.cons (.v 4) (.cons (.v 6) .nil)))))
    (.cons (.app 2 (.v 4))
    (.cons (.set 3 (.val (.bin .Add (.v 3) (.bin .Mult (.lst (.cons (.v 5) .nil)) (.bi .int (.v 7))))))
    .nil))))
    (.cons (.frz [2] (.ret (.tup (.cons (.v 2) (.cons (.v 3) .nil)))))
    .nil)))
abbrev b_law : Ss := (.cons (.set 1 (.ref (.cons (.scr 0) (.cons (.c (.int 0)) (.cons (.c (.int 0)) .nil)))))
    (.cons (.for (.one 2) (.rng (.c (.int 16))) (.cons (.set 3 (.val (.call 12 (.cons (.v 1) (.cons (.c (.int 6)) .nil)))))
    (.cons (.set 4 (.val (.bin .Add (.call 20 (.cons (.v 1) (.cons (.tup (.cons (.v 3) .nil)) (.cons (.c (.int 29)) .nil)))) (.tup (.cons (.tup (.cons (.c (.str "sign")) (.cons (.c (.str "nobody")) .nil))) .nil)))))
    (.cons (.unp (.two 5 6) (.call 21 (.cons (.v 3) (.cons (.v 4) .nil))))
    (.cons (.ifs (.or (.cons (.not (.call 9 (.cons (.call 6 (.cons (.v 3) (.cons (.v 4) .nil))) (.cons (.v 5) .nil)))) (.cons (.not (.call 9 (.cons (.call 7 (.cons (.v 3) (.cons (.v 4) .nil))) (.cons (.v 6) .nil)))) .nil))) (.cons (.ret (.c (.bool false)))
    .nil) .nil)
    (.cons (.for (.one 7) (.of (.bin .Add (.slc (.v 5) .no (.yes (.c (.int 8)))) (.lst (.cons (.tup .nil) .nil)))) (.cons (.ifs (.not (.call 9 (.cons (.call 1 (.cons (.v 3) (.cons (.v 7) .nil))) (.cons (.call 13 (.cons (.sub (.v 3) (.c (.int 1))) (.cons (.v 7) .nil))) .nil)))) (.cons (.ret (.c (.bool false)))
    .nil) .nil)
    .nil))
    .nil))))))
    (.cons (.set 8 (.val (.tup (.cons (.tup (.cons (.tup (.cons (.c (.str "x")) (.cons (.tup (.cons (.tup (.cons (.c (.int 1)) (.cons (.tup (.cons (.c (.int 1)) (.cons (.c (.int 2)) .nil))) .nil))) .nil)) (.cons (.tup .nil) .nil)))) (.cons (.tup (.cons (.c (.str "y")) (.cons (.tup (.cons (.tup (.cons (.c (.int 1)) (.cons (.tup (.cons (.c (.int 0)) (.cons (.c (.int 2)) .nil))) .nil))) .nil)) (.cons (.tup .nil) .nil)))) (.cons (.tup (.cons (.c (.str "z")) (.cons (.tup .nil) (.cons (.tup (.cons (.c (.str "a")) .nil)) .nil)))) .nil)))) (.cons (.tup (.cons (.tup (.cons (.c (.int 1)) (.cons (.tup (.cons (.c (.int 0)) .nil)) .nil))) .nil)) .nil)))))
    (.cons (.set 4 (.val (.tup (.cons (.tup (.cons (.c (.str "sign")) (.cons (.c (.str "z")) .nil))) (.cons (.tup (.cons (.c (.str "sign")) (.cons (.c (.str "x")) .nil))) (.cons (.tup (.cons (.c (.str "sign")) (.cons (.c (.str "y")) .nil))) (.cons (.tup (.cons (.c (.str "change")) (.cons (.c (.str "a")) .nil))) (.cons (.tup (.cons (.c (.str "back")) (.cons (.c (.str "z")) .nil))) .nil))))))))
    (.cons (.ret (.and (.cons (.cmp .Eq (.call 6 (.cons (.v 8) (.cons (.v 4) .nil))) (.lst (.cons (.tup (.cons (.c (.int 2)) .nil)) (.cons (.tup (.cons (.c (.int 0)) (.cons (.c (.int 2)) .nil))) (.cons (.tup (.cons (.c (.int 0)) (.cons (.c (.int 1)) (.cons (.c (.int 2)) .nil)))) (.cons (.tup (.cons (.c (.int 0)) (.cons (.c (.int 1)) .nil))) (.cons (.tup (.cons (.c (.int 0)) (.cons (.c (.int 1)) .nil))) .nil))))))) (.cons (.cmp .Eq (.call 7 (.cons (.v 8) (.cons (.v 4) .nil))) (.lst (.cons (.c (.int 4)) .nil))) .nil))))
    .nil)))))
abbrev b_desks : Ss := (.cons (.ret (.bi .sset (.comp (.sub (.v 1) (.c (.int 0))) (.one 1) (.of (.sub (.v 0) (.c (.int 0)))) .no)))
    .nil)
abbrev b_greatest : Ss := (.cons (.set 3 (.val (.comp (.v 4) (.one 4) (.of (.call 2 (.cons (.v 0) (.cons (.v 1) .nil)))) (.yes (.cmp .In (.sub (.sub (.sub (.v 0) (.c (.int 0))) (.v 4)) (.c (.int 0))) (.v 2))))))
    (.cons (.ret (.ite (.cmp .Eq (.v 3) (.lst .nil)) (.v 1) (.call 40 (.cons (.v 0) (.cons (.bi .tuple (.bi .sorted (.lst (.star (.v 1) (.star (.v 3) .nil))))) (.cons (.v 2) .nil))))))
    .nil))
abbrev b_can_end : Ss := (.cons (.ret (.call 1 (.cons (.v 0) (.cons (.call 40 (.cons (.v 0) (.cons (.tup .nil) (.cons (.call 39 (.cons (.v 0) .nil)) .nil)))) .nil))))
    .nil)
abbrev b_first_way : Ss := (.cons (.par 2 3 (.tab1 (.v 1) (.c (.bool true))) (.val (.lst (.cons (.tup (.cons (.tup .nil) (.cons (.v 1) .nil))) .nil))))
    (.cons (.whl (.cmp .NotEq (.v 3) (.lst .nil)) (.cons (.set 4 (.own .nil))
    (.cons (.for (.two 5 6) (.of (.v 3)) (.cons (.ifs (.call 1 (.cons (.v 0) (.cons (.v 6) .nil))) (.cons (.ret (.v 5))
    .nil) .nil)
    (.cons (.for (.one 7) (.of (.call 39 (.cons (.v 0) .nil))) (.cons (.set 8 (.val (.call 5 (.cons (.v 0) (.cons (.v 6) (.cons (.tup (.cons (.c (.str "sign")) (.cons (.v 7) .nil))) .nil))))))
    (.cons (.ifs (.and (.cons (.cmp .IsNot (.v 8) (.c .none)) (.cons (.cmp .NotIn (.v 8) (.v 2)) .nil))) (.cons (.put 2 (.v 8) (.c (.bool true)))
    (.cons (.app 4 (.tup (.cons (.tup (.star (.v 5) (.cons (.v 7) .nil))) (.cons (.v 8) .nil))))
    .nil)) .nil)
    .nil)))
    .nil)))
    (.cons (.frz [4] (.set 3 (.val (.v 4))))
    .nil))))
    (.cons (.ret (.c .none))
    .nil)))
abbrev b_law_closed : Ss := (.cons (.set 3 (.val (.c (.bool true))))
    (.cons (.whl (.v 3) (.cons (.set 4 (.val (.comp (.v 5) (.one 5) (.of (.call 14 (.cons (.v 0) (.cons (.v 1) .nil)))) (.yes (.cmp .In (.sub (.sub (.sub (.v 0) (.c (.int 0))) (.v 5)) (.c (.int 0))) (.v 2))))))
    (.cons (.set 3 (.val (.cmp .NotEq (.v 4) (.lst .nil))))
    (.cons (.set 1 (.val (.bi .tuple (.bi .sorted (.bin .Add (.v 1) (.bi .tuple (.v 4)))))))
    .nil))))
    (.cons (.ret (.v 1))
    .nil)))
abbrev b_law_v3 : Ss := (.cons (.set 1 (.ref (.cons (.scr 0) (.cons (.c (.int 0)) (.cons (.c (.int 0)) .nil)))))
    (.cons (.for (.one 2) (.rng (.c (.int 14))) (.cons (.set 3 (.val (.call 12 (.cons (.v 1) (.cons (.c (.int 6)) .nil)))))
    (.cons (.set 4 (.val (.call 18 (.cons (.v 3) .nil))))
    (.cons (.set 5 (.val (.call 43 (.cons (.v 3) (.cons (.tup .nil) (.cons (.v 4) .nil))))))
    (.cons (.set 6 (.val (.call 20 (.cons (.v 1) (.cons (.tup (.cons (.v 3) .nil)) (.cons (.c (.int 12)) .nil))))))
    (.cons (.set 7 (.own .nil))
    (.cons (.for (.one 8) (.rng (.c (.int 3))) (.cons (.set 9 (.val (.slc (.v 6) .no (.yes (.sub (.lst (.cons (.c (.int 0)) (.cons (.c (.int 6)) (.cons (.c (.int 12)) .nil)))) (.v 8))))))
    (.cons (.for (.one 10) (.rng (.c (.int 18))) (.cons (.set 9 (.val (.bin .Add (.v 9) (.tup (.cons (.tup (.cons (.c (.str "sign")) (.cons (.sub (.v 4) (.call 8 (.cons (.v 1) (.cons (.bi .len (.v 4)) .nil)))) .nil))) .nil)))))
    .nil))
    (.cons (.app 7 (.v 9))
    .nil))))
    (.cons (.frz [7] (.for (.one 9) (.of (.v 7)) (.cons (.set 11 (.val (.sub (.sub (.call 21 (.cons (.v 3) (.cons (.v 9) .nil))) (.c (.int 0))) (.neg (.c (.int 1))))))
    (.cons (.set 12 (.val (.call 6 (.cons (.v 3) (.cons (.v 9) .nil)))))
    (.cons (.ifs (.cmp .NotEq (.call 43 (.cons (.v 3) (.cons (.v 11) (.cons (.v 4) .nil)))) (.v 5)) (.cons (.ret (.c (.bool false)))
    .nil) .nil)
    (.cons (.ifs (.cmp .NotEq (.cmp .Is (.call 42 (.cons (.v 3) (.cons (.sub (.v 12) (.neg (.c (.int 1)))) .nil))) (.c .none)) (.not (.call 41 (.cons (.v 3) .nil)))) (.cons (.ret (.c (.bool false)))
    .nil) .nil)
    .nil))))))
    (.cons (.ifs (.not (.call 9 (.cons (.call 41 (.cons (.v 3) .nil)) (.cons (.call 13 (.cons (.sub (.v 3) (.c (.int 1))) (.cons (.v 5) .nil))) .nil)))) (.cons (.ret (.c (.bool false)))
    .nil) .nil)
    .nil)))))))))
    (.cons (.ret (.c (.bool true)))
    .nil)))
abbrev b_all_events : Ss := (.cons (.set 1 (.val (.bi .sset (.comp2 (.v 3) (.one 2) (.of (.v 0)) .no (.one 3) (.of (.call 39 (.cons (.v 2) .nil))) .no))))
    (.cons (.set 4 (.val (.comp (.tup (.cons (.c (.str "change")) (.cons (.v 5) .nil))) (.one 5) (.of (.g "PARTS" (.tuple [.str "a", .str "b", .str "c"]))) .no)))
    (.cons (.ret (.bi .sorted (.lst (.star (.v 4) (.star (.comp2 (.tup (.cons (.v 6) (.cons (.v 3) .nil))) (.one 6) (.of (.tup (.cons (.c (.str "back")) (.cons (.c (.str "sign")) .nil)))) .no (.one 3) (.of (.v 1)) .no) .nil)))))
    .nil)))
abbrev b_behind : Ss := (.cons (.set 3 (.val (.call 5 (.cons (.v 0) (.cons (.v 1) (.cons (.v 2) .nil))))))
    (.cons (.ret (.ite (.cmp .Is (.v 3) (.c .none)) (.tup (.cons (.c (.bool true)) (.cons (.v 1) .nil))) (.tup (.cons (.c (.bool false)) (.cons (.v 3) .nil)))))
    .nil))
abbrev b_parting_row : Ss := (.cons (.ifs (.cmp .NotEq (.call 1 (.cons (.v 0) (.cons (.tup .nil) .nil))) (.call 1 (.cons (.v 1) (.cons (.tup .nil) .nil)))) (.cons (.ret (.tup .nil))
    .nil) .nil)
    (.cons (.par3 2 3 4 (.val (.call 45 (.cons (.tup (.cons (.v 0) (.cons (.v 1) .nil))) .nil))) (.tab1 (.tup (.cons (.tup .nil) (.cons (.tup .nil) .nil))) (.c (.bool true))) (.val (.lst (.cons (.tup (.cons (.tup .nil) (.cons (.tup (.cons (.tup .nil) (.cons (.tup .nil) .nil))) .nil))) .nil))))
    (.cons (.whl (.cmp .NotEq (.v 4) (.lst .nil)) (.cons (.set 5 (.own .nil))
    (.cons (.for (.two 6 7) (.of (.v 4)) (.cons (.for (.one 8) (.of (.v 2)) (.cons (.par 9 10 (.val (.call 46 (.cons (.v 0) (.cons (.sub (.v 7) (.c (.int 0))) (.cons (.v 8) .nil))))) (.val (.call 46 (.cons (.v 1) (.cons (.sub (.v 7) (.c (.int 1))) (.cons (.v 8) .nil))))))
    (.cons (.set 11 (.val (.tup (.cons (.sub (.v 9) (.c (.int 1))) (.cons (.sub (.v 10) (.c (.int 1))) .nil)))))
    (.cons (.ifs (.or (.cons (.cmp .NotEq (.sub (.v 9) (.c (.int 0))) (.sub (.v 10) (.c (.int 0)))) (.cons (.cmp .NotEq (.call 1 (.cons (.v 0) (.cons (.sub (.v 11) (.c (.int 0))) .nil))) (.call 1 (.cons (.v 1) (.cons (.sub (.v 11) (.c (.int 1))) .nil)))) .nil))) (.cons (.ret (.tup (.star (.v 6) (.cons (.v 8) .nil))))
    .nil) .nil)
    (.cons (.ifs (.cmp .NotIn (.v 11) (.v 3)) (.cons (.put 3 (.v 11) (.c (.bool true)))
    (.cons (.app 5 (.tup (.cons (.tup (.star (.v 6) (.cons (.v 8) .nil))) (.cons (.v 11) .nil))))
    .nil)) .nil)
    .nil)))))
    .nil))
    (.cons (.frz [5] (.set 4 (.val (.v 5))))
    .nil))))
    (.cons (.ret (.c .none))
    .nil))))
abbrev b_alike : Ss := (.cons (.ret (.cmp .Is (.call 47 (.cons (.v 0) (.cons (.v 1) .nil))) (.c .none)))
    .nil)
abbrev b_law_near : Ss := (.cons (.unp (.two 2 3) (.v 1))
    (.cons (.par 4 5 (.val (.call 8 (.cons (.v 0) (.cons (.bi .len (.v 2)) .nil)))) (.val (.call 8 (.cons (.v 0) (.cons (.c (.int 5)) .nil)))))
    (.cons (.unp (.three 6 7 8) (.sub (.v 2) (.v 4)))
    (.cons (.ifs (.cmp .Eq (.v 5) (.c (.int 0))) (.cons (.set 7 (.val (.call 11 (.cons (.v 0) (.cons (.bi .len (.v 2)) (.cons (.v 4) (.cons (.c (.int 0)) .nil)))))))
    .nil) .nil)
    (.cons (.ifs (.cmp .Eq (.v 5) (.c (.int 1))) (.cons (.set 8 (.val (.sub (.lst (.cons (.tup .nil) (.cons (.tup (.cons (.c (.str "a")) .nil)) (.cons (.tup (.cons (.c (.str "b")) (.cons (.c (.str "c")) .nil))) .nil)))) (.call 8 (.cons (.v 0) (.cons (.c (.int 3)) .nil))))))
    .nil) .nil)
    (.cons (.ifs (.cmp .Eq (.v 5) (.c (.int 2))) (.cons (.set 7 (.val (.bi .tuple (.comp (.v 9) (.one 9) (.of (.v 7)) (.yes (.cmp .Gt (.bi .len (.sub (.v 9) (.c (.int 1)))) (.c (.int 1))))))))
    .nil) .nil)
    (.cons (.ifs (.cmp .Eq (.v 5) (.c (.int 3))) (.cons (.set 3 (.val (.call 11 (.cons (.v 0) (.cons (.bi .len (.v 2)) (.cons (.neg (.c (.int 1))) (.cons (.c (.int 1)) .nil)))))))
    .nil) .nil)
    (.cons (.ifs (.cmp .Eq (.v 5) (.c (.int 4))) (.cons (.set 7 (.val (.ite (.cmp .Lt (.bi .len (.v 7)) (.c (.int 2))) (.bin .Add (.v 7) (.slc (.v 7) .no (.yes (.c (.int 1))))) (.rev (.v 7)))))
    .nil) .nil)
    (.cons (.ret (.tup (.cons (.bin .Add (.bin .Add (.slc (.v 2) .no (.yes (.v 4))) (.tup (.cons (.tup (.cons (.v 6) (.cons (.v 7) (.cons (.v 8) .nil)))) .nil))) (.slc (.v 2) (.yes (.bin .Add (.v 4) (.c (.int 1)))) .no)) (.cons (.v 3) .nil))))
    .nil)))))))))
abbrev b_law_parts : Ss := (.cons (.ifs (.cmp .NotEq (.call 13 (.cons (.sub (.v 0) (.c (.int 1))) (.cons (.tup .nil) .nil))) (.call 13 (.cons (.sub (.v 1) (.c (.int 1))) (.cons (.tup .nil) .nil)))) (.cons (.ret (.tup .nil))
    .nil) .nil)
    (.cons (.par3 2 3 4 (.val (.call 19 (.cons (.tup (.cons (.v 0) (.cons (.v 1) .nil))) .nil))) (.tab1 (.tup (.cons (.tup .nil) (.cons (.tup .nil) .nil))) (.c (.bool true))) (.val (.lst (.cons (.tup (.cons (.tup .nil) (.cons (.tup (.cons (.tup .nil) (.cons (.tup .nil) .nil))) .nil))) .nil))))
    (.cons (.whl (.cmp .NotEq (.v 4) (.lst .nil)) (.cons (.set 5 (.own .nil))
    (.cons (.for (.two 6 7) (.of (.v 4)) (.cons (.for (.one 8) (.of (.v 2)) (.cons (.unp (.two 9 10) (.call 17 (.cons (.v 0) (.cons (.sub (.v 7) (.c (.int 0))) (.cons (.v 8) .nil)))))
    (.cons (.unp (.two 11 12) (.call 17 (.cons (.v 1) (.cons (.sub (.v 7) (.c (.int 1))) (.cons (.v 8) .nil)))))
    (.cons (.ifs (.or (.cons (.cmp .NotEq (.v 10) (.v 12)) (.cons (.cmp .NotEq (.call 13 (.cons (.sub (.v 0) (.c (.int 1))) (.cons (.v 9) .nil))) (.call 13 (.cons (.sub (.v 1) (.c (.int 1))) (.cons (.v 11) .nil)))) .nil))) (.cons (.ret (.bin .Add (.v 6) (.tup (.cons (.v 8) .nil))))
    .nil) .nil)
    (.cons (.ifs (.cmp .NotIn (.tup (.cons (.v 9) (.cons (.v 11) .nil))) (.v 3)) (.cons (.put 3 (.tup (.cons (.v 9) (.cons (.v 11) .nil))) (.c (.bool true)))
    (.cons (.app 5 (.tup (.cons (.bin .Add (.v 6) (.tup (.cons (.v 8) .nil))) (.cons (.tup (.cons (.v 9) (.cons (.v 11) .nil))) .nil))))
    .nil)) .nil)
    .nil)))))
    .nil))
    (.cons (.frz [5] (.set 4 (.val (.v 5))))
    .nil))))
    (.cons (.ret (.c .none))
    .nil))))
abbrev b_law_v4 : Ss := (.cons (.set 1 (.ref (.cons (.scr 0) (.cons (.c (.int 0)) (.cons (.c (.int 0)) .nil)))))
    (.cons (.for (.one 2) (.rng (.c (.int 8))) (.cons (.set 3 (.val (.call 12 (.cons (.v 1) (.cons (.c (.int 5)) .nil)))))
    (.cons (.set 4 (.val (.ite (.cmp .Gt (.call 8 (.cons (.v 1) (.cons (.c (.int 4)) .nil))) (.c (.int 0))) (.call 49 (.cons (.v 1) (.cons (.v 3) .nil))) (.call 12 (.cons (.v 1) (.cons (.c (.int 4)) .nil))))))
    (.cons (.set 5 (.val (.call 50 (.cons (.v 3) (.cons (.v 4) .nil)))))
    (.cons (.ifs (.or (.cons (.not (.call 9 (.cons (.call 47 (.cons (.v 3) (.cons (.v 4) .nil))) (.cons (.v 5) .nil)))) (.cons (.not (.call 9 (.cons (.call 48 (.cons (.v 3) (.cons (.v 4) .nil))) (.cons (.cmp .Is (.v 5) (.c .none)) .nil)))) .nil))) (.cons (.ret (.c (.bool false)))
    .nil) .nil)
    (.cons (.ifs (.or (.cons (.cmp .NotEq (.call 47 (.cons (.v 4) (.cons (.v 3) .nil))) (.v 5)) (.cons (.not (.call 48 (.cons (.v 3) (.cons (.v 3) .nil)))) .nil))) (.cons (.ret (.c (.bool false)))
    .nil) .nil)
    .nil))))))
    (.cons (.set 6 (.val (.tup (.cons (.tup (.cons (.c (.str "x")) (.cons (.tup .nil) (.cons (.tup (.cons (.c (.str "a")) .nil)) .nil)))) (.cons (.tup (.cons (.c (.str "y")) (.cons (.tup (.cons (.tup (.cons (.c (.int 1)) (.cons (.tup (.cons (.c (.int 0)) .nil)) .nil))) .nil)) (.cons (.tup .nil) .nil)))) .nil)))))
    (.cons (.par 3 4 (.val (.tup (.cons (.v 6) (.cons (.tup (.cons (.tup (.cons (.c (.int 1)) (.cons (.tup (.cons (.c (.int 1)) .nil)) .nil))) .nil)) .nil)))) (.val (.tup (.cons (.v 6) (.cons (.tup (.cons (.tup (.cons (.c (.int 2)) (.cons (.tup (.cons (.c (.int 0)) (.cons (.c (.int 1)) .nil))) .nil))) .nil)) .nil)))))
    (.cons (.ret (.and (.cons (.call 48 (.cons (.v 3) (.cons (.v 4) .nil))) (.cons (.cmp .Eq (.call 47 (.cons (.v 3) (.cons (.tup (.cons (.v 6) (.cons (.tup (.cons (.tup (.cons (.c (.int 1)) (.cons (.tup (.cons (.c (.int 0)) .nil)) .nil))) .nil)) .nil))) .nil))) (.tup (.cons (.tup (.cons (.c (.str "sign")) (.cons (.c (.str "x")) .nil))) .nil))) .nil))))
    .nil)))))
abbrev b_states : Ss := (.cons (.par 1 2 (.tab1 (.tup .nil) (.c (.bool true))) (.val (.lst (.cons (.tup .nil) .nil))))
    (.cons (.whl (.cmp .NotEq (.v 2) (.lst .nil)) (.cons (.set 3 (.own .nil))
    (.cons (.for (.one 4) (.of (.v 2)) (.cons (.for (.one 5) (.of (.call 45 (.cons (.tup (.cons (.v 0) .nil)) .nil))) (.cons (.set 6 (.val (.sub (.call 46 (.cons (.v 0) (.cons (.v 4) (.cons (.v 5) .nil)))) (.c (.int 1)))))
    (.cons (.ifs (.cmp .NotIn (.v 6) (.v 1)) (.cons (.put 1 (.v 6) (.c (.bool true)))
    (.cons (.app 3 (.v 6))
    .nil)) .nil)
    .nil)))
    .nil))
    (.cons (.frz [3] (.set 2 (.val (.v 3))))
    .nil))))
    (.cons (.ret (.bi .sorted (.v 1)))
    .nil)))
abbrev b_law_reached : Ss := (.cons (.par3 1 2 3 (.tab1 (.tup .nil) (.c (.bool true))) (.own (.cons (.tup .nil) .nil)) (.val (.call 19 (.cons (.tup (.cons (.v 0) .nil)) .nil))))
    (.cons (.whl (.cmp .NotEq (.v 2) (.lst .nil)) (.cons (.pop 4 2)
    (.cons (.for (.one 5) (.of (.v 3)) (.cons (.set 6 (.val (.sub (.call 17 (.cons (.v 0) (.cons (.v 4) (.cons (.v 5) .nil)))) (.c (.int 0)))))
    (.cons (.ifs (.cmp .NotIn (.v 6) (.v 1)) (.cons (.put 1 (.v 6) (.c (.bool true)))
    (.cons (.app 2 (.v 6))
    .nil)) .nil)
    .nil)))
    .nil)))
    (.cons (.ret (.bi .sorted (.v 1)))
    .nil)))
abbrev b_law_v6 : Ss := (.cons (.set 1 (.ref (.cons (.scr 0) (.cons (.c (.int 0)) (.cons (.c (.int 0)) .nil)))))
    (.cons (.for (.one 2) (.rng (.c (.int 10))) (.cons (.set 3 (.val (.call 12 (.cons (.v 1) (.cons (.c (.int 6)) .nil)))))
    (.cons (.set 4 (.val (.call 54 (.cons (.v 3) .nil))))
    (.cons (.ifs (.not (.call 9 (.cons (.call 53 (.cons (.v 3) .nil)) (.cons (.v 4) .nil)))) (.cons (.ret (.c (.bool false)))
    .nil) .nil)
    (.cons (.set 5 (.val (.call 43 (.cons (.v 3) (.cons (.tup .nil) (.cons (.call 18 (.cons (.v 3) .nil)) .nil))))))
    (.cons (.ifs (.cmp .NotIn (.v 5) (.v 4)) (.cons (.ret (.c (.bool false)))
    .nil) .nil)
    (.cons (.for (.one 6) (.of (.v 4)) (.cons (.ifs (.cmp .NotEq (.comp (.v 7) (.one 7) (.of (.v 6)) (.yes (.cmp .NotIn (.v 7) (.v 5)))) (.lst .nil)) (.cons (.ret (.c (.bool false)))
    .nil) .nil)
    .nil))
    .nil)))))))
    (.cons (.ret (.cmp .Eq (.call 53 (.cons (.tup (.cons (.tup (.cons (.tup (.cons (.c (.str "x")) (.cons (.tup .nil) (.cons (.tup .nil) .nil)))) (.cons (.tup (.cons (.c (.str "y")) (.cons (.tup (.cons (.tup (.cons (.c (.int 2)) (.cons (.tup (.cons (.c (.int 0)) .nil)) .nil))) .nil)) (.cons (.tup .nil) .nil)))) .nil))) (.cons (.tup (.cons (.tup (.cons (.c (.int 1)) (.cons (.tup (.cons (.c (.int 0)) .nil)) .nil))) .nil)) .nil))) .nil)) (.lst (.cons (.tup .nil) (.cons (.tup (.cons (.c (.int 0)) .nil)) .nil)))))
    .nil)))
abbrev b_fewest_signs : Ss := (.cons (.set 2 (.val (.call 42 (.cons (.v 0) (.cons (.v 1) .nil)))))
    (.cons (.ret (.ite (.cmp .Is (.v 2) (.c .none)) (.c .none) (.bi .len (.v 2))))
    .nil))
abbrev b_law_way : Ss := (.cons (.par 2 3 (.tab1 (.v 1) (.c (.bool true))) (.val (.lst (.cons (.tup (.cons (.tup .nil) (.cons (.v 1) .nil))) .nil))))
    (.cons (.whl (.cmp .NotEq (.v 3) (.lst .nil)) (.cons (.set 4 (.own .nil))
    (.cons (.for (.two 5 6) (.of (.v 3)) (.cons (.ifs (.call 13 (.cons (.sub (.v 0) (.c (.int 1))) (.cons (.v 6) .nil))) (.cons (.ret (.v 5))
    .nil) .nil)
    (.cons (.for (.one 7) (.of (.call 18 (.cons (.v 0) .nil))) (.cons (.unp (.two 8 9) (.call 17 (.cons (.v 0) (.cons (.v 6) (.cons (.tup (.cons (.c (.str "sign")) (.cons (.v 7) .nil))) .nil)))))
    (.cons (.ifs (.and (.cons (.cmp .NotIn (.v 8) (.v 2)) (.cons (.not (.v 9)) .nil))) (.cons (.put 2 (.v 8) (.c (.bool true)))
    (.cons (.app 4 (.tup (.cons (.bin .Add (.v 5) (.tup (.cons (.v 7) .nil))) (.cons (.v 8) .nil))))
    .nil)) .nil)
    .nil)))
    .nil)))
    (.cons (.frz [4] (.set 3 (.val (.v 4))))
    .nil))))
    (.cons (.ret (.c .none))
    .nil)))
abbrev b_law_v7 : Ss := (.cons (.set 1 (.ref (.cons (.scr 0) (.cons (.c (.int 0)) (.cons (.c (.int 0)) .nil)))))
    (.cons (.for (.one 2) (.rng (.c (.int 10))) (.cons (.set 3 (.val (.call 12 (.cons (.v 1) (.cons (.c (.int 6)) .nil)))))
    (.cons (.set 4 (.val (.call 54 (.cons (.v 3) .nil))))
    (.cons (.for (.one 5) (.rng (.c (.int 4))) (.cons (.set 6 (.val (.sub (.v 4) (.call 8 (.cons (.v 1) (.cons (.bi .len (.v 4)) .nil))))))
    (.cons (.set 7 (.val (.call 57 (.cons (.v 3) (.cons (.v 6) .nil)))))
    (.cons (.set 8 (.val (.call 42 (.cons (.v 3) (.cons (.v 6) .nil)))))
    (.cons (.set 9 (.val (.ite (.cmp .Is (.v 7) (.c .none)) (.c .none) (.bi .len (.v 7)))))
    (.cons (.ifs (.or (.cons (.not (.call 9 (.cons (.v 8) (.cons (.v 7) .nil)))) (.cons (.not (.call 9 (.cons (.call 56 (.cons (.v 3) (.cons (.v 6) .nil))) (.cons (.v 9) .nil)))) .nil))) (.cons (.ret (.c (.bool false)))
    .nil) .nil)
    (.cons (.set 10 (.val (.v 6)))
    (.cons (.for (.one 11) (.of (.orT (.v 8) (.tup .nil))) (.cons (.unp (.two 12 13) (.call 17 (.cons (.v 3) (.cons (.v 10) (.cons (.tup (.cons (.c (.str "sign")) (.cons (.v 11) .nil))) .nil)))))
    (.cons (.ifs (.or (.cons (.v 13) (.cons (.call 13 (.cons (.sub (.v 3) (.c (.int 1))) (.cons (.v 10) .nil))) .nil))) (.cons (.ret (.c (.bool false)))
    .nil) .nil)
    (.cons (.set 10 (.val (.v 12)))
    .nil))))
    (.cons (.ifs (.and (.cons (.cmp .IsNot (.v 8) (.c .none)) (.cons (.not (.call 13 (.cons (.sub (.v 3) (.c (.int 1))) (.cons (.v 10) .nil)))) .nil))) (.cons (.ret (.c (.bool false)))
    .nil) .nil)
    .nil)))))))))
    .nil))))
    (.cons (.set 3 (.val (.tup (.cons (.tup (.cons (.tup (.cons (.c (.str "a")) (.cons (.tup .nil) (.cons (.tup .nil) .nil)))) (.cons (.tup (.cons (.c (.str "d")) (.cons (.tup (.cons (.tup (.cons (.c (.int 1)) (.cons (.tup (.cons (.c (.int 0)) .nil)) .nil))) .nil)) (.cons (.tup .nil) .nil)))) (.cons (.tup (.cons (.c (.str "d")) (.cons (.tup .nil) (.cons (.tup .nil) .nil)))) .nil)))) (.cons (.tup (.cons (.tup (.cons (.c (.int 1)) (.cons (.tup (.cons (.c (.int 2)) .nil)) .nil))) .nil)) .nil)))))
    (.cons (.ret (.cmp .Eq (.lst (.cons (.call 56 (.cons (.v 3) (.cons (.tup .nil) .nil))) (.cons (.call 56 (.cons (.v 3) (.cons (.tup (.cons (.c (.int 0)) .nil)) .nil))) (.cons (.call 42 (.cons (.v 3) (.cons (.tup (.cons (.c (.int 0)) .nil)) .nil))) .nil)))) (.lst (.cons (.c (.int 1)) (.cons (.c (.int 2)) (.cons (.tup (.cons (.c (.str "d")) (.cons (.c (.str "d")) .nil))) .nil))))))
    .nil))))
abbrev b_falls : Ss := (.cons (.set 3 (.val (.call 5 (.cons (.v 0) (.cons (.v 1) (.cons (.tup (.cons (.c (.str "change")) (.cons (.v 2) .nil))) .nil))))))
    (.cons (.ret (.comp (.v 4) (.one 4) (.of (.v 1)) (.yes (.cmp .NotIn (.v 4) (.v 3)))))
    .nil))
abbrev b_cost : Ss := (.cons (.set 3 (.val (.call 56 (.cons (.v 0) (.cons (.v 1) .nil)))))
    (.cons (.ifs (.cmp .Is (.v 3) (.c .none)) (.cons (.ret (.c .none))
    .nil) .nil)
    (.cons (.ret (.bin .Sub (.call 56 (.cons (.v 0) (.cons (.call 5 (.cons (.v 0) (.cons (.v 1) (.cons (.tup (.cons (.c (.str "change")) (.cons (.v 2) .nil))) .nil)))) .nil))) (.v 3)))
    .nil)))
abbrev b_greatest_cost : Ss := (.cons (.set 2 (.val (.comp (.call 71 (.cons (.v 0) (.cons (.v 3) (.cons (.v 1) .nil)))) (.one 3) (.of (.call 53 (.cons (.v 0) .nil))) .no)))
    (.cons (.ret (.ite (.cmp .In (.c .none) (.v 2)) (.c .none) (.bi .max (.v 2))))
    .nil))
abbrev b_law_v10 : Ss := (.cons (.set 1 (.ref (.cons (.scr 0) (.cons (.c (.int 0)) (.cons (.c (.int 0)) .nil)))))
    (.cons (.for (.one 2) (.rng (.c (.int 4))) (.cons (.set 3 (.val (.call 12 (.cons (.v 1) (.cons (.c (.int 6)) .nil)))))
    (.cons (.par 4 5 (.val (.call 54 (.cons (.v 3) .nil))) .tab)
    (.cons (.for (.one 6) (.of (.v 4)) (.cons (.set 7 (.val (.call 57 (.cons (.v 3) (.cons (.v 6) .nil)))))
    (.cons (.put 5 (.v 6) (.ite (.cmp .Is (.v 7) (.c .none)) (.c .none) (.bi .len (.v 7))))
    .nil)))
    (.cons (.for (.one 8) (.of (.c (.str "abc"))) (.cons (.for (.one 9) (.rng (.c (.int 4))) (.cons (.set 6 (.val (.sub (.v 4) (.call 8 (.cons (.v 1) (.cons (.bi .len (.v 4)) .nil))))))
    (.cons (.set 10 (.val (.sub (.call 17 (.cons (.v 3) (.cons (.v 6) (.cons (.tup (.cons (.c (.str "change")) (.cons (.v 8) .nil))) .nil)))) (.c (.int 0)))))
    (.cons (.ifs (.not (.call 9 (.cons (.call 70 (.cons (.v 3) (.cons (.v 6) (.cons (.v 8) .nil)))) (.cons (.comp (.v 11) (.one 11) (.of (.v 6)) (.yes (.cmp .NotIn (.v 11) (.v 10)))) .nil)))) (.cons (.ret (.c (.bool false)))
    .nil) .nil)
    (.cons (.set 12 (.val (.ite (.cmp .Is (.sub (.v 5) (.v 6)) (.c .none)) (.c .none) (.bin .Sub (.sub (.v 5) (.v 10)) (.sub (.v 5) (.v 6))))))
    (.cons (.ifs (.not (.call 9 (.cons (.call 71 (.cons (.v 3) (.cons (.v 6) (.cons (.v 8) .nil)))) (.cons (.v 12) .nil)))) (.cons (.ret (.c (.bool false)))
    .nil) .nil)
    .nil))))))
    (.cons (.set 13 (.val (.c .none)))
    (.cons (.ifs (.cmp .IsNot (.sub (.v 5) (.tup .nil)) (.c .none)) (.cons (.set 13 (.val (.bi .max (.comp (.bin .Sub (.sub (.v 5) (.sub (.call 17 (.cons (.v 3) (.cons (.v 6) (.cons (.tup (.cons (.c (.str "change")) (.cons (.v 8) .nil))) .nil)))) (.c (.int 0)))) (.sub (.v 5) (.v 6))) (.one 6) (.of (.v 4)) .no))))
    .nil) .nil)
    (.cons (.ifs (.not (.call 9 (.cons (.call 72 (.cons (.v 3) (.cons (.v 8) .nil))) (.cons (.v 13) .nil)))) (.cons (.ret (.c (.bool false)))
    .nil) .nil)
    .nil)))))
    .nil)))))
    (.cons (.set 3 (.val (.tup (.cons (.tup (.cons (.tup (.cons (.c (.str "a")) (.cons (.tup .nil) (.cons (.tup (.cons (.c (.str "a")) .nil)) .nil)))) (.cons (.tup (.cons (.c (.str "d")) (.cons (.tup (.cons (.tup (.cons (.c (.int 1)) (.cons (.tup (.cons (.c (.int 0)) .nil)) .nil))) .nil)) (.cons (.tup .nil) .nil)))) (.cons (.tup (.cons (.c (.str "d")) (.cons (.tup .nil) (.cons (.tup .nil) .nil)))) .nil)))) (.cons (.tup (.cons (.tup (.cons (.c (.int 1)) (.cons (.tup (.cons (.c (.int 2)) .nil)) .nil))) .nil)) .nil)))))
    (.cons (.ret (.and (.cons (.cmp .Eq (.call 71 (.cons (.v 3) (.cons (.tup (.cons (.c (.int 0)) .nil)) (.cons (.c (.str "a")) .nil)))) (.neg (.c (.int 1)))) (.cons (.cmp .Eq (.call 72 (.cons (.v 3) (.cons (.c (.str "a")) .nil))) (.c (.int 0))) (.cons (.cmp .Eq (.call 70 (.cons (.v 3) (.cons (.tup (.cons (.c (.int 0)) (.cons (.c (.int 1)) .nil))) (.cons (.c (.str "a")) .nil)))) (.lst (.cons (.c (.int 0)) (.cons (.c (.int 1)) .nil)))) .nil)))))
    .nil))))
abbrev b_costs_along : Ss := (.cons (.par 3 4 (.own (.cons (.call 71 (.cons (.v 0) (.cons (.tup .nil) (.cons (.v 2) .nil)))) .nil)) (.val (.tup .nil)))
    (.cons (.for (.one 5) (.of (.v 1)) (.cons (.set 4 (.val (.call 5 (.cons (.v 0) (.cons (.v 4) (.cons (.tup (.cons (.c (.str "sign")) (.cons (.v 5) .nil))) .nil))))))
    (.cons (.app 3 (.call 71 (.cons (.v 0) (.cons (.v 4) (.cons (.v 2) .nil)))))
    .nil)))
    (.cons (.frz [3] (.ret (.v 3)))
    .nil)))
abbrev b_safest_way : Ss := (.cons (.set 2 (.val (.call 56 (.cons (.v 0) (.cons (.tup .nil) .nil)))))
    (.cons (.ifs (.cmp .Is (.v 2) (.c .none)) (.cons (.ret (.c .none))
    .nil) .nil)
    (.cons (.par 3 4 (.val (.lst (.cons (.tup (.cons (.tup .nil) (.cons (.tup .nil) (.cons (.c (.int 0)) .nil)))) .nil))) .tab)
    (.cons (.for (.one 5) (.rng (.v 2)) (.cons (.set 6 (.own .nil))
    (.cons (.for (.three 7 8 9) (.of (.v 3)) (.cons (.ifs (.cmp .NotIn (.v 8) (.v 4)) (.cons (.put 4 (.v 8) (.call 71 (.cons (.v 0) (.cons (.v 8) (.cons (.v 1) .nil)))))
    .nil) .nil)
    (.cons (.for (.one 10) (.of (.call 39 (.cons (.v 0) .nil))) (.cons (.set 11 (.val (.call 5 (.cons (.v 0) (.cons (.v 8) (.cons (.tup (.cons (.c (.str "sign")) (.cons (.v 10) .nil))) .nil))))))
    (.cons (.ifs (.cmp .IsNot (.v 11) (.c .none)) (.cons (.app 6 (.tup (.cons (.tup (.star (.v 7) (.cons (.v 10) .nil))) (.cons (.v 11) (.cons (.bi2 .max (.v 9) (.sub (.v 4) (.v 8))) .nil)))))
    .nil) .nil)
    .nil)))
    .nil)))
    (.cons (.frz [6] (.set 3 (.val (.v 6))))
    .nil))))
    (.cons (.set 12 (.val (.comp (.tup (.cons (.v 9) (.cons (.v 7) .nil))) (.three 7 8 9) (.of (.v 3)) (.yes (.call 1 (.cons (.v 0) (.cons (.v 8) .nil)))))))
    (.cons (.ret (.sub (.bi .min (.v 12)) (.c (.int 1))))
    .nil))))))
abbrev b_law_cost : Ss := (.cons (.par 3 4 (.val (.call 57 (.cons (.v 0) (.cons (.v 1) .nil)))) (.val (.call 57 (.cons (.v 0) (.cons (.sub (.call 17 (.cons (.v 0) (.cons (.v 1) (.cons (.tup (.cons (.c (.str "change")) (.cons (.v 2) .nil))) .nil)))) (.c (.int 0))) .nil)))))
    (.cons (.ret (.ite (.or (.cons (.cmp .Is (.v 3) (.c .none)) (.cons (.cmp .Is (.v 4) (.c .none)) .nil))) (.c .none) (.bin .Sub (.bi .len (.v 4)) (.bi .len (.v 3)))))
    .nil))
abbrev b_law_ways : Ss := (.cons (.set 2 (.val (.lst (.cons (.tup (.cons (.tup .nil) (.cons (.lst (.cons (.tup .nil) .nil)) .nil))) .nil))))
    (.cons (.for (.one 3) (.rng (.v 1)) (.cons (.set 4 (.own .nil))
    (.cons (.for (.two 5 6) (.of (.v 2)) (.cons (.for (.one 7) (.of (.call 18 (.cons (.v 0) .nil))) (.cons (.unp (.two 8 9) (.call 17 (.cons (.v 0) (.cons (.sub (.v 6) (.neg (.c (.int 1)))) (.cons (.tup (.cons (.c (.str "sign")) (.cons (.v 7) .nil))) .nil)))))
    (.cons (.ifs (.not (.v 9)) (.cons (.app 4 (.tup (.cons (.bin .Add (.v 5) (.tup (.cons (.v 7) .nil))) (.cons (.bin .Add (.v 6) (.lst (.cons (.v 8) .nil))) .nil))))
    .nil) .nil)
    .nil)))
    .nil))
    (.cons (.frz [4] (.set 2 (.val (.v 4))))
    .nil))))
    (.cons (.ret (.comp (.v 10) (.one 10) (.of (.v 2)) (.yes (.call 13 (.cons (.sub (.v 0) (.c (.int 1))) (.cons (.sub (.sub (.v 10) (.c (.int 1))) (.neg (.c (.int 1)))) .nil))))))
    .nil)))
abbrev b_law_v11 : Ss := (.cons (.set 1 (.ref (.cons (.scr 0) (.cons (.c (.int 0)) (.cons (.c (.int 0)) .nil)))))
    (.cons (.for (.one 2) (.rng (.c (.int 8))) (.cons (.par 3 4 (.val (.call 12 (.cons (.v 1) (.cons (.c (.int 5)) .nil)))) (.val (.sub (.c (.str "abc")) (.call 8 (.cons (.v 1) (.cons (.c (.int 3)) .nil))))))
    (.cons (.set 5 (.val (.call 57 (.cons (.v 3) (.cons (.tup .nil) .nil)))))
    (.cons (.ifs (.cmp .Is (.v 5) (.c .none)) (.cons (.ifs (.cmp .IsNot (.call 75 (.cons (.v 3) (.cons (.v 4) .nil))) (.c .none)) (.cons (.ret (.c (.bool false)))
    .nil) .nil)
    .nil) (.cons (.par 6 7 (.val (.c .none)) .tab)
    (.cons (.for (.one 8) (.of (.call 54 (.cons (.v 3) .nil))) (.cons (.put 7 (.v 8) (.call 76 (.cons (.v 3) (.cons (.v 8) (.cons (.v 4) .nil)))))
    .nil))
    (.cons (.set 9 (.val (.call 77 (.cons (.v 3) (.cons (.bi .len (.v 5)) .nil)))))
    (.cons (.for (.two 10 11) (.of (.v 9)) (.cons (.set 12 (.val (.comp (.sub (.v 7) (.v 8)) (.one 8) (.of (.v 11)) .no)))
    (.cons (.ifs (.and (.cons (.cmp .Lt (.bi .len (.v 9)) (.c (.int 8))) (.cons (.not (.call 9 (.cons (.call 74 (.cons (.v 3) (.cons (.v 10) (.cons (.v 4) .nil)))) (.cons (.v 12) .nil)))) .nil))) (.cons (.ret (.c (.bool false)))
    .nil) .nil)
    (.cons (.set 13 (.val (.bi .max (.bin .Add (.lst (.cons (.c (.int 0)) .nil)) (.slc (.v 12) .no (.yes (.neg (.c (.int 1)))))))))
    (.cons (.set 6 (.val (.ite (.or (.cons (.cmp .Is (.v 6) (.c .none)) (.cons (.cmp .Lt (.v 13) (.sub (.v 6) (.c (.int 0)))) .nil))) (.tup (.cons (.v 13) (.cons (.v 10) .nil))) (.v 6))))
    .nil)))))
    (.cons (.ifs (.not (.call 9 (.cons (.call 75 (.cons (.v 3) (.cons (.v 4) .nil))) (.cons (.sub (.v 6) (.c (.int 1))) .nil)))) (.cons (.ret (.c (.bool false)))
    .nil) .nil)
    .nil))))))
    .nil))))
    (.cons (.set 3 (.val (.tup (.cons (.tup (.cons (.tup (.cons (.c (.str "x")) (.cons (.tup .nil) (.cons (.tup (.cons (.c (.str "a")) .nil)) .nil)))) (.cons (.tup (.cons (.c (.str "y")) (.cons (.tup .nil) (.cons (.tup .nil) .nil)))) .nil))) (.cons (.tup (.cons (.tup (.cons (.c (.int 2)) (.cons (.tup (.cons (.c (.int 0)) (.cons (.c (.int 1)) .nil))) .nil))) .nil)) .nil)))))
    (.cons (.ret (.and (.cons (.cmp .Eq (.call 75 (.cons (.v 3) (.cons (.c (.str "a")) .nil))) (.tup (.cons (.c (.str "y")) (.cons (.c (.str "x")) .nil)))) (.cons (.cmp .Eq (.call 74 (.cons (.v 3) (.cons (.tup (.cons (.c (.str "x")) (.cons (.c (.str "y")) .nil))) (.cons (.c (.str "a")) .nil)))) (.lst (.cons (.c (.int 0)) (.cons (.c (.int 1)) (.cons (.c (.int 1)) .nil))))) .nil))))
    .nil))))
/-- all defs, by number -/
def phi : Nat → Option Fn
  | 0 => some ⟨2, 5, b_are_met⟩
  | 1 => some ⟨2, 2, b_has_ended⟩
  | 2 => some ⟨2, 4, b_ready_steps⟩
  | 3 => some ⟨3, 5, b_next_step⟩
  | 4 => some ⟨2, 4, b_fallen⟩
  | 5 => some ⟨3, 11, b_after⟩
  | 6 => some ⟨2, 6, b_follow⟩
  | 7 => some ⟨2, 7, b_refused⟩
  | 8 => some ⟨2, 5, b_law_draw⟩
  | 9 => some ⟨2, 3, b_law_like⟩
  | 10 => some ⟨3, 7, b_law_some⟩
  | 11 => some ⟨4, 7, b_law_needs⟩
  | 12 => some ⟨2, 8, b_law_rule⟩
  | 13 => some ⟨2, 5, b_law_met⟩
  | 14 => some ⟨2, 3, b_law_ready⟩
  | 15 => some ⟨3, 4, b_law_next⟩
  | 16 => some ⟨2, 5, b_law_left⟩
  | 17 => some ⟨3, 11, b_law_event⟩
  | 18 => some ⟨1, 2, b_law_desks⟩
  | 19 => some ⟨1, 5, b_law_events⟩
  | 20 => some ⟨3, 7, b_law_row⟩
  | 21 => some ⟨2, 8, b_law_followed⟩
  | 22 => some ⟨1, 9, b_law⟩
  | 39 => some ⟨1, 2, b_desks⟩
  | 40 => some ⟨3, 5, b_greatest⟩
  | 41 => some ⟨1, 1, b_can_end⟩
  | 42 => some ⟨2, 9, b_first_way⟩
  | 43 => some ⟨3, 6, b_law_closed⟩
  | 44 => some ⟨1, 13, b_law_v3⟩
  | 45 => some ⟨1, 7, b_all_events⟩
  | 46 => some ⟨3, 4, b_behind⟩
  | 47 => some ⟨2, 12, b_parting_row⟩
  | 48 => some ⟨2, 2, b_alike⟩
  | 49 => some ⟨2, 10, b_law_near⟩
  | 50 => some ⟨2, 13, b_law_parts⟩
  | 51 => some ⟨1, 7, b_law_v4⟩
  | 53 => some ⟨1, 7, b_states⟩
  | 54 => some ⟨1, 7, b_law_reached⟩
  | 55 => some ⟨1, 8, b_law_v6⟩
  | 56 => some ⟨2, 3, b_fewest_signs⟩
  | 57 => some ⟨2, 10, b_law_way⟩
  | 58 => some ⟨1, 14, b_law_v7⟩
  | 70 => some ⟨3, 5, b_falls⟩
  | 71 => some ⟨3, 4, b_cost⟩
  | 72 => some ⟨2, 4, b_greatest_cost⟩
  | 73 => some ⟨1, 14, b_law_v10⟩
  | 74 => some ⟨3, 6, b_costs_along⟩
  | 75 => some ⟨2, 13, b_safest_way⟩
  | 76 => some ⟨3, 5, b_law_cost⟩
  | 77 => some ⟨2, 11, b_law_ways⟩
  | 78 => some ⟨1, 14, b_law_v11⟩
  | _ => none
end Fw

set_option autoImplicit false
set_option linter.all false
set_option maxRecDepth 100000
set_option maxHeartbeats 4000000
/-! the evaluator's equations, one by one; walks -/
namespace Fw
open PySem L2

section
variable {C : Cl} {ρ : Rho} {S S' : Sto} {N : Nat}
theorem ev_c (d : Dt) : ev C (.c d) ρ S = some (d, S) := by rw [ev] <;> rfl
theorem ev_v (i : Nat) : ev C (.v i) ρ S = match ρ[i]? with | some (.val d) => some (d, S) | _ => none := by rw [ev] <;> rfl
theorem ev_val {i : Nat} {d : Dt} (h : ρ[i]? = some (.val d)) : ev C (.v i) ρ S = some (d, S) := by rw [ev, h]
theorem ev_bin (o : Operator) (a b : E) : ev C (.bin o a b) ρ S = (pre a S (ev C a ρ S)).bind fun p => (plc b ρ p.2 (ev C b ρ p.2)).bind fun q => (post a ρ q.2 p.1).bind fun x => match x, q.1 with
    | .d x, .d y => (binD o x y).map fun d => (d, q.2)
    | _, _ => none := by rw [ev] <;> rfl
theorem ev_neg (a : E) : ev C (.neg a) ρ S = (ev C a ρ S).bind fun p => match p.1 with
    | .int i => some (.int (-i), p.2)
    | _ => none := by rw [ev] <;> rfl
theorem ev_not (a : E) : ev C (.not a) ρ S = (boolOf (ev C a ρ S)).map fun p => (.bool (!p.1), p.2) := by rw [ev] <;> rfl
theorem ev_and (es : Es) : ev C (.and es) ρ S = evAnd C es ρ S := by rw [ev] <;> rfl
theorem ev_or (es : Es) : ev C (.or es) ρ S = evOr C es ρ S := by rw [ev] <;> rfl
theorem ev_cmp (o : CmpOp) (a b : E) : ev C (.cmp o a b) ρ S = (pre a S (ev C a ρ S)).bind fun p => (plc b ρ p.2 (ev C b ρ p.2)).bind fun q => (post a ρ q.2 p.1).bind fun x => match x with
    | .d x => (cmpP o x q.1).map fun c => (.bool c, q.2)
    | _ => none := by rw [ev] <;> rfl
theorem ev_ite (t a b : E) : ev C (.ite t a b) ρ S = (boolOf (ev C t ρ S)).bind fun p => if p.1 = true then ev C a ρ p.2 else ev C b ρ p.2 := by rw [ev] <;> rfl
theorem ev_call (f : Nat) (as : Es) : ev C (.call f as) ρ S = (evArgs C as ρ S).bind fun p => C f p.1 p.2 := by rw [ev] <;> rfl
theorem ev_bi (f : Bi) (a : E) : ev C (.bi f a) ρ S = (plc a ρ S (ev C a ρ S)).bind fun p => (biP f p.1).map fun d => (d, p.2) := by rw [ev] <;> rfl
theorem ev_bi2 (f : Bi2) (a b : E) : ev C (.bi2 f a b) ρ S = (ev C a ρ S).bind fun p => (ev C b ρ p.2).bind fun q => (bi2D f p.1 q.1).map fun d => (d, q.2) := by rw [ev] <;> rfl
theorem ev_isi (a : E) (ts : List Ty) : ev C (.isi a ts) ρ S = (ev C a ρ S).map fun p => (.bool (ts.any fun t => isTy p.1 t), p.2) := by rw [ev] <;> rfl
theorem ev_sub (a i : E) : ev C (.sub a i) ρ S = (pre a S (ev C a ρ S)).bind fun p => (ev C i ρ p.2).bind fun q => (post a ρ q.2 p.1).bind fun x => (subP x q.1).map fun d => (d, q.2) := by rw [ev] <;> rfl
theorem ev_slc (a : E) (lo hi : Oe) : ev C (.slc a lo hi) ρ S = (ev C a ρ S).bind fun p => (evIx C lo ρ p.2).bind fun l => (evIx C hi ρ l.2).bind fun h => (slcD p.1 l.1 h.1).map fun d => (d, h.2) := by rw [ev] <;> rfl
theorem ev_tup (es : Es) : ev C (.tup es) ρ S = (evs C es ρ S).bind fun p => if fits p.1.length = true then some (.tuple p.1, p.2) else none := by rw [ev] <;> rfl
theorem ev_lst (es : Es) : ev C (.lst es) ρ S = (evs C es ρ S).bind fun p => if fits p.1.length = true then some (.list p.1, p.2) else none := by rw [ev] <;> rfl
theorem ev_scr (i : Nat) : ev C (.scr i) ρ S = match ρ[i]? with
    | some (.scr ns) => some (.list (ns.map .int), S)
    | _ => none := by rw [ev] <;> rfl
theorem evs_nil : evs C .nil ρ S = some ([], S) := by rw [evs] <;> rfl
theorem evs_cons (e : E) (r : Es) : evs C (.cons e r) ρ S = (ev C e ρ S).bind fun p => (evs C r ρ p.2).map fun q => (p.1 :: q.1, q.2) := by rw [evs] <;> rfl
theorem evs_star (e : E) (r : Es) : evs C (.star e r) ρ S = (plc e ρ S (ev C e ρ S)).bind fun p => match p.1 with
    | .d x => (itemsOf x).bind fun xs => (evs C r ρ p.2).map fun q => (xs ++ q.1, q.2)
    | _ => none := by rw [evs] <;> rfl
theorem eva_nil : evArgs C .nil ρ S = some ([], S) := by rw [evArgs] <;> rfl
theorem eva_cons (e : E) (r : Es) : evArgs C (.cons e r) ρ S = (argOf e ρ S (ev C e ρ S)).bind fun p => (evArgs C r ρ p.2).map fun q => (p.1 :: q.1, q.2) := by rw [evArgs] <;> rfl
theorem evAnd_one (a : E) : evAnd C (.cons a .nil) ρ S = ev C a ρ S := by rw [evAnd] <;> rfl
theorem evAnd_cons (a b : E) (r : Es) : evAnd C (.cons a (.cons b r)) ρ S = (boolOf (ev C a ρ S)).bind fun p => if p.1 = true then evAnd C (.cons b r) ρ p.2 else some (.bool false, p.2) := by rw [evAnd] <;> rfl
theorem evOr_one (a : E) : evOr C (.cons a .nil) ρ S = ev C a ρ S := by rw [evOr] <;> rfl
theorem evOr_cons (a b : E) (r : Es) : evOr C (.cons a (.cons b r)) ρ S = (boolOf (ev C a ρ S)).bind fun p => if p.1 = true then some (.bool true, p.2) else evOr C (.cons b r) ρ p.2 := by rw [evOr] <;> rfl
theorem evT_no : evTest C .no ρ S = some (true, S) := by rw [evTest] <;> rfl
theorem evT_yes (e : E) : evTest C (.yes e) ρ S = boolOf (ev C e ρ S) := by rw [evTest] <;> rfl
theorem evX_no : evIx C .no ρ S = some (none, S) := by rw [evIx] <;> rfl
theorem evX_yes (e : E) : evIx C (.yes e) ρ S = (ev C e ρ S).bind fun p => match p.1 with
    | .int i => some (some i, p.2)
    | _ => none := by rw [evIx] <;> rfl
theorem evI_of (e : E) : evIt C (.of e) ρ S = (ev C e ρ S).bind fun p => (iterD p.1).map fun xs => (xs, p.2) := by rw [evIt] <;> rfl
theorem evI_peek (i : Nat) : evIt C (.peek i) ρ S = (peek ρ i).bind fun d => (itemsOf d).map fun xs => (xs, S) := by rw [evIt] <;> rfl
theorem evI_enum (e : E) : evIt C (.enum e) ρ S = (ev C e ρ S).bind fun p => (itemsOf p.1).map fun xs => (enumD 0 xs, p.2) := by rw [evIt] <;> rfl
theorem evI_rng (a : E) : evIt C (.rng a) ρ S = (ev C a ρ S).bind fun p => match p.1 with
    | .int n => if rangeOk 0 n = true then some (rangeD 0 n.toNat, p.2) else none
    | _ => none := by rw [evIt] <;> rfl

/-! walks over encoded things that change no store -/
theorem gather_pure {f : Dt → Sto → Option (List Dt × Sto)} {g : Dt → List Dt} {S : Sto} : ∀ {xs : List Dt}, (∀ x ∈ xs, f x S = some (g x, S)) → gather f xs S = some (xs.flatMap g, S)
  | [], _ => rfl
  | x :: xs, h => by
    rw [gather, h x List.mem_cons_self, Option.bind_some, gather_pure fun y hy => h y (List.mem_cons_of_mem _ hy), Option.map_some, List.flatMap_cons]
theorem gather_map {α : Type} {enc : α → Dt} {f : Dt → Sto → Option (List Dt × Sto)} {p : α → Bool} {h : α → Dt} {S : Sto} : ∀ {xs : List α}, (∀ x ∈ xs, f (enc x) S = some (if p x = true then [h x] else [], S)) → gather f (xs.map enc) S = some ((xs.filter p).map h, S)
  | [], _ => rfl
  | x :: xs, hf => by
    rw [List.map_cons, gather, hf x List.mem_cons_self, Option.bind_some, gather_map fun y hy => hf y (List.mem_cons_of_mem _ hy), Option.map_some]
    cases e : p x with
    | true => rw [List.filter_cons_of_pos e]; rfl
    | false => rw [List.filter_cons_of_neg (by rw [e]; exact Bool.false_ne_true)]; rfl
theorem fits_of {n : Nat} (h : n ≤ 16777216) : fits n = true := decide_eq_true (by unfold sizeLine; exact h)
/-- [el for t in it if test] -/
theorem ev_comp {α : Type} {el : E} {t : Tg} {it : It} {cs : Oe} {xs : List α} {enc : α → Dt} (p : α → Bool) (h : α → Dt) (hi : evIt C it ρ S = some (xs.map enc, S)) (hl : xs.length ≤ 16777216)
    (hf : ∀ x ∈ xs, ∃ ρ1, bnd t (enc x) (wipeR ρ t.slots) = some ρ1 ∧ evTest C cs ρ1 S = some (p x, S) ∧ (p x = true → ev C el ρ1 S = some (h x, S))) : ev C (.comp el t it cs) ρ S = some (.list ((xs.filter p).map h), S) := by
  rw [ev, hi]
  simp only [Option.bind_some]
  rw [gather_map (p := p) (h := h) fun x hx => ?_]
  · simp only [Option.bind_some]
    rw [if_pos (fits_of ?_)]
    rw [List.length_map]
    exact Nat.le_trans (List.length_filter_le _ _) hl
  · obtain ⟨ρ1, h1, h2, h3⟩ := hf x hx
    simp only [h1, h2, Option.bind_some]
    cases e : p x with
    | true => rw [if_pos rfl, if_pos rfl, h3 e]; rfl
    | false => rw [if_neg Bool.false_ne_true, if_neg Bool.false_ne_true]
theorem ev_comp0 {α : Type} {el : E} {t : Tg} {it : It} {xs : List α} {enc : α → Dt} (h : α → Dt) (hi : evIt C it ρ S = some (xs.map enc, S)) (hl : xs.length ≤ 16777216)
    (hf : ∀ x ∈ xs, ∃ ρ1, bnd t (enc x) (wipeR ρ t.slots) = some ρ1 ∧ ev C el ρ1 S = some (h x, S)) : ev C (.comp el t it .no) ρ S = some (.list (xs.map h), S) := by
  rw [ev_comp (p := fun _ => true) h hi hl fun x hx => ?_]
  · rw [List.filter_eq_self.mpr fun _ _ => rfl]
  · obtain ⟨ρ1, h1, h2⟩ := hf x hx
    exact ⟨ρ1, h1, evT_no, fun _ => h2⟩
/-- statements -/
theorem xcs_nil : xcs C N .nil ρ S = some (.next, ρ, S) := by rw [xcs] <;> rfl
theorem xcs_cons (s : St) (r : Ss) : xcs C N (.cons s r) ρ S = (xc C N s ρ S).bind fun q => match q with
    | (.next, ρ1, S1) => xcs C N r ρ1 S1
    | (.ret d, ρ1, S1) => some (.ret d, ρ1, S1) := by rw [xcs] <;> rfl
theorem xc_frz (is : List Nat) (s : St) : xc C N (.frz is s) ρ S = xc C N s (freeze ρ is) S := by rw [xc] <;> rfl
theorem xc_set (i : Nat) (k : Kd) : xc C N (.set i k) ρ S = (evKd C k ρ S).map fun p => (.next, ρ.set i p.1, p.2) := by rw [xc] <;> rfl
theorem xc_par (i j : Nat) (k l : Kd) : xc C N (.par i j k l) ρ S = (evKd C k ρ S).bind fun p => (evKd C l ρ p.2).map fun q => (.next, (ρ.set i p.1).set j q.1, q.2) := by rw [xc] <;> rfl
theorem xc_unp (t : Tg) (e : E) : xc C N (.unp t e) ρ S = (ev C e ρ S).bind fun p => (bnd t p.1 ρ).map fun ρ1 => (.next, ρ1, p.2) := by rw [xc] <;> rfl
theorem xc_app (i : Nat) (e : E) : xc C N (.app i e) ρ S = if lstAt ρ S i = true then (ev C e ρ S).bind fun p => (change i ρ p.2 (fun ds => if fits (ds.length + 1) = true then some (ds ++ [p.1]) else none) (fun _ => none)).map fun q => (.next, q.1, q.2) else none := by rw [xc] <;> rfl
theorem xc_put (i : Nat) (k e : E) : xc C N (.put i k e) ρ S = (ev C e ρ S).bind fun p => (ev C k ρ p.2).bind fun q =>
    (change i ρ q.2 (fun ds => match q.1 with | .int j => (ixD ds.length j).map fun m => ds.set m p.1 | _ => none)
      (fun kvs => (tkey q.1).bind fun key => if fits (kvs.length + 1) = true then some (tput kvs key p.1) else none)).map fun r => (.next, r.1, r.2) := by rw [xc] <;> rfl
theorem xc_ifs (c : E) (a b : Ss) : xc C N (.ifs c a b) ρ S = (boolOf (ev C c ρ S)).bind fun p => if p.1 = true then xcs C N a ρ p.2 else xcs C N b ρ p.2 := by rw [xc] <;> rfl
theorem xc_ret (e : E) : xc C N (.ret e) ρ S = (ev C e ρ S).map fun p => (.ret p.1, ρ, p.2) := by rw [xc] <;> rfl
theorem xc_for (t : Tg) (it : It) (b : Ss) (hn : noPeek it = true) : xc C N (.for t it b) ρ S = (evIt C it ρ S).bind fun p => forGo (fun x ρ S => (bnd t x ρ).bind fun ρ1 => xcs C N b ρ1 S) p.1 ρ p.2 := by
  cases it <;> first | (cases hn; done) | (rw [xc]; first | rfl | (intro i h; cases h))
theorem xc_whl (c : E) (b : Ss) : xc C N (.whl c b) ρ S = whileGo (fun ρ S => boolOf (ev C c ρ S)) (fun ρ S => xcs C N b ρ S) N ρ S := by rw [xc] <;> rfl
theorem cal_ret {k f : Nat} {as : List Ar} {b : Ss} {m n : Nat} {d : Dt} {ρ' : Rho} {S1 : Sto} (h : phi f = some ⟨m, n, b⟩) (hl : as.length = m) (hr : xcs (cal phi N k) N b (start0 n as) S = some (.ret d, ρ', S1)) (hs : S1.length = S.length) :
    cal phi N (k + 1) f as S = some (d, S1) := by
  unfold cal
  rw [h]
  simp only [Option.bind_some, runFn]
  rw [if_pos hl, hr, Option.map_some, ← hs]
  simp only [List.take_length]
/-- a body of one return -/
theorem cal_one {k f : Nat} {as : List Ar} {e : E} {m n : Nat} {d : Dt} (h : phi f = some ⟨m, n, .cons (.ret e) .nil⟩) (hl : as.length = m) (hr : ev (cal phi N k) e (start0 n as) S = some (d, S)) : cal phi N (k + 1) f as S = some (d, S) :=
  cal_ret (ρ' := start0 n as) h hl (by rw [xcs_cons, xc_ret, hr]; rfl) rfl
end
end Fw

set_option autoImplicit false
set_option linter.all false
set_option maxRecDepth 100000
set_option maxHeartbeats 4000000
/-! operands -/
namespace Fw
open PySem L2

section
variable {C : Cl} {ρ : Rho} {S S1 S2 : Sto} {a b : E} {x y d : Dt} {p q : Pv}
/-- the operand a reads p; the store goes from S to S1 (a name reads where it stands) -/
inductive Opd (C : Cl) (ρ : Rho) : E → Sto → Sto → Pv → Prop
  | v {i : Nat} {S : Sto} {p : Pv} (h : look ρ S i = some p) : Opd C ρ (.v i) S S p
  | e {a : E} {S S1 : Sto} {d : Dt} (n : ∀ i, a ≠ .v i) (h : ev C a ρ S = some (d, S1)) : Opd C ρ a S S1 (.d d)
theorem Opd.plc (o : Opd C ρ a S S1 p) : plc a ρ S (ev C a ρ S) = some (p, S1) := by
  cases o with
  | v h => simp only [Fw.plc, h, Option.map_some]
  | e n h =>
    have e : Fw.plc a ρ S (ev C a ρ S) = (ev C a ρ S).map fun q => (.d q.1, q.2) := by
      cases a <;> first | rfl | exact absurd rfl (n _)
    rw [e, h]
    rfl
/-- the first operand: a name is read behind the second -/
inductive Opf (C : Cl) (ρ : Rho) : E → Sto → Sto → Sto → Pv → Prop
  | v {i : Nat} {S S2 : Sto} {p : Pv} (h : look ρ S2 i = some p) : Opf C ρ (.v i) S S S2 p
  | e {a : E} {S S1 S2 : Sto} {d : Dt} (n : ∀ i, a ≠ .v i) (h : ev C a ρ S = some (d, S1)) : Opf C ρ a S S1 S2 (.d d)
theorem Opf.pre (o : Opf C ρ a S S1 S2 p) : ∃ r, pre a S (ev C a ρ S) = some (r, S1) ∧ post a ρ S2 r = some p := by
  cases o with
  | v h => exact ⟨none, rfl, h⟩
  | e n h =>
    have e : Fw.pre a S (ev C a ρ S) = (ev C a ρ S).map fun q => (some q.1, q.2) := by
      cases a <;> first | rfl | exact absurd rfl (n _)
    rw [e, h]
    exact ⟨_, rfl, rfl⟩
theorem r_bin {o : Operator} (ha : Opf C ρ a S S1 S2 (.d x)) (hb : Opd C ρ b S1 S2 (.d y)) (h : binD o x y = some d) : ev C (.bin o a b) ρ S = some (d, S2) := by
  obtain ⟨r, h1, h2⟩ := ha.pre
  rw [ev_bin, h1, Option.bind_some, hb.plc, Option.bind_some, h2]
  simp only [Option.bind_some, h, Option.map_some]
theorem r_cmp {o : CmpOp} {c : Bool} (ha : Opf C ρ a S S1 S2 (.d x)) (hb : Opd C ρ b S1 S2 q) (h : cmpP o x q = some c) : ev C (.cmp o a b) ρ S = some (.bool c, S2) := by
  obtain ⟨r, h1, h2⟩ := ha.pre
  rw [ev_cmp, h1, Option.bind_some, hb.plc, Option.bind_some, h2]
  simp only [Option.bind_some, h, Option.map_some]
theorem r_sub {i : E} (ha : Opf C ρ a S S1 S2 p) (hb : ev C i ρ S1 = some (y, S2)) (h : subP p y = some d) : ev C (.sub a i) ρ S = some (d, S2) := by
  obtain ⟨r, h1, h2⟩ := ha.pre
  rw [ev_sub, h1, Option.bind_some, hb, Option.bind_some, h2]
  simp only [Option.bind_some, h, Option.map_some]
theorem r_bi {f : Bi} (ha : Opd C ρ a S S1 p) (h : biP f p = some d) : ev C (.bi f a) ρ S = some (d, S1) := by
  rw [ev_bi, ha.plc, Option.bind_some, h]
  rfl
theorem r_v {i : Nat} (h : ρ[i]? = some (.val d)) : ev C (.v i) ρ S = some (d, S) := ev_val h
/-- the i-th item of a tuple, of a list -/
theorem r_subT {ds : List Dt} {j : Int} {i : E} (ha : Opf C ρ a S S1 S2 (.d (.tuple ds))) (hb : ev C i ρ S1 = some (.int j, S2)) (h : atI ds j = some d) : ev C (.sub a i) ρ S = some (d, S2) := r_sub ha hb h
theorem r_subL {ds : List Dt} {j : Int} {i : E} (ha : Opf C ρ a S S1 S2 (.d (.list ds))) (hb : ev C i ρ S1 = some (.int j, S2)) (h : atI ds j = some d) : ev C (.sub a i) ρ S = some (d, S2) := r_sub ha hb h
theorem r_test {b0 : Bool} (h : ev C a ρ S = some (.bool b0, S1)) : boolOf (ev C a ρ S) = some (b0, S1) := by rw [h]; rfl
theorem r_not {b0 : Bool} (h : ev C a ρ S = some (.bool b0, S1)) : ev C (.not a) ρ S = some (.bool (!b0), S1) := by rw [ev_not, r_test h]; rfl
theorem r_iteT {t : E} (h : ev C t ρ S = some (.bool true, S1)) (ha : ev C a ρ S1 = some (d, S2)) : ev C (.ite t a b) ρ S = some (d, S2) := by rw [ev_ite, r_test h]; exact ha
theorem r_iteF {t : E} (h : ev C t ρ S = some (.bool false, S1)) (hb : ev C b ρ S1 = some (d, S2)) : ev C (.ite t a b) ρ S = some (d, S2) := by rw [ev_ite, r_test h]; exact hb
theorem r_ite {t : E} {c : Bool} {x y : Dt} (h : ev C t ρ S = some (.bool c, S1)) (ha : c = true → ev C a ρ S1 = some (x, S2)) (hb : c = false → ev C b ρ S1 = some (y, S2)) : ev C (.ite t a b) ρ S = some (if c = true then x else y, S2) := by
  cases c with
  | true => exact r_iteT h (ha rfl)
  | false => exact r_iteF h (hb rfl)
theorem r_and2 {c k : Bool} (ha : ev C a ρ S = some (.bool c, S1)) (hb : c = true → ev C b ρ S1 = some (.bool k, S1)) : ev C (.and (.cons a (.cons b .nil))) ρ S = some (.bool (c && k), S1) := by
  rw [ev_and, evAnd_cons, r_test ha, Option.bind_some]
  cases c with
  | true => rw [if_pos rfl, evAnd_one, hb rfl]; rfl
  | false => rw [if_neg Bool.false_ne_true]; rfl
theorem r_or2 {c k : Bool} (ha : ev C a ρ S = some (.bool c, S1)) (hb : c = false → ev C b ρ S1 = some (.bool k, S1)) : ev C (.or (.cons a (.cons b .nil))) ρ S = some (.bool (c || k), S1) := by
  rw [ev_or, evOr_cons, r_test ha, Option.bind_some]
  cases c with
  | true => rw [if_pos rfl]; rfl
  | false => rw [if_neg Bool.false_ne_true, evOr_one, hb rfl]; rfl
/-- calls -/
inductive Args (C : Cl) (ρ : Rho) : Es → Sto → Sto → List Ar → Prop
  | nil {S : Sto} : Args C ρ .nil S S []
  | val {i : Nat} {d : Dt} {r : Es} {S S1 : Sto} {as : List Ar} (h : ρ[i]? = some (.val d)) (t : Args C ρ r S S1 as) : Args C ρ (.cons (.v i) r) S S1 (.d d :: as)
  | ref {i k : Nat} {r : Es} {S S1 : Sto} {as : List Ar} (h : ρ[i]? = some (.ref k)) (t : Args C ρ r S S1 as) : Args C ρ (.cons (.v i) r) S S1 (.r k :: as)
  | e {a : E} {d : Dt} {r : Es} {S S1 S2 : Sto} {as : List Ar} (n : ∀ i, a ≠ .v i) (h : ev C a ρ S = some (d, S1)) (t : Args C ρ r S1 S2 as) : Args C ρ (.cons a r) S S2 (.d d :: as)
theorem Args.ev {es : Es} {as : List Ar} (h : Args C ρ es S S1 as) : evArgs C es ρ S = some (as, S1) := by
  induction h with
  | nil => exact eva_nil
  | val h _ ih => rw [eva_cons]; simp only [argOf, h, Option.bind_some, ih, Option.map_some]
  | ref h _ ih => rw [eva_cons]; simp only [argOf, h, Option.bind_some, ih, Option.map_some]
  | @e a d r S S1 S2 as n h _ ih =>
    have e : argOf a ρ S (Fw.ev C a ρ S) = (Fw.ev C a ρ S).map fun q => (.d q.1, q.2) := by
      cases a <;> first | rfl | exact absurd rfl (n _)
    rw [eva_cons, e, h]
    simp only [Option.map_some, Option.bind_some, ih]
theorem r_call {f : Nat} {es : Es} {as : List Ar} (h : Args C ρ es S S1 as) (hc : C f as S1 = some (d, S2)) : Fw.ev C (.call f es) ρ S = some (d, S2) := by rw [ev_call, h.ev]; exact hc
/-- displays -/
inductive Evs (C : Cl) (ρ : Rho) : Es → Sto → Sto → List Dt → Prop
  | nil {S : Sto} : Evs C ρ .nil S S []
  | cons {a : E} {d : Dt} {r : Es} {S S1 S2 : Sto} {ds : List Dt} (h : Fw.ev C a ρ S = some (d, S1)) (t : Evs C ρ r S1 S2 ds) : Evs C ρ (.cons a r) S S2 (d :: ds)
  | star {a : E} {x : Dt} {xs : List Dt} {r : Es} {S S1 S2 : Sto} {ds : List Dt} (h : Opd C ρ a S S1 (.d x)) (hx : itemsOf x = some xs) (t : Evs C ρ r S1 S2 ds) : Evs C ρ (.star a r) S S2 (xs ++ ds)
theorem Evs.ev {es : Es} {ds : List Dt} (h : Evs C ρ es S S1 ds) : evs C es ρ S = some (ds, S1) := by
  induction h with
  | nil => exact evs_nil
  | cons h _ ih => rw [evs_cons, h]; simp only [Option.bind_some, ih, Option.map_some]
  | star h hx _ ih => rw [evs_star, h.plc]; simp only [Option.bind_some, hx, ih, Option.map_some]
theorem r_tup {es : Es} {ds : List Dt} (h : Evs C ρ es S S1 ds) (hl : ds.length ≤ 16777216) : Fw.ev C (.tup es) ρ S = some (.tuple ds, S1) := by
  rw [ev_tup, h.ev, Option.bind_some, if_pos (fits_of hl)]
theorem r_lst {es : Es} {ds : List Dt} (h : Evs C ρ es S S1 ds) (hl : ds.length ≤ 16777216) : Fw.ev C (.lst es) ρ S = some (.list ds, S1) := by
  rw [ev_lst, h.ev, Option.bind_some, if_pos (fits_of hl)]
end
end Fw

set_option autoImplicit false
set_option linter.all false
set_option maxRecDepth 100000
set_option maxHeartbeats 4000000
/-! walks through statements: what holds behind them -/
namespace Fw
open PySem L2

def Wp {α : Type} (o : Option α) (Q : α → Prop) : Prop := ∃ r, o = some r ∧ Q r
theorem Wp.imp {α : Type} {o : Option α} {Q Q' : α → Prop} (h : Wp o Q) (m : ∀ r, Q r → Q' r) : Wp o Q' := let ⟨r, h1, h2⟩ := h; ⟨r, h1, m r h2⟩
theorem Wp.of {α : Type} {o : Option α} {r : α} {Q : α → Prop} (h : o = some r) (q : Q r) : Wp o Q := ⟨r, h, q⟩
abbrev RQ := Out × Rho × Sto → Prop
/-- first this, then the rest -/
def thenQ (C : Cl) (N : Nat) (r : Ss) (Q : RQ) : RQ := fun q => match q with
  | (.next, ρ, S) => Wp (xcs C N r ρ S) Q
  | (.ret d, ρ, S) => Q (.ret d, ρ, S)
/-- a turn of a loop, then its invariant -/
def turnQ (I : Rho → Sto → Prop) (Q : RQ) : RQ := fun q => match q with
  | (.next, ρ, S) => I ρ S
  | (.ret d, ρ, S) => Q (.ret d, ρ, S)
section
variable {C : Cl} {N : Nat} {ρ ρ' ρ1 : Rho} {S S1 S2 S3 : Sto} {r a b : Ss} {Q : RQ} {e : E} {d : Dt}
theorem thenQ_n (h : Wp (xcs C N r ρ S) Q) : thenQ C N r Q (.next, ρ, S) := h
theorem thenQ_r (h : Q (.ret d, ρ, S)) : thenQ C N r Q (.ret d, ρ, S) := h
theorem turnQ_n {I : Rho → Sto → Prop} (h : I ρ S) : turnQ I Q (.next, ρ, S) := h
theorem turnQ_r {I : Rho → Sto → Prop} (h : Q (.ret d, ρ, S)) : turnQ I Q (.ret d, ρ, S) := h
theorem w_nil (h : Q (.next, ρ, S)) : Wp (xcs C N .nil ρ S) Q := ⟨_, xcs_nil, h⟩
theorem w_cons {s : St} (h : Wp (xc C N s ρ S) (thenQ C N r Q)) : Wp (xcs C N (.cons s r) ρ S) Q := by
  obtain ⟨⟨o, ρ1, S1⟩, h1, h2⟩ := h
  cases o with
  | next =>
    obtain ⟨q, h3, h4⟩ := h2
    exact ⟨q, by rw [xcs_cons, h1]; exact h3, h4⟩
  | ret d => exact ⟨_, by rw [xcs_cons, h1]; rfl, h2⟩
theorem w_ret (h : ev C e ρ S = some (d, S1)) (k : Q (.ret d, ρ, S1)) : Wp (xcs C N (.cons (.ret e) r) ρ S) Q := w_cons (Wp.of (r := (Out.ret d, ρ, S1)) (by rw [xc_ret, h]; rfl) k)
theorem w_retn (k : Q (.ret .none, ρ, S)) : Wp (xcs C N (.cons .retn r) ρ S) Q := w_cons (Wp.of (r := (Out.ret .none, ρ, S)) (by rw [xc] <;> rfl) k)
/-- what a name is given -/
theorem k_val (h : ev C e ρ S = some (d, S1)) : evKd C (.val e) ρ S = some (.val d, S1) := by rw [evKd, h]; rfl
theorem k_own {es : Es} {ds : List Dt} (h : Evs C ρ es S S1 ds) (hl : ds.length ≤ 16777216) : evKd C (.own es) ρ S = some (.own ds, S1) := by rw [evKd, h.ev, Option.bind_some, if_pos (fits_of hl)]
theorem k_ref {es : Es} {ds : List Dt} (h : Evs C ρ es S S1 ds) (hl : ds.length ≤ 16777216) : evKd C (.ref es) ρ S = some (.ref S1.length, S1 ++ [.lst ds]) := by rw [evKd, h.ev, Option.bind_some, if_pos (fits_of hl)]
theorem k_copy {x : Dt} {xs : List Dt} (h : Opd C ρ e S S1 (.d x)) (hx : itemsOf x = some xs) : evKd C (.copy e) ρ S = some (.own xs, S1) := by
  rw [evKd, h.plc]; simp only [Option.bind_some, hx, Option.map_some]
theorem w_set {i : Nat} {k : Kd} {sl : Slot} (h : evKd C k ρ S = some (sl, S1)) (hρ : ρ.set i sl = ρ') (w : Wp (xcs C N r ρ' S1) Q) : Wp (xcs C N (.cons (.set i k) r) ρ S) Q := by
  subst hρ
  exact w_cons (Wp.of (r := (Out.next, ρ.set i sl, S1)) (by rw [xc_set, h]; rfl) w)
theorem w_par {i j : Nat} {k l : Kd} {sl sl2 : Slot} (h : evKd C k ρ S = some (sl, S1)) (h2 : evKd C l ρ S1 = some (sl2, S2)) (hρ : (ρ.set i sl).set j sl2 = ρ') (w : Wp (xcs C N r ρ' S2) Q) : Wp (xcs C N (.cons (.par i j k l) r) ρ S) Q := by
  subst hρ
  exact w_cons (Wp.of (r := (Out.next, (ρ.set i sl).set j sl2, S2)) (by rw [xc_par, h, Option.bind_some, h2]; rfl) w)
theorem w_par3 {i j m : Nat} {k l n : Kd} {sl sl2 sl3 : Slot} (h : evKd C k ρ S = some (sl, S1)) (h2 : evKd C l ρ S1 = some (sl2, S2)) (h3 : evKd C n ρ S2 = some (sl3, S3)) (hρ : ((ρ.set i sl).set j sl2).set m sl3 = ρ') (w : Wp (xcs C N r ρ' S3) Q) :
    Wp (xcs C N (.cons (.par3 i j m k l n) r) ρ S) Q := by
  subst hρ
  refine w_cons (Wp.of (r := (Out.next, ((ρ.set i sl).set j sl2).set m sl3, S3)) ?_ w)
  rw [xc, h, Option.bind_some, h2, Option.bind_some, h3]
  rfl
theorem w_unp {t : Tg} (h : ev C e ρ S = some (d, S1)) (hb : bnd t d ρ = some ρ') (w : Wp (xcs C N r ρ' S1) Q) : Wp (xcs C N (.cons (.unp t e) r) ρ S) Q :=
  w_cons (Wp.of (r := (Out.next, ρ', S1)) (by rw [xc_unp, h, Option.bind_some, hb]; rfl) w)
theorem w_frz {is : List Nat} {s : St} (hρ : freeze ρ is = ρ') (w : Wp (xcs C N (.cons s r) ρ' S) Q) : Wp (xcs C N (.cons (.frz is s) r) ρ S) Q := by
  subst hρ
  obtain ⟨q, h1, h2⟩ := w
  refine ⟨q, ?_, h2⟩
  rw [xcs_cons] at h1 ⊢
  rw [xc_frz]
  exact h1
theorem w_app {i : Nat} {ds : List Dt} (h0 : ρ[i]? = some (.own ds)) (h : ev C e ρ S = some (d, S1)) (hl : ds.length + 1 ≤ 16777216) (hρ : ρ.set i (.own (ds ++ [d])) = ρ') (w : Wp (xcs C N r ρ' S1) Q) : Wp (xcs C N (.cons (.app i e) r) ρ S) Q := by
  subst hρ
  have hla : lstAt ρ S i = true := by unfold lstAt; rw [h0]
  refine w_cons (Wp.of (r := (Out.next, ρ.set i (.own (ds ++ [d])), S1)) ?_ w)
  rw [xc_app, if_pos hla, h]
  simp only [Option.bind_some, change, h0]
  rw [if_pos (fits_of hl)]
  rfl
theorem w_pop {i j : Nat} {ds : List Dt} (h0 : ρ[j]? = some (.own ds)) (h : ds.getLast? = some d) (hρ : (ρ.set j (.own ds.dropLast)).set i (.val d) = ρ') (w : Wp (xcs C N r ρ' S) Q) : Wp (xcs C N (.cons (.pop i j) r) ρ S) Q := by
  subst hρ
  refine w_cons (Wp.of (r := (Out.next, (ρ.set j (.own ds.dropLast)).set i (.val d), S)) ?_ w)
  rw [xc]
  simp only [h0, h]
theorem w_popu {t : Tg} {j : Nat} {ds : List Dt} (h0 : ρ[j]? = some (.own ds)) (h : ds.getLast? = some d) (hb : bnd t d (ρ.set j (.own ds.dropLast)) = some ρ') (w : Wp (xcs C N r ρ' S) Q) : Wp (xcs C N (.cons (.popu t j) r) ρ S) Q := by
  refine w_cons (Wp.of (r := (Out.next, ρ', S)) ?_ w)
  simp only [xc, h0, h, hb, Option.map_some]
theorem w_if {c : E} {k : Bool} (h : ev C c ρ S = some (.bool k, S1)) (ht : k = true → Wp (xcs C N a ρ S1) (thenQ C N r Q)) (hf : k = false → Wp (xcs C N b ρ S1) (thenQ C N r Q)) : Wp (xcs C N (.cons (.ifs c a b) r) ρ S) Q := by
  refine w_cons ?_
  rw [xc_ifs, r_test h, Option.bind_some]
  cases k with
  | true => rw [if_pos rfl]; exact ht rfl
  | false => rw [if_neg Bool.false_ne_true]; exact hf rfl
theorem w_ifT {c : E} (h : ev C c ρ S = some (.bool true, S1)) (ht : Wp (xcs C N a ρ S1) (thenQ C N r Q)) : Wp (xcs C N (.cons (.ifs c a b) r) ρ S) Q := w_if h (fun _ => ht) fun z => by cases z
theorem w_ifF {c : E} (h : ev C c ρ S = some (.bool false, S1)) (hf : Wp (xcs C N b ρ S1) (thenQ C N r Q)) : Wp (xcs C N (.cons (.ifs c a b) r) ρ S) Q := w_if h (fun z => by cases z) fun _ => hf
/-- a for: what holds by the things that are left -/
theorem w_for {β : Type} {t : Tg} {it : It} {enc : β → Dt} {xs : List β} (I : List β → Rho → Sto → Prop) (hn : noPeek it = true) (h : evIt C it ρ S = some (xs.map enc, S1)) (h0 : I xs ρ S1)
    (hs : ∀ x ys ρ S, x ∈ xs → I (x :: ys) ρ S → ∃ ρ1, bnd t (enc x) ρ = some ρ1 ∧ Wp (xcs C N b ρ1 S) (turnQ (I ys) Q)) (h1 : ∀ ρ S, I [] ρ S → Wp (xcs C N r ρ S) Q) : Wp (xcs C N (.cons (.for t it b) r) ρ S) Q := by
  refine w_cons ?_
  rw [xc_for _ _ _ hn, h]
  have go : ∀ (ys : List β) (ρ : Rho) (S : Sto), (∀ y ∈ ys, y ∈ xs) → I ys ρ S → Wp (forGo (fun x ρ S => (bnd t x ρ).bind fun ρ1 => xcs C N b ρ1 S) (ys.map enc) ρ S) (thenQ C N r Q) := by
    intro ys
    induction ys with
    | nil => intro ρ S _ hi; exact ⟨_, rfl, h1 ρ S hi⟩
    | cons y ys ih =>
      intro ρ S hy hi
      obtain ⟨ρ1, e1, ⟨o, ρ2, S2⟩, e2, q⟩ := hs y ys ρ S (hy y List.mem_cons_self) hi
      rw [List.map_cons, forGo, e1, Option.bind_some, e2]
      cases o with
      | next => exact ih ρ2 S2 (fun z hz => hy z (List.mem_cons_of_mem _ hz)) q
      | ret d => exact ⟨_, rfl, q⟩
  exact go xs ρ S1 (fun _ h => h) h0
/-- a while: what holds by a measure -/
theorem w_whl {c : E} (I : Nat → Rho → Sto → Prop) (m : Nat) (hm : m < N) (h0 : I m ρ S)
    (hs : ∀ m ρ S, I m ρ S → ∃ k S1, ev C c ρ S = some (.bool k, S1) ∧ (k = true → Wp (xcs C N b ρ S1) (turnQ (fun ρ S => ∃ m', m' < m ∧ I m' ρ S) Q)) ∧ (k = false → Wp (xcs C N r ρ S1) Q)) : Wp (xcs C N (.cons (.whl c b) r) ρ S) Q := by
  refine w_cons ?_
  rw [xc_whl]
  have go : ∀ (f m : Nat) (ρ : Rho) (S : Sto), m < f → I m ρ S → Wp (whileGo (fun ρ S => boolOf (ev C c ρ S)) (fun ρ S => xcs C N b ρ S) f ρ S) (thenQ C N r Q) := by
    intro f
    induction f with
    | zero => intro m ρ S h; exact absurd h (Nat.not_lt_zero _)
    | succ f ih =>
      intro m ρ S hf hi
      obtain ⟨k, S1, e1, ht, hfl⟩ := hs m ρ S hi
      rw [whileGo, r_test e1, Option.bind_some]
      cases k with
      | true =>
        obtain ⟨⟨o, ρ2, S2⟩, e2, q⟩ := ht rfl
        simp only [if_true, e2, Option.bind_some]
        cases o with
        | next =>
          obtain ⟨m', hm', hi'⟩ := q
          exact ih m' ρ2 S2 (by omega) hi'
        | ret d => exact ⟨_, rfl, q⟩
      | false => exact ⟨_, rfl, hfl rfl⟩
  exact go N m ρ S hm h0
end
def outD : Out → Dt
  | .next => .none
  | .ret d => d
theorem w_fn {Φ : Nat → Option Fn} {N k f : Nat} {as : List Ar} {S : Sto} {fn : Fn} {P : Dt × Sto → Prop} (hf : Φ f = some fn) (hl : as.length = fn.ps) (w : Wp (xcs (cal Φ N k) N fn.body (start0 fn.n as) S) fun q => P (outD q.1, q.2.2.take S.length)) : Wp (cal Φ N (k + 1) f as S) P := by
  obtain ⟨⟨o, ρ', S'⟩, h1, h2⟩ := w
  refine ⟨_, ?_, h2⟩
  unfold cal
  rw [hf, Option.bind_some, runFn, if_pos hl, h1]
  cases o <;> rfl
theorem wp_eq {α : Type} {o : Option α} {x : α} (h : Wp o fun r => r = x) : o = some x := by obtain ⟨r, h1, rfl⟩ := h; exact h1
section
variable {C : Cl} {ρ : Rho} {S S1 S2 S3 : Sto} {a b : E} {x y d : Dt}
theorem r_conv {d' : Dt} (h : ev C a ρ S = some (d, S1)) (e : d = d') : ev C a ρ S = some (d', S1) := by rw [h, e]
theorem r_neg {i : Int} (h : ev C a ρ S = some (.int i, S1)) : ev C (.neg a) ρ S = some (.int (-i), S1) := by rw [ev_neg, h]; rfl
theorem r_isi {ts : List Ty} (h : ev C a ρ S = some (d, S1)) : ev C (.isi a ts) ρ S = some (.bool (ts.any fun t => isTy d t), S1) := by rw [ev_isi, h]; rfl
theorem r_bi2 {f : Bi2} (ha : ev C a ρ S = some (x, S1)) (hb : ev C b ρ S1 = some (y, S2)) (h : bi2D f x y = some d) : ev C (.bi2 f a b) ρ S = some (d, S2) := by
  rw [ev_bi2, ha, Option.bind_some, hb, Option.bind_some, h]; rfl
inductive IxR' (C : Cl) (ρ : Rho) : Oe → Sto → Sto → Option Int → Prop
  | no {S : Sto} : IxR' C ρ .no S S none
  | yes {a : E} {i : Int} {S S1 : Sto} (h : ev C a ρ S = some (.int i, S1)) : IxR' C ρ (.yes a) S S1 (some i)
theorem IxR'.ev {o : Oe} {i : Option Int} (h : IxR' C ρ o S S1 i) : evIx C o ρ S = some (i, S1) := by
  cases h with
  | no => exact evX_no
  | yes h => rw [evX_yes, h]; rfl
theorem r_slc {lo hi : Oe} {i j : Option Int} (ha : ev C a ρ S = some (x, S1)) (hl : IxR' C ρ lo S1 S2 i) (hh : IxR' C ρ hi S2 S3 j) (h : slcD x i j = some d) : ev C (.slc a lo hi) ρ S = some (d, S3) := by
  rw [ev_slc, ha, Option.bind_some, hl.ev, Option.bind_some, hh.ev, Option.bind_some, h]; rfl
theorem r_revT {ds : List Dt} (h : ev C a ρ S = some (.tuple ds, S1)) : ev C (.rev a) ρ S = some (.tuple ds.reverse, S1) := by rw [ev, h]; rfl
theorem r_orT {k : Bool} {x y : Dt} (h : ev C a ρ S = some (x, S1)) (t : truD x = some k) (hb : k = false → ev C b ρ S1 = some (y, S1)) : ev C (.orT a b) ρ S = some (if k = true then x else y, S1) := by
  rw [ev, h, Option.bind_some, t, Option.bind_some]
  cases k with
  | true => rfl
  | false => exact hb rfl
theorem r_rev {ds : List Dt} (h : ev C a ρ S = some (.list ds, S1)) : ev C (.rev a) ρ S = some (.list ds.reverse, S1) := by rw [ev, h]; rfl
theorem r_scr {i : Nat} {ns : List Int} (h : ρ[i]? = some (.scr ns)) : ev C (.scr i) ρ S = some (.list (ns.map .int), S) := by rw [ev_scr, h]
theorem r_chain {o p : CmpOp} {c : E} {z : Dt} {k k' : Bool} (ha : ev C a ρ S = some (x, S)) (hb : ev C b ρ S = some (y, S)) (h : cmpP o x (.d y) = some k) (hc : k = true → ev C c ρ S = some (z, S)) (h' : k = true → cmpP p y (.d z) = some k') : ev C (.chain o p a b c) ρ S = some (.bool (k && k'), S) := by
  rw [ev, ha, Option.bind_some, hb, Option.bind_some, h, Option.bind_some]
  cases k with
  | true => rw [if_pos rfl, hc rfl, Option.bind_some, h' rfl]; rfl
  | false => rw [if_neg Bool.false_ne_true]; rfl
/-- walks -/
theorem i_of {xs : List Dt} (h : ev C a ρ S = some (d, S1)) (hx : iterD d = some xs) : evIt C (.of a) ρ S = some (xs, S1) := by rw [evI_of, h, Option.bind_some, hx]; rfl
theorem i_peek {i : Nat} {xs : List Dt} (h : peek ρ i = some d) (hx : itemsOf d = some xs) : evIt C (.peek i) ρ S = some (xs, S) := by rw [evI_peek, h, Option.bind_some, hx]; rfl
theorem i_enum {xs : List Dt} (h : ev C a ρ S = some (d, S1)) (hx : itemsOf d = some xs) : evIt C (.enum a) ρ S = some (enumD 0 xs, S1) := by rw [evI_enum, h, Option.bind_some, hx]; rfl
theorem rng_ok {n : Nat} (hn : n ≤ 16777216) : rangeOk 0 (n : Int) = true := by
  have f : fits ((n : Int) - 0).toNat = true := fits_of (by rw [Int.sub_zero, Int.toNat_natCast]; exact hn)
  have t2 : -(2 ^ 62 : Int) ≤ n := by omega
  have t3 : (n : Int) < 2 ^ 62 := by omega
  unfold rangeOk
  rw [f, decide_eq_true (by decide : -(2 ^ 62 : Int) ≤ 0), decide_eq_true (by decide : (0 : Int) < 2 ^ 62), decide_eq_true t2, decide_eq_true t3]
  rfl
theorem rangeD0 (n : Nat) : rangeD 0 (n : Int).toNat = (List.range n).map fun (i : Nat) => .int (i : Int) := by
  unfold rangeD
  rw [Int.toNat_natCast]
  refine List.map_congr_left fun i _ => ?_
  rw [Int.zero_add]
theorem i_rng {n : Nat} (h : ev C a ρ S = some (.int n, S1)) (hn : n ≤ 16777216) : evIt C (.rng a) ρ S = some ((List.range n).map fun (i : Nat) => .int (i : Int), S1) := by
  rw [evI_rng, h, Option.bind_some]
  dsimp only
  rw [if_pos (rng_ok hn), rangeD0]
end
end Fw
namespace Fw
theorem fin1 {d d' : Dt} {ρ : Rho} {S : Sto} (h : d = d') : (outD (Out.ret d, ρ, S).1, (Out.ret d, ρ, S).2.2.take S.length) = (d', S) := by rw [h]; show (d', S.take S.length) = _; rw [List.take_length]
end Fw

set_option autoImplicit false
set_option linter.all false
set_option maxRecDepth 100000
set_option maxHeartbeats 4000000
/-! things and their data -/
namespace Fw
open PySem L2

abbrev eT {α : Type} (e : α → Dt) (xs : List α) : Dt := .tuple (xs.map e)
abbrev eL {α : Type} (e : α → Dt) (xs : List α) : Dt := .list (xs.map e)
/-- equal data come from equal things, not too deep -/
class EqE {α : Type} (e : α → Dt) (n : outParam Nat) : Prop where
  eqv : ∀ x y, PyData.eqv (e x) (e y) = true ↔ x = y
  dep : ∀ x, (e x).depth ≤ n
section
variable {α β : Type} {e : α → Dt} {f : β → Dt} {n m : Nat}
theorem eqvAll_map [EqE e n] : ∀ xs ys : List α, PyData.eqvAll (xs.map e) (ys.map e) = true ↔ xs = ys
  | [], [] => by simp [PyData.eqvAll]
  | [], _ :: _ => by simp [PyData.eqvAll]
  | _ :: _, [] => by simp [PyData.eqvAll]
  | x :: xs, y :: ys => by
    rw [List.map_cons, List.map_cons, PyData.eqvAll, Bool.and_eq_true, EqE.eqv, eqvAll_map xs ys, List.cons.injEq]
theorem depthAll_map [EqE e n] : ∀ xs : List α, PyData.depthAll (xs.map e) ≤ n
  | [] => by simp [PyData.depthAll]
  | x :: xs => by
    rw [List.map_cons, PyData.depthAll]
    exact Nat.max_le.mpr ⟨EqE.dep x, depthAll_map xs⟩
instance : EqE PyData.int 0 := ⟨fun x y => by simp [PyData.eqv], fun x => by simp [PyData.depth]⟩
instance : EqE PyData.str 0 := ⟨fun x y => by simp [PyData.eqv], fun x => by simp [PyData.depth]⟩
instance : EqE PyData.bool 0 := ⟨fun x y => by simp [PyData.eqv], fun x => by simp [PyData.depth]⟩
theorem eqE_T [EqE e n] : EqE (fun xs => eT e xs) (n + 1) := ⟨fun x y => by show PyData.eqv (.tuple _) (.tuple _) = true ↔ _; rw [PyData.eqv]; exact eqvAll_map x y, fun x => by show PyData.depth (.tuple _) ≤ _; rw [PyData.depth]; exact Nat.succ_le_succ (depthAll_map x)⟩
theorem eqE_L [EqE e n] : EqE (fun xs => eL e xs) (n + 1) := ⟨fun x y => by show PyData.eqv (.list _) (.list _) = true ↔ _; rw [PyData.eqv]; exact eqvAll_map x y, fun x => by show PyData.depth (.list _) ≤ _; rw [PyData.depth]; exact Nat.succ_le_succ (depthAll_map x)⟩
theorem eqE_P [EqE e n] [EqE f m] : EqE (fun p : α × β => .tuple [e p.1, f p.2]) (max n m + 1) := by
  refine ⟨fun x y => ?_, fun x => ?_⟩
  · rw [PyData.eqv, PyData.eqvAll, PyData.eqvAll, PyData.eqvAll, Bool.and_true, Bool.and_eq_true, EqE.eqv, EqE.eqv, Prod.ext_iff]
  · have h1 := EqE.dep (e := e) x.1
    have h2 := EqE.dep (e := f) x.2
    simp only [PyData.depth, PyData.depthAll]
    omega
theorem eqE_3 {γ : Type} {g : γ → Dt} {k : Nat} [EqE e n] [EqE f m] [EqE g k] : EqE (fun p : α × β × γ => .tuple [e p.1, f p.2.1, g p.2.2]) (max n (max m k) + 1) := by
  refine ⟨fun x y => ?_, fun x => ?_⟩
  · rw [PyData.eqv, PyData.eqvAll, PyData.eqvAll, PyData.eqvAll, PyData.eqvAll, Bool.and_true, Bool.and_eq_true, Bool.and_eq_true, EqE.eqv, EqE.eqv, EqE.eqv, Prod.ext_iff, Prod.ext_iff]
  · have h1 := EqE.dep (e := e) x.1
    have h2 := EqE.dep (e := f) x.2.1
    have h3 := EqE.dep (e := g) x.2.2
    simp only [PyData.depth, PyData.depthAll]
    omega
/-! comparisons -/
theorem sh_l {d d' : Dt} (h : d.depth ≤ 100) : shallow d d' = true := by unfold shallow; rw [decide_eq_true_eq]; omega
theorem sh_r {d d' : Dt} (h : d'.depth ≤ 100) : shallow d d' = true := by unfold shallow; rw [decide_eq_true_eq]; omega
theorem beqv_E [DecidableEq α] [EqE e n] (x y : α) : PyData.eqv (e x) (e y) = decide (x = y) := by rw [Bool.eq_iff_iff, EqE.eqv, decide_eq_true_eq]
theorem c_eqE [DecidableEq α] [EqE e n] (hn : n ≤ 100) (x y : α) : cmpP .Eq (e x) (.d (e y)) = some (decide (x = y)) := by
  simp only [cmpP]; rw [if_pos (sh_l (Nat.le_trans (EqE.dep x) hn)), beqv_E]
theorem c_neE [DecidableEq α] [EqE e n] (hn : n ≤ 100) (x y : α) : cmpP .NotEq (e x) (.d (e y)) = some (!decide (x = y)) := by
  simp only [cmpP]; rw [if_pos (sh_l (Nat.le_trans (EqE.dep x) hn)), beqv_E]
theorem c_eqT [DecidableEq α] [EqE e n] (hn : n ≤ 99) (x y : List α) : cmpP .Eq (.tuple (x.map e)) (.d (.tuple (y.map e))) = some (decide (x = y)) := by
  haveI : EqE (fun xs => eT e xs) (n + 1) := eqE_T
  exact c_eqE (e := fun xs => eT e xs) (by omega) x y
theorem c_neT [DecidableEq α] [EqE e n] (hn : n ≤ 99) (x y : List α) : cmpP .NotEq (.tuple (x.map e)) (.d (.tuple (y.map e))) = some (!decide (x = y)) := by
  haveI : EqE (fun xs => eT e xs) (n + 1) := eqE_T
  exact c_neE (e := fun xs => eT e xs) (by omega) x y
theorem c_eqL [DecidableEq α] [EqE e n] (hn : n ≤ 99) (x y : List α) : cmpP .Eq (.list (x.map e)) (.d (.list (y.map e))) = some (decide (x = y)) := by
  haveI : EqE (fun xs => eL e xs) (n + 1) := eqE_L
  exact c_eqE (e := fun xs => eL e xs) (by omega) x y
theorem c_neL [DecidableEq α] [EqE e n] (hn : n ≤ 99) (x y : List α) : cmpP .NotEq (.list (x.map e)) (.d (.list (y.map e))) = some (!decide (x = y)) := by
  haveI : EqE (fun xs => eL e xs) (n + 1) := eqE_L
  exact c_neE (e := fun xs => eL e xs) (by omega) x y
theorem dep_nilT : PyData.depth (.tuple []) ≤ 100 := by decide
theorem dep_nilL : PyData.depth (.list []) ≤ 100 := by decide
theorem eqvAll_nil (ds : List Dt) : PyData.eqvAll ds [] = ds.isEmpty := by cases ds <;> rfl
theorem isEmpty_map' (xs : List α) (h : α → Dt) : (xs.map h).isEmpty = xs.isEmpty := by cases xs <;> rfl
theorem c_eqT0 (ds : List Dt) : cmpP .Eq (.tuple ds) (.d (.tuple [])) = some ds.isEmpty := by simp only [cmpP]; rw [if_pos (sh_r dep_nilT), PyData.eqv, eqvAll_nil]
theorem c_neT0 (ds : List Dt) : cmpP .NotEq (.tuple ds) (.d (.tuple [])) = some !ds.isEmpty := by simp only [cmpP]; rw [if_pos (sh_r dep_nilT), PyData.eqv, eqvAll_nil]
theorem c_eqL0 (ds : List Dt) : cmpP .Eq (.list ds) (.d (.list [])) = some ds.isEmpty := by simp only [cmpP]; rw [if_pos (sh_r dep_nilL), PyData.eqv, eqvAll_nil]
theorem c_neL0 (ds : List Dt) : cmpP .NotEq (.list ds) (.d (.list [])) = some !ds.isEmpty := by simp only [cmpP]; rw [if_pos (sh_r dep_nilL), PyData.eqv, eqvAll_nil]
theorem c_eqTm (xs : List α) (h : α → Dt) : cmpP .Eq (.tuple (xs.map h)) (.d (.tuple [])) = some xs.isEmpty := by rw [c_eqT0, isEmpty_map']
theorem c_neTm (xs : List α) (h : α → Dt) : cmpP .NotEq (.tuple (xs.map h)) (.d (.tuple [])) = some !xs.isEmpty := by rw [c_neT0, isEmpty_map']
theorem c_eqLm (xs : List α) (h : α → Dt) : cmpP .Eq (.list (xs.map h)) (.d (.list [])) = some xs.isEmpty := by rw [c_eqL0, isEmpty_map']
theorem c_neLm (xs : List α) (h : α → Dt) : cmpP .NotEq (.list (xs.map h)) (.d (.list [])) = some !xs.isEmpty := by rw [c_neL0, isEmpty_map']
theorem c_ltI (a b : Int) : cmpP .Lt (.int a) (.d (.int b)) = some (decide (a < b)) := rfl
theorem c_leI (a b : Int) : cmpP .LtE (.int a) (.d (.int b)) = some (decide (a ≤ b)) := rfl
theorem c_gtI (a b : Int) : cmpP .Gt (.int a) (.d (.int b)) = some (decide (b < a)) := rfl
theorem c_geI (a b : Int) : cmpP .GtE (.int a) (.d (.int b)) = some (decide (b ≤ a)) := rfl
theorem c_eqI (a b : Int) : cmpP .Eq (.int a) (.d (.int b)) = some (decide (a = b)) := c_eqE (e := PyData.int) (by decide) a b
theorem c_neI (a b : Int) : cmpP .NotEq (.int a) (.d (.int b)) = some (!decide (a = b)) := c_neE (e := PyData.int) (by decide) a b
theorem c_eqS (a b : Str) : cmpP .Eq (.str a) (.d (.str b)) = some (decide (a = b)) := c_eqE (e := PyData.str) (by decide) a b
theorem c_neS (a b : Str) : cmpP .NotEq (.str a) (.d (.str b)) = some (!decide (a = b)) := c_neE (e := PyData.str) (by decide) a b
theorem c_eqB (a b : Bool) : cmpP .Eq (.bool a) (.d (.bool b)) = some (decide (a = b)) := c_eqE (e := PyData.bool) (by decide) a b
theorem c_neB (a b : Bool) : cmpP .NotEq (.bool a) (.d (.bool b)) = some (!decide (a = b)) := c_neE (e := PyData.bool) (by decide) a b
/-- in a row -/
theorem any_E [DecidableEq α] [EqE e n] (xs : List α) (x : α) : ((xs.map e).any fun y => PyData.eqv y (e x)) = decide (x ∈ xs) := by
  rw [List.any_map, Bool.eq_iff_iff, List.any_eq_true, decide_eq_true_eq]
  constructor
  · rintro ⟨y, h1, h2⟩
    rw [Function.comp_apply, EqE.eqv] at h2
    exact h2 ▸ h1
  · intro h
    exact ⟨x, h, by rw [Function.comp_apply, EqE.eqv]⟩
theorem memT_E [DecidableEq α] [EqE e n] (hn : n ≤ 99) (xs : List α) (x : α) : memD (e x) (.tuple (xs.map e)) = some (decide (x ∈ xs)) := by
  have h := EqE.dep (e := e) x
  have h : decide (min (PyData.depthAll (xs.map e)) (e x).depth ≤ 100) = true := decide_eq_true (by omega)
  simp only [memD]
  rw [if_pos h, any_E]
theorem memL_E [DecidableEq α] [EqE e n] (hn : n ≤ 99) (xs : List α) (x : α) : memD (e x) (.list (xs.map e)) = some (decide (x ∈ xs)) := by
  have h := EqE.dep (e := e) x
  have h : decide (min (PyData.depthAll (xs.map e)) (e x).depth ≤ 100) = true := decide_eq_true (by omega)
  simp only [memD]
  rw [if_pos h, any_E]
theorem c_inT [DecidableEq α] [EqE e n] (hn : n ≤ 99) (xs : List α) (x : α) : cmpP .In (e x) (.d (.tuple (xs.map e))) = some (decide (x ∈ xs)) := memT_E hn xs x
theorem c_niT [DecidableEq α] [EqE e n] (hn : n ≤ 99) (xs : List α) (x : α) : cmpP .NotIn (e x) (.d (.tuple (xs.map e))) = some (!decide (x ∈ xs)) := by simp only [cmpP, memT_E hn, Option.map_some]
theorem c_inL [DecidableEq α] [EqE e n] (hn : n ≤ 99) (xs : List α) (x : α) : cmpP .In (e x) (.d (.list (xs.map e))) = some (decide (x ∈ xs)) := memL_E hn xs x
theorem c_niL [DecidableEq α] [EqE e n] (hn : n ≤ 99) (xs : List α) (x : α) : cmpP .NotIn (e x) (.d (.list (xs.map e))) = some (!decide (x ∈ xs)) := by simp only [cmpP, memL_E hn, Option.map_some]
/-! operations -/
theorem b_addI (a b : Int) : binD .Add (.int a) (.int b) = some (.int (a + b)) := rfl
theorem b_subI (a b : Int) : binD .Sub (.int a) (.int b) = some (.int (a - b)) := rfl
theorem b_modI {a b : Int} (h : 0 < b) : binD .Mod (.int a) (.int b) = some (.int (a % b)) := by simp only [binD]; rw [if_pos h]
theorem b_divI {a b : Int} (h : 0 < b) (h2 : b.natAbs.log2 < 9000) : binD .FloorDiv (.int a) (.int b) = some (.int (a / b)) := by simp only [binD]; rw [if_pos ⟨h, h2⟩]
theorem b_addT {a b : List Dt} (h : a.length + b.length ≤ 16777216) : binD .Add (.tuple a) (.tuple b) = some (.tuple (a ++ b)) := by simp only [binD, addD]; rw [if_pos (fits_of h)]
theorem b_addL {a b : List Dt} (h : a.length + b.length ≤ 16777216) : binD .Add (.list a) (.list b) = some (.list (a ++ b)) := by simp only [binD, addD]; rw [if_pos (fits_of h)]
theorem b_mulL {a : List Dt} {k : Int} (h : 0 ≤ k) (h2 : k ≤ 1000) (h3 : a.length ≤ 1000) : binD .Mult (.list a) (.int k) = some (.list (List.replicate k.toNat a).flatten) := by
  have g : (decide (-(2 ^ 63) ≤ k) && decide (k < 2 ^ 63) && fits (a.length * k.toNat)) = true := by
    have g3 : a.length * k.toNat ≤ 1000 * 1000 := Nat.mul_le_mul h3 (by omega)
    rw [fits_of (Nat.le_trans g3 (by decide)), decide_eq_true (by omega : -(2 ^ 63) ≤ k), decide_eq_true (by omega : k < 2 ^ 63)]
    rfl
  simp only [binD, mulD]
  rw [if_pos g]
theorem p_lenL (ds : List Dt) : biP .len (.d (.list ds)) = some (.int ds.length) := rfl
theorem p_lenT (ds : List Dt) : biP .len (.d (.tuple ds)) = some (.int ds.length) := rfl
theorem p_lenLm (xs : List α) (h : α → Dt) : biP .len (.d (.list (xs.map h))) = some (.int xs.length) := by rw [p_lenL, List.length_map]
theorem p_lenTm (xs : List α) (h : α → Dt) : biP .len (.d (.tuple (xs.map h))) = some (.int xs.length) := by rw [p_lenT, List.length_map]
theorem p_tupL (ds : List Dt) : biP .tuple (.d (.list ds)) = some (.tuple ds) := rfl
theorem p_tupT (ds : List Dt) : biP .tuple (.d (.tuple ds)) = some (.tuple ds) := rfl
theorem p_lstL (ds : List Dt) : biP .list (.d (.list ds)) = some (.list ds) := rfl
theorem p_lstT (ds : List Dt) : biP .list (.d (.tuple ds)) = some (.list ds) := rfl
theorem p_intI (i : Int) : biP .int (.d (.int i)) = some (.int i) := rfl
theorem p_intB (b : Bool) : biP .int (.d (.bool b)) = some (.int (if b then 1 else 0)) := rfl
theorem allB_map' (p : α → Bool) : ∀ xs : List α, allB (xs.map fun x => .bool (p x)) = some (xs.map p)
  | [] => rfl
  | x :: xs => by rw [List.map_cons, allB, allB_map' p xs]; rfl
theorem p_all (xs : List α) (p : α → Bool) : biP .all (.d (.list (xs.map fun x => .bool (p x)))) = some (.bool (xs.all p)) := by
  simp only [biP, allB_map', Option.map_some, List.all_map, Function.comp_def, id]
theorem p_any (xs : List α) (p : α → Bool) : biP .any (.d (.list (xs.map fun x => .bool (p x)))) = some (.bool (xs.any p)) := by
  simp only [biP, allB_map', Option.map_some, List.any_map, Function.comp_def, id]
theorem p_max (a b : Int) : bi2D .max (.int a) (.int b) = some (.int (max a b)) := by
  simp only [bi2D]
  have : (if b > a then b else a) = max a b := by split <;> omega
  rw [this]
theorem p_min (a b : Int) : bi2D .min (.int a) (.int b) = some (.int (min a b)) := by
  simp only [bi2D]
  have : (if b < a then b else a) = min a b := by split <;> omega
  rw [this]
theorem ixN_ok {n : Nat} {i : Int} (h0 : 0 ≤ i) (h1 : i < n) : ixN n i = some i.toNat := by unfold ixN; rw [if_pos h0, if_pos h1]
theorem atI_map [Inhabited α] {xs : List α} {i : Int} {h : α → Dt} (h0 : 0 ≤ i) (h1 : i < xs.length) : atI (xs.map h) i = some (h (xs.getD i.toNat default)) := by
  have hl : i.toNat < xs.length := by omega
  unfold atI
  rw [ixN_ok h0 (by rw [List.length_map]; exact h1), Option.bind_some, List.getElem?_map, List.getElem?_eq_getElem hl, List.getD_eq_getElem?_getD, List.getElem?_eq_getElem hl]
  rfl
theorem s_atT [Inhabited α] {xs : List α} {i : Int} {h : α → Dt} (h0 : 0 ≤ i) (h1 : i < xs.length) : subP (.d (.tuple (xs.map h))) (.int i) = some (h (xs.getD i.toNat default)) := atI_map h0 h1
theorem s_atL [Inhabited α] {xs : List α} {i : Int} {h : α → Dt} (h0 : 0 ≤ i) (h1 : i < xs.length) : subP (.d (.list (xs.map h))) (.int i) = some (h (xs.getD i.toNat default)) := atI_map h0 h1
/-- some item of a display -/
theorem s_some {ds : List Dt} {i : Int} (h0 : 0 ≤ i) (h1 : i < ds.length) : ∃ d ∈ ds, subP (.d (.list ds)) (.int i) = some d := by
  have hl : i.toNat < ds.length := by omega
  refine ⟨ds[i.toNat], List.getElem_mem hl, ?_⟩
  show atI ds i = _
  unfold atI
  rw [ixN_ok h0 h1, Option.bind_some, List.getElem?_eq_getElem hl]
/-- walks -/
theorem enumD_map (h : α → Dt) : ∀ (xs : List α) (n : Nat), enumD n (xs.map h) = (xs.zipIdx n).map fun p => .tuple [.int (p.2 : Int), h p.1]
  | [], _ => rfl
  | x :: xs, n => by rw [List.map_cons, enumD, enumD_map h xs (n + 1), List.zipIdx_cons, List.map_cons]
theorem zipD_map (h : α → Dt) (g : β → Dt) (xs : List α) (ys : List β) : zipD (xs.map h) (ys.map g) = (xs.zip ys).map fun p => .tuple [h p.1, g p.2] := by
  unfold zipD
  rw [List.zip_map, List.map_map]
  rfl
theorem itemsT (ds : List Dt) : itemsOf (.tuple ds) = some ds := rfl
theorem itemsL (ds : List Dt) : itemsOf (.list ds) = some ds := rfl
theorem iterT (ds : List Dt) : iterD (.tuple ds) = some ds := rfl
theorem iterL (ds : List Dt) : iterD (.list ds) = some ds := rfl
end
section
variable {α β : Type} {h : α → Dt} {C : Cl} {ρ : Rho} {S S1 S2 : Sto} {a b : E} {xs : List α}
theorem i_enumT (he : ev C a ρ S = some (.tuple (xs.map h), S1)) : evIt C (.enum a) ρ S = some (xs.zipIdx.map fun p => .tuple [.int (p.2 : Int), h p.1], S1) := by
  rw [i_enum he rfl, enumD_map]
theorem i_enum' {d : Dt} (he : ev C a ρ S = some (d, S1)) (hx : itemsOf d = some (xs.map h)) : evIt C (.enum a) ρ S = some (xs.zipIdx.map fun p => .tuple [.int (p.2 : Int), h p.1], S1) := by
  rw [i_enum he hx, enumD_map]
theorem i_enumL (he : ev C a ρ S = some (.list (xs.map h), S1)) : evIt C (.enum a) ρ S = some (xs.zipIdx.map fun p => .tuple [.int (p.2 : Int), h p.1], S1) := by
  rw [i_enum he rfl, enumD_map]
theorem i_zipT {ys : List β} {g : β → Dt} (h1 : ev C a ρ S = some (.tuple (xs.map h), S1)) (h2 : ev C b ρ S1 = some (.tuple (ys.map g), S2)) : evIt C (.zip a b) ρ S = some ((xs.zip ys).map fun p => .tuple [h p.1, g p.2], S2) := by
  rw [evIt, h1, Option.bind_some, h2]
  simp only [Option.bind_some, zipD_map]
theorem i_zipL {ys : List β} {g : β → Dt} (h1 : ev C a ρ S = some (.list (xs.map h), S1)) (h2 : ev C b ρ S1 = some (.list (ys.map g), S2)) : evIt C (.zip a b) ρ S = some ((xs.zip ys).map fun p => .tuple [h p.1, g p.2], S2) := by
  rw [evIt, h1, Option.bind_some, h2]
  simp only [Option.bind_some, zipD_map]
/-- and, or of more -/
theorem r_and1 {d : Dt} (h1 : ev C a ρ S = some (d, S1)) : ev C (.and (.cons a .nil)) ρ S = some (d, S1) := by rw [ev_and, evAnd_one, h1]
theorem r_andN {b : E} {r : Es} {c k : Bool} (h1 : ev C a ρ S = some (.bool c, S)) (h2 : c = true → ev C (.and (.cons b r)) ρ S = some (.bool k, S)) : ev C (.and (.cons a (.cons b r))) ρ S = some (.bool (c && k), S) := by
  rw [ev_and, evAnd_cons, r_test h1, Option.bind_some]
  cases c with
  | true => rw [if_pos rfl, ← ev_and, h2 rfl]; rfl
  | false => rw [if_neg Bool.false_ne_true]; rfl
theorem r_or1 {d : Dt} (h1 : ev C a ρ S = some (d, S1)) : ev C (.or (.cons a .nil)) ρ S = some (d, S1) := by rw [ev_or, evOr_one, h1]
theorem r_orN {b : E} {r : Es} {c k : Bool} (h1 : ev C a ρ S = some (.bool c, S)) (h2 : c = false → ev C (.or (.cons b r)) ρ S = some (.bool k, S)) : ev C (.or (.cons a (.cons b r))) ρ S = some (.bool (c || k), S) := by
  rw [ev_or, evOr_cons, r_test h1, Option.bind_some]
  cases c with
  | true => rw [if_pos rfl]; rfl
  | false => rw [if_neg Bool.false_ne_true, ← ev_or, h2 rfl]; rfl
/-- a comprehension's parts -/
def CompB (C : Cl) (t : Tg) (cs : Oe) (el : E) (ρ : Rho) (S : Sto) (xs : List α) (enc : α → Dt) (p : α → Bool) (h : α → Dt) : Prop := ∀ x ∈ xs, ∃ ρ1, bnd t (enc x) (wipeR ρ t.slots) = some ρ1 ∧ evTest C cs ρ1 S = some (p x, S) ∧ (p x = true → ev C el ρ1 S = some (h x, S))
def CompM (C : Cl) (t : Tg) (el : E) (ρ : Rho) (S : Sto) (xs : List α) (enc : α → Dt) (h : α → Dt) : Prop := ∀ x ∈ xs, ∃ ρ1, bnd t (enc x) (wipeR ρ t.slots) = some ρ1 ∧ ev C el ρ1 S = some (h x, S)
theorem r_comp {el : E} {t : Tg} {it : It} {c : E} {enc : α → Dt} {p : α → Bool} {h : α → Dt} (hi : evIt C it ρ S = some (xs.map enc, S)) (hf : CompB C t (.yes c) el ρ S xs enc p h) (hl : xs.length ≤ 16777216) : ev C (.comp el t it (.yes c)) ρ S = some (.list ((xs.filter p).map h), S) := ev_comp p h hi hl hf
theorem r_comp0 {el : E} {t : Tg} {it : It} {enc : α → Dt} {h : α → Dt} (hi : evIt C it ρ S = some (xs.map enc, S)) (hf : CompM C t el ρ S xs enc h) (hl : xs.length ≤ 16777216) : ev C (.comp el t it .no) ρ S = some (.list (xs.map h), S) := ev_comp0 h hi hl hf
theorem compB_i {el : E} {t : Tg} {c : E} {enc : α → Dt} {p : α → Bool} {h : α → Dt} (hf : ∀ x ∈ xs, ∃ ρ1, bnd t (enc x) (wipeR ρ t.slots) = some ρ1 ∧ ev C c ρ1 S = some (.bool (p x), S) ∧ (p x = true → ev C el ρ1 S = some (h x, S))) : CompB C t (.yes c) el ρ S xs enc p h := fun x hx => by
  obtain ⟨ρ1, h1, h2, h3⟩ := hf x hx
  exact ⟨ρ1, h1, by rw [evT_yes]; exact r_test h2, h3⟩
theorem compM_i {el : E} {t : Tg} {enc : α → Dt} {h : α → Dt} (hf : ∀ x ∈ xs, ∃ ρ1, bnd t (enc x) (wipeR ρ t.slots) = some ρ1 ∧ ev C el ρ1 S = some (h x, S)) : CompM C t el ρ S xs enc h := hf
def isV : E → Bool
  | .v _ => true
  | _ => false
theorem notV {a : E} (n : isV a = false) : ∀ i, a ≠ .v i := fun i z => by rw [z] at n; cases n
theorem opf_val {i : Nat} {d : Dt} (h1 : ρ[i]? = some (.val d)) : Opf C ρ (.v i) S S S2 (.d d) := .v (by unfold look; rw [h1])
theorem opd_e {d : Dt} (h1 : ev C a ρ S = some (d, S1)) (n : isV a = false) : Opd C ρ a S S1 (.d d) := .e (notV n) h1
theorem opf_e {d : Dt} (h1 : ev C a ρ S = some (d, S1)) (n : isV a = false) : Opf C ρ a S S1 S2 (.d d) := .e (notV n) h1
theorem args_e {d : Dt} {r : Es} {as : List Ar} (h1 : ev C a ρ S = some (d, S1)) (t : Args C ρ r S1 S2 as) (n : isV a = false) : Args C ρ (.cons a r) S S2 (.d d :: as) := .e (notV n) h1 t
end
end Fw
namespace Fw
open PySem L2
mutual
def cst : E → Option Dt
  | .c d => some d
  | .neg a => match cst a with | some (.int i) => some (.int (-i)) | _ => none
  | .tup es => match csts es with | some ds => if ds.length ≤ 1000 then some (.tuple ds) else none | none => none
  | .lst es => match csts es with | some ds => if ds.length ≤ 1000 then some (.list ds) else none | none => none
  | _ => none
def csts : Es → Option (List Dt)
  | .nil => some []
  | .cons e r => match cst e, csts r with | some d, some ds => some (d :: ds) | _, _ => none
  | .star _ _ => none
end
mutual
theorem cst_ok {C : Cl} {ρ : Rho} {S : Sto} : ∀ (e : E) (d : Dt), cst e = some d → ev C e ρ S = some (d, S)
  | .c d, d', h => by rw [cst] at h; cases h; exact ev_c _
  | .neg a, d', h => by
    rw [cst] at h
    split at h
    · rename_i i q; cases h; exact r_neg (cst_ok a _ q)
    · cases h
  | .tup es, d', h => by
    rw [cst] at h
    split at h
    · rename_i ds q
      split at h
      · rename_i hl; cases h; exact r_tup (csts_ok es _ q) (by omega)
      · cases h
    · cases h
  | .lst es, d', h => by
    rw [cst] at h
    split at h
    · rename_i ds q
      split at h
      · rename_i hl; cases h; exact r_lst (csts_ok es _ q) (by omega)
      · cases h
    · cases h
  | .v _, _, h => by rw [cst] at h <;> simp_all
  | .g _ _, _, h => by rw [cst] at h <;> simp_all
  | .scr _, _, h => by rw [cst] at h <;> simp_all
  | .bin _ _ _, _, h => by rw [cst] at h <;> simp_all
  | .not _, _, h => by rw [cst] at h <;> simp_all
  | .and _, _, h => by rw [cst] at h <;> simp_all
  | .or _, _, h => by rw [cst] at h <;> simp_all
  | .cmp _ _ _, _, h => by rw [cst] at h <;> simp_all
  | .chain _ _ _ _ _, _, h => by rw [cst] at h <;> simp_all
  | .ite _ _ _, _, h => by rw [cst] at h <;> simp_all
  | .call _ _, _, h => by rw [cst] at h <;> simp_all
  | .orT _ _, _, h => by rw [cst] at h <;> simp_all
  | .calld _ _, _, h => by rw [cst] at h <;> simp_all
  | .bi _ _, _, h => by rw [cst] at h <;> simp_all
  | .bi2 _ _ _, _, h => by rw [cst] at h <;> simp_all
  | .isi _ _, _, h => by rw [cst] at h <;> simp_all
  | .sub _ _, _, h => by rw [cst] at h <;> simp_all
  | .slc _ _ _, _, h => by rw [cst] at h <;> simp_all
  | .rev _, _, h => by rw [cst] at h <;> simp_all
  | .comp _ _ _ _, _, h => by rw [cst] at h <;> simp_all
  | .comp2 _ _ _ _ _ _ _, _, h => by rw [cst] at h <;> simp_all
theorem csts_ok {C : Cl} {ρ : Rho} {S : Sto} : ∀ (es : Es) (ds : List Dt), csts es = some ds → Evs C ρ es S S ds
  | .nil, ds, h => by rw [csts] at h; cases h; exact .nil
  | .cons e r, ds, h => by
    rw [csts] at h
    split at h
    · rename_i d ds' q1 q2; cases h; exact .cons (cst_ok e _ q1) (csts_ok r _ q2)
    · cases h
  | .star _ _, ds, h => by rw [csts] at h; cases h
end
end Fw

set_option autoImplicit false
set_option maxRecDepth 100000
/-! a def is entered -/
namespace Fw
open PySem
section
variable {N k : Nat} {S : Sto} {P : Dt × Sto → Prop}
theorem fn_are_met {x0 : Dt} {x1 : Dt} (h : Wp (xcs (cal phi N k) N b_are_met [.val x0, .val x1, .un, .un, .un] S) fun q => P (outD q.1, q.2.2.take S.length)) : Wp (cal phi N (k + 1) 0 [.d x0, .d x1] S) P := w_fn rfl rfl h
theorem fn_has_ended {x0 : Dt} {x1 : Dt} (h : Wp (xcs (cal phi N k) N b_has_ended [.val x0, .val x1] S) fun q => P (outD q.1, q.2.2.take S.length)) : Wp (cal phi N (k + 1) 1 [.d x0, .d x1] S) P := w_fn rfl rfl h
theorem fn_ready_steps {x0 : Dt} {x1 : Dt} (h : Wp (xcs (cal phi N k) N b_ready_steps [.val x0, .val x1, .un, .un] S) fun q => P (outD q.1, q.2.2.take S.length)) : Wp (cal phi N (k + 1) 2 [.d x0, .d x1] S) P := w_fn rfl rfl h
theorem fn_next_step {x0 : Dt} {x1 : Dt} {x2 : Dt} (h : Wp (xcs (cal phi N k) N b_next_step [.val x0, .val x1, .val x2, .un, .un] S) fun q => P (outD q.1, q.2.2.take S.length)) : Wp (cal phi N (k + 1) 3 [.d x0, .d x1, .d x2] S) P := w_fn rfl rfl h
theorem fn_fallen {x0 : Dt} {x1 : Dt} (h : Wp (xcs (cal phi N k) N b_fallen [.val x0, .val x1, .un, .un] S) fun q => P (outD q.1, q.2.2.take S.length)) : Wp (cal phi N (k + 1) 4 [.d x0, .d x1] S) P := w_fn rfl rfl h
theorem fn_after {x0 : Dt} {x1 : Dt} {x2 : Dt} (h : Wp (xcs (cal phi N k) N b_after [.val x0, .val x1, .val x2, .un, .un, .un, .un, .un, .un, .un, .un] S) fun q => P (outD q.1, q.2.2.take S.length)) : Wp (cal phi N (k + 1) 5 [.d x0, .d x1, .d x2] S) P := w_fn rfl rfl h
theorem fn_follow {x0 : Dt} {x1 : Dt} (h : Wp (xcs (cal phi N k) N b_follow [.val x0, .val x1, .un, .un, .un, .un] S) fun q => P (outD q.1, q.2.2.take S.length)) : Wp (cal phi N (k + 1) 6 [.d x0, .d x1] S) P := w_fn rfl rfl h
theorem fn_refused {x0 : Dt} {x1 : Dt} (h : Wp (xcs (cal phi N k) N b_refused [.val x0, .val x1, .un, .un, .un, .un, .un] S) fun q => P (outD q.1, q.2.2.take S.length)) : Wp (cal phi N (k + 1) 7 [.d x0, .d x1] S) P := w_fn rfl rfl h
theorem fn_law_draw {x0 : Nat} {x1 : Dt} (h : Wp (xcs (cal phi N k) N b_law_draw [.ref x0, .val x1, .un, .un, .un] S) fun q => P (outD q.1, q.2.2.take S.length)) : Wp (cal phi N (k + 1) 8 [.r x0, .d x1] S) P := w_fn rfl rfl h
theorem fn_law_like {x0 : Dt} {x1 : Dt} (h : Wp (xcs (cal phi N k) N b_law_like [.val x0, .val x1, .un] S) fun q => P (outD q.1, q.2.2.take S.length)) : Wp (cal phi N (k + 1) 9 [.d x0, .d x1] S) P := w_fn rfl rfl h
theorem fn_law_some {x0 : Nat} {x1 : Dt} {x2 : Dt} (h : Wp (xcs (cal phi N k) N b_law_some [.ref x0, .val x1, .val x2, .un, .un, .un, .un] S) fun q => P (outD q.1, q.2.2.take S.length)) : Wp (cal phi N (k + 1) 10 [.r x0, .d x1, .d x2] S) P := w_fn rfl rfl h
theorem fn_law_needs {x0 : Nat} {x1 : Dt} {x2 : Dt} {x3 : Dt} (h : Wp (xcs (cal phi N k) N b_law_needs [.ref x0, .val x1, .val x2, .val x3, .un, .un, .un] S) fun q => P (outD q.1, q.2.2.take S.length)) : Wp (cal phi N (k + 1) 11 [.r x0, .d x1, .d x2, .d x3] S) P := w_fn rfl rfl h
theorem fn_law_rule {x0 : Nat} {x1 : Dt} (h : Wp (xcs (cal phi N k) N b_law_rule [.ref x0, .val x1, .un, .un, .un, .un, .un, .un] S) fun q => P (outD q.1, q.2.2.take S.length)) : Wp (cal phi N (k + 1) 12 [.r x0, .d x1] S) P := w_fn rfl rfl h
theorem fn_law_met {x0 : Dt} {x1 : Dt} (h : Wp (xcs (cal phi N k) N b_law_met [.val x0, .val x1, .un, .un, .un] S) fun q => P (outD q.1, q.2.2.take S.length)) : Wp (cal phi N (k + 1) 13 [.d x0, .d x1] S) P := w_fn rfl rfl h
theorem fn_law_ready {x0 : Dt} {x1 : Dt} (h : Wp (xcs (cal phi N k) N b_law_ready [.val x0, .val x1, .un] S) fun q => P (outD q.1, q.2.2.take S.length)) : Wp (cal phi N (k + 1) 14 [.d x0, .d x1] S) P := w_fn rfl rfl h
theorem fn_law_next {x0 : Dt} {x1 : Dt} {x2 : Dt} (h : Wp (xcs (cal phi N k) N b_law_next [.val x0, .val x1, .val x2, .un] S) fun q => P (outD q.1, q.2.2.take S.length)) : Wp (cal phi N (k + 1) 15 [.d x0, .d x1, .d x2] S) P := w_fn rfl rfl h
theorem fn_law_left {x0 : Dt} {x1 : Dt} (h : Wp (xcs (cal phi N k) N b_law_left [.val x0, .val x1, .un, .un, .un] S) fun q => P (outD q.1, q.2.2.take S.length)) : Wp (cal phi N (k + 1) 16 [.d x0, .d x1] S) P := w_fn rfl rfl h
theorem fn_law_event {x0 : Dt} {x1 : Dt} {x2 : Dt} (h : Wp (xcs (cal phi N k) N b_law_event [.val x0, .val x1, .val x2, .un, .un, .un, .un, .un, .un, .un, .un] S) fun q => P (outD q.1, q.2.2.take S.length)) : Wp (cal phi N (k + 1) 17 [.d x0, .d x1, .d x2] S) P := w_fn rfl rfl h
theorem fn_law_desks {x0 : Dt} (h : Wp (xcs (cal phi N k) N b_law_desks [.val x0, .un] S) fun q => P (outD q.1, q.2.2.take S.length)) : Wp (cal phi N (k + 1) 18 [.d x0] S) P := w_fn rfl rfl h
theorem fn_law_events {x0 : Dt} (h : Wp (xcs (cal phi N k) N b_law_events [.val x0, .un, .un, .un, .un] S) fun q => P (outD q.1, q.2.2.take S.length)) : Wp (cal phi N (k + 1) 19 [.d x0] S) P := w_fn rfl rfl h
theorem fn_law_row {x0 : Nat} {x1 : Dt} {x2 : Dt} (h : Wp (xcs (cal phi N k) N b_law_row [.ref x0, .val x1, .val x2, .un, .un, .un, .un] S) fun q => P (outD q.1, q.2.2.take S.length)) : Wp (cal phi N (k + 1) 20 [.r x0, .d x1, .d x2] S) P := w_fn rfl rfl h
theorem fn_law_followed {x0 : Dt} {x1 : Dt} (h : Wp (xcs (cal phi N k) N b_law_followed [.val x0, .val x1, .un, .un, .un, .un, .un, .un] S) fun q => P (outD q.1, q.2.2.take S.length)) : Wp (cal phi N (k + 1) 21 [.d x0, .d x1] S) P := w_fn rfl rfl h
theorem fn_desks {x0 : Dt} (h : Wp (xcs (cal phi N k) N b_desks [.val x0, .un] S) fun q => P (outD q.1, q.2.2.take S.length)) : Wp (cal phi N (k + 1) 39 [.d x0] S) P := w_fn rfl rfl h
theorem fn_greatest {x0 : Dt} {x1 : Dt} {x2 : Dt} (h : Wp (xcs (cal phi N k) N b_greatest [.val x0, .val x1, .val x2, .un, .un] S) fun q => P (outD q.1, q.2.2.take S.length)) : Wp (cal phi N (k + 1) 40 [.d x0, .d x1, .d x2] S) P := w_fn rfl rfl h
theorem fn_can_end {x0 : Dt} (h : Wp (xcs (cal phi N k) N b_can_end [.val x0] S) fun q => P (outD q.1, q.2.2.take S.length)) : Wp (cal phi N (k + 1) 41 [.d x0] S) P := w_fn rfl rfl h
theorem fn_first_way {x0 : Dt} {x1 : Dt} (h : Wp (xcs (cal phi N k) N b_first_way [.val x0, .val x1, .un, .un, .un, .un, .un, .un, .un] S) fun q => P (outD q.1, q.2.2.take S.length)) : Wp (cal phi N (k + 1) 42 [.d x0, .d x1] S) P := w_fn rfl rfl h
theorem fn_law_closed {x0 : Dt} {x1 : Dt} {x2 : Dt} (h : Wp (xcs (cal phi N k) N b_law_closed [.val x0, .val x1, .val x2, .un, .un, .un] S) fun q => P (outD q.1, q.2.2.take S.length)) : Wp (cal phi N (k + 1) 43 [.d x0, .d x1, .d x2] S) P := w_fn rfl rfl h
theorem fn_all_events {x0 : Dt} (h : Wp (xcs (cal phi N k) N b_all_events [.val x0, .un, .un, .un, .un, .un, .un] S) fun q => P (outD q.1, q.2.2.take S.length)) : Wp (cal phi N (k + 1) 45 [.d x0] S) P := w_fn rfl rfl h
theorem fn_behind {x0 : Dt} {x1 : Dt} {x2 : Dt} (h : Wp (xcs (cal phi N k) N b_behind [.val x0, .val x1, .val x2, .un] S) fun q => P (outD q.1, q.2.2.take S.length)) : Wp (cal phi N (k + 1) 46 [.d x0, .d x1, .d x2] S) P := w_fn rfl rfl h
theorem fn_parting_row {x0 : Dt} {x1 : Dt} (h : Wp (xcs (cal phi N k) N b_parting_row [.val x0, .val x1, .un, .un, .un, .un, .un, .un, .un, .un, .un, .un] S) fun q => P (outD q.1, q.2.2.take S.length)) : Wp (cal phi N (k + 1) 47 [.d x0, .d x1] S) P := w_fn rfl rfl h
theorem fn_alike {x0 : Dt} {x1 : Dt} (h : Wp (xcs (cal phi N k) N b_alike [.val x0, .val x1] S) fun q => P (outD q.1, q.2.2.take S.length)) : Wp (cal phi N (k + 1) 48 [.d x0, .d x1] S) P := w_fn rfl rfl h
theorem fn_law_near {x0 : Nat} {x1 : Dt} (h : Wp (xcs (cal phi N k) N b_law_near [.ref x0, .val x1, .un, .un, .un, .un, .un, .un, .un, .un] S) fun q => P (outD q.1, q.2.2.take S.length)) : Wp (cal phi N (k + 1) 49 [.r x0, .d x1] S) P := w_fn rfl rfl h
theorem fn_law_parts {x0 : Dt} {x1 : Dt} (h : Wp (xcs (cal phi N k) N b_law_parts [.val x0, .val x1, .un, .un, .un, .un, .un, .un, .un, .un, .un, .un, .un] S) fun q => P (outD q.1, q.2.2.take S.length)) : Wp (cal phi N (k + 1) 50 [.d x0, .d x1] S) P := w_fn rfl rfl h
theorem fn_states {x0 : Dt} (h : Wp (xcs (cal phi N k) N b_states [.val x0, .un, .un, .un, .un, .un, .un] S) fun q => P (outD q.1, q.2.2.take S.length)) : Wp (cal phi N (k + 1) 53 [.d x0] S) P := w_fn rfl rfl h
theorem fn_law_reached {x0 : Dt} (h : Wp (xcs (cal phi N k) N b_law_reached [.val x0, .un, .un, .un, .un, .un, .un] S) fun q => P (outD q.1, q.2.2.take S.length)) : Wp (cal phi N (k + 1) 54 [.d x0] S) P := w_fn rfl rfl h
theorem fn_fewest_signs {x0 : Dt} {x1 : Dt} (h : Wp (xcs (cal phi N k) N b_fewest_signs [.val x0, .val x1, .un] S) fun q => P (outD q.1, q.2.2.take S.length)) : Wp (cal phi N (k + 1) 56 [.d x0, .d x1] S) P := w_fn rfl rfl h
theorem fn_law_way {x0 : Dt} {x1 : Dt} (h : Wp (xcs (cal phi N k) N b_law_way [.val x0, .val x1, .un, .un, .un, .un, .un, .un, .un, .un] S) fun q => P (outD q.1, q.2.2.take S.length)) : Wp (cal phi N (k + 1) 57 [.d x0, .d x1] S) P := w_fn rfl rfl h
theorem fn_falls {x0 : Dt} {x1 : Dt} {x2 : Dt} (h : Wp (xcs (cal phi N k) N b_falls [.val x0, .val x1, .val x2, .un, .un] S) fun q => P (outD q.1, q.2.2.take S.length)) : Wp (cal phi N (k + 1) 70 [.d x0, .d x1, .d x2] S) P := w_fn rfl rfl h
theorem fn_cost {x0 : Dt} {x1 : Dt} {x2 : Dt} (h : Wp (xcs (cal phi N k) N b_cost [.val x0, .val x1, .val x2, .un] S) fun q => P (outD q.1, q.2.2.take S.length)) : Wp (cal phi N (k + 1) 71 [.d x0, .d x1, .d x2] S) P := w_fn rfl rfl h
theorem fn_greatest_cost {x0 : Dt} {x1 : Dt} (h : Wp (xcs (cal phi N k) N b_greatest_cost [.val x0, .val x1, .un, .un] S) fun q => P (outD q.1, q.2.2.take S.length)) : Wp (cal phi N (k + 1) 72 [.d x0, .d x1] S) P := w_fn rfl rfl h
theorem fn_costs_along {x0 : Dt} {x1 : Dt} {x2 : Dt} (h : Wp (xcs (cal phi N k) N b_costs_along [.val x0, .val x1, .val x2, .un, .un, .un] S) fun q => P (outD q.1, q.2.2.take S.length)) : Wp (cal phi N (k + 1) 74 [.d x0, .d x1, .d x2] S) P := w_fn rfl rfl h
theorem fn_safest_way {x0 : Dt} {x1 : Dt} (h : Wp (xcs (cal phi N k) N b_safest_way [.val x0, .val x1, .un, .un, .un, .un, .un, .un, .un, .un, .un, .un, .un] S) fun q => P (outD q.1, q.2.2.take S.length)) : Wp (cal phi N (k + 1) 75 [.d x0, .d x1] S) P := w_fn rfl rfl h
theorem fn_law_cost {x0 : Dt} {x1 : Dt} {x2 : Dt} (h : Wp (xcs (cal phi N k) N b_law_cost [.val x0, .val x1, .val x2, .un, .un] S) fun q => P (outD q.1, q.2.2.take S.length)) : Wp (cal phi N (k + 1) 76 [.d x0, .d x1, .d x2] S) P := w_fn rfl rfl h
theorem fn_law_ways {x0 : Dt} {x1 : Dt} (h : Wp (xcs (cal phi N k) N b_law_ways [.val x0, .val x1, .un, .un, .un, .un, .un, .un, .un, .un, .un] S) fun q => P (outD q.1, q.2.2.take S.length)) : Wp (cal phi N (k + 1) 77 [.d x0, .d x1] S) P := w_fn rfl rfl h
end
end Fw

set_option autoImplicit false
set_option linter.all false
set_option maxRecDepth 100000
set_option maxHeartbeats 4000000
/-! rules, states: what the small defs answer -/
namespace Fw
open PySem L2

abbrev Need := Int × List Int
abbrev Step := Str × List Need × List Str
abbrev Rule := List Step × List Need
abbrev tI (xs : List Int) : Dt := .tuple (xs.map .int)
def eNeed (n : Need) : Dt := .tuple [.int n.1, tI n.2]
abbrev eNeeds (ns : List Need) : Dt := .tuple (ns.map eNeed)
def eStep (s : Step) : Dt := .tuple [.str s.1, eNeeds s.2.1, .tuple (s.2.2.map .str)]
def eRule (r : Rule) : Dt := .tuple [.tuple (r.1.map eStep), eNeeds r.2]

theorem any_eqv_int (xs : List Int) (a : Int) : ((xs.map PyData.int).any fun y => PyData.eqv y (.int a)) = decide (a ∈ xs) := by
  rw [List.any_map, Bool.eq_iff_iff]
  simp [PyData.eqv, List.any_eq_true]
theorem depth_int (a : Int) : PyData.depth (.int a) = 0 := rfl
theorem memD_tI (xs : List Int) (a : Int) : memD (.int a) (tI xs) = some (decide (a ∈ xs)) := by
  unfold memD tI
  simp only [depth_int, Nat.min_zero, Nat.zero_le, decide_true, if_true, any_eqv_int]
theorem allB_map {α : Type} (f : α → Bool) : ∀ xs : List α, allB (xs.map fun x => .bool (f x)) = some (xs.map f)
  | [] => rfl
  | x :: xs => by rw [List.map_cons, allB, allB_map f xs]; rfl
/-- the sizes that keep the model's room -/
structure Need.Ok (n : Need) : Prop where
  len : n.2.length ≤ 1000
def met (ns : List Need) (st : List Int) : Bool := ns.all fun n => decide (n.1 ≤ ((n.2.filter fun s => decide (s ∈ st)).length : Int))
theorem cal_met (N k : Nat) (S : Sto) (ns : List Need) (st : List Int) (h : ∀ n ∈ ns, n.2.length ≤ 1000) (hl : ns.length ≤ 1000) : cal phi N (k + 1) 0 [.d (eNeeds ns), .d (tI st)] S = some (.bool (met ns st), S) := by
  refine cal_one rfl rfl ?_
  rw [ev_bi, ev_comp0 (xs := ns) (enc := eNeed) (fun n => .bool (decide (n.1 ≤ ((n.2.filter fun s => decide (s ∈ st)).length : Int)))) rfl (by omega) fun n hn => ⟨_, rfl, ?_⟩]
  · simp only [plc, Option.map_some, Option.bind_some, biP, allB_map, met, List.all_map, Function.comp_def, id]
  · rw [ev_cmp, ev_bi, ev_comp (xs := n.2) (enc := fun s => .int s) (fun s => decide (s ∈ st)) (fun s => .int s) rfl (by have := h n hn; omega) fun s hs => ⟨_, rfl, ?_, fun _ => rfl⟩]
    · simp only [pre, plc, post, look, Option.map_some, Option.bind_some, biP, cmpP, leD, List.length_map]
      rfl
    · rw [evT_yes, ev_cmp]
      simp only [pre, plc, post, Option.map_some, Option.bind_some]
      have e1 : look (((wipeR (((wipeR (start0 5 [Ar.d (eNeeds ns), Ar.d (tI st)]) (Tg.two 3 4).slots).set 3 (.val (.int n.1))).set 4 (.val (tI n.2))) (Tg.one 2).slots)).set 2 (.val (.int s))) S 1 = some (.d (tI st)) := rfl
      rw [e1]
      simp only [Option.map_some, Option.bind_some]
      have e2 : look (((wipeR (((wipeR (start0 5 [Ar.d (eNeeds ns), Ar.d (tI st)]) (Tg.two 3 4).slots).set 3 (.val (.int n.1))).set 4 (.val (tI n.2))) (Tg.one 2).slots)).set 2 (.val (.int s))) S 2 = some (.d (.int s)) := rfl
      rw [e2]
      simp only [Option.map_some, Option.bind_some, cmpP, memD_tI]
      rfl
def stepAt (r : Rule) (at_ : Int) : Step := r.1.getD at_.toNat (⟨#[]⟩, [], [])
/-- a rule small enough -/
structure Rule.Ok (r : Rule) : Prop where
  few : r.1.length ≤ 1000
  needs : ∀ s ∈ r.1, s.2.1.length ≤ 1000 ∧ ∀ n ∈ s.2.1, n.2.length ≤ 1000
  goal : r.2.length ≤ 1000 ∧ ∀ n ∈ r.2, n.2.length ≤ 1000
theorem at_step {r : Rule} {i : Int} (h0 : 0 ≤ i) (h1 : i < r.1.length) : atI (r.1.map eStep) i = some (eStep (stepAt r i)) ∧ stepAt r i ∈ r.1 := by
  have hl : i.toNat < r.1.length := by omega
  have e : ixN (r.1.map eStep).length i = some i.toNat := by
    unfold ixN
    rw [List.length_map, if_pos h0, if_pos h1]
  have e2 : r.1[i.toNat]? = some (stepAt r i) := by
    unfold stepAt
    rw [List.getD_eq_getElem?_getD, List.getElem?_eq_getElem hl]
    rfl
  refine ⟨?_, List.mem_of_getElem? e2⟩
  unfold atI
  rw [e, Option.bind_some, List.getElem?_map, e2]
  rfl
theorem cal_ended (N k : Nat) (S : Sto) (r : Rule) (st : List Int) (hr : r.Ok) : cal phi N (k + 2) 1 [.d (eRule r), .d (tI st)] S = some (.bool (met r.2 st), S) := by
  refine cal_one rfl rfl ?_
  refine r_call (.e (fun i z => by cases z) (r_subT (ds := [.tuple (r.1.map eStep), eNeeds r.2]) (.v rfl) (ev_c _) rfl) (.val rfl .nil)) ?_
  exact cal_met N k S r.2 st hr.goal.2 hr.goal.1
/-- the steps that stand ready -/
def readyAt (r : Rule) (st : List Int) (at_ : Int) : Bool := !decide (at_ ∈ st) && met (stepAt r at_).2.1 st
def readys (r : Rule) (st : List Int) : List Int := ((List.range r.1.length).map fun (i : Nat) => (i : Int)).filter (readyAt r st)
theorem enum_map (xs : List Step) : enumD 0 (xs.map eStep) = (List.range xs.length).map fun (i : Nat) => .tuple [.int (i : Int), eStep (xs.getD i (⟨#[]⟩, [], []))] := by
  refine List.ext_getElem? fun i => ?_
  rw [enumD_get, List.getElem?_map, List.getElem?_map]
  by_cases h : i < xs.length
  · rw [List.getElem?_range h, List.getElem?_eq_getElem h]
    simp [List.getD_eq_getElem?_getD, List.getElem?_eq_getElem h]
  · rw [List.getElem?_eq_none (by omega), List.getElem?_eq_none (by rw [List.length_range]; omega)]
    rfl
theorem cal_ready (N k : Nat) (S : Sto) (r : Rule) (st : List Int) (hr : r.Ok) : cal phi N (k + 2) 2 [.d (eRule r), .d (tI st)] S = some (.list ((readys r st).map .int), S) := by
  refine cal_one rfl rfl ?_
  have hi : evIt (cal phi N (k + 1)) (.enum (.sub (.v 0) (.c (.int 0)))) (start0 4 [.d (eRule r), .d (tI st)]) S = some ((List.range r.1.length).map fun (i : Nat) => .tuple [.int (i : Int), eStep (r.1.getD i (⟨#[]⟩, [], []))], S) := by
    rw [evI_enum, r_subT (ds := [.tuple (r.1.map eStep), eNeeds r.2]) (.v rfl) (ev_c _) rfl]
    simp only [Option.bind_some, itemsOf, Option.map_some, enum_map]
  rw [ev_comp (xs := List.range r.1.length) (enc := fun (i : Nat) => .tuple [.int (i : Int), eStep (r.1.getD i (⟨#[]⟩, [], []))]) (fun i => readyAt r st (i : Int)) (fun i => .int (i : Int)) hi (by rw [List.length_range]; have := hr.few; omega) fun i hi => ⟨_, rfl, ?_, fun _ => rfl⟩]
  · unfold readys
    rw [List.filter_map, List.map_map]
    rfl
  · have hl : i < r.1.length := List.mem_range.mp hi
    have es : stepAt r (i : Int) = r.1.getD i (⟨#[]⟩, [], []) := by unfold stepAt; simp
    have hm : r.1.getD i (⟨#[]⟩, [], []) ∈ r.1 := by
      rw [List.getD_eq_getElem?_getD, List.getElem?_eq_getElem hl]
      exact List.getElem_mem hl
    rw [evT_yes]
    refine r_test ?_
    unfold readyAt
    rw [es]
    refine r_and2 (r_cmp (.v rfl) (.v rfl) (by simp only [cmpP, memD_tI, Option.map_some])) fun _ => ?_
    refine r_call (.e (fun i z => by cases z) (r_subT (.v rfl) (ev_c _) rfl) (.val rfl .nil)) ?_
    exact cal_met N k S _ st (hr.needs _ hm).2 (hr.needs _ hm).1
/-- the step at this desk that comes next -/
def nexts (r : Rule) (st : List Int) (desk : Str) : List Int := (readys r st).filter fun a => decide ((stepAt r a).1 = desk)
theorem readys_in {r : Rule} {st : List Int} {a : Int} (h : a ∈ readys r st) : 0 ≤ a ∧ a < r.1.length := by
  unfold readys at h
  obtain ⟨h1, _⟩ := List.mem_filter.mp h
  obtain ⟨i, hi, rfl⟩ := List.mem_map.mp h1
  have := List.mem_range.mp hi
  omega
theorem readys_len (r : Rule) (st : List Int) : (readys r st).length ≤ r.1.length := by
  unfold readys
  refine Nat.le_trans (List.length_filter_le _ _) ?_
  rw [List.length_map, List.length_range]
  exact Nat.le_refl _
def optI : Option Int → Dt
  | none => .none
  | some i => .int i
theorem eqv_strs (a b : Str) : PyData.eqv (.str a) (.str b) = decide (a = b) := by rw [PyData.eqv]; rfl
theorem cmp_eqS (a b : Str) : cmpP .Eq (.str a) (.d (.str b)) = some (decide (a = b)) := by
  simp only [cmpP, shallow, PyData.depth, Nat.min_self, Nat.zero_le, decide_true, if_true, eqv_strs]
theorem eqv_listnil (xs : List Int) : PyData.eqv (.list (xs.map .int)) (.list []) = xs.isEmpty := by
  cases xs with
  | nil => rw [PyData.eqv]; rfl
  | cons x xs => rw [PyData.eqv, List.map_cons, PyData.eqvAll]; rfl
theorem cmp_neNil (xs : List Int) : cmpP .NotEq (.list (xs.map .int)) (.d (.list [])) = some (!xs.isEmpty) := by
  have h : shallow (.list (xs.map .int)) (.list []) = true := by
    unfold shallow
    rw [decide_eq_true_eq]
    have e : PyData.depth (.list []) ≤ 1 := by decide
    omega
  simp only [cmpP, h, if_true, eqv_listnil]
theorem cal_next (N k : Nat) (S : Sto) (r : Rule) (st : List Int) (desk : Str) (hr : r.Ok) : cal phi N (k + 3) 3 [.d (eRule r), .d (tI st), .d (.str desk)] S = some (optI (nexts r st desk).head?, S) := by
  have hz := readys_len r st
  have hf := hr.few
  have h1 : ev (cal phi N (k + 2)) (.comp (.v 4) (.one 4) (.of (.call 2 (.cons (.v 0) (.cons (.v 1) .nil)))) (.yes (.cmp .Eq (.sub (.sub (.sub (.v 0) (.c (.int 0))) (.v 4)) (.c (.int 0))) (.v 2)))) (start0 5 [.d (eRule r), .d (tI st), .d (.str desk)]) S = some (.list ((nexts r st desk).map .int), S) := by
    rw [ev_comp (xs := readys r st) (enc := fun a => .int a) (fun a => decide ((stepAt r a).1 = desk)) (fun a => .int a) (by rw [evI_of, r_call (.val rfl (.val rfl .nil)) (cal_ready N k S r st hr)]; rfl) (by omega) fun a ha => ⟨_, rfl, ?_, fun _ => rfl⟩]
    · rfl
    · rw [evT_yes]
      obtain ⟨g1, g2⟩ := readys_in ha
      refine r_test (r_cmp (.e (fun i z => by cases z) (r_subT (ds := [.str (stepAt r a).1, eNeeds (stepAt r a).2.1, .tuple ((stepAt r a).2.2.map .str)]) (.e (fun i z => by cases z) (r_subT (.e (fun i z => by cases z) (r_subT (ds := [.tuple (r.1.map eStep), eNeeds r.2]) (.v rfl) (ev_c _) rfl)) (r_v rfl) (at_step g1 g2).1)) (ev_c _) rfl)) (.v rfl) (cmp_eqS _ _))
  refine cal_ret (ρ' := (start0 5 [.d (eRule r), .d (tI st), .d (.str desk)]).set 3 (.val (.list ((nexts r st desk).map .int)))) rfl rfl ?_ rfl
  show xcs _ _ b_next_step _ _ = _
  unfold b_next_step
  rw [xcs_cons, xc_set, evKd, h1]
  simp only [Option.map_some, Option.bind_some]
  rw [xcs_cons, xc_ret]
  have h2 : ∀ d, ev (cal phi N (k + 2)) (.ite (.cmp .NotEq (.v 3) (.lst .nil)) (.sub (.v 3) (.c (.int 0))) (.c .none)) ((start0 5 [.d (eRule r), .d (tI st), .d (.str desk)]).set 3 (.val (.list ((nexts r st desk).map .int)))) S = some (d, S) → d = optI (nexts r st desk).head? → True := fun _ _ _ => trivial
  have h3 : ev (cal phi N (k + 2)) (.ite (.cmp .NotEq (.v 3) (.lst .nil)) (.sub (.v 3) (.c (.int 0))) (.c .none)) ((start0 5 [.d (eRule r), .d (tI st), .d (.str desk)]).set 3 (.val (.list ((nexts r st desk).map .int)))) S = some (optI (nexts r st desk).head?, S) := by
    have t : ev (cal phi N (k + 2)) (.cmp .NotEq (.v 3) (.lst .nil)) ((start0 5 [.d (eRule r), .d (tI st), .d (.str desk)]).set 3 (.val (.list ((nexts r st desk).map .int)))) S = some (.bool (!(nexts r st desk).isEmpty), S) :=
      r_cmp (.v rfl) (.e (fun i z => by cases z) (r_lst .nil (by decide))) (cmp_neNil _)
    cases e : nexts r st desk with
    | nil => rw [e] at t; exact r_iteF t (ev_c _)
    | cons x xs => rw [e] at t; exact r_iteT t (r_subL (.v rfl) (ev_c _) (atI_nat (j := 0) rfl))
  rw [h3]
  rfl
theorem depth_tI (xs : List Int) : PyData.depth (tI xs) ≤ 1 := by
  unfold tI
  rw [PyData.depth, PySem.W.depth_ints]
  decide
theorem eqvAll_ints : ∀ xs ys : List Int, PyData.eqvAll (xs.map .int) (ys.map .int) = decide (xs = ys)
  | [], [] => rfl
  | [], _ :: _ => rfl
  | _ :: _, [] => rfl
  | x :: xs, y :: ys => by
    rw [List.map_cons, List.map_cons, PyData.eqvAll, eqvAll_ints xs ys, PyData.eqv, Bool.eq_iff_iff]
    simp
theorem cmp_eqT (xs ys : List Int) : cmpP .Eq (tI xs) (.d (tI ys)) = some (decide (xs = ys)) := by
  have h : shallow (tI xs) (tI ys) = true := by
    unfold shallow
    rw [decide_eq_true_eq]
    have := depth_tI xs
    omega
  simp only [cmpP, h, if_true]
  unfold tI
  rw [PyData.eqv, eqvAll_ints]
/-- a state of the rule -/
def Valid (r : Rule) (st : List Int) : Prop := st.length ≤ 1000 ∧ ∀ a ∈ st, 0 ≤ a ∧ a < r.1.length
def keep (r : Rule) (st : List Int) : List Int := st.filter fun a => met (stepAt r a).2.1 st
def fall (r : Rule) : Nat → List Int → List Int
  | 0, st => st
  | n + 1, st => if keep r st = st then st else fall r n (keep r st)
theorem Valid.filter {r : Rule} {st : List Int} (v : Valid r st) (p : Int → Bool) : Valid r (st.filter p) := ⟨Nat.le_trans (List.length_filter_le _ _) v.1, fun a h => v.2 a (List.mem_filter.mp h).1⟩
theorem keep_lt {r : Rule} {st : List Int} (h : keep r st ≠ st) : (keep r st).length < st.length := by
  rcases Nat.lt_or_ge (keep r st).length st.length with q | q
  · exact q
  · exact absurd ((List.filter_sublist (l := st)).eq_of_length_le q) h
theorem r_step {C : Cl} {ρ : Rho} {S S1 : Sto} {r : Rule} {i : Int} {e : E} {j : Int} {d : Dt} (h0 : look ρ S1 0 = some (.d (eRule r))) (he : ev C e ρ S = some (.int i, S1)) (hv : 0 ≤ i ∧ i < r.1.length)
    (h00 : look ρ S 0 = some (.d (eRule r))) (hd : atI [.str (stepAt r i).1, eNeeds (stepAt r i).2.1, .tuple ((stepAt r i).2.2.map .str)] j = some d) : ev C (.sub (.sub (.sub (.v 0) (.c (.int 0))) e) (.c (.int j))) ρ S = some (d, S1) :=
  r_subT (.e (fun i z => by cases z) (r_subT (.e (fun i z => by cases z) (r_subT (ds := [.tuple (r.1.map eStep), eNeeds r.2]) (.v h00) (ev_c _) rfl)) he (at_step hv.1 hv.2).1)) (ev_c _) hd
theorem fallen_step (N k : Nat) (S : Sto) (r : Rule) (hr : r.Ok) (st d : List Int) (hv : Valid r st) (hrec : keep r st ≠ st → cal phi N (k + 1) 4 [.d (eRule r), .d (tI (keep r st))] S = some (tI d, S)) :
    cal phi N (k + 2) 4 [.d (eRule r), .d (tI st)] S = some (tI (if keep r st = st then st else d), S) := by
  have h1 : ev (cal phi N (k + 1)) (.comp (.v 3) (.one 3) (.of (.v 1)) (.yes (.call 0 (.cons (.sub (.sub (.sub (.v 0) (.c (.int 0))) (.v 3)) (.c (.int 1))) (.cons (.v 1) .nil))))) (start0 4 [.d (eRule r), .d (tI st)]) S = some (.list ((keep r st).map .int), S) := by
    rw [ev_comp (xs := st) (enc := fun a => .int a) (fun a => met (stepAt r a).2.1 st) (fun a => .int a) (by rw [evI_of, r_v rfl]; rfl) (by have := hv.1; omega) fun a ha => ⟨_, rfl, ?_, fun _ => rfl⟩]
    · rfl
    · rw [evT_yes]
      refine r_test (r_call (.e (fun i z => by cases z) (r_step rfl (r_v rfl) (hv.2 a ha) rfl rfl) (.val rfl .nil)) ?_)
      have hm := (at_step (hv.2 a ha).1 (hv.2 a ha).2).2
      exact cal_met N k S _ st (hr.needs _ hm).2 (hr.needs _ hm).1
  refine cal_ret (ρ' := (start0 4 [.d (eRule r), .d (tI st)]).set 2 (.val (tI (keep r st)))) rfl rfl ?_ rfl
  show xcs _ _ b_fallen _ _ = _
  unfold b_fallen
  rw [xcs_cons, xc_set, evKd, r_bi (.e (fun i z => by cases z) h1) rfl]
  simp only [Option.map_some, Option.bind_some]
  rw [xcs_cons, xc_ret]
  have h3 : ev (cal phi N (k + 1)) (.ite (.cmp .Eq (.v 2) (.v 1)) (.v 1) (.call 4 (.cons (.v 0) (.cons (.v 2) .nil)))) ((start0 4 [.d (eRule r), .d (tI st)]).set 2 (.val (tI (keep r st)))) S = some (tI (if keep r st = st then st else d), S) := by
    have t : ev (cal phi N (k + 1)) (.cmp .Eq (.v 2) (.v 1)) ((start0 4 [.d (eRule r), .d (tI st)]).set 2 (.val (tI (keep r st)))) S = some (.bool (decide (keep r st = st)), S) :=
      r_cmp (.v rfl) (.v rfl) (cmp_eqT _ _)
    by_cases c : keep r st = st
    · rw [decide_eq_true c] at t
      rw [r_iteT t (r_v rfl), if_pos c]
    · rw [decide_eq_false c] at t
      rw [r_iteF t (r_call (.val rfl (.val rfl .nil)) (hrec c)), if_neg c]
  show Option.bind (Option.map _ (ev (cal phi N (k + 1)) _ ((start0 4 [.d (eRule r), .d (tI st)]).set 2 (.val (tI (keep r st)))) S)) _ = _
  rw [h3]
  rfl
theorem cal_fallen (N k : Nat) (S : Sto) (r : Rule) (hr : r.Ok) : ∀ (n : Nat) (st : List Int), st.length ≤ n → Valid r st → cal phi N (k + n + 2) 4 [.d (eRule r), .d (tI st)] S = some (tI (fall r (n + 1) st), S)
  | 0, st, hl, hv => fallen_step N k S r hr st (keep r st) hv fun h => by
    have e : st = [] := List.eq_nil_of_length_eq_zero (by omega)
    subst e
    exact absurd rfl h
  | n + 1, st, hl, hv => fallen_step N (k + (n + 1)) S r hr st (fall r (n + 1) (keep r st)) hv fun h => cal_fallen N k S r hr n (keep r st) (by have := keep_lt h; omega) (hv.filter _)
end Fw

set_option autoImplicit false
set_option linter.all false
set_option maxRecDepth 100000
set_option maxHeartbeats 4000000
/-! sorting numbers; events -/
namespace Fw
open PySem L2

theorem okSort_ints (xs : List Int) : okSort (xs.map .int) = true := by
  unfold okSort
  rw [List.all_eq_true]
  intro d hd
  obtain ⟨i, _, rfl⟩ := List.mem_map.mp hd
  simp only [PyData.depth, Nat.zero_le, decide_true, noNone, Bool.true_and, List.all_eq_true]
  intro e he
  obtain ⟨j, _, rfl⟩ := List.mem_map.mp he
  rfl
def isort (xs : List Int) : List Int := xs.mergeSort fun a b => decide (a ≤ b)
theorem leq_int (a b : Int) : leq (.int a) (.int b) = decide (a ≤ b) := by
  unfold leq
  rw [PySem.W.dataLt_int]
  exact PySem.W.not_lt_int a b
theorem sortD_ints (xs : List Int) : sortD (xs.map .int) = (isort xs).map .int := by
  unfold sortD isort
  exact (PySem.W.sort_maps PyData.int fun a _ b _ => (leq_int a b).symm).symm
theorem bi_sortL (xs : List Int) : biP .sorted (.d (.list (xs.map .int))) = some (.list ((isort xs).map .int)) := by
  simp only [biP, okSort_ints, if_true, sortD_ints]
theorem bi_sortT (xs : List Int) : biP .sorted (.d (tI xs)) = some (.list ((isort xs).map .int)) := by
  unfold tI
  simp only [biP, okSort_ints, if_true, sortD_ints]
theorem isort_len (xs : List Int) : (isort xs).length = xs.length := List.length_mergeSort ..
theorem isort_perm (xs : List Int) : (isort xs).Perm xs := List.mergeSort_perm _ _

abbrev Ev := Str × Str
def eEv (e : Ev) : Dt := .tuple [.str e.1, .str e.2]
def eOpt : Option (List Int) → Dt
  | none => .none
  | some st => tI st
theorem any_eqv_str (xs : List Str) (a : Str) : ((xs.map PyData.str).any fun y => PyData.eqv y (.str a)) = decide (a ∈ xs) := by
  rw [List.any_map, Bool.eq_iff_iff]
  simp [PyData.eqv, List.any_eq_true]
theorem memD_strs (xs : List Str) (a : Str) : memD (.str a) (.tuple (xs.map .str)) = some (decide (a ∈ xs)) := by
  unfold memD
  simp only [PyData.depth, Nat.min_zero, Nat.zero_le, decide_true, if_true, any_eqv_str]
theorem memD_lI (xs : List Int) (a : Int) : memD (.int a) (.list (xs.map .int)) = some (decide (a ∈ xs)) := by
  unfold memD
  simp only [depth_int, Nat.min_zero, Nat.zero_le, decide_true, if_true, any_eqv_int]
/-- what the steps of the needs are -/
def asked (ns : List Need) : List Int := ns.flatMap fun n => n.2
def after (r : Rule) (m : Nat) (st : List Int) (e : Ev) : Option (List Int) :=
  if e.1 = ("change" : Str) then some (fall r (m + 1) (st.filter fun a => !decide (e.2 ∈ (stepAt r a).2.2)))
  else match (nexts r st e.2).head? with
    | none => none
    | some a => if e.1 = ("sign" : Str) then some (isort (st ++ [a]))
      else if (st.filter fun s => !decide (s ∈ asked (stepAt r a).2.1)) = st then none else some (fall r (m + 1) (st.filter fun s => !decide (s ∈ asked (stepAt r a).2.1)))
theorem gather_flat {α : Type} {enc : α → Dt} {f : Dt → Sto → Option (List Dt × Sto)} {h : α → List Dt} {S : Sto} : ∀ {xs : List α}, (∀ x ∈ xs, f (enc x) S = some (h x, S)) → gather f (xs.map enc) S = some (xs.flatMap h, S)
  | [], _ => rfl
  | x :: xs, hf => by
    rw [List.map_cons, gather, hf x List.mem_cons_self, Option.bind_some, gather_flat fun y hy => hf y (List.mem_cons_of_mem _ hy), Option.map_some, List.flatMap_cons]
theorem ev_comp2 {C : Cl} {ρ : Rho} {S : Sto} {α β : Type} {el : E} {t1 t2 : Tg} {i1 i2 : It} {xs : List α} {enc : α → Dt} (ys : α → List β) (enc2 : β → Dt) (h : α → β → Dt) (hi : evIt C i1 ρ S = some (xs.map enc, S)) (hl : (xs.flatMap fun x => (ys x).map (h x)).length ≤ 16777216)
    (hf : ∀ x ∈ xs, ∃ ρ1, bnd t1 (enc x) (wipeR ρ (t1.slots ++ t2.slots)) = some ρ1 ∧ evIt C i2 ρ1 S = some ((ys x).map enc2, S) ∧ ∀ y ∈ ys x, ∃ ρ2, bnd t2 (enc2 y) (wipeR ρ1 t2.slots) = some ρ2 ∧ ev C el ρ2 S = some (h x y, S)) :
    ev C (.comp2 el t1 i1 .no t2 i2 .no) ρ S = some (.list (xs.flatMap fun x => (ys x).map (h x)), S) := by
  rw [ev, hi]
  simp only [Option.bind_some]
  rw [gather_flat (h := fun x => (ys x).map (h x)) fun x hx => ?_]
  · simp only [Option.bind_some]
    rw [if_pos (fits_of hl)]
  · obtain ⟨ρ1, h1, h2, h3⟩ := hf x hx
    simp only [h1, evT_no, Option.bind_some, if_true, h2]
    rw [gather_flat (h := fun y => [h x y]) fun y hy => ?_]
    · rw [← List.map_eq_flatMap]
    · obtain ⟨ρ2, h4, h5⟩ := h3 y hy
      simp only [h4, Option.bind_some, if_true, h5, Option.map_some]
theorem nexts_head {r : Rule} {st : List Int} {d : Str} {a : Int} (h : (nexts r st d).head? = some a) : 0 ≤ a ∧ a < r.1.length ∧ readyAt r st a = true := by
  have h1 : a ∈ nexts r st d := List.mem_of_mem_head? h
  have h2 : a ∈ readys r st := (List.mem_filter.mp h1).1
  exact ⟨(readys_in h2).1, (readys_in h2).2, (List.mem_filter.mp h2).2⟩
theorem asked_len {r : Rule} (hr : r.Ok) {s : Step} (h : s ∈ r.1) : (asked s.2.1).length ≤ 1000000 := by
  unfold asked
  have h1 := (hr.needs s h).1
  have h2 := (hr.needs s h).2
  have go : ∀ ns : List Need, (∀ n ∈ ns, n.2.length ≤ 1000) → (ns.flatMap fun n => n.2).length ≤ ns.length * 1000 := by
    intro ns
    induction ns with
    | nil => intro _; exact Nat.le_refl 0
    | cons n ns ih =>
      intro hn
      rw [List.flatMap_cons, List.length_append, List.length_cons]
      have a := hn n List.mem_cons_self
      have b := ih fun m hm => hn m (List.mem_cons_of_mem _ hm)
      omega
  have := go _ h2
  omega
theorem xcs_ret1 {C : Cl} {N : Nat} {ρ : Rho} {S S1 : Sto} {e : E} {r : Ss} {d : Dt} (h : ev C e ρ S = some (d, S1)) : xcs C N (.cons (.ret e) r) ρ S = some (.ret d, ρ, S1) := by
  rw [xcs_cons, xc_ret, h]; rfl
theorem xcs_set1 {C : Cl} {N : Nat} {ρ : Rho} {S S1 : Sto} {i : Nat} {e : E} {r : Ss} {d : Dt} (h : ev C e ρ S = some (d, S1)) : xcs C N (.cons (.set i (.val e)) r) ρ S = xcs C N r (ρ.set i (.val d)) S1 := by
  rw [xcs_cons, xc_set, evKd, h]; rfl
theorem xcs_if {C : Cl} {N : Nat} {ρ : Rho} {S S1 : Sto} {c : E} {a b r : Ss} {k : Bool} (h : ev C c ρ S = some (.bool k, S1)) : xcs C N (.cons (.ifs c a b) r) ρ S = ((if k = true then xcs C N a ρ S1 else xcs C N b ρ S1).bind fun q => match q with
    | (.next, ρ1, S1) => xcs C N r ρ1 S1
    | (.ret d, ρ1, S1) => some (.ret d, ρ1, S1)) := by
  rw [xcs_cons, xc_ifs, r_test h]; rfl
theorem xcs_ifF {C : Cl} {N : Nat} {ρ : Rho} {S S1 : Sto} {c : E} {a r : Ss} (h : ev C c ρ S = some (.bool false, S1)) : xcs C N (.cons (.ifs c a .nil) r) ρ S = xcs C N r ρ S1 := by
  rw [xcs_if h, if_neg Bool.false_ne_true, xcs_nil]; rfl
theorem xcs_ifT {C : Cl} {N : Nat} {ρ ρ' : Rho} {S S1 S2 : Sto} {c : E} {a b r : Ss} {d : Dt} (h : ev C c ρ S = some (.bool true, S1)) (ha : xcs C N a ρ S1 = some (.ret d, ρ', S2)) : xcs C N (.cons (.ifs c a b) r) ρ S = some (.ret d, ρ', S2) := by
  rw [xcs_if h, if_pos rfl, ha]; rfl
theorem cal_after (N k : Nat) (S : Sto) (r : Rule) (hr : r.Ok) (m : Nat) (st : List Int) (e : Ev) (hm : st.length ≤ m) (hv : Valid r st) : cal phi N (k + m + 4) 5 [.d (eRule r), .d (tI st), .d (eEv e)] S = some (eOpt (after r m st e), S) := by
  have fin : (∃ ρ', xcs (cal phi N (k + m + 3)) N b_after (start0 11 [.d (eRule r), .d (tI st), .d (eEv e)]) S = some (.ret (eOpt (after r m st e)), ρ', S)) → cal phi N (k + m + 4) 5 [.d (eRule r), .d (tI st), .d (eEv e)] S = some (eOpt (after r m st e), S) := fun ⟨ρ', h⟩ => cal_ret rfl rfl h rfl
  have hp : xcs (cal phi N (k + m + 3)) N b_after (start0 11 [.d (eRule r), .d (tI st), .d (eEv e)]) S = xcs (cal phi N (k + m + 3)) N (match b_after with | .cons _ r => r | .nil => .nil) (((start0 11 [.d (eRule r), .d (tI st), .d (eEv e)]).set 3 (.val (.str e.1))).set 4 (.val (.str e.2))) S := by
    unfold b_after
    rw [xcs_cons, xc_unp, r_v rfl]
    rfl
  by_cases c1 : e.1 = ("change" : Str)
  · refine fin ?_
    rw [hp]
    have e1 : after r m st e = some (fall r (m + 1) (st.filter fun a => !decide (e.2 ∈ (stepAt r a).2.2))) := by unfold after; rw [if_pos c1]
    rw [e1]
    unfold b_after
    simp only
    refine ⟨_, xcs_ifT (r_cmp (.v rfl) (.e (fun i z => by cases z) (ev_c _)) (by rw [cmp_eqS, decide_eq_true c1])) (xcs_ret1 (r_call (.val rfl (.e (fun i z => by cases z) (r_bi (.e (fun i z => by cases z) (ev_comp (xs := st) (enc := fun a => .int a) (fun a => !decide (e.2 ∈ (stepAt r a).2.2)) (fun a => .int a) (by rw [evI_of, r_v rfl]; rfl) (by have := hv.1; omega) fun a ha => ⟨_, rfl, ?_, fun _ => rfl⟩)) rfl) .nil)) ?_))⟩
    · rw [evT_yes]
      exact r_test (r_cmp (.v rfl) (.e (fun i z => by cases z) (r_step rfl (r_v rfl) (hv.2 a ha) rfl rfl)) (by simp only [cmpP, memD_strs, Option.map_some]))
    · exact cal_fallen N (k + 1) S r hr m _ (Nat.le_trans (List.length_filter_le _ _) hm) (hv.filter _) |> fun h => by
        have e : k + 1 + m + 2 = k + m + 3 := by omega
        rw [e] at h
        exact h
  · refine fin ?_
    rw [hp]
    unfold b_after
    simp only
    have t1 : ev (cal phi N (k + m + 3)) (.cmp .Eq (.v 3) (.c (.str "change"))) (((start0 11 [.d (eRule r), .d (tI st), .d (eEv e)]).set 3 (.val (.str e.1))).set 4 (.val (.str e.2))) S = some (.bool false, S) :=
      r_cmp (.v rfl) (.e (fun i z => by cases z) (ev_c _)) (by rw [cmp_eqS, decide_eq_false c1])
    rw [xcs_ifF t1, xcs_set1 (r_call (.val rfl (.val rfl (.val rfl .nil))) (cal_next N (k + m) S r st e.2 hr))]
    cases hn : (nexts r st e.2).head? with
    | none =>
      have e1 : after r m st e = none := by unfold after; rw [if_neg c1, hn]
      rw [e1]
      exact ⟨_, xcs_ifT (r_cmp (x := .none) (.v rfl) (.e (fun i z => by cases z) (ev_c _)) rfl) (xcs_ret1 (ev_c _))⟩
    | some a =>
      obtain ⟨a0, a1, _⟩ := nexts_head hn
      rw [xcs_ifF (r_cmp (x := .int a) (.v rfl) (.e (fun i z => by cases z) (ev_c _)) rfl)]
      by_cases c2 : e.1 = ("sign" : Str)
      · have e1 : after r m st e = some (isort (st ++ [a])) := by unfold after; rw [if_neg c1, hn]; simp only; rw [if_pos c2]
        rw [e1]
        refine ⟨_, xcs_ifT (r_cmp (.v rfl) (.e (fun i z => by cases z) (ev_c _)) (by rw [cmp_eqS, decide_eq_true c2])) (xcs_ret1 (r_bi (.e (fun i z => by cases z) (r_bi (.e (fun i z => by cases z) (r_lst (ds := (st ++ [a]).map .int) ?_ ?_)) (bi_sortL _))) rfl))⟩
        · rw [List.map_append]
          exact .star (.v rfl) rfl (.cons (r_v rfl) .nil)
        · have := hv.1
          rw [List.length_map, List.length_append, List.length_singleton]
          omega
      · rw [xcs_ifF (r_cmp (.v rfl) (.e (fun i z => by cases z) (ev_c _)) (by rw [cmp_eqS, decide_eq_false c2]))]
        have hm2 := (at_step a0 a1).2
        have hal := asked_len hr hm2
        have ha : ev (cal phi N (k + m + 3)) (.comp2 (.v 9) (.two 7 8) (.of (.sub (.sub (.sub (.v 0) (.c (.int 0))) (.v 5)) (.c (.int 1)))) .no (.one 9) (.of (.v 8)) .no) ((((start0 11 [.d (eRule r), .d (tI st), .d (eEv e)]).set 3 (.val (.str e.1))).set 4 (.val (.str e.2))).set 5 (.val (optI (some a)))) S = some (.list ((asked (stepAt r a).2.1).map .int), S) := by
          rw [ev_comp2 (xs := (stepAt r a).2.1) (enc := eNeed) (fun n => n.2) (fun i => .int i) (fun _ i => .int i) (by rw [evI_of, r_step rfl (i := a) (r_v rfl) ⟨a0, a1⟩ rfl rfl]; rfl) ?_ fun n hn => ⟨_, rfl, by rw [evI_of, r_v rfl]; rfl, fun i hi => ⟨_, rfl, r_v rfl⟩⟩]
          · unfold asked
            rw [List.map_flatMap]
          · have e : ((stepAt r a).2.1.flatMap fun x => x.2.map fun i => PyData.int i) = (asked (stepAt r a).2.1).map .int := by unfold asked; rw [List.map_flatMap]
            rw [e, List.length_map]
            omega
        rw [xcs_set1 ha]
        have hb : ev (cal phi N (k + m + 3)) (.bi .tuple (.comp (.v 9) (.one 9) (.of (.v 1)) (.yes (.cmp .NotIn (.v 9) (.v 6))))) (((((start0 11 [.d (eRule r), .d (tI st), .d (eEv e)]).set 3 (.val (.str e.1))).set 4 (.val (.str e.2))).set 5 (.val (optI (some a)))).set 6 (.val (.list ((asked (stepAt r a).2.1).map .int)))) S = some (tI (st.filter fun s => !decide (s ∈ asked (stepAt r a).2.1)), S) :=
          r_bi (.e (fun i z => by cases z) (ev_comp (xs := st) (enc := fun a => .int a) (fun s => !decide (s ∈ asked (stepAt r a).2.1)) (fun a => .int a) (by rw [evI_of, r_v rfl]; rfl) (by have := hv.1; omega) fun s hs => ⟨_, rfl, by
            rw [evT_yes]
            exact r_test (r_cmp (.v rfl) (.v rfl) (by simp only [cmpP, memD_lI, Option.map_some])), fun _ => rfl⟩)) rfl
        rw [xcs_set1 hb]
        by_cases c3 : (st.filter fun s => !decide (s ∈ asked (stepAt r a).2.1)) = st
        · have e1 : after r m st e = none := by unfold after; rw [if_neg c1, hn]; simp only; rw [if_neg c2, if_pos c3]
          rw [e1]
          exact ⟨_, xcs_ret1 (r_iteT (r_cmp (.v rfl) (.v rfl) (by rw [cmp_eqT, decide_eq_true c3])) (ev_c _))⟩
        · have e1 : after r m st e = some (fall r (m + 1) (st.filter fun s => !decide (s ∈ asked (stepAt r a).2.1))) := by unfold after; rw [if_neg c1, hn]; simp only; rw [if_neg c2, if_neg c3]
          rw [e1]
          refine ⟨_, xcs_ret1 (r_iteF (r_cmp (.v rfl) (.v rfl) (by rw [cmp_eqT, decide_eq_false c3])) (r_call (.val rfl (.val rfl .nil)) ?_))⟩
          have h := cal_fallen N (k + 1) S r hr m (st.filter fun s => !decide (s ∈ asked (stepAt r a).2.1)) (Nat.le_trans (List.length_filter_le _ _) hm) (hv.filter _)
          have e : k + 1 + m + 2 = k + m + 3 := by omega
          rw [e] at h
          exact h
end Fw

set_option autoImplicit false
set_option linter.all false
set_option maxRecDepth 100000
set_option maxHeartbeats 4000000
/-! loops; follow, refused -/
namespace Fw
open PySem L2

/-- a for that no return leaves: Inv by what has come of the things so far, and how many are left -/
theorem forGo_run {α β : Type} {enc : β → Dt} {b : Dt → Rho → Sto → Res} (Inv : α → Nat → Rho → Sto → Prop) (step : α → β → α) : ∀ (xs : List β) (a : α) (ρ : Rho) (S : Sto),
    (∀ a x n ρ S, x ∈ xs → Inv a (n + 1) ρ S → ∃ ρ' S', b (enc x) ρ S = some (.next, ρ', S') ∧ Inv (step a x) n ρ' S') → Inv a xs.length ρ S → ∃ ρ' S', forGo b (xs.map enc) ρ S = some (.next, ρ', S') ∧ Inv (xs.foldl step a) 0 ρ' S'
  | [], a, ρ, S, _, h => ⟨ρ, S, rfl, h⟩
  | x :: xs, a, ρ, S, hs, h => by
    obtain ⟨ρ1, S1, h1, h2⟩ := hs a x xs.length ρ S List.mem_cons_self h
    obtain ⟨ρ2, S2, h3, h4⟩ := forGo_run Inv step xs (step a x) ρ1 S1 (fun a x n ρ S hx hi => hs a x n ρ S (List.mem_cons_of_mem _ hx) hi) h2
    refine ⟨ρ2, S2, ?_, h4⟩
    rw [List.map_cons, forGo, h1]
    exact h3
def followStep (r : Rule) (m : Nat) (a : List (List Int) × List Int) (e : Ev) : List (List Int) × List Int :=
  (a.1 ++ [(after r m a.2 e).getD a.2], (after r m a.2 e).getD a.2)
def follows (r : Rule) (m : Nat) (es : List Ev) : List (List Int) := (es.foldl (followStep r m) ([], [])).1
/-- a state that stands in order, each step once -/
def Sorted (st : List Int) : Prop := st.Pairwise (· < ·)
theorem valid_len {r : Rule} {st : List Int} (hs : Sorted st) (hv : ∀ a ∈ st, 0 ≤ a ∧ a < r.1.length) : st.length ≤ r.1.length := by
  have nd : st.Nodup := hs.imp fun h e => by omega
  have q := nodup_sub_len st ((List.range r.1.length).map fun (i : Nat) => (i : Int)) nd fun a ha => by
    obtain ⟨h0, h1⟩ := hv a ha
    exact List.mem_map.mpr ⟨a.toNat, List.mem_range.mpr (by omega), by omega⟩
  rw [List.length_map, List.length_range] at q
  exact q
theorem fall_sub (r : Rule) : ∀ (n : Nat) (st : List Int), (fall r n st).Sublist st
  | 0, st => List.Sublist.refl _
  | n + 1, st => by
    unfold fall
    split
    · exact List.Sublist.refl _
    · exact (fall_sub r n _).trans (List.filter_sublist ..)
/-- a good state -/
structure Good (r : Rule) (st : List Int) : Prop where
  so : Sorted st
  inn : ∀ a ∈ st, 0 ≤ a ∧ a < r.1.length
theorem Good.sub {r : Rule} {st st' : List Int} (g : Good r st) (h : st'.Sublist st) : Good r st' := ⟨g.so.sublist h, fun a ha => g.inn a (h.mem ha)⟩
theorem Good.len {r : Rule} {st : List Int} (g : Good r st) : st.length ≤ r.1.length := valid_len g.so g.inn
theorem Good.valid {r : Rule} {st : List Int} (hr : r.Ok) (g : Good r st) : Valid r st := ⟨Nat.le_trans g.len hr.few, g.inn⟩
theorem Good.add {r : Rule} {st : List Int} {a : Int} (g : Good r st) (h0 : 0 ≤ a) (h1 : a < r.1.length) (hn : a ∉ st) : Good r (isort (st ++ [a])) := by
  refine ⟨?_, fun b hb => ?_⟩
  · have nd : (st ++ [a]).Nodup := by
      rw [List.nodup_append]
      refine ⟨g.so.imp fun h e => by omega, List.nodup_cons.mpr ⟨by simp, List.nodup_nil⟩, fun x hx y hy e => ?_⟩
      rw [List.mem_singleton] at hy
      rw [e, hy] at hx
      exact hn hx
    have nd2 : (isort (st ++ [a])).Nodup := (isort_perm _).nodup_iff.mpr nd
    have le : (isort (st ++ [a])).Pairwise (fun x y => decide (x ≤ y) = true) := List.pairwise_mergeSort (fun a b c h1 h2 => by simp only [decide_eq_true_eq] at *; omega) (fun a b => by simp only [Bool.or_eq_true, decide_eq_true_eq]; omega) _
    exact (le.and nd2).imp fun ⟨h1, h2⟩ => by
      rw [decide_eq_true_eq] at h1
      omega
  · rcases List.mem_append.mp ((isort_perm _).mem_iff.mp hb) with z | z
    · exact g.inn b z
    · rw [List.mem_singleton] at z; rw [z]; exact ⟨h0, h1⟩
theorem after_good {r : Rule} {m : Nat} {st st' : List Int} {e : Ev} (g : Good r st) (h : after r m st e = some st') : Good r st' := by
  unfold after at h
  split at h
  · cases h
    exact (g.sub (List.filter_sublist ..)).sub (fall_sub r _ _)
  · split at h
    · cases h
    · rename_i a ha
      obtain ⟨a0, a1, a2⟩ := nexts_head ha
      have hn : a ∉ st := fun z => by
        unfold readyAt at a2
        rw [decide_eq_true z] at a2
        cases a2
      split at h
      · cases h
        exact g.add a0 a1 hn
      · split at h
        · cases h
        · cases h
          exact (g.sub (List.filter_sublist ..)).sub (fall_sub r _ _)
abbrev eEvs (es : List Ev) : Dt := .tuple (es.map eEv)
theorem cmp_isN (o : Option (List Int)) : cmpP .Is (eOpt o) (.d .none) = some o.isNone := by cases o <;> rfl
theorem eOpt_getD (o : Option (List Int)) (st : List Int) : (if o.isNone = true then tI st else eOpt o) = tI (o.getD st) := by cases o <;> rfl
def invF (r : Rule) (es : List Ev) (S : Sto) (a : List (List Int) × List Int) (n : Nat) (ρ : Rho) (S' : Sto) : Prop :=
  S' = S ∧ a.1.length + n ≤ 100000 ∧ Good r a.2 ∧ ∃ x4 x5, ρ = [.val (eRule r), .val (eEvs es), .own (a.1.map tI), .val (tI a.2), x4, x5]
theorem xcs_app {C : Cl} {N : Nat} {ρ : Rho} {S S1 : Sto} {i : Nat} {e : E} {r : Ss} {d : Dt} {ds : List Dt} (h0 : ρ[i]? = some (.own ds)) (h : ev C e ρ S = some (d, S1)) (hl : ds.length + 1 ≤ 16777216) : xcs C N (.cons (.app i e) r) ρ S = xcs C N r (ρ.set i (.own (ds ++ [d]))) S1 := by
  have hla : lstAt ρ S i = true := by unfold lstAt; rw [h0]
  rw [xcs_cons, xc_app, if_pos hla, h]
  simp only [Option.bind_some, change, h0]
  rw [if_pos (fits_of hl)]
  rfl
theorem follow_turn (N k : Nat) (S : Sto) (r : Rule) (hr : r.Ok) (es : List Ev) (a : List (List Int) × List Int) (e : Ev) (n : Nat) (ρ : Rho) (S' : Sto) (hi : invF r es S a (n + 1) ρ S') :
    ∃ ρ' S'', ((bnd (.one 4) (eEv e) ρ).bind fun ρ1 => xcs (cal phi N (k + r.1.length + 4)) N (.cons (.set 5 (.val (.call 5 (.cons (.v 0) (.cons (.v 3) (.cons (.v 4) .nil))))))
    (.cons (.set 3 (.val (.ite (.cmp .Is (.v 5) (.c .none)) (.v 3) (.v 5)))) (.cons (.app 2 (.v 3)) .nil))) ρ1 S') = some (.next, ρ', S'') ∧ invF r es S (followStep r r.1.length a e) n ρ' S'' := by
  obtain ⟨rfl, h1, h2, x4, x5, rfl⟩ := hi
  have ha := cal_after N k S' r hr r.1.length a.2 e h2.len (h2.valid hr)
  refine ⟨[.val (eRule r), .val (eEvs es), .own ((followStep r r.1.length a e).1.map tI), .val (tI (followStep r r.1.length a e).2), .val (eEv e), .val (eOpt (after r r.1.length a.2 e))], S', ?_, rfl, ?_, ?_, _, _, rfl⟩
  · simp only [bnd, Option.bind_some]
    rw [xcs_set1 (r_call (.val rfl (.val rfl (.val rfl .nil))) ha), xcs_set1 (r_ite (x := tI a.2) (y := eOpt (after r r.1.length a.2 e)) (r_cmp (.v rfl) (.e (fun i z => by cases z) (ev_c _)) (cmp_isN _)) (fun _ => r_v rfl) (fun _ => r_v rfl)), eOpt_getD,
      xcs_app (ds := a.1.map tI) rfl (r_v rfl) (by rw [List.length_map]; omega), xcs_nil]
    unfold followStep
    rw [List.map_append]
    rfl
  · show (a.1 ++ [_]).length + n ≤ _
    rw [List.length_append, List.length_singleton]; omega
  · show Good r ((after r r.1.length a.2 e).getD a.2)
    cases q : after r r.1.length a.2 e with
    | none => exact h2
    | some st' => exact after_good h2 q
theorem cal_follow (N k : Nat) (S : Sto) (r : Rule) (hr : r.Ok) (es : List Ev) (hl : es.length ≤ 100000) : cal phi N (k + r.1.length + 5) 6 [.d (eRule r), .d (eEvs es)] S = some (.list ((follows r r.1.length es).map tI), S) := by
  obtain ⟨ρ', S', key, rfl, _, _, x4, x5, rfl⟩ := forGo_run (b := fun x ρ S => (bnd (.one 4) x ρ).bind fun ρ1 => xcs (cal phi N (k + r.1.length + 4)) N (.cons (.set 5 (.val (.call 5 (.cons (.v 0) (.cons (.v 3) (.cons (.v 4) .nil))))))
    (.cons (.set 3 (.val (.ite (.cmp .Is (.v 5) (.c .none)) (.v 3) (.v 5)))) (.cons (.app 2 (.v 3)) .nil))) ρ1 S) (enc := eEv) (invF r es S) (followStep r r.1.length) es ([], []) [.val (eRule r), .val (eEvs es), .own [], .val (tI []), .un, .un] S
    (fun a e n ρ S' he hi => follow_turn N k S r hr es a e n ρ S' hi)
    ⟨rfl, by simpa using hl, ⟨List.Pairwise.nil, fun _ h => nomatch h⟩, .un, .un, rfl⟩
  refine cal_ret (ρ' := [.val (eRule r), .val (eEvs es), .val (.list ((follows r r.1.length es).map tI)), .val (tI (es.foldl (followStep r r.1.length) ([], [])).2), x4, x5]) rfl rfl ?_ rfl
  show xcs _ _ b_follow _ _ = _
  unfold b_follow
  have e1 : evKd (cal phi N (k + r.1.length + 4)) (.own .nil) (start0 6 [.d (eRule r), .d (eEvs es)]) S' = some (.own [], S') := by rw [evKd, evs_nil]; rfl
  have e2 : evKd (cal phi N (k + r.1.length + 4)) (.val (.tup .nil)) (start0 6 [.d (eRule r), .d (eEvs es)]) S' = some (.val (.tuple []), S') := by rw [evKd, r_tup .nil (by decide)]; rfl
  rw [xcs_cons, xc_par, e1]
  simp only [Option.bind_some]
  rw [e2]
  simp only [Option.map_some, Option.bind_some]
  rw [xcs_cons, xc_for _ _ _ rfl, evI_of, r_v rfl]
  have e3 : iterD (eEvs es) = some (es.map eEv) := rfl
  simp only [Option.bind_some, e3, Option.map_some]
  have e4 : ((start0 6 [.d (eRule r), .d (eEvs es)]).set 2 (.own [])).set 3 (.val (.tuple [])) = [.val (eRule r), .val (eEvs es), .own [], .val (tI []), .un, .un] := rfl
  rw [e4, key]
  simp only [Option.bind_some]
  rw [xcs_cons, xc_frz, xc_ret, r_v rfl]
  rfl
end Fw

set_option autoImplicit false
set_option linter.all false
set_option maxRecDepth 100000
set_option maxHeartbeats 400000
/-! the law's own defs: met, ready, next, left -/
namespace Fw
open PySem L2
local macro_rules | `(tactic| walk_at "evC") => `(tactic| ((with_reducible show _ = _); with_reducible assumption))
local macro_rules | `(tactic| walk_at "evE") => `(tactic| first | with_reducible exact ev_c _ | with_reducible apply r_v | with_reducible apply r_call | with_reducible apply r_cmp | with_reducible apply r_sub | with_reducible apply r_bi | with_reducible apply r_bin | with_reducible apply r_tup | with_reducible apply r_lst | with_reducible apply r_comp | with_reducible apply r_comp0 | with_reducible apply r_not | with_reducible apply r_andN | with_reducible apply r_and1 | with_reducible apply r_orN | with_reducible apply r_or1 | with_reducible apply r_isi | with_reducible apply r_bi2 | with_reducible apply r_slc | with_reducible apply r_rev | with_reducible apply r_neg | with_reducible apply r_chain | with_reducible apply r_scr | with_reducible apply i_of | with_reducible apply i_enum' | with_reducible apply i_rng | with_reducible apply i_peek | with_reducible apply k_val | with_reducible apply k_own | with_reducible apply k_copy | with_reducible apply k_ref)
local macro_rules | `(tactic| walk_at "evO") => `(tactic| first | exact Args.nil | (apply Args.val; exact rfl) | (apply Args.ref; exact rfl) | apply args_e | (apply Opd.v; exact rfl) | apply opd_e | (apply opf_val; exact rfl) | (apply Opf.v; exact rfl) | apply opf_e | exact Evs.nil | apply Evs.cons | apply Evs.star | exact IxR'.no | apply IxR'.yes | (with_reducible apply compB_i; intro x hx; refine ⟨_, rfl, ?_, fun hp => ?_⟩) | (with_reducible apply compM_i; intro x hx; refine ⟨_, rfl, ?_⟩) | ((with_reducible show (_ = true → _ = some _)); intro) | ((with_reducible show (_ = false → _ = some _)); intro))
local macro_rules | `(tactic| walk_at "evP") => `(tactic| first | with_reducible exact c_eqI _ _ | with_reducible exact c_eqS _ _ | with_reducible exact c_neI _ _ | with_reducible exact c_neS _ _ | with_reducible exact c_ltI _ _ | with_reducible exact c_leI _ _ | with_reducible exact c_gtI _ _ | with_reducible exact c_geI _ _ | with_reducible exact c_eqB _ _ | with_reducible exact c_neB _ _ | with_reducible exact c_inT (e := PyData.int) (by decide) _ _ | with_reducible exact c_niT (e := PyData.int) (by decide) _ _ | with_reducible exact c_inL (e := PyData.int) (by decide) _ _ | with_reducible exact c_niL (e := PyData.int) (by decide) _ _ | with_reducible exact c_inT (e := PyData.str) (by decide) _ _ | with_reducible exact c_niT (e := PyData.str) (by decide) _ _ | with_reducible exact c_inL (e := PyData.str) (by decide) _ _ | with_reducible exact c_niL (e := PyData.str) (by decide) _ _ | with_reducible exact c_eqTm _ _ | with_reducible exact c_neTm _ _ | with_reducible exact c_eqLm _ _ | with_reducible exact c_neLm _ _ | with_reducible exact c_eqT (by decide) _ _ | with_reducible exact c_neT (by decide) _ _ | with_reducible exact c_eqL (by decide) _ _ | with_reducible exact c_neL (by decide) _ _ | with_reducible exact b_addI _ _ | with_reducible exact b_subI _ _ | with_reducible apply b_addT | with_reducible apply b_addL | with_reducible exact p_lenLm _ _ | with_reducible exact p_lenTm _ _ | with_reducible exact p_lenL _ | with_reducible exact p_lenT _ | with_reducible exact p_tupL _ | with_reducible exact p_tupT _ | with_reducible exact p_lstL _ | with_reducible exact p_lstT _ | with_reducible exact p_all _ _ | with_reducible exact p_any _ _ | with_reducible exact p_intI _ | with_reducible exact p_intB _ | with_reducible exact p_max _ _ | with_reducible exact p_min _ _ | ((with_reducible show subP _ _ = some _); exact rfl) | ((with_reducible show itemsOf _ = some _); exact rfl) | ((with_reducible show iterD _ = some _); exact rfl) | ((with_reducible show look _ _ _ = some _); exact rfl) | ((with_reducible show isV _ = false); exact rfl) | ((with_reducible show List.length _ ≤ 16777216); exact of_decide_eq_true rfl) | ((with_reducible show (_ : Option Slot) = some _); exact rfl))
local macro_rules | `(tactic| walk_at "evt1") => `(tactic| first | walk_at "evE" | walk_at "evO" | walk_at "evC" | walk_at "evP")
local macro_rules | `(tactic| walk_at "evt") => `(tactic| repeat' (walk_at "evt1"))
local macro_rules | `(tactic| walk_at "st1") => `(tactic| first | with_reducible apply w_set | with_reducible apply w_par | with_reducible apply w_par3 | with_reducible apply w_unp | with_reducible apply w_frz | with_reducible apply w_app | with_reducible apply w_ret | with_reducible apply w_nil | with_reducible apply thenQ_n | with_reducible apply thenQ_r | with_reducible apply turnQ_n | with_reducible apply turnQ_r | with_reducible apply fin1 | ((with_reducible show List.set _ _ _ = _); dsimp only [List.set_cons_zero, List.set_cons_succ]; try exact rfl) | ((with_reducible show bnd _ _ _ = some _); dsimp only [bnd, List.set_cons_zero, List.set_cons_succ]; try exact rfl) | ((with_reducible show bnd _ _ _ = some _); exact rfl) | ((with_reducible show freeze _ _ = _); exact rfl) | walk_at "evt1")
local macro_rules | `(tactic| walk_at "st") => `(tactic| repeat' (walk_at "st1"))
structure Rule.Fit (r : Rule) : Prop where
  ok : r.Ok
  six : r.1.length ≤ 6
theorem lmet_gen (N k : Nat) (S : Sto) (ns : List Need) (sd : Dt) (st : List Int) (hm : ∀ x, cmpP .In (.int x) (.d sd) = some (decide (x ∈ st))) (h : ∀ n ∈ ns, n.2.length ≤ 1000) : cal phi N (k + 1) 13 [.d (eNeeds ns), .d sd] S = some (.bool (met ns st), S) := by
  refine wp_eq (fn_law_met ?_)
  refine w_for (xs := ns) (enc := eNeed) (fun left ρ S' => S' = S ∧ met ns st = met left st ∧ ∃ a b c, ρ = [.val (eNeeds ns), .val sd, a, b, c]) rfl (by walk_at "evt") ⟨rfl, rfl, _, _, _, rfl⟩ ?_ ?_
  · rintro n ys ρ S' hn ⟨rfl, h2, a, b, c, rfl⟩
    have hn := h n hn
    refine ⟨_, rfl, ?_⟩
    dsimp only [List.set_cons_zero, List.set_cons_succ]
    apply w_if
    · walk_at "evt"
      · exact hm _
      · omega
    · intro hc; walk_at "st"
      rw [h2]
      simp only [decide_eq_true_eq] at hc
      rw [met, List.all_cons, decide_eq_false (by omega), Bool.false_and]
    · intro hc; walk_at "st"
      simp only [decide_eq_false_iff_not] at hc
      refine ⟨rfl, ?_, _, _, _, rfl⟩
      rw [h2]
      rw [met, List.all_cons, decide_eq_true (by omega), Bool.true_and]
      rfl
  · rintro ρ S' ⟨rfl, h2, a, b, c, rfl⟩
    walk_at "st"
    rw [h2]; rfl
theorem cal_lmet (N k : Nat) (S : Sto) (ns : List Need) (st : List Int) (h : ∀ n ∈ ns, n.2.length ≤ 1000) : cal phi N (k + 1) 13 [.d (eNeeds ns), .d (tI st)] S = some (.bool (met ns st), S) :=
  lmet_gen N k S ns _ st (fun x => c_inT (e := PyData.int) (by decide) st x) h
theorem cal_lmetL (N k : Nat) (S : Sto) (ns : List Need) (st : List Int) (h : ∀ n ∈ ns, n.2.length ≤ 1000) : cal phi N (k + 1) 13 [.d (eNeeds ns), .d (.list (st.map .int))] S = some (.bool (met ns st), S) :=
  lmet_gen N k S ns _ st (fun x => c_inL (e := PyData.int) (by decide) st x) h
local macro_rules | `(tactic| walk_at "evC") => `(tactic| first | with_reducible apply cal_lmet | with_reducible apply cal_lmetL)
theorem s_step {r : Rule} {a : Int} (h : 0 ≤ a ∧ a < r.1.length) : subP (.d (.tuple (r.1.map eStep))) (.int a) = some (eStep (stepAt r a)) := (at_step h.1 h.2).1
local macro_rules | `(tactic| walk_at "evC") => `(tactic| with_reducible apply s_step)
theorem Rule.Ok.at {r : Rule} (hr : r.Ok) {a : Int} (h : 0 ≤ a ∧ a < r.1.length) : ∀ n ∈ (stepAt r a).2.1, n.2.length ≤ 1000 := (hr.needs _ (at_step h.1 h.2).2).2
theorem zipIdx_range' (xs : List Step) : ∀ i ∈ List.range xs.length, xs.getD i (⟨#[]⟩, [], []) ∈ xs := fun i h => by
  have h := List.mem_range.mp h
  rw [List.getD_eq_getElem?_getD, List.getElem?_eq_getElem h]
  exact List.getElem_mem h
theorem cal_lready (N k : Nat) (S : Sto) (r : Rule) (st : List Int) (hr : r.Ok) : cal phi N (k + 2) 14 [.d (eRule r), .d (tI st)] S = some (.list ((readys r st).map .int), S) := by
  have h6 := hr.few
  refine wp_eq (fn_law_ready ?_)
  walk_at "st"
  · omega
  · rename_i x hx _; have := List.mem_range.mp hx; omega
  · rename_i x hx _; have := List.mem_range.mp hx; exact hr.at (by omega)
  · rw [List.length_range]; omega
  · unfold readys
    rw [List.filter_map, List.map_map]
    rfl
local macro_rules | `(tactic| walk_at "evC") => `(tactic| with_reducible apply cal_lready)
theorem cal_lnext (N k : Nat) (S : Sto) (r : Rule) (st : List Int) (desk : Str) (hr : r.Ok) : cal phi N (k + 3) 15 [.d (eRule r), .d (tI st), .d (.str desk)] S = some (optI (nexts r st desk).head?, S) := by
  refine wp_eq (fn_law_next ?_)
  refine w_for (xs := readys r st) (enc := PyData.int) (fun left ρ S' => S' = S ∧ (nexts r st desk).head? = left.find? (fun a => decide ((stepAt r a).1 = desk)) ∧ ∃ a, ρ = [.val (eRule r), .val (tI st), .val (.str desk), a]) rfl (by walk_at "evt"; exact hr) ⟨rfl, by unfold nexts; rw [List.head?_filter], _, rfl⟩ ?_ ?_
  · rintro a ys ρ S' ha ⟨rfl, h2, b, rfl⟩
    refine ⟨_, rfl, ?_⟩
    dsimp only [List.set_cons_zero, List.set_cons_succ]
    apply w_if
    · walk_at "evt"
      exact readys_in ha
    · intro hc; walk_at "st"
      rw [h2]; simp only [List.find?, hc]; rfl
    · intro hc; walk_at "st"
      exact ⟨rfl, by rw [h2]; simp only [List.find?, hc], _, rfl⟩
  · rintro ρ S' ⟨rfl, h2, b, rfl⟩
    walk_at "st"
    rw [h2]; rfl
local macro_rules | `(tactic| walk_at "evC") => `(tactic| with_reducible apply cal_lnext)
theorem fall_fuel (r : Rule) : ∀ (n : Nat) (st : List Int), st.length ≤ n → fall r (n + 1) st = fall r (st.length + 1) st
  | 0, st, h => by have : st.length = 0 := by omega
                   rw [this]
  | n + 1, st, h => by
    show (if keep r st = st then st else fall r (n + 1) (keep r st)) = (if keep r st = st then st else fall r st.length (keep r st))
    by_cases e : keep r st = st
    · rw [if_pos e, if_pos e]
    · rw [if_neg e, if_neg e]
      have h1 := keep_lt e
      obtain ⟨m, hm⟩ : ∃ m, st.length = m + 1 := ⟨st.length - 1, by omega⟩
      rw [hm, fall_fuel r n _ (by omega), fall_fuel r m _ (by omega)]
/-- what stays -/
def fix (r : Rule) (st : List Int) : List Int := fall r (st.length + 1) st
theorem fix_eq (r : Rule) (st : List Int) : fix r st = if keep r st = st then st else fix r (keep r st) := by
  unfold fix
  rw [fall]
  by_cases e : keep r st = st
  · rw [if_pos e, if_pos e]
  · rw [if_neg e, if_neg e]
    have h1 := keep_lt e
    obtain ⟨m, hm⟩ : ∃ m, st.length = m + 1 := ⟨st.length - 1, by omega⟩
    rw [hm, fall_fuel r m _ (by omega)]
theorem isort_sorted {st : List Int} (h : Sorted st) : isort st = st := by
  unfold isort
  exact List.mergeSort_of_pairwise (h.imp fun h => decide_eq_true (by omega))
theorem fix_good {r : Rule} {st : List Int} (g : Good r st) : Good r (fix r st) := g.sub (fall_sub r _ _)
local macro_rules | `(tactic| walk_at "evC") => `(tactic| first | with_reducible exact bi_sortL _ | with_reducible exact bi_sortT _)
theorem cal_lleft (N k : Nat) (S : Sto) (r : Rule) (st : List Int) (hr : r.Fit) (g : Good r st) (hN : 100 ≤ N) : cal phi N (k + 2) 16 [.d (eRule r), .d (.list (st.map .int))] S = some (tI (fix r st), S) := by
  have h6 := hr.six
  have hl := g.len
  refine wp_eq (fn_law_left ?_)
  walk_at "st"
  refine w_whl (N := N) (fun m ρ S' => S' = S ∧ ∃ (cur : List Int) (b : Bool) (x y : Slot), ρ = [.val (eRule r), .val (.list (cur.map .int)), .val (.bool b), x, y] ∧ Good r cur ∧ (if b = true then fix r st = fix r cur ∧ m = cur.length + 1 else fix r st = cur ∧ m = 0)) (st.length + 1) (by omega) ⟨rfl, st, true, _, _, rfl, g, by simp⟩ ?_
  rintro m ρ S' ⟨rfl, cur, b, x, y, rfl, gc, hb⟩
  refine ⟨b, S', r_v rfl, fun hc => ?_, fun hc => ?_⟩
  · subst hc
    simp only [if_true] at hb
    have hcl := gc.len
    walk_at "st"
    · rename_i z hz; exact gc.inn z hz
    · rename_i z hz; exact hr.ok.at (gc.inn z hz)
    · omega
    · have ek : cur.filter (fun x => met (stepAt r x).2.1 cur) = keep r cur := rfl
      rw [ek]
      by_cases e : keep r cur = cur
      · refine ⟨0, by omega, rfl, keep r cur, _, _, _, rfl, gc.sub List.filter_sublist, ?_⟩
        rw [e, decide_eq_false (by omega), if_neg Bool.false_ne_true, hb.1, fix_eq, if_pos e]
        exact ⟨rfl, rfl⟩
      · have h1 := keep_lt e
        refine ⟨(keep r cur).length + 1, by omega, rfl, keep r cur, _, _, _, rfl, gc.sub List.filter_sublist, ?_⟩
        rw [decide_eq_true (by omega), if_pos rfl, hb.1, fix_eq, if_neg e]
        exact ⟨rfl, rfl⟩
  · subst hc
    simp only [Bool.false_eq_true, if_false] at hb
    walk_at "st"
    rw [hb.1, isort_sorted gc.so]
local macro_rules | `(tactic| walk_at "evC") => `(tactic| with_reducible apply cal_lleft)
end Fw

set_option autoImplicit false
set_option linter.all false
set_option maxRecDepth 100000
set_option maxHeartbeats 400000
/-! events, rows of events -/
namespace Fw
open PySem L2
local macro_rules | `(tactic| walk_at "evC") => `(tactic| ((with_reducible show _ = _); with_reducible assumption))
local macro_rules | `(tactic| walk_at "evE") => `(tactic| first | with_reducible exact ev_c _ | with_reducible apply r_v | with_reducible apply r_call | with_reducible apply r_cmp | with_reducible apply r_sub | with_reducible apply r_bi | with_reducible apply r_bin | with_reducible apply r_tup | with_reducible apply r_lst | with_reducible apply r_comp | with_reducible apply r_comp0 | with_reducible apply r_not | with_reducible apply r_andN | with_reducible apply r_and1 | with_reducible apply r_orN | with_reducible apply r_or1 | with_reducible apply r_isi | with_reducible apply r_bi2 | with_reducible apply r_slc | with_reducible apply r_rev | with_reducible apply r_neg | with_reducible apply r_chain | with_reducible apply r_scr | with_reducible apply i_of | with_reducible apply i_enum' | with_reducible apply i_rng | with_reducible apply i_peek | with_reducible apply k_val | with_reducible apply k_own | with_reducible apply k_copy | with_reducible apply k_ref)
local macro_rules | `(tactic| walk_at "evO") => `(tactic| first | exact Args.nil | (apply Args.val; exact rfl) | (apply Args.ref; exact rfl) | apply args_e | (apply Opd.v; exact rfl) | apply opd_e | (apply opf_val; exact rfl) | (apply Opf.v; exact rfl) | apply opf_e | exact Evs.nil | apply Evs.cons | apply Evs.star | exact IxR'.no | apply IxR'.yes | (with_reducible apply compB_i; intro x hx; refine ⟨_, rfl, ?_, fun hp => ?_⟩) | (with_reducible apply compM_i; intro x hx; refine ⟨_, rfl, ?_⟩) | ((with_reducible show (_ = true → _ = some _)); intro) | ((with_reducible show (_ = false → _ = some _)); intro))
local macro_rules | `(tactic| walk_at "evP") => `(tactic| first | with_reducible exact c_eqI _ _ | with_reducible exact c_eqS _ _ | with_reducible exact c_neI _ _ | with_reducible exact c_neS _ _ | with_reducible exact c_ltI _ _ | with_reducible exact c_leI _ _ | with_reducible exact c_gtI _ _ | with_reducible exact c_geI _ _ | with_reducible exact c_eqB _ _ | with_reducible exact c_neB _ _ | with_reducible exact c_inT (e := PyData.int) (by decide) _ _ | with_reducible exact c_niT (e := PyData.int) (by decide) _ _ | with_reducible exact c_inL (e := PyData.int) (by decide) _ _ | with_reducible exact c_niL (e := PyData.int) (by decide) _ _ | with_reducible exact c_inT (e := PyData.str) (by decide) _ _ | with_reducible exact c_niT (e := PyData.str) (by decide) _ _ | with_reducible exact c_inL (e := PyData.str) (by decide) _ _ | with_reducible exact c_niL (e := PyData.str) (by decide) _ _ | with_reducible exact c_eqTm _ _ | with_reducible exact c_neTm _ _ | with_reducible exact c_eqLm _ _ | with_reducible exact c_neLm _ _ | with_reducible exact c_eqT (by decide) _ _ | with_reducible exact c_neT (by decide) _ _ | with_reducible exact c_eqL (by decide) _ _ | with_reducible exact c_neL (by decide) _ _ | with_reducible exact b_addI _ _ | with_reducible exact b_subI _ _ | with_reducible apply b_addT | with_reducible apply b_addL | with_reducible exact p_lenLm _ _ | with_reducible exact p_lenTm _ _ | with_reducible exact p_lenL _ | with_reducible exact p_lenT _ | with_reducible exact p_tupL _ | with_reducible exact p_tupT _ | with_reducible exact p_lstL _ | with_reducible exact p_lstT _ | with_reducible exact p_all _ _ | with_reducible exact p_any _ _ | with_reducible exact p_intI _ | with_reducible exact p_intB _ | with_reducible exact p_max _ _ | with_reducible exact p_min _ _ | ((with_reducible show subP _ _ = some _); exact rfl) | ((with_reducible show itemsOf _ = some _); exact rfl) | ((with_reducible show iterD _ = some _); exact rfl) | ((with_reducible show look _ _ _ = some _); exact rfl) | ((with_reducible show isV _ = false); exact rfl) | ((with_reducible show List.length _ ≤ 16777216); exact of_decide_eq_true rfl) | ((with_reducible show (_ : Option Slot) = some _); exact rfl))
local macro_rules | `(tactic| walk_at "evt1") => `(tactic| first | walk_at "evE" | walk_at "evO" | walk_at "evC" | walk_at "evP")
local macro_rules | `(tactic| walk_at "evt") => `(tactic| repeat' (walk_at "evt1"))
local macro_rules | `(tactic| walk_at "st1") => `(tactic| first | with_reducible apply w_set | with_reducible apply w_par | with_reducible apply w_par3 | with_reducible apply w_unp | with_reducible apply w_frz | with_reducible apply w_app | with_reducible apply w_ret | with_reducible apply w_nil | with_reducible apply thenQ_n | with_reducible apply thenQ_r | with_reducible apply turnQ_n | with_reducible apply turnQ_r | with_reducible apply fin1 | ((with_reducible show List.set _ _ _ = _); dsimp only [List.set_cons_zero, List.set_cons_succ]; try exact rfl) | ((with_reducible show bnd _ _ _ = some _); dsimp only [bnd, List.set_cons_zero, List.set_cons_succ]; try exact rfl) | ((with_reducible show bnd _ _ _ = some _); exact rfl) | ((with_reducible show freeze _ _ = _); exact rfl) | walk_at "evt1")
local macro_rules | `(tactic| walk_at "st") => `(tactic| repeat' (walk_at "st1"))
local macro_rules | `(tactic| walk_at "evC") => `(tactic| first | with_reducible apply cal_lmet | with_reducible apply cal_lmetL)
local macro_rules | `(tactic| walk_at "evC") => `(tactic| with_reducible apply s_step)
local macro_rules | `(tactic| walk_at "evC") => `(tactic| with_reducible apply cal_lready)
local macro_rules | `(tactic| walk_at "evC") => `(tactic| with_reducible apply cal_lnext)
local macro_rules | `(tactic| walk_at "evC") => `(tactic| first | with_reducible exact bi_sortL _ | with_reducible exact bi_sortT _)
local macro_rules | `(tactic| walk_at "evC") => `(tactic| with_reducible apply cal_lleft)
theorem of_self {p : Prop} (h : p) : p := h
theorem Good.filter {r : Rule} {st : List Int} (g : Good r st) (p : Int → Bool) : Good r (st.filter p) := g.sub List.filter_sublist
local macro_rules | `(tactic| walk_at "evC") => `(tactic| first | ((with_reducible apply of_self); with_reducible assumption) | exact Rule.Fit.ok (by assumption) | exact Good.filter (by assumption) _ | exact Good.inn (by assumption) _ (by assumption))
local macro_rules | `(tactic| walk_at "evC") => `(tactic| with_reducible exact cmp_isN _)
theorem cmp_isO (o : Option Int) : cmpP .Is (optI o) (.d .none) = some o.isNone := by cases o <;> rfl
theorem b_snocI {xs : List Int} {a : Int} (h : xs.length ≤ 1000000) : binD .Add (.tuple (xs.map .int)) (.tuple [.int a]) = some (.tuple ((xs ++ [a]).map .int)) := by
  rw [b_addT (by rw [List.length_map]; show xs.length + 1 ≤ _; omega), List.map_append]; rfl
theorem b_catLI {xs ys : List Int} (h : xs.length + ys.length ≤ 16777216) : binD .Add (.list (xs.map .int)) (.list (ys.map .int)) = some (.list ((xs ++ ys).map .int)) := by
  rw [b_addL (by rw [List.length_map, List.length_map]; exact h), List.map_append]
local macro_rules | `(tactic| walk_at "evC") => `(tactic| first | with_reducible exact cmp_isO _ | with_reducible apply b_snocI | with_reducible apply b_catLI)
def aft (r : Rule) (st : List Int) (e : Ev) : Option (List Int) := after r r.1.length st e
theorem fall_fix {r : Rule} {st : List Int} (g : Good r st) : fall r (r.1.length + 1) st = fix r st := fall_fuel r _ _ g.len
theorem aft_eq {r : Rule} {st : List Int} (g : Good r st) (e : Ev) : aft r st e = if e.1 = ("change" : Str) then some (fix r (st.filter fun a => !decide (e.2 ∈ (stepAt r a).2.2)))
  else match (nexts r st e.2).head? with
    | none => none
    | some a => if e.1 = ("sign" : Str) then some (isort (st ++ [a]))
      else if (st.filter fun s => !decide (s ∈ asked (stepAt r a).2.1)) = st then none else some (fix r (st.filter fun s => !decide (s ∈ asked (stepAt r a).2.1))) := by
  unfold aft after
  rw [fall_fix (g.filter _)]
  split
  · rfl
  · cases (nexts r st e.2).head? with
    | none => rfl
    | some a => simp only [fall_fix (g.filter _)]
theorem cal_aft (N k : Nat) (S : Sto) (r : Rule) (st : List Int) (e : Ev) (hr : r.Fit) (g : Good r st) : cal phi N (k + 10) 5 [.d (eRule r), .d (tI st), .d (eEv e)] S = some (eOpt (aft r st e), S) := by
  have h := cal_after N (k + 10 - (r.1.length + 4)) S r hr.ok r.1.length st e g.len (g.valid hr.ok)
  have h6 := hr.six
  have e1 : k + 10 - (r.1.length + 4) + r.1.length + 4 = k + 10 := by omega
  rw [e1] at h
  exact h
local macro_rules | `(tactic| walk_at "evC") => `(tactic| with_reducible apply cal_aft)
def evD (r : Rule) (st : List Int) (e : Ev) : Dt := .tuple [tI ((aft r st e).getD st), .bool (aft r st e).isNone]
theorem filter_len {p : Int → Bool} {st : List Int} : decide (((st.filter p).length : Int) = st.length) = decide (st.filter p = st) := by
  rw [Bool.eq_iff_iff, decide_eq_true_eq, decide_eq_true_eq]
  constructor
  · intro h; exact List.filter_sublist.eq_of_length (by omega)
  · intro h; rw [h]
theorem cal_levent (N k : Nat) (S : Sto) (r : Rule) (st : List Int) (e : Ev) (hr : r.Fit) (g : Good r st) (hN : 100 ≤ N) : cal phi N (k + 10) 17 [.d (eRule r), .d (tI st), .d (eEv e)] S = some (evD r st e, S) := by
  have h6 := hr.six
  have hl := g.len
  refine wp_eq (fn_law_event ?_)
  walk_at "st"
  apply w_if
  · walk_at "evt"
  · intro hc; walk_at "st"
    · omega
    · have hc : e.1 = ("change" : Str) := of_decide_eq_true hc
      unfold evD
      rw [aft_eq g, if_pos hc]
      rfl
  · intro hc
    have hc : ¬ e.1 = ("change" : Str) := of_decide_eq_false hc
    have ha := aft_eq g e
    rw [if_neg hc] at ha
    walk_at "st"
    apply w_if
    · walk_at "evt"
    · intro hc; walk_at "st"
      rw [Option.isNone_iff_eq_none.mp hc] at ha
      unfold evD
      rw [ha]
      rfl
    · intro hn
      cases q : (nexts r st e.2).head? with
      | none => rw [q] at hn; cases hn
      | some a =>
      rw [q] at ha
      simp only at ha
      obtain ⟨a0, a1, _⟩ := nexts_head q
      have ain : 0 ≤ a ∧ a < r.1.length := ⟨a0, a1⟩
      dsimp only [optI]
      walk_at "st"
      apply w_if
      · walk_at "evt"
      · intro hs
        have hs : e.1 = ("sign" : Str) := of_decide_eq_true hs
        rw [if_pos hs] at ha
        walk_at "st"
        · omega
        · unfold evD
          rw [ha]
          rfl
      · intro hs
        have hs : ¬ e.1 = ("sign" : Str) := of_decide_eq_false hs
        rw [if_neg hs] at ha
        walk_at "st"
        have hal := asked_len hr.ok (at_step a0 a1).2
        refine w_for (xs := (stepAt r a).2.1) (enc := eNeed) (fun left ρ S' => S' = S ∧ ∃ acc x y z w u, ρ = [.val (eRule r), .val (tI st), .val (eEv e), .val (.str e.1), .val (.str e.2), .val (.int a), .val (.list (acc.map .int)), x, y, z, w] ∧ acc ++ asked left = asked (stepAt r a).2.1 ∧ u = true) rfl (by walk_at "evt") ⟨rfl, [], _, _, _, _, _, rfl, rfl, rfl⟩ ?_ ?_
        · rintro n ys ρ S' hn ⟨rfl, acc, x, y, z, w, u, rfl, h2, _⟩
          refine ⟨_, rfl, ?_⟩
          have hz : acc.length + (n.2.length + (asked ys).length) = (asked (stepAt r a).2.1).length := by rw [← h2]; simp [asked]
          walk_at "st"
          · omega
          · refine ⟨rfl, acc ++ n.2, _, _, _, _, true, rfl, ?_, rfl⟩
            rw [← h2, List.append_assoc]
            rfl
        · rintro ρ S' ⟨rfl, acc, x, y, z, w, u, rfl, h2, _⟩
          have h2 : acc = asked (stepAt r a).2.1 := by rw [← h2]; simp [asked]
          subst h2
          walk_at "st"
          · omega
          · apply r_ite
            · walk_at "evt"
            · intro hc; walk_at "evt"
            · intro hc; walk_at "evt"
          · rw [filter_len]
            unfold evD
            by_cases hc : (st.filter fun s => !decide (s ∈ asked (stepAt r a).2.1)) = st
            · rw [if_pos hc] at ha
              rw [ha, if_pos (decide_eq_true hc)]
              rfl
            · rw [if_neg hc] at ha
              rw [ha, if_neg (by rw [decide_eq_true_eq]; exact hc)]
              rfl
local macro_rules | `(tactic| walk_at "evC") => `(tactic| with_reducible apply cal_levent)
/-- the states behind events, the refused ones -/
def trace (r : Rule) : List Int → List Ev → List (List Int)
  | _, [] => []
  | st, e :: es => (aft r st e).getD st :: trace r ((aft r st e).getD st) es
def bads (r : Rule) : Nat → List Int → List Ev → List Int
  | _, _, [] => []
  | i, st, e :: es => (if (aft r st e).isNone = true then [(i : Int)] else []) ++ bads r (i + 1) ((aft r st e).getD st) es
theorem aft_good {r : Rule} {st : List Int} (g : Good r st) (e : Ev) : Good r ((aft r st e).getD st) := by
  cases q : aft r st e with
  | none => exact g
  | some st' => exact after_good g q
theorem good_nil {r : Rule} : Good r [] := ⟨List.Pairwise.nil, fun _ h => nomatch h⟩
theorem trace_len (r : Rule) : ∀ (es : List Ev) (st : List Int), (trace r st es).length = es.length
  | [], _ => rfl
  | e :: es, st => by rw [trace, List.length_cons, List.length_cons, trace_len r es]
theorem bads_len (r : Rule) : ∀ (es : List Ev) (i : Nat) (st : List Int), (bads r i st es).length ≤ es.length
  | [], _, _ => Nat.le_refl _
  | e :: es, i, st => by
    have := bads_len r es (i + 1) ((aft r st e).getD st)
    rw [bads, List.length_append, List.length_cons]
    split
    · simp only [List.length_singleton]; omega
    · simp only [List.length_nil]; omega
theorem cal_fol (N k : Nat) (S : Sto) (r : Rule) (es : List Ev) (hr : r.Fit) (hl : es.length ≤ 100000) : cal phi N (k + 11) 6 [.d (eRule r), .d (eEvs es)] S = some (.list ((trace r [] es).map tI), S) := by
  refine wp_eq (fn_follow ?_)
  walk_at "st"
  refine w_for (xs := es) (enc := eEv) (fun left ρ S' => S' = S ∧ ∃ (acc : List (List Int)) (st : List Int) (x y : Slot), ρ = [.val (eRule r), .val (eEvs es), .own (acc.map tI), .val (tI st), x, y] ∧ acc ++ trace r st left = trace r [] es ∧ Good r st) rfl (by walk_at "evt") ⟨rfl, [], [], _, _, rfl, rfl, good_nil⟩ ?_ ?_
  · rintro e ys ρ S' he ⟨rfl, acc, st, x, y, rfl, h2, g⟩
    refine ⟨_, rfl, ?_⟩
    have hz : (acc ++ trace r st (e :: ys)).length = es.length := by rw [h2, trace_len]
    rw [List.length_append] at hz
    walk_at "st"
    · apply r_ite
      · walk_at "evt"
      · intro hc; walk_at "evt"
      · intro hc; walk_at "evt"
    · rw [List.length_map]; rw [trace, List.length_cons] at hz; omega
    · refine ⟨rfl, acc ++ [(aft r st e).getD st], (aft r st e).getD st, _, _, by rw [eOpt_getD, List.map_append]; rfl, ?_, aft_good g e⟩
      · rw [← h2, trace, List.append_assoc]; rfl
  · rintro ρ S' ⟨rfl, acc, st, x, y, rfl, h2, g⟩
    walk_at "st"
    rw [← h2, trace, List.append_nil]
local macro_rules | `(tactic| walk_at "evC") => `(tactic| with_reducible apply cal_fol)
end Fw

set_option autoImplicit false
set_option linter.all false
set_option maxRecDepth 100000
set_option maxHeartbeats 400000
/-! refused, followed; likeness -/
namespace Fw
open PySem L2
local macro_rules | `(tactic| walk_at "evC") => `(tactic| ((with_reducible show _ = _); with_reducible assumption))
local macro_rules | `(tactic| walk_at "evE") => `(tactic| first | with_reducible exact ev_c _ | with_reducible apply r_v | with_reducible apply r_call | with_reducible apply r_cmp | with_reducible apply r_sub | with_reducible apply r_bi | with_reducible apply r_bin | with_reducible apply r_tup | with_reducible apply r_lst | with_reducible apply r_comp | with_reducible apply r_comp0 | with_reducible apply r_not | with_reducible apply r_andN | with_reducible apply r_and1 | with_reducible apply r_orN | with_reducible apply r_or1 | with_reducible apply r_isi | with_reducible apply r_bi2 | with_reducible apply r_slc | with_reducible apply r_rev | with_reducible apply r_neg | with_reducible apply r_chain | with_reducible apply r_scr | with_reducible apply i_of | with_reducible apply i_enum' | with_reducible apply i_rng | with_reducible apply i_peek | with_reducible apply k_val | with_reducible apply k_own | with_reducible apply k_copy | with_reducible apply k_ref)
local macro_rules | `(tactic| walk_at "evO") => `(tactic| first | exact Args.nil | (apply Args.val; exact rfl) | (apply Args.ref; exact rfl) | apply args_e | (apply Opd.v; exact rfl) | apply opd_e | (apply opf_val; exact rfl) | (apply Opf.v; exact rfl) | apply opf_e | exact Evs.nil | apply Evs.cons | apply Evs.star | exact IxR'.no | apply IxR'.yes | (with_reducible apply compB_i; intro x hx; refine ⟨_, rfl, ?_, fun hp => ?_⟩) | (with_reducible apply compM_i; intro x hx; refine ⟨_, rfl, ?_⟩) | ((with_reducible show (_ = true → _ = some _)); intro) | ((with_reducible show (_ = false → _ = some _)); intro))
local macro_rules | `(tactic| walk_at "evP") => `(tactic| first | with_reducible exact c_eqI _ _ | with_reducible exact c_eqS _ _ | with_reducible exact c_neI _ _ | with_reducible exact c_neS _ _ | with_reducible exact c_ltI _ _ | with_reducible exact c_leI _ _ | with_reducible exact c_gtI _ _ | with_reducible exact c_geI _ _ | with_reducible exact c_eqB _ _ | with_reducible exact c_neB _ _ | with_reducible exact c_inT (e := PyData.int) (by decide) _ _ | with_reducible exact c_niT (e := PyData.int) (by decide) _ _ | with_reducible exact c_inL (e := PyData.int) (by decide) _ _ | with_reducible exact c_niL (e := PyData.int) (by decide) _ _ | with_reducible exact c_inT (e := PyData.str) (by decide) _ _ | with_reducible exact c_niT (e := PyData.str) (by decide) _ _ | with_reducible exact c_inL (e := PyData.str) (by decide) _ _ | with_reducible exact c_niL (e := PyData.str) (by decide) _ _ | with_reducible exact c_eqTm _ _ | with_reducible exact c_neTm _ _ | with_reducible exact c_eqLm _ _ | with_reducible exact c_neLm _ _ | with_reducible exact c_eqT (by decide) _ _ | with_reducible exact c_neT (by decide) _ _ | with_reducible exact c_eqL (by decide) _ _ | with_reducible exact c_neL (by decide) _ _ | with_reducible exact b_addI _ _ | with_reducible exact b_subI _ _ | with_reducible apply b_addT | with_reducible apply b_addL | with_reducible exact p_lenLm _ _ | with_reducible exact p_lenTm _ _ | with_reducible exact p_lenL _ | with_reducible exact p_lenT _ | with_reducible exact p_tupL _ | with_reducible exact p_tupT _ | with_reducible exact p_lstL _ | with_reducible exact p_lstT _ | with_reducible exact p_all _ _ | with_reducible exact p_any _ _ | with_reducible exact p_intI _ | with_reducible exact p_intB _ | with_reducible exact p_max _ _ | with_reducible exact p_min _ _ | ((with_reducible show subP _ _ = some _); exact rfl) | ((with_reducible show itemsOf _ = some _); exact rfl) | ((with_reducible show iterD _ = some _); exact rfl) | ((with_reducible show look _ _ _ = some _); exact rfl) | ((with_reducible show isV _ = false); exact rfl) | ((with_reducible show List.length _ ≤ 16777216); exact of_decide_eq_true rfl) | ((with_reducible show (_ : Option Slot) = some _); exact rfl))
local macro_rules | `(tactic| walk_at "evt1") => `(tactic| first | walk_at "evE" | walk_at "evO" | walk_at "evC" | walk_at "evP")
local macro_rules | `(tactic| walk_at "evt") => `(tactic| repeat' (walk_at "evt1"))
local macro_rules | `(tactic| walk_at "st1") => `(tactic| first | with_reducible apply w_set | with_reducible apply w_par | with_reducible apply w_par3 | with_reducible apply w_unp | with_reducible apply w_frz | with_reducible apply w_app | with_reducible apply w_ret | with_reducible apply w_nil | with_reducible apply thenQ_n | with_reducible apply thenQ_r | with_reducible apply turnQ_n | with_reducible apply turnQ_r | with_reducible apply fin1 | ((with_reducible show List.set _ _ _ = _); dsimp only [List.set_cons_zero, List.set_cons_succ]; try exact rfl) | ((with_reducible show bnd _ _ _ = some _); dsimp only [bnd, List.set_cons_zero, List.set_cons_succ]; try exact rfl) | ((with_reducible show bnd _ _ _ = some _); exact rfl) | ((with_reducible show freeze _ _ = _); exact rfl) | walk_at "evt1")
local macro_rules | `(tactic| walk_at "st") => `(tactic| repeat' (walk_at "st1"))
local macro_rules | `(tactic| walk_at "evC") => `(tactic| first | with_reducible apply cal_lmet | with_reducible apply cal_lmetL)
local macro_rules | `(tactic| walk_at "evC") => `(tactic| with_reducible apply s_step)
local macro_rules | `(tactic| walk_at "evC") => `(tactic| with_reducible apply cal_lready)
local macro_rules | `(tactic| walk_at "evC") => `(tactic| with_reducible apply cal_lnext)
local macro_rules | `(tactic| walk_at "evC") => `(tactic| first | with_reducible exact bi_sortL _ | with_reducible exact bi_sortT _)
local macro_rules | `(tactic| walk_at "evC") => `(tactic| with_reducible apply cal_lleft)
local macro_rules | `(tactic| walk_at "evC") => `(tactic| first | ((with_reducible apply of_self); with_reducible assumption) | exact Rule.Fit.ok (by assumption) | exact Good.filter (by assumption) _ | exact Good.inn (by assumption) _ (by assumption))
local macro_rules | `(tactic| walk_at "evC") => `(tactic| with_reducible exact cmp_isN _)
local macro_rules | `(tactic| walk_at "evC") => `(tactic| first | with_reducible exact cmp_isO _ | with_reducible apply b_snocI | with_reducible apply b_catLI)
local macro_rules | `(tactic| walk_at "evC") => `(tactic| with_reducible apply cal_aft)
local macro_rules | `(tactic| walk_at "evC") => `(tactic| with_reducible apply cal_levent)
local macro_rules | `(tactic| walk_at "evC") => `(tactic| with_reducible apply cal_fol)
theorem zipIdx_next {α : Type} {p : α × Nat} {q : List (α × Nat)} {ys : List α} {i : Nat} (h : p :: q = ys.zipIdx i) : ∃ y zs, ys = y :: zs ∧ p = (y, i) ∧ q = zs.zipIdx (i + 1) := by
  cases ys with
  | nil => cases h
  | cons y zs => rw [List.zipIdx_cons] at h; cases h; exact ⟨y, zs, rfl, rfl, rfl⟩
theorem cal_ref (N k : Nat) (S : Sto) (r : Rule) (es : List Ev) (hr : r.Fit) (hl : es.length ≤ 100000) : cal phi N (k + 11) 7 [.d (eRule r), .d (eEvs es)] S = some (.list ((bads r 0 [] es).map .int), S) := by
  refine wp_eq (fn_refused ?_)
  walk_at "st"
  refine w_for (xs := es.zipIdx) (enc := fun p => .tuple [.int (p.2 : Int), eEv p.1]) (fun left ρ S' => S' = S ∧ ∃ (acc : List Int) (st : List Int) (ys : List Ev) (i : Nat) (x y z : Slot), left = ys.zipIdx i ∧ ρ = [.val (eRule r), .val (eEvs es), .own (acc.map .int), .val (tI st), x, y, z] ∧ acc ++ bads r i st ys = bads r 0 [] es ∧ Good r st) rfl (by walk_at "evt") ⟨rfl, [], [], es, 0, _, _, _, rfl, rfl, rfl, good_nil⟩ ?_ ?_
  · rintro p q ρ S' hp ⟨rfl, acc, st, ys, i, x, y, z, hq, rfl, h2, g⟩
    obtain ⟨e, zs, rfl, rfl, rfl⟩ := zipIdx_next hq
    refine ⟨_, rfl, ?_⟩
    have hz : (acc ++ bads r i st (e :: zs)).length ≤ es.length := by rw [h2]; exact bads_len ..
    rw [List.length_append, bads] at hz
    rw [bads] at h2
    walk_at "st"
    apply w_if
    · walk_at "evt"
    · intro hc
      rw [if_pos hc] at h2 hz
      rw [Option.isNone_iff_eq_none.mp hc] at h2
      rw [List.length_append, List.length_singleton] at hz
      walk_at "st"
      · rw [List.length_map]; omega
      · refine ⟨rfl, acc ++ [(i : Int)], st, zs, i + 1, _, _, _, rfl, by rw [List.map_append]; rfl, ?_, g⟩
        · rw [← h2, List.append_assoc]; rfl
    · intro hc
      rw [hc, if_neg Bool.false_ne_true] at h2
      have ee : eOpt (aft r st e) = tI ((aft r st e).getD st) := by
        cases q : aft r st e with
        | none => rw [q] at hc; cases hc
        | some st' => rfl
      walk_at "st"
      refine ⟨rfl, acc, (aft r st e).getD st, zs, i + 1, _, _, _, rfl, by rw [ee], h2, aft_good g e⟩
  · rintro ρ S' ⟨rfl, acc, st, ys, i, x, y, z, hq, rfl, h2, g⟩
    have hy : ys = [] := by cases ys with
      | nil => rfl
      | cons y ys => cases hq
    subst hy
    walk_at "st"
    rw [← h2, bads, List.append_nil]
local macro_rules | `(tactic| walk_at "evC") => `(tactic| with_reducible apply cal_ref)
theorem b_rep1 {b : Bool} (i : Int) : binD .Mult (.list [.int i]) (.int (if b then 1 else 0)) = some (.list ((if b = true then [i] else []).map .int)) := by
  rw [b_mulL (by split <;> omega) (by split <;> omega) (by simp)]
  cases b <;> rfl
local macro_rules | `(tactic| walk_at "evC") => `(tactic| with_reducible exact b_rep1 _)
theorem cal_lfol (N k : Nat) (S : Sto) (r : Rule) (es : List Ev) (hr : r.Fit) (hN : 100 ≤ N) (hl : es.length ≤ 100000) : cal phi N (k + 11) 21 [.d (eRule r), .d (eEvs es)] S = some (.tuple [.list ((trace r [] es).map tI), .list ((bads r 0 [] es).map .int)], S) := by
  refine wp_eq (fn_law_followed ?_)
  walk_at "st"
  refine w_for (xs := es.zipIdx) (enc := fun p => .tuple [.int (p.2 : Int), eEv p.1]) (fun left ρ S' => S' = S ∧ ∃ (acc : List (List Int)) (wr : List Int) (st : List Int) (ys : List Ev) (i : Nat) (x y z : Slot), left = ys.zipIdx i ∧ ρ = [.val (eRule r), .val (eEvs es), .own (acc.map tI), .val (.list (wr.map .int)), .val (tI st), x, y, z] ∧ acc ++ trace r st ys = trace r [] es ∧ wr ++ bads r i st ys = bads r 0 [] es ∧ Good r st) rfl (by walk_at "evt") ⟨rfl, [], [], [], es, 0, _, _, _, rfl, rfl, rfl, rfl, good_nil⟩ ?_ ?_
  · rintro p q ρ S' hp ⟨rfl, acc, wr, st, ys, i, x, y, z, hq, rfl, h2, h3, g⟩
    obtain ⟨e, zs, rfl, rfl, rfl⟩ := zipIdx_next hq
    refine ⟨_, rfl, ?_⟩
    have hz : (acc ++ trace r st (e :: zs)).length = es.length := by rw [h2, trace_len]
    have hw : (wr ++ bads r i st (e :: zs)).length ≤ es.length := by rw [h3]; exact bads_len ..
    rw [List.length_append] at hz hw
    rw [bads, List.length_append] at hw
    rw [trace, List.length_cons] at hz
    rw [bads] at h3
    rw [trace] at h2
    walk_at "st"
    · rw [List.length_map]; omega
    · omega
    · refine ⟨rfl, acc ++ [(aft r st e).getD st], wr ++ (if (aft r st e).isNone = true then [(i : Int)] else []), (aft r st e).getD st, zs, i + 1, _, _, _, rfl, by rw [List.map_append, List.map_append]; rfl, ?_, ?_, aft_good g e⟩
      · rw [← h2, List.append_assoc]; rfl
      · rw [← h3, List.append_assoc]
  · rintro ρ S' ⟨rfl, acc, wr, st, ys, i, x, y, z, hq, rfl, h2, h3, g⟩
    have hy : ys = [] := by cases ys with
      | nil => rfl
      | cons y ys => cases hq
    subst hy
    walk_at "st"
    rw [← h2, ← h3, bads, trace, List.append_nil, List.append_nil]
local macro_rules | `(tactic| walk_at "evC") => `(tactic| with_reducible apply cal_lfol)
end Fw

set_option autoImplicit false
set_option linter.all false
set_option maxRecDepth 100000
set_option maxHeartbeats 400000
/-! likeness -/
namespace Fw
open PySem L2
local macro_rules | `(tactic| walk_at "evC") => `(tactic| ((with_reducible show _ = _); with_reducible assumption))
local macro_rules | `(tactic| walk_at "evE") => `(tactic| first | with_reducible exact ev_c _ | with_reducible apply r_v | with_reducible apply r_call | with_reducible apply r_cmp | with_reducible apply r_sub | with_reducible apply r_bi | with_reducible apply r_bin | with_reducible apply r_tup | with_reducible apply r_lst | with_reducible apply r_comp | with_reducible apply r_comp0 | with_reducible apply r_not | with_reducible apply r_andN | with_reducible apply r_and1 | with_reducible apply r_orN | with_reducible apply r_or1 | with_reducible apply r_isi | with_reducible apply r_bi2 | with_reducible apply r_slc | with_reducible apply r_rev | with_reducible apply r_neg | with_reducible apply r_chain | with_reducible apply r_scr | with_reducible apply i_of | with_reducible apply i_enum' | with_reducible apply i_rng | with_reducible apply i_peek | with_reducible apply k_val | with_reducible apply k_own | with_reducible apply k_copy | with_reducible apply k_ref)
local macro_rules | `(tactic| walk_at "evO") => `(tactic| first | exact Args.nil | (apply Args.val; exact rfl) | (apply Args.ref; exact rfl) | apply args_e | (apply Opd.v; exact rfl) | apply opd_e | (apply opf_val; exact rfl) | (apply Opf.v; exact rfl) | apply opf_e | exact Evs.nil | apply Evs.cons | apply Evs.star | exact IxR'.no | apply IxR'.yes | (with_reducible apply compB_i; intro x hx; refine ⟨_, rfl, ?_, fun hp => ?_⟩) | (with_reducible apply compM_i; intro x hx; refine ⟨_, rfl, ?_⟩) | ((with_reducible show (_ = true → _ = some _)); intro) | ((with_reducible show (_ = false → _ = some _)); intro))
local macro_rules | `(tactic| walk_at "evP") => `(tactic| first | with_reducible exact c_eqI _ _ | with_reducible exact c_eqS _ _ | with_reducible exact c_neI _ _ | with_reducible exact c_neS _ _ | with_reducible exact c_ltI _ _ | with_reducible exact c_leI _ _ | with_reducible exact c_gtI _ _ | with_reducible exact c_geI _ _ | with_reducible exact c_eqB _ _ | with_reducible exact c_neB _ _ | with_reducible exact c_inT (e := PyData.int) (by decide) _ _ | with_reducible exact c_niT (e := PyData.int) (by decide) _ _ | with_reducible exact c_inL (e := PyData.int) (by decide) _ _ | with_reducible exact c_niL (e := PyData.int) (by decide) _ _ | with_reducible exact c_inT (e := PyData.str) (by decide) _ _ | with_reducible exact c_niT (e := PyData.str) (by decide) _ _ | with_reducible exact c_inL (e := PyData.str) (by decide) _ _ | with_reducible exact c_niL (e := PyData.str) (by decide) _ _ | with_reducible exact c_eqTm _ _ | with_reducible exact c_neTm _ _ | with_reducible exact c_eqLm _ _ | with_reducible exact c_neLm _ _ | with_reducible exact c_eqT (by decide) _ _ | with_reducible exact c_neT (by decide) _ _ | with_reducible exact c_eqL (by decide) _ _ | with_reducible exact c_neL (by decide) _ _ | with_reducible exact b_addI _ _ | with_reducible exact b_subI _ _ | with_reducible apply b_addT | with_reducible apply b_addL | with_reducible exact p_lenLm _ _ | with_reducible exact p_lenTm _ _ | with_reducible exact p_lenL _ | with_reducible exact p_lenT _ | with_reducible exact p_tupL _ | with_reducible exact p_tupT _ | with_reducible exact p_lstL _ | with_reducible exact p_lstT _ | with_reducible exact p_all _ _ | with_reducible exact p_any _ _ | with_reducible exact p_intI _ | with_reducible exact p_intB _ | with_reducible exact p_max _ _ | with_reducible exact p_min _ _ | ((with_reducible show subP _ _ = some _); exact rfl) | ((with_reducible show itemsOf _ = some _); exact rfl) | ((with_reducible show iterD _ = some _); exact rfl) | ((with_reducible show look _ _ _ = some _); exact rfl) | ((with_reducible show isV _ = false); exact rfl) | ((with_reducible show List.length _ ≤ 16777216); exact of_decide_eq_true rfl) | ((with_reducible show (_ : Option Slot) = some _); exact rfl))
local macro_rules | `(tactic| walk_at "evt1") => `(tactic| first | walk_at "evE" | walk_at "evO" | walk_at "evC" | walk_at "evP")
local macro_rules | `(tactic| walk_at "evt") => `(tactic| repeat' (walk_at "evt1"))
local macro_rules | `(tactic| walk_at "st1") => `(tactic| first | with_reducible apply w_set | with_reducible apply w_par | with_reducible apply w_par3 | with_reducible apply w_unp | with_reducible apply w_frz | with_reducible apply w_app | with_reducible apply w_ret | with_reducible apply w_nil | with_reducible apply thenQ_n | with_reducible apply thenQ_r | with_reducible apply turnQ_n | with_reducible apply turnQ_r | with_reducible apply fin1 | ((with_reducible show List.set _ _ _ = _); dsimp only [List.set_cons_zero, List.set_cons_succ]; try exact rfl) | ((with_reducible show bnd _ _ _ = some _); dsimp only [bnd, List.set_cons_zero, List.set_cons_succ]; try exact rfl) | ((with_reducible show bnd _ _ _ = some _); exact rfl) | ((with_reducible show freeze _ _ = _); exact rfl) | walk_at "evt1")
local macro_rules | `(tactic| walk_at "st") => `(tactic| repeat' (walk_at "st1"))
local macro_rules | `(tactic| walk_at "evC") => `(tactic| first | with_reducible apply cal_lmet | with_reducible apply cal_lmetL)
local macro_rules | `(tactic| walk_at "evC") => `(tactic| with_reducible apply s_step)
local macro_rules | `(tactic| walk_at "evC") => `(tactic| with_reducible apply cal_lready)
local macro_rules | `(tactic| walk_at "evC") => `(tactic| with_reducible apply cal_lnext)
local macro_rules | `(tactic| walk_at "evC") => `(tactic| first | with_reducible exact bi_sortL _ | with_reducible exact bi_sortT _)
local macro_rules | `(tactic| walk_at "evC") => `(tactic| with_reducible apply cal_lleft)
local macro_rules | `(tactic| walk_at "evC") => `(tactic| first | ((with_reducible apply of_self); with_reducible assumption) | exact Rule.Fit.ok (by assumption) | exact Good.filter (by assumption) _ | exact Good.inn (by assumption) _ (by assumption))
local macro_rules | `(tactic| walk_at "evC") => `(tactic| with_reducible exact cmp_isN _)
local macro_rules | `(tactic| walk_at "evC") => `(tactic| first | with_reducible exact cmp_isO _ | with_reducible apply b_snocI | with_reducible apply b_catLI)
local macro_rules | `(tactic| walk_at "evC") => `(tactic| with_reducible apply cal_aft)
local macro_rules | `(tactic| walk_at "evC") => `(tactic| with_reducible apply cal_levent)
local macro_rules | `(tactic| walk_at "evC") => `(tactic| with_reducible apply cal_fol)
local macro_rules | `(tactic| walk_at "evC") => `(tactic| with_reducible apply cal_ref)
local macro_rules | `(tactic| walk_at "evC") => `(tactic| with_reducible exact b_rep1 _)
local macro_rules | `(tactic| walk_at "evC") => `(tactic| with_reducible apply cal_lfol)
mutual
def nice : Dt → Bool
  | .list ds => decide (ds.length ≤ 16777216) && niceAll ds
  | .tuple ds => decide (ds.length ≤ 16777216) && niceAll ds
  | .dict _ => false
  | _ => true
def niceAll : List Dt → Bool
  | [] => true
  | d :: ds => nice d && niceAll ds
end
theorem niceAll_mem : ∀ {ds : List Dt} {d : Dt}, niceAll ds = true → d ∈ ds → nice d = true
  | x :: xs, d, h, hd => by
    rw [niceAll, Bool.and_eq_true] at h
    rcases List.mem_cons.mp hd with rfl | z
    · exact h.1
    · exact niceAll_mem h.2 z
theorem niceAll_map {α : Type} {e : α → Dt} : ∀ {xs : List α}, (∀ x ∈ xs, nice (e x) = true) → niceAll (xs.map e) = true
  | [], _ => rfl
  | x :: xs, h => by rw [List.map_cons, niceAll, h x List.mem_cons_self, niceAll_map fun y hy => h y (List.mem_cons_of_mem _ hy)]; rfl
theorem depthAll_mem : ∀ {ds : List Dt} {d : Dt}, d ∈ ds → d.depth ≤ PyData.depthAll ds
  | x :: xs, d, hd => by
    rw [PyData.depthAll]
    rcases List.mem_cons.mp hd with rfl | z
    · omega
    · have := depthAll_mem z; omega
theorem s_rawL {ds : List Dt} {i : Nat} (h : i < ds.length) : subP (.d (.list ds)) (.int (i : Int)) = some ds[i] := by
  show atI ds _ = _
  unfold atI
  rw [ixN_ok (by omega) (by omega), Option.bind_some, Int.toNat_natCast, List.getElem?_eq_getElem h]
theorem s_rawT {ds : List Dt} {i : Nat} (h : i < ds.length) : subP (.d (.tuple ds)) (.int (i : Int)) = some ds[i] := s_rawL h
theorem like_row {N k : Nat} {S : Sto} {ds : List Dt} (hl : ds.length ≤ 16777216) (ih : ∀ x ∈ ds, cal phi N k 9 [.d x, .d x] S = some (.bool true, S)) (x : Dt) (hx : x = .list ds ∨ x = .tuple ds) :
    ev (cal phi N k) (.cmp .Eq (.comp (.v 2) (.one 2) (.rng (.bi .len (.v 0))) (.yes (.not (.call 9 (.cons (.sub (.v 0) (.v 2)) (.cons (.sub (.v 1) (.v 2)) .nil)))))) (.lst .nil)) [.val x, .val x, .un] S = some (.bool true, S) := by
  have e : ev (cal phi N k) (.comp (.v 2) (.one 2) (.rng (.bi .len (.v 0))) (.yes (.not (.call 9 (.cons (.sub (.v 0) (.v 2)) (.cons (.sub (.v 1) (.v 2)) .nil)))))) [.val x, .val x, .un] S = some (.list (((List.range ds.length).filter fun _ => false).map fun (i : Nat) => .int (i : Int)), S) := by
    refine r_comp (xs := List.range ds.length) (enc := fun (i : Nat) => .int (i : Int)) (p := fun _ => false) (h := fun (i : Nat) => .int (i : Int)) (i_rng (n := ds.length) ?_ hl) (compB_i fun i hi => ⟨_, rfl, r_not (b0 := true) ?_, fun z => by cases z⟩) (by rw [List.length_range]; exact hl)
    · rcases hx with rfl | rfl
      · walk_at "evt"
      · walk_at "evt"
    · have hi := List.mem_range.mp hi
      rcases hx with rfl | rfl
      · exact r_call (.e (fun i z => by cases z) (r_sub (opf_val rfl) (r_v rfl) (s_rawL hi)) (.e (fun i z => by cases z) (r_sub (opf_val rfl) (r_v rfl) (s_rawL hi)) .nil)) (ih _ (List.getElem_mem hi))
      · exact r_call (.e (fun i z => by cases z) (r_sub (opf_val rfl) (r_v rfl) (s_rawT hi)) (.e (fun i z => by cases z) (r_sub (opf_val rfl) (r_v rfl) (s_rawT hi)) .nil)) (ih _ (List.getElem_mem hi))
  rw [List.filter_eq_nil_iff.mpr (by simp)] at e
  exact r_cmp (.e (fun i z => by cases z) e) (.e (fun i z => by cases z) (r_lst .nil (by decide))) (c_eqL0 _)
theorem like_end {N k : Nat} {S : Sto} {x : Dt} (h1 : (isTy x .list || isTy x .tuple) = false) (h2 : PyData.eqv x x = true) (h3 : x.depth = 0) : cal phi N (k + 1) 9 [.d x, .d x] S = some (.bool true, S) := by
  refine wp_eq (fn_law_like ?_)
  have t : (List.any [Ty.list, Ty.tuple] fun t => isTy x t) = false := by
    rw [List.any_cons, List.any_cons, List.any_nil, Bool.or_false]; exact h1
  refine w_ifF (S1 := S) ?_ ?_
  · rw [r_isi (r_v (d := x) rfl), t]
  walk_at "st"
  refine w_ifF (S1 := S) ?_ ?_
  · rw [r_isi (r_v (d := x) rfl), t]
  walk_at "st"
  · show cmpP .Eq x (.d x) = some true
    simp only [cmpP]
    rw [if_pos (sh_l (by omega)), h2]
  · rw [decide_eq_true rfl]; rfl
theorem like_list {N k : Nat} {S : Sto} {ds : List Dt} (hl : ds.length ≤ 16777216) (ih : ∀ x ∈ ds, cal phi N k 9 [.d x, .d x] S = some (.bool true, S)) (x : Dt) (hx : x = .list ds ∨ x = .tuple ds) : cal phi N (k + 1) 9 [.d x, .d x] S = some (.bool true, S) := by
  refine wp_eq (fn_law_like ?_)
  have e := like_row hl ih x hx
  refine w_ifT (S1 := S) ?_ ?_
  · rw [r_isi (r_v (d := x) rfl)]; rcases hx with rfl | rfl <;> rfl
  refine w_ifF (S1 := S) ?_ ?_
  · rcases hx with rfl | rfl
    · refine r_conv (d := .bool (false || false)) ?_ (by simp)
      walk_at "evt"
      · exact (c_neB true true)
      · exact (c_neB false false)
    · refine r_conv (d := .bool (false || false)) ?_ (by simp)
      walk_at "evt"
      · exact (c_neB false false)
      · exact (c_neB true true)
  walk_at "st"
  refine w_ifF (S1 := S) ?_ ?_
  · rcases hx with rfl | rfl
    · refine r_conv (d := .bool (!decide ((ds.length : Int) = ds.length))) ?_ (by simp)
      walk_at "evt"
    · refine r_conv (d := .bool (!decide ((ds.length : Int) = ds.length))) ?_ (by simp)
      walk_at "evt"
  refine w_nil (thenQ_n ?_)
  refine w_ret e ?_
  exact fin1 rfl
theorem like_n (N : Nat) (S : Sto) : ∀ (n : Nat) (d : Dt) (k : Nat), d.depth ≤ n → nice d = true → cal phi N (k + n + 1) 9 [.d d, .d d] S = some (.bool true, S) := by
  intro n
  induction n with
  | zero =>
    intro d k hd hn
    cases d with
    | list ds => rw [PyData.depth] at hd; omega
    | tuple ds => rw [PyData.depth] at hd; omega
    | dict _ => cases hn
    | none => exact like_end rfl (by simp [PyData.eqv]) (by simp [PyData.depth])
    | bool b => exact like_end rfl (by simp [PyData.eqv]) (by simp [PyData.depth])
    | int b => exact like_end rfl (by simp [PyData.eqv]) (by simp [PyData.depth])
    | str b => exact like_end rfl (by simp [PyData.eqv]) (by simp [PyData.depth])
  | succ n ih =>
    intro d k hd hn
    cases d with
    | list ds =>
      rw [nice, Bool.and_eq_true, decide_eq_true_eq] at hn
      rw [PyData.depth] at hd
      exact like_list hn.1 (fun x hx => ih x k (by have := depthAll_mem hx; omega) (niceAll_mem hn.2 hx)) _ (.inl rfl)
    | tuple ds =>
      rw [nice, Bool.and_eq_true, decide_eq_true_eq] at hn
      rw [PyData.depth] at hd
      exact like_list hn.1 (fun x hx => ih x k (by have := depthAll_mem hx; omega) (niceAll_mem hn.2 hx)) _ (.inr rfl)
    | dict _ => cases hn
    | none => exact like_end rfl (by simp [PyData.eqv]) (by simp [PyData.depth])
    | bool b => exact like_end rfl (by simp [PyData.eqv]) (by simp [PyData.depth])
    | int b => exact like_end rfl (by simp [PyData.eqv]) (by simp [PyData.depth])
    | str b => exact like_end rfl (by simp [PyData.eqv]) (by simp [PyData.depth])
/-- the same thing twice, written in two ways -/
theorem cal_like {N k : Nat} {S : Sto} {d d' : Dt} (e : d = d') (hd : d.depth ≤ 8) (hn : nice d = true) : cal phi N (k + 9) 9 [.d d, .d d'] S = some (.bool true, S) := by
  subst e
  exact like_n N S 8 d k hd hn
end Fw

set_option autoImplicit false
set_option linter.all false
set_option maxRecDepth 100000
set_option maxHeartbeats 400000
/-! the tape -/
namespace Fw
open PySem L2
local macro_rules | `(tactic| walk_at "evC") => `(tactic| ((with_reducible show _ = _); with_reducible assumption))
local macro_rules | `(tactic| walk_at "evE") => `(tactic| first | with_reducible exact ev_c _ | with_reducible apply r_v | with_reducible apply r_call | with_reducible apply r_cmp | with_reducible apply r_sub | with_reducible apply r_bi | with_reducible apply r_bin | with_reducible apply r_tup | with_reducible apply r_lst | with_reducible apply r_comp | with_reducible apply r_comp0 | with_reducible apply r_not | with_reducible apply r_andN | with_reducible apply r_and1 | with_reducible apply r_orN | with_reducible apply r_or1 | with_reducible apply r_isi | with_reducible apply r_bi2 | with_reducible apply r_slc | with_reducible apply r_rev | with_reducible apply r_neg | with_reducible apply r_chain | with_reducible apply r_scr | with_reducible apply i_of | with_reducible apply i_enum' | with_reducible apply i_rng | with_reducible apply i_peek | with_reducible apply k_val | with_reducible apply k_own | with_reducible apply k_copy | with_reducible apply k_ref)
local macro_rules | `(tactic| walk_at "evO") => `(tactic| first | exact Args.nil | (apply Args.val; exact rfl) | (apply Args.ref; exact rfl) | apply args_e | (apply Opd.v; exact rfl) | apply opd_e | (apply opf_val; exact rfl) | (apply Opf.v; exact rfl) | apply opf_e | exact Evs.nil | apply Evs.cons | apply Evs.star | exact IxR'.no | apply IxR'.yes | (with_reducible apply compB_i; intro x hx; refine ⟨_, rfl, ?_, fun hp => ?_⟩) | (with_reducible apply compM_i; intro x hx; refine ⟨_, rfl, ?_⟩) | ((with_reducible show (_ = true → _ = some _)); intro) | ((with_reducible show (_ = false → _ = some _)); intro))
local macro_rules | `(tactic| walk_at "evP") => `(tactic| first | with_reducible exact c_eqI _ _ | with_reducible exact c_eqS _ _ | with_reducible exact c_neI _ _ | with_reducible exact c_neS _ _ | with_reducible exact c_ltI _ _ | with_reducible exact c_leI _ _ | with_reducible exact c_gtI _ _ | with_reducible exact c_geI _ _ | with_reducible exact c_eqB _ _ | with_reducible exact c_neB _ _ | with_reducible exact c_inT (e := PyData.int) (by decide) _ _ | with_reducible exact c_niT (e := PyData.int) (by decide) _ _ | with_reducible exact c_inL (e := PyData.int) (by decide) _ _ | with_reducible exact c_niL (e := PyData.int) (by decide) _ _ | with_reducible exact c_inT (e := PyData.str) (by decide) _ _ | with_reducible exact c_niT (e := PyData.str) (by decide) _ _ | with_reducible exact c_inL (e := PyData.str) (by decide) _ _ | with_reducible exact c_niL (e := PyData.str) (by decide) _ _ | with_reducible exact c_eqTm _ _ | with_reducible exact c_neTm _ _ | with_reducible exact c_eqLm _ _ | with_reducible exact c_neLm _ _ | with_reducible exact c_eqT (by decide) _ _ | with_reducible exact c_neT (by decide) _ _ | with_reducible exact c_eqL (by decide) _ _ | with_reducible exact c_neL (by decide) _ _ | with_reducible exact b_addI _ _ | with_reducible exact b_subI _ _ | with_reducible apply b_addT | with_reducible apply b_addL | with_reducible exact p_lenLm _ _ | with_reducible exact p_lenTm _ _ | with_reducible exact p_lenL _ | with_reducible exact p_lenT _ | with_reducible exact p_tupL _ | with_reducible exact p_tupT _ | with_reducible exact p_lstL _ | with_reducible exact p_lstT _ | with_reducible exact p_all _ _ | with_reducible exact p_any _ _ | with_reducible exact p_intI _ | with_reducible exact p_intB _ | with_reducible exact p_max _ _ | with_reducible exact p_min _ _ | ((with_reducible show subP _ _ = some _); exact rfl) | ((with_reducible show itemsOf _ = some _); exact rfl) | ((with_reducible show iterD _ = some _); exact rfl) | ((with_reducible show look _ _ _ = some _); exact rfl) | ((with_reducible show isV _ = false); exact rfl) | ((with_reducible show List.length _ ≤ 16777216); exact of_decide_eq_true rfl) | ((with_reducible show (_ : Option Slot) = some _); exact rfl))
local macro_rules | `(tactic| walk_at "evt1") => `(tactic| first | walk_at "evE" | walk_at "evO" | walk_at "evC" | walk_at "evP")
local macro_rules | `(tactic| walk_at "evt") => `(tactic| repeat' (walk_at "evt1"))
local macro_rules | `(tactic| walk_at "st1") => `(tactic| first | with_reducible apply w_set | with_reducible apply w_par | with_reducible apply w_par3 | with_reducible apply w_unp | with_reducible apply w_frz | with_reducible apply w_app | with_reducible apply w_ret | with_reducible apply w_nil | with_reducible apply thenQ_n | with_reducible apply thenQ_r | with_reducible apply turnQ_n | with_reducible apply turnQ_r | with_reducible apply fin1 | ((with_reducible show List.set _ _ _ = _); dsimp only [List.set_cons_zero, List.set_cons_succ]; try exact rfl) | ((with_reducible show bnd _ _ _ = some _); dsimp only [bnd, List.set_cons_zero, List.set_cons_succ]; try exact rfl) | ((with_reducible show bnd _ _ _ = some _); exact rfl) | ((with_reducible show freeze _ _ = _); exact rfl) | walk_at "evt1")
local macro_rules | `(tactic| walk_at "st") => `(tactic| repeat' (walk_at "st1"))
local macro_rules | `(tactic| walk_at "evC") => `(tactic| first | with_reducible apply cal_lmet | with_reducible apply cal_lmetL)
local macro_rules | `(tactic| walk_at "evC") => `(tactic| with_reducible apply s_step)
local macro_rules | `(tactic| walk_at "evC") => `(tactic| with_reducible apply cal_lready)
local macro_rules | `(tactic| walk_at "evC") => `(tactic| with_reducible apply cal_lnext)
local macro_rules | `(tactic| walk_at "evC") => `(tactic| first | with_reducible exact bi_sortL _ | with_reducible exact bi_sortT _)
local macro_rules | `(tactic| walk_at "evC") => `(tactic| with_reducible apply cal_lleft)
local macro_rules | `(tactic| walk_at "evC") => `(tactic| first | ((with_reducible apply of_self); with_reducible assumption) | exact Rule.Fit.ok (by assumption) | exact Good.filter (by assumption) _ | exact Good.inn (by assumption) _ (by assumption))
local macro_rules | `(tactic| walk_at "evC") => `(tactic| with_reducible exact cmp_isN _)
local macro_rules | `(tactic| walk_at "evC") => `(tactic| first | with_reducible exact cmp_isO _ | with_reducible apply b_snocI | with_reducible apply b_catLI)
local macro_rules | `(tactic| walk_at "evC") => `(tactic| with_reducible apply cal_aft)
local macro_rules | `(tactic| walk_at "evC") => `(tactic| with_reducible apply cal_levent)
local macro_rules | `(tactic| walk_at "evC") => `(tactic| with_reducible apply cal_fol)
local macro_rules | `(tactic| walk_at "evC") => `(tactic| with_reducible apply cal_ref)
local macro_rules | `(tactic| walk_at "evC") => `(tactic| with_reducible exact b_rep1 _)
local macro_rules | `(tactic| walk_at "evC") => `(tactic| with_reducible apply cal_lfol)
structure Tape where
  ns : List Int
  a : Int
  b : Int
  ha : 0 ≤ a
  hb : 0 ≤ b
def tpO (t : Tape) : Ob := .lst [.list (t.ns.map .int), .int t.a, .int t.b]
section
variable {C : Cl} {N : Nat} {ρ ρ' : Rho} {S S1 S2 : Sto} {a b e : E} {r : Ss} {Q : RQ} {x y d : Dt}
/-- a name's object is read behind the index -/
theorem r_subv {i : E} {j : Nat} {p : Pv} (hb : ev C i ρ S = some (y, S2)) (hl : look ρ S2 j = some p) (h : subP p y = some d) : ev C (.sub (.v j) i) ρ S = some (d, S2) := r_sub (.v hl) hb h
theorem w_putS {i k : Nat} {j : Int} {ds : List Dt} {m : Nat} (hv : ev C e ρ S = some (d, S1)) (hj : ev C a ρ S1 = some (.int j, S2)) (hi : ρ[i]? = some (.ref k)) (hk : S2[k]? = some (.lst ds)) (hm : ixD ds.length j = some m) (w : Wp (xcs C N r ρ (S2.set k (.lst (ds.set m d)))) Q) :
    Wp (xcs C N (.cons (.put i a e) r) ρ S) Q := by
  refine w_cons (Wp.of (r := (Out.next, ρ, S2.set k (.lst (ds.set m d)))) ?_ w)
  rw [xc_put, hv, Option.bind_some, hj, Option.bind_some]
  simp only [change, hi, hk, hm, Option.map_some]
theorem b_mulI {i j : Int} (h : within i = true ∨ within j = true) : binD .Mult (.int i) (.int j) = some (.int (i * j)) := by
  have h : (within i || within j) = true := by rw [Bool.or_eq_true]; exact h
  simp only [binD, mulD]
  rw [if_pos h]
theorem within_of {i : Int} (h0 : 0 ≤ i) (h1 : i < 2305843009213693951) : within i = true := by
  unfold within
  rw [decide_eq_true (by omega : -(2 ^ 64) < i), decide_eq_true (by omega : i < 2 ^ 64)]
  rfl
theorem b_pow18 : binD .Pow (.int 10) (.int 18) = some (.int 1000000000000000000) := by
  simp only [binD]
  rw [if_pos (by decide)]
  rfl
end
def P61 : Int := 2305843009213693951
theorem log_small {m : Int} (h : m ≤ 1000000000000) (h0 : 0 < m) : m.natAbs.log2 < 9000 := by
  exact Nat.lt_trans ((Nat.log2_lt (by omega)).mpr (by omega : m.natAbs < 2 ^ 41)) (by decide)
theorem ixD_3 {x y z : Dt} {j : Int} (h0 : 0 ≤ j) (h1 : j < 3) : ixD [x, y, z].length j = some j.toNat := ixN_ok h0 h1
/-- the middle part: a new cell -/
theorem cal_draw (N k : Nat) (R : Sto) (t : Tape) (m : Int) (h0 : 0 < m) (h1 : m ≤ 1000000000000) : ∃ (v : Int) (t' : Tape), 0 ≤ v ∧ v < m ∧ cal phi N (k + 1) 8 [.r 0, .d (.int m)] (tpO t :: R) = some (.int v, tpO t' :: R) := by
  suffices h : Wp (cal phi N (k + 1) 8 [.r 0, .d (.int m)] (tpO t :: R)) fun q => ∃ (v : Int) (t' : Tape), 0 ≤ v ∧ v < m ∧ q = (.int v, tpO t' :: R) by
    obtain ⟨q, e, v, t', h2, h3, rfl⟩ := h
    exact ⟨v, t', h2, h3, e⟩
  refine fn_law_draw ?_
  walk_at "st"
  have last : ∀ (t : Tape) (x3 x4 : Slot), Wp (xcs (cal phi N k) N (.cons (.set 4 (.val (.bin .Mod (.bi .int (.sub (.v 0) (.c (.int 2)))) (.v 1))))
    (.cons (.put 0 (.c (.int 2)) (.bin .FloorDiv (.sub (.v 0) (.c (.int 2))) (.v 1)))
    (.cons (.ret (.v 4))
    .nil))) [.ref 0, .val (.int m), .val (.int P61), x3, x4] (tpO t :: R)) (fun q => ∃ (v : Int) (t' : Tape), 0 ≤ v ∧ v < m ∧ (outD q.1, q.2.2.take (tpO t :: R).length) = (.int v, tpO t' :: R)) := by
    intro t x3 x4
    refine w_set (ρ' := [.ref 0, .val (.int m), .val (.int P61), x3, .val (.int (t.b % m))]) (k_val (r_bin (.e (fun i z => by cases z) (r_bi (.e (fun i z => by cases z) (r_subv (y := .int 2) (ev_c _) rfl rfl)) rfl)) (.v rfl) (b_modI h0))) rfl ?_
    refine w_putS (r_bin (.e (fun i z => by cases z) (r_subv (y := .int 2) (ev_c _) rfl rfl)) (.v rfl) (b_divI h0 (log_small h1 h0))) (ev_c _) rfl rfl (ixD_3 (by decide) (by decide)) ?_
    refine w_ret (r_v rfl) ⟨t.b % m, ⟨t.ns, t.a, t.b / m, t.ha, Int.ediv_nonneg t.hb (by omega)⟩, Int.emod_nonneg _ (by omega), Int.emod_lt_of_pos _ h0, ?_⟩
    simp only [List.length_cons, List.set_cons_zero, List.take_length, List.take_succ_cons]
    rfl
  have puts : ∀ (c : Int) (x4 : Slot), 0 ≤ c → Wp (xcs (cal phi N k) N (.cons (.put 0 (.c (.int 1)) (.bin .Add (.sub (.v 0) (.c (.int 1))) (.c (.int 1)))) (.cons (.put 0 (.c (.int 2)) (.v 3)) .nil)) [.ref 0, .val (.int m), .val (.int P61), .val (.int c), x4] (tpO t :: R))
      (thenQ (cal phi N k) N (.cons (.set 4 (.val (.bin .Mod (.bi .int (.sub (.v 0) (.c (.int 2)))) (.v 1)))) (.cons (.put 0 (.c (.int 2)) (.bin .FloorDiv (.sub (.v 0) (.c (.int 2))) (.v 1))) (.cons (.ret (.v 4)) .nil)))
        (fun q => ∃ (v : Int) (t' : Tape), 0 ≤ v ∧ v < m ∧ (outD q.1, q.2.2.take (tpO t :: R).length) = (.int v, tpO t' :: R))) := by
    intro c x4 hc
    refine w_putS (r_bin (.e (fun i z => by cases z) (r_subv (y := .int 1) (ev_c _) rfl rfl)) (.e (fun i z => by cases z) (ev_c _)) rfl) (ev_c _) rfl rfl (ixD_3 (by decide) (by decide)) ?_
    refine w_putS (r_v rfl) (ev_c _) rfl rfl (ixD_3 (by decide) (by decide)) ?_
    exact w_nil (thenQ_n (last ⟨t.ns, t.a + 1, c, by have := t.ha; omega, hc⟩ _ x4))
  apply w_if
  · exact r_cmp (.e (fun i z => by cases z) (r_subv (y := .int 2) (ev_c _) rfl rfl)) (.v rfl) (c_ltI _ _)
  · intro _
    walk_at "st"
    have big : ∀ (c : Int) (x4 : Slot), Wp (xcs (cal phi N k) N (.cons (.ifs (.or (.cons (.cmp .GtE (.sub (.v 0) (.c (.int 1))) (.bi .len (.sub (.v 0) (.c (.int 0))))) (.cons (.cmp .Lt (.v 3) (.bin .Pow (.c (.int 10)) (.c (.int 18)))) .nil))) (.cons (.set 3 (.val (.bin .Mod (.bi .int (.bin .Add (.v 3) (.bin .Mult (.c (.int 1000003)) (.sub (.v 0) (.c (.int 1)))))) (.v 2))))
    (.cons (.set 3 (.val (.bin .Mod (.bi .int (.bin .Add (.bin .Add (.bin .Mult (.v 3) (.v 3)) (.bin .Mult (.c (.int 1181783497276652981)) (.v 3))) (.c (.int 2049848353892358983)))) (.v 2))))
    (.cons (.set 3 (.val (.bin .Mod (.bi .int (.bin .Add (.bin .Mult (.v 3) (.v 3)) (.c (.int 1442695040888963407)))) (.v 2))))
    .nil))) .nil)
    (.cons (.put 0 (.c (.int 1)) (.bin .Add (.sub (.v 0) (.c (.int 1))) (.c (.int 1))))
    (.cons (.put 0 (.c (.int 2)) (.v 3))
    .nil))) [.ref 0, .val (.int m), .val (.int P61), .val (.int c), x4] (tpO t :: R))
      (thenQ (cal phi N k) N (.cons (.set 4 (.val (.bin .Mod (.bi .int (.sub (.v 0) (.c (.int 2)))) (.v 1)))) (.cons (.put 0 (.c (.int 2)) (.bin .FloorDiv (.sub (.v 0) (.c (.int 2))) (.v 1))) (.cons (.ret (.v 4)) .nil)))
        (fun q => ∃ (v : Int) (t' : Tape), 0 ≤ v ∧ v < m ∧ (outD q.1, q.2.2.take (tpO t :: R).length) = (.int v, tpO t' :: R))) := by
      intro c x4
      apply w_if (k := (decide (((t.ns.map PyData.int).length : Int) ≤ t.a) || decide (c < 1000000000000000000)))
      · exact r_or2 (r_cmp (.e (fun i z => by cases z) (r_subv (y := .int 1) (ev_c _) rfl rfl)) (.e (fun i z => by cases z) (r_bi (.e (fun i z => by cases z) (r_subv (y := .int 0) (ev_c _) rfl rfl)) (p_lenL _))) (c_geI _ _)) fun _ => r_cmp (.v rfl) (.e (fun i z => by cases z) (r_bin (.e (fun i z => by cases z) (ev_c _)) (.e (fun i z => by cases z) (ev_c _)) b_pow18)) (c_ltI _ _)
      · intro _
        have pp : (0 : Int) < P61 := by decide
        have m1 : ∀ z : Int, 0 ≤ z % P61 ∧ z % P61 < 2305843009213693951 := fun z => ⟨Int.emod_nonneg _ (by decide), Int.emod_lt_of_pos _ pp⟩
        refine w_set (ρ' := [.ref 0, .val (.int m), .val (.int P61), .val (.int ((c + 1000003 * t.a) % P61)), x4]) (k_val (r_bin (.e (fun i z => by cases z) (r_bi (.e (fun i z => by cases z) (r_bin (.v rfl) (.e (fun i z => by cases z) (r_bin (.e (fun i z => by cases z) (ev_c _)) (.e (fun i z => by cases z) (r_subv (y := .int 1) (ev_c _) rfl rfl)) (b_mulI (.inl (by decide))))) (b_addI _ _))) (p_intI _))) (.v rfl) (b_modI pp))) rfl ?_
        generalize hq : (c + 1000003 * t.a) % P61 = c1
        have hc1 := m1 (c + 1000003 * t.a)
        rw [hq] at hc1
        have w1 := within_of hc1.1 hc1.2
        refine w_set (ρ' := [.ref 0, .val (.int m), .val (.int P61), .val (.int ((c1 * c1 + 1181783497276652981 * c1 + 2049848353892358983) % P61)), x4]) (k_val (r_bin (.e (fun i z => by cases z) (r_bi (.e (fun i z => by cases z) (r_bin (.e (fun i z => by cases z) (r_bin (.e (fun i z => by cases z) (r_bin (.v rfl) (.v rfl) (b_mulI (.inl w1)))) (.e (fun i z => by cases z) (r_bin (.e (fun i z => by cases z) (ev_c _)) (.v rfl) (b_mulI (.inr w1)))) (b_addI _ _))) (.e (fun i z => by cases z) (ev_c _)) (b_addI _ _))) (p_intI _))) (.v rfl) (b_modI pp))) rfl ?_
        generalize hq2 : (c1 * c1 + 1181783497276652981 * c1 + 2049848353892358983) % P61 = c2
        have hc2 := m1 (c1 * c1 + 1181783497276652981 * c1 + 2049848353892358983)
        rw [hq2] at hc2
        have w2 := within_of hc2.1 hc2.2
        refine w_set (ρ' := [.ref 0, .val (.int m), .val (.int P61), .val (.int ((c2 * c2 + 1442695040888963407) % P61)), x4]) (k_val (r_bin (.e (fun i z => by cases z) (r_bi (.e (fun i z => by cases z) (r_bin (.e (fun i z => by cases z) (r_bin (.v rfl) (.v rfl) (b_mulI (.inl w2)))) (.e (fun i z => by cases z) (ev_c _)) (b_addI _ _))) (p_intI _))) (.v rfl) (b_modI pp))) rfl ?_
        exact w_nil (thenQ_n (puts _ x4 (m1 _).1))
      · intro hc
        rw [Bool.or_eq_false_iff, decide_eq_false_iff_not, decide_eq_false_iff_not] at hc
        exact w_nil (thenQ_n (puts c x4 (by omega)))
    apply w_if
    · exact r_cmp (.e (fun i z => by cases z) (r_bi (.e (fun i z => by cases z) (r_subv (y := .int 0) (ev_c _) rfl rfl)) (p_lenL _))) (.e (fun i z => by cases z) (ev_c _)) (c_gtI _ _)
    · intro hl
      have hl : (0 : Int) < (t.ns.map PyData.int).length := of_decide_eq_true hl
      have hx := Int.emod_nonneg t.a (by omega : ((t.ns.map PyData.int).length : Int) ≠ 0)
      have hy := Int.emod_lt_of_pos t.a hl
      have hlen : (t.ns.map PyData.int).length = t.ns.length := List.length_map ..
      refine w_set (ρ' := [.ref 0, .val (.int m), .val (.int P61), .val (.int (t.ns.getD (t.a % ((t.ns.map PyData.int).length : Int)).toNat default)), .un]) (k_val (r_sub (.e (fun i z => by cases z) (r_subv (y := .int 0) (ev_c _) rfl rfl)) (r_bin (.e (fun i z => by cases z) (r_bi (.e (fun i z => by cases z) (r_subv (y := .int 1) (ev_c _) rfl rfl)) (p_intI _))) (.e (fun i z => by cases z) (r_bi (.e (fun i z => by cases z) (r_subv (y := .int 0) (ev_c _) rfl rfl)) (p_lenL _))) (b_modI hl)) (s_atL hx (by rw [← hlen]; exact hy)))) rfl ?_
      exact w_nil (thenQ_n (big _ _))
    · intro _
      exact w_nil (thenQ_n (big _ _))
  · intro _
    exact w_nil (thenQ_n (last t _ _))
end Fw

set_option autoImplicit false
set_option linter.all false
set_option maxRecDepth 100000
set_option maxHeartbeats 400000
/-! sets and sorting of things -/
namespace Fw
open PySem L2
/-- things that can be in a set and be sorted -/
class SetE {α : Type} (e : α → Dt) (κ : outParam (α → NestedKey)) : Prop where
  key : ∀ x, keyD (e x) = some (κ x)
  inj : ∀ x y, κ x = κ y → x = y
  alk : ∀ x y, PySem.W.alike (e x) (e y) = true
  ok : ∀ x, (decide ((e x).depth ≤ 100) && noNone (e x)) = true
  kind : (∀ x, ∃ ks, κ x = .tup ks ∧ (κ x).depth ≤ 8) ∨ (∀ x, (∃ i, κ x = .num i) ∨ ∃ z, κ x = .text z)
section
variable {α : Type} [DecidableEq α] {e : α → Dt} {κ : α → NestedKey}
/-- the last ones of each -/
def dd : List α → List α
  | [] => []
  | x :: xs => if x ∈ xs then dd xs else x :: dd xs
theorem mem_dd {x : α} : ∀ {xs : List α}, x ∈ dd xs ↔ x ∈ xs
  | [] => Iff.rfl
  | y :: ys => by
    rw [dd]
    split
    · rename_i h
      rw [mem_dd, List.mem_cons]
      constructor
      · exact .inr
      · rintro (rfl | z)
        · exact h
        · exact z
    · rw [List.mem_cons, List.mem_cons, mem_dd]
theorem dd_nodup : ∀ {xs : List α}, (dd xs).Nodup
  | [] => List.nodup_nil
  | y :: ys => by
    rw [dd]
    split
    · exact dd_nodup
    · rename_i h
      exact List.nodup_cons.mpr ⟨fun z => h (mem_dd.mp z), dd_nodup⟩
theorem dd_len : ∀ (xs : List α), (dd xs).length ≤ xs.length
  | [] => Nat.le_refl _
  | y :: ys => by
    rw [dd]
    have := dd_len ys
    split
    · rw [List.length_cons]; omega
    · rw [List.length_cons, List.length_cons]; omega
theorem keysD_map [SetE e κ] : ∀ xs : List α, keysD (xs.map e) = some (xs.map κ)
  | [] => rfl
  | x :: xs => by rw [List.map_cons, keysD, SetE.key x, Option.bind_some, keysD_map xs]; rfl
theorem dedup_map [SetE e κ] : ∀ xs : List α, dedup (xs.map κ) = (dd xs).map κ
  | [] => rfl
  | x :: xs => by
    have h : κ x ∈ xs.map κ ↔ x ∈ xs := ⟨fun z => let ⟨y, h1, h2⟩ := List.mem_map.mp z; SetE.inj (e := e) _ _ h2 ▸ h1, fun z => List.mem_map.mpr ⟨x, z, rfl⟩⟩
    rw [List.map_cons, dedup, dd, dedup_map xs]
    by_cases c : x ∈ xs
    · rw [if_pos c, if_pos (h.mpr c)]
    · rw [if_neg c, if_neg fun z => c (h.mp z), List.map_cons]
theorem data_map [SetE e κ] (xs : List α) : (xs.map κ).map NestedKey.data = xs.map e := by
  rw [List.map_map]
  exact List.map_congr_left fun x _ => data_keyD _ _ (SetE.key x)
theorem kindly_map [SetE e κ] (xs : List α) : kindly (xs.map κ) = true := by
  unfold kindly
  rw [Bool.or_eq_true]
  rcases SetE.kind (e := e) with h | h
  · refine .inl (List.all_eq_true.mpr fun k hk => ?_)
    obtain ⟨x, _, rfl⟩ := List.mem_map.mp hk
    obtain ⟨ks, h1, h2⟩ := h x
    rw [h1] at h2 ⊢
    exact decide_eq_true h2
  · refine .inr (List.all_eq_true.mpr fun k hk => ?_)
    obtain ⟨x, _, rfl⟩ := List.mem_map.mp hk
    rcases h x with ⟨i, h1⟩ | ⟨i, h1⟩ <;> rw [h1]
theorem okSort_map [SetE e κ] (xs : List α) : okSort (xs.map e) = true := by
  unfold okSort
  rw [List.all_eq_true]
  intro d hd
  obtain ⟨x, _, rfl⟩ := List.mem_map.mp hd
  rw [Bool.and_eq_true, List.all_eq_true]
  refine ⟨SetE.ok x, fun d hd => ?_⟩
  obtain ⟨y, _, rfl⟩ := List.mem_map.mp hd
  exact SetE.alk x y
/-- sorted -/
def srt (e : α → Dt) (xs : List α) : List α := xs.mergeSort fun a b => leq (e a) (e b)
def uset (e : α → Dt) (xs : List α) : List α := srt e (dd xs)
theorem sortD_map (xs : List α) : sortD (xs.map e) = (srt e xs).map e := (PySem.W.sort_maps e fun a _ b _ => rfl).symm
theorem mem_srt {xs : List α} {x : α} : x ∈ srt e xs ↔ x ∈ xs := (List.mergeSort_perm _ _).mem_iff
theorem mem_uset {xs : List α} {x : α} : x ∈ uset e xs ↔ x ∈ xs := mem_srt.trans mem_dd
theorem uset_nodup {xs : List α} : (uset e xs).Nodup := (List.mergeSort_perm _ _).nodup_iff.mpr dd_nodup
theorem srt_len (xs : List α) : (srt e xs).length = xs.length := List.length_mergeSort ..
theorem uset_len (xs : List α) : (uset e xs).length ≤ xs.length := by unfold uset; rw [srt_len]; exact dd_len xs
theorem p_sset [SetE e κ] {xs : List α} (h : (dd xs).length < 69) : biP .sset (.d (.list (xs.map e))) = some (.list ((uset e xs).map e)) := by
  have e1 : dedup (xs.map κ) = (dd xs).map κ := dedup_map (e := e) xs
  have e2 : ((dd xs).map κ).map NestedKey.data = (dd xs).map e := data_map (e := e) (dd xs)
  simp only [biP, ssetD, keysD_map, Option.bind_some]
  rw [e1, e2, if_pos ⟨kindly_map (e := e) _, by rw [List.length_map]; exact h, okSort_map _⟩, sortD_map]
  rfl
theorem p_srtL [SetE e κ] (xs : List α) : biP .sorted (.d (.list (xs.map e))) = some (.list ((srt e xs).map e)) := by
  simp only [biP, okSort_map, if_true, sortD_map]
theorem p_srtT [SetE e κ] (xs : List α) : biP .sorted (.d (.tuple (xs.map e))) = some (.list ((srt e xs).map e)) := by
  simp only [biP, okSort_map, if_true, sortD_map]
end
instance : SetE PyData.int NestedKey.num where
  key _ := rfl
  inj x y h := by cases h; rfl
  alk _ _ := rfl
  ok _ := by simp [PyData.depth, noNone]
  kind := .inr fun x => .inl ⟨x, rfl⟩
instance : SetE PyData.str NestedKey.text where
  key _ := rfl
  inj x y h := by cases h; rfl
  alk _ _ := rfl
  ok _ := by simp [PyData.depth, noNone]
  kind := .inr fun x => .inr ⟨x, rfl⟩
theorem alikeAll_map {α : Type} {e : α → Dt} (h : ∀ x y, PySem.W.alike (e x) (e y) = true) : ∀ xs ys : List α, PySem.W.alikeAll (xs.map e) (ys.map e) = true
  | [], _ => by rw [List.map_nil, PySem.W.alikeAll]
  | x :: xs, [] => rfl
  | x :: xs, y :: ys => by rw [List.map_cons, List.map_cons, PySem.W.alikeAll, h, alikeAll_map h xs ys]; rfl
theorem map_inj' {α β : Type} {f : α → β} (h : ∀ x y, f x = f y → x = y) : ∀ xs ys : List α, xs.map f = ys.map f → xs = ys
  | [], [], _ => rfl
  | [], _ :: _, e => by cases e
  | _ :: _, [], e => by cases e
  | x :: xs, y :: ys, e => by
    rw [List.map_cons, List.map_cons, List.cons.injEq] at e
    rw [h _ _ e.1, map_inj' h _ _ e.2]
theorem key_depth {xs : List NestedKey} {n : Nat} (h : ∀ k ∈ xs, k.depth ≤ n) : NestedKey.depthAll xs ≤ n := by
  induction xs with
  | nil => simp [NestedKey.depthAll]
  | cons x xs ih =>
    rw [NestedKey.depthAll]
    have h1 := h x List.mem_cons_self
    have h2 := ih fun k hk => h k (List.mem_cons_of_mem _ hk)
    omega
instance : SetE tI (fun xs => .tup (xs.map .num)) where
  key xs := by show keyD (.tuple _) = _; rw [keyD, keysD_map]; rfl
  inj x y h := by injection h with h; exact map_inj' (fun _ _ h => by cases h; rfl) _ _ h
  alk x y := by show PySem.W.alike (.tuple _) (.tuple _) = _; rw [PySem.W.alike]; exact alikeAll_map (fun _ _ => rfl) x y
  ok x := by
    have : PyData.depth (tI x) ≤ 1 := by show PyData.depth (.tuple _) ≤ 1; rw [PyData.depth]; exact Nat.succ_le_succ (depthAll_map x)
    rw [decide_eq_true (by omega)]; rfl
  kind := .inl fun x => ⟨_, rfl, by
    rw [NestedKey.depth]
    have := key_depth (xs := x.map NestedKey.num) (n := 0) (fun k hk => by obtain ⟨i, _, rfl⟩ := List.mem_map.mp hk; simp [NestedKey.depth])
    omega⟩
instance : SetE eEv (fun e => .tup [.text e.1, .text e.2]) where
  key e := rfl
  inj x y h := by
    injection h with h; injection h with h1 h2; injection h2 with h2 _; injection h1 with h1; injection h2 with h2; exact Prod.ext h1 h2
  alk x y := by show PySem.W.alike (.tuple _) (.tuple _) = _; simp [PySem.W.alike, PySem.W.alikeAll]
  ok x := by simp [eEv, PyData.depth, PyData.depthAll, noNone]
  kind := .inl fun x => ⟨_, rfl, by simp [NestedKey.depth, NestedKey.depthAll]⟩
instance : EqE eEv 1 := ⟨fun x y => by have := (eqE_P (e := PyData.str) (f := PyData.str)).eqv x y; exact this, fun x => (eqE_P (e := PyData.str) (f := PyData.str)).dep x⟩
instance : EqE tI 1 := ⟨fun x y => (eqE_T (e := PyData.int)).eqv x y, fun x => (eqE_T (e := PyData.int)).dep x⟩
theorem uset_sorted (xs : List Int) : Sorted (uset PyData.int xs) := by
  have nd := uset_nodup (e := PyData.int) (xs := xs)
  have le : (uset PyData.int xs).Pairwise (fun x y => leq (.int x) (.int y) = true) := List.pairwise_mergeSort (fun a b c h1 h2 => by rw [leq_int, decide_eq_true_eq] at *; omega) (fun a b => by rw [leq_int, leq_int, Bool.or_eq_true, decide_eq_true_eq, decide_eq_true_eq]; omega) _
  exact (le.and nd).imp fun ⟨h1, h2⟩ => by
    rw [leq_int, decide_eq_true_eq] at h1
    omega
local macro_rules | `(tactic| walk_at "evC") => `(tactic| first | with_reducible apply p_sset | with_reducible exact p_srtL _ | with_reducible exact p_srtT _)
end Fw

set_option autoImplicit false
set_option linter.all false
set_option maxRecDepth 100000
set_option maxHeartbeats 400000
/-! drawn things -/
namespace Fw
open PySem L2
local macro_rules | `(tactic| walk_at "evC") => `(tactic| ((with_reducible show _ = _); with_reducible assumption))
local macro_rules | `(tactic| walk_at "evE") => `(tactic| first | with_reducible exact ev_c _ | with_reducible apply r_v | with_reducible apply r_call | with_reducible apply r_cmp | with_reducible apply r_sub | with_reducible apply r_bi | with_reducible apply r_bin | with_reducible apply r_tup | with_reducible apply r_lst | with_reducible apply r_comp | with_reducible apply r_comp0 | with_reducible apply r_not | with_reducible apply r_andN | with_reducible apply r_and1 | with_reducible apply r_orN | with_reducible apply r_or1 | with_reducible apply r_isi | with_reducible apply r_bi2 | with_reducible apply r_slc | with_reducible apply r_rev | with_reducible apply r_neg | with_reducible apply r_chain | with_reducible apply r_scr | with_reducible apply i_of | with_reducible apply i_enum' | with_reducible apply i_rng | with_reducible apply i_peek | with_reducible apply k_val | with_reducible apply k_own | with_reducible apply k_copy | with_reducible apply k_ref)
local macro_rules | `(tactic| walk_at "evO") => `(tactic| first | exact Args.nil | (apply Args.val; exact rfl) | (apply Args.ref; exact rfl) | apply args_e | (apply Opd.v; exact rfl) | apply opd_e | (apply opf_val; exact rfl) | (apply Opf.v; exact rfl) | apply opf_e | exact Evs.nil | apply Evs.cons | apply Evs.star | exact IxR'.no | apply IxR'.yes | (with_reducible apply compB_i; intro x hx; refine ⟨_, rfl, ?_, fun hp => ?_⟩) | (with_reducible apply compM_i; intro x hx; refine ⟨_, rfl, ?_⟩) | ((with_reducible show (_ = true → _ = some _)); intro) | ((with_reducible show (_ = false → _ = some _)); intro))
local macro_rules | `(tactic| walk_at "evP") => `(tactic| first | with_reducible exact c_eqI _ _ | with_reducible exact c_eqS _ _ | with_reducible exact c_neI _ _ | with_reducible exact c_neS _ _ | with_reducible exact c_ltI _ _ | with_reducible exact c_leI _ _ | with_reducible exact c_gtI _ _ | with_reducible exact c_geI _ _ | with_reducible exact c_eqB _ _ | with_reducible exact c_neB _ _ | with_reducible exact c_inT (e := PyData.int) (by decide) _ _ | with_reducible exact c_niT (e := PyData.int) (by decide) _ _ | with_reducible exact c_inL (e := PyData.int) (by decide) _ _ | with_reducible exact c_niL (e := PyData.int) (by decide) _ _ | with_reducible exact c_inT (e := PyData.str) (by decide) _ _ | with_reducible exact c_niT (e := PyData.str) (by decide) _ _ | with_reducible exact c_inL (e := PyData.str) (by decide) _ _ | with_reducible exact c_niL (e := PyData.str) (by decide) _ _ | with_reducible exact c_eqTm _ _ | with_reducible exact c_neTm _ _ | with_reducible exact c_eqLm _ _ | with_reducible exact c_neLm _ _ | with_reducible exact c_eqT (by decide) _ _ | with_reducible exact c_neT (by decide) _ _ | with_reducible exact c_eqL (by decide) _ _ | with_reducible exact c_neL (by decide) _ _ | with_reducible exact b_addI _ _ | with_reducible exact b_subI _ _ | with_reducible apply b_addT | with_reducible apply b_addL | with_reducible exact p_lenLm _ _ | with_reducible exact p_lenTm _ _ | with_reducible exact p_lenL _ | with_reducible exact p_lenT _ | with_reducible exact p_tupL _ | with_reducible exact p_tupT _ | with_reducible exact p_lstL _ | with_reducible exact p_lstT _ | with_reducible exact p_all _ _ | with_reducible exact p_any _ _ | with_reducible exact p_intI _ | with_reducible exact p_intB _ | with_reducible exact p_max _ _ | with_reducible exact p_min _ _ | ((with_reducible show subP _ _ = some _); exact rfl) | ((with_reducible show itemsOf _ = some _); exact rfl) | ((with_reducible show iterD _ = some _); exact rfl) | ((with_reducible show look _ _ _ = some _); exact rfl) | ((with_reducible show isV _ = false); exact rfl) | ((with_reducible show List.length _ ≤ 16777216); exact of_decide_eq_true rfl) | ((with_reducible show (_ : Option Slot) = some _); exact rfl))
local macro_rules | `(tactic| walk_at "evt1") => `(tactic| first | walk_at "evE" | walk_at "evO" | walk_at "evC" | walk_at "evP")
local macro_rules | `(tactic| walk_at "evt") => `(tactic| repeat' (walk_at "evt1"))
local macro_rules | `(tactic| walk_at "st1") => `(tactic| first | with_reducible apply w_set | with_reducible apply w_par | with_reducible apply w_par3 | with_reducible apply w_unp | with_reducible apply w_frz | with_reducible apply w_app | with_reducible apply w_ret | with_reducible apply w_nil | with_reducible apply thenQ_n | with_reducible apply thenQ_r | with_reducible apply turnQ_n | with_reducible apply turnQ_r | with_reducible apply fin1 | ((with_reducible show List.set _ _ _ = _); dsimp only [List.set_cons_zero, List.set_cons_succ]; try exact rfl) | ((with_reducible show bnd _ _ _ = some _); dsimp only [bnd, List.set_cons_zero, List.set_cons_succ]; try exact rfl) | ((with_reducible show bnd _ _ _ = some _); exact rfl) | ((with_reducible show freeze _ _ = _); exact rfl) | walk_at "evt1")
local macro_rules | `(tactic| walk_at "st") => `(tactic| repeat' (walk_at "st1"))
local macro_rules | `(tactic| walk_at "evC") => `(tactic| first | with_reducible apply cal_lmet | with_reducible apply cal_lmetL)
local macro_rules | `(tactic| walk_at "evC") => `(tactic| with_reducible apply s_step)
local macro_rules | `(tactic| walk_at "evC") => `(tactic| with_reducible apply cal_lready)
local macro_rules | `(tactic| walk_at "evC") => `(tactic| with_reducible apply cal_lnext)
local macro_rules | `(tactic| walk_at "evC") => `(tactic| first | with_reducible exact bi_sortL _ | with_reducible exact bi_sortT _)
local macro_rules | `(tactic| walk_at "evC") => `(tactic| with_reducible apply cal_lleft)
local macro_rules | `(tactic| walk_at "evC") => `(tactic| first | ((with_reducible apply of_self); with_reducible assumption) | exact Rule.Fit.ok (by assumption) | exact Good.filter (by assumption) _ | exact Good.inn (by assumption) _ (by assumption))
local macro_rules | `(tactic| walk_at "evC") => `(tactic| with_reducible exact cmp_isN _)
local macro_rules | `(tactic| walk_at "evC") => `(tactic| first | with_reducible exact cmp_isO _ | with_reducible apply b_snocI | with_reducible apply b_catLI)
local macro_rules | `(tactic| walk_at "evC") => `(tactic| with_reducible apply cal_aft)
local macro_rules | `(tactic| walk_at "evC") => `(tactic| with_reducible apply cal_levent)
local macro_rules | `(tactic| walk_at "evC") => `(tactic| with_reducible apply cal_fol)
local macro_rules | `(tactic| walk_at "evC") => `(tactic| with_reducible apply cal_ref)
local macro_rules | `(tactic| walk_at "evC") => `(tactic| with_reducible exact b_rep1 _)
local macro_rules | `(tactic| walk_at "evC") => `(tactic| with_reducible apply cal_lfol)
local macro_rules | `(tactic| walk_at "evC") => `(tactic| first | with_reducible apply p_sset | with_reducible exact p_srtL _ | with_reducible exact p_srtT _)
/-- draw, its answer a number from 0 on -/
theorem draw_i (N k : Nat) (R : Sto) (t : Tape) (m : Int) (h0 : 0 < m) (h1 : m ≤ 1000000000000) : ∃ (v : Nat) (t' : Tape), (v : Int) < m ∧ cal phi N (k + 1) 8 [.r 0, .d (.int m)] (tpO t :: R) = some (.int (v : Int), tpO t' :: R) := by
  obtain ⟨v, t', h2, h3, h4⟩ := cal_draw N k R t m h0 h1
  refine ⟨v.toNat, t', by omega, ?_⟩
  rw [h4, Int.toNat_of_nonneg h2]
theorem fin3 {d : Dt} {ρ : Rho} {S S0 : Sto} (hl : S.length = S0.length) : (outD (Out.ret d, ρ, S).1, (Out.ret d, ρ, S).2.2.take S0.length) = (d, S) := by
  rw [← hl]; show (d, S.take S.length) = _; rw [List.take_length]
def othersN (m : Nat) (own : Int) : List Nat := (List.range m).filter fun i => !decide ((i : Int) = own)
theorem othersN_mem {m : Nat} {own : Int} {i : Nat} (h : i ∈ othersN m own) : i < m ∧ (i : Int) ≠ own := by
  obtain ⟨h1, h2⟩ := List.mem_filter.mp h
  exact ⟨List.mem_range.mp h1, by simpa using h2⟩
theorem othersN_len (m : Nat) (own : Int) : (othersN m own).length ≤ m := by
  unfold othersN
  refine Nat.le_trans (List.length_filter_le _ _) ?_
  rw [List.length_range]; exact Nat.le_refl _
theorem wp_some (N k : Nat) (R : Sto) (t : Tape) (m : Nat) (own : Int) (hm : m ≤ 6) : Wp (cal phi N (k + 2) 10 [.r 0, .d (.int (m : Int)), .d (.int own)] (tpO t :: R)) fun q => ∃ (xs : List Int) (t' : Tape), q = (tI xs, tpO t' :: R) ∧ Sorted xs ∧ (∀ a ∈ xs, 0 ≤ a ∧ a < m ∧ a ≠ own) ∧ xs.length ≤ 3 ∧ (othersN m own ≠ [] → xs ≠ []) := by
  refine fn_law_some ?_
  have hol := othersN_len m own
  refine w_set (sl := .val (.list ((othersN m own).map fun (i : Nat) => .int (i : Int)))) (S1 := tpO t :: R) (by apply k_val; refine r_conv (d := .list (((List.range m).filter fun (i : Nat) => !decide ((i : Int) = own)).map fun (i : Nat) => .int (i : Int))) ?_ rfl; walk_at "evt" <;> first | omega | (rw [List.length_range]; omega)) rfl ?_
  refine w_set (k_own .nil (by decide)) rfl ?_
  obtain ⟨v, t1, hv, hc⟩ := draw_i N k R t 3 (by decide) (by decide)
  have hr : evIt (cal phi N (k + 1)) (.rng (.bin .Add (.c (.int 1)) (.call 8 (.cons (.v 0) (.cons (.c (.int 3)) .nil))))) (((List.set [Slot.ref 0, Slot.val (PyData.int (m : Int)), Slot.val (PyData.int own), Slot.un, Slot.un, Slot.un, Slot.un] 3 (.val (.list ((othersN m own).map fun (i : Nat) => .int (i : Int))))).set 5 (.own []))) (tpO t :: R) = some ((List.range (1 + v)).map fun (i : Nat) => .int (i : Int), tpO t1 :: R) := by
    refine i_rng (n := 1 + v) (r_conv (d := .int (1 + (v : Int))) ?_ (by simp)) (by omega)
    walk_at "evt"
  refine w_for (xs := List.range (1 + v)) (enc := fun (i : Nat) => .int (i : Int)) (fun left ρ S => ∃ (acc : List Int) (t' : Tape) (x y : Slot), S = tpO t' :: R ∧ ρ = [.ref 0, .val (.int (m : Int)), .val (.int own), .val (.list ((othersN m own).map fun (i : Nat) => .int (i : Int))), x, .own (acc.map .int), y] ∧ acc.length + left.length ≤ 3 ∧ (∀ a ∈ acc, 0 ≤ a ∧ a < m ∧ a ≠ own) ∧ (othersN m own ≠ [] → acc.length + left.length = 1 + v)) rfl hr ⟨[], t1, _, _, rfl, rfl, by rw [List.length_range]; simp; omega, by simp, by simp⟩ ?_ ?_
  · rintro i ys ρ S hi ⟨acc, t', x, y, rfl, rfl, h1, h2, h3⟩
    rw [List.length_cons] at h1 h3
    refine ⟨_, rfl, ?_⟩
    dsimp only [List.set_cons_zero, List.set_cons_succ]
    apply w_if
    · walk_at "evt"
    · intro hc
      rw [Bool.not_eq_true', List.isEmpty_eq_false_iff] at hc
      have hp := List.length_pos_iff.mpr hc
      obtain ⟨w, t2, hw, hcd⟩ := draw_i N k R t' (othersN m own).length (by omega) (by omega)
      have hw : w < (othersN m own).length := by omega
      have hg : (othersN m own).getD w default ∈ othersN m own := by rw [List.getD_eq_getElem?_getD, List.getElem?_eq_getElem hw]; exact List.getElem_mem hw
      obtain ⟨g1, g2⟩ := othersN_mem hg
      have ha : ev (cal phi N (k + 1)) (.sub (.v 3) (.call 8 (.cons (.v 0) (.cons (.bi .len (.v 3)) .nil)))) [.ref 0, .val (.int (m : Int)), .val (.int own), .val (.list ((othersN m own).map fun (i : Nat) => .int (i : Int))), x, .own (acc.map .int), .val (.int (i : Int))] (tpO t' :: R) = some (.int (((othersN m own).getD w default : Nat) : Int), tpO t2 :: R) := by
        walk_at "evt"
        have := s_atL (xs := othersN m own) (h := fun (i : Nat) => .int (i : Int)) (i := w) (by omega) (by omega)
        rw [Int.toNat_natCast] at this
        exact this
      refine w_app rfl ha (by rw [List.length_map]; omega) rfl ?_
      refine w_nil (thenQ_n (w_nil (turnQ_n ⟨acc ++ [(((othersN m own).getD w default : Nat) : Int)], t2, x, .val (.int (i : Int)), rfl, by rw [List.map_append]; rfl, ?_, fun a ha => ?_, fun z => ?_⟩)))
      · rw [List.length_append, List.length_singleton]; omega
      · rcases List.mem_append.mp ha with z | z
        · exact h2 a z
        · rw [List.mem_singleton] at z; subst z; exact ⟨by omega, by omega, g2⟩
      · have := h3 z; rw [List.length_append, List.length_singleton]; omega
    · intro hc
      refine w_nil (thenQ_n (w_nil (turnQ_n ⟨acc, t', x, .val (.int (i : Int)), rfl, rfl, by omega, h2, fun z => ?_⟩)))
      rw [Bool.not_eq_false', List.isEmpty_iff] at hc
      exact absurd hc z
  · rintro ρ S ⟨acc, t', x, y, rfl, rfl, h1, h2, h3⟩
    simp only [List.length_nil, Nat.add_zero] at h1 h3
    have hdd := dd_len acc
    refine w_ret (d := tI (uset PyData.int acc)) (S1 := tpO t' :: R) (by
      apply r_bi
      · apply opd_e
        · exact r_bi (.v rfl) (p_sset (e := PyData.int) (by omega))
        · rfl
      · rfl) ?_
    refine ⟨_, t', fin3 rfl, uset_sorted acc, fun a ha => h2 a (mem_uset.mp ha), Nat.le_trans (uset_len acc) (by omega), fun z => ?_⟩
    have h3 := h3 z
    cases acc with
    | nil => simp at h3; omega
    | cons b acc => exact fun e => by have : b ∈ uset PyData.int (b :: acc) := mem_uset.mpr List.mem_cons_self
                                      rw [e] at this; cases this
end Fw

set_option autoImplicit false
set_option linter.all false
set_option maxRecDepth 100000
set_option maxHeartbeats 400000
/-! drawn needs and rules -/
namespace Fw
open PySem L2
local macro_rules | `(tactic| walk_at "evC") => `(tactic| ((with_reducible show _ = _); with_reducible assumption))
local macro_rules | `(tactic| walk_at "evE") => `(tactic| first | with_reducible exact ev_c _ | with_reducible apply r_v | with_reducible apply r_call | with_reducible apply r_cmp | with_reducible apply r_sub | with_reducible apply r_bi | with_reducible apply r_bin | with_reducible apply r_tup | with_reducible apply r_lst | with_reducible apply r_comp | with_reducible apply r_comp0 | with_reducible apply r_not | with_reducible apply r_andN | with_reducible apply r_and1 | with_reducible apply r_orN | with_reducible apply r_or1 | with_reducible apply r_isi | with_reducible apply r_bi2 | with_reducible apply r_slc | with_reducible apply r_rev | with_reducible apply r_neg | with_reducible apply r_chain | with_reducible apply r_scr | with_reducible apply i_of | with_reducible apply i_enum' | with_reducible apply i_rng | with_reducible apply i_peek | with_reducible apply k_val | with_reducible apply k_own | with_reducible apply k_copy | with_reducible apply k_ref)
local macro_rules | `(tactic| walk_at "evO") => `(tactic| first | exact Args.nil | (apply Args.val; exact rfl) | (apply Args.ref; exact rfl) | apply args_e | (apply Opd.v; exact rfl) | apply opd_e | (apply opf_val; exact rfl) | (apply Opf.v; exact rfl) | apply opf_e | exact Evs.nil | apply Evs.cons | apply Evs.star | exact IxR'.no | apply IxR'.yes | (with_reducible apply compB_i; intro x hx; refine ⟨_, rfl, ?_, fun hp => ?_⟩) | (with_reducible apply compM_i; intro x hx; refine ⟨_, rfl, ?_⟩) | ((with_reducible show (_ = true → _ = some _)); intro) | ((with_reducible show (_ = false → _ = some _)); intro))
local macro_rules | `(tactic| walk_at "evP") => `(tactic| first | with_reducible exact c_eqI _ _ | with_reducible exact c_eqS _ _ | with_reducible exact c_neI _ _ | with_reducible exact c_neS _ _ | with_reducible exact c_ltI _ _ | with_reducible exact c_leI _ _ | with_reducible exact c_gtI _ _ | with_reducible exact c_geI _ _ | with_reducible exact c_eqB _ _ | with_reducible exact c_neB _ _ | with_reducible exact c_inT (e := PyData.int) (by decide) _ _ | with_reducible exact c_niT (e := PyData.int) (by decide) _ _ | with_reducible exact c_inL (e := PyData.int) (by decide) _ _ | with_reducible exact c_niL (e := PyData.int) (by decide) _ _ | with_reducible exact c_inT (e := PyData.str) (by decide) _ _ | with_reducible exact c_niT (e := PyData.str) (by decide) _ _ | with_reducible exact c_inL (e := PyData.str) (by decide) _ _ | with_reducible exact c_niL (e := PyData.str) (by decide) _ _ | with_reducible exact c_eqTm _ _ | with_reducible exact c_neTm _ _ | with_reducible exact c_eqLm _ _ | with_reducible exact c_neLm _ _ | with_reducible exact c_eqT (by decide) _ _ | with_reducible exact c_neT (by decide) _ _ | with_reducible exact c_eqL (by decide) _ _ | with_reducible exact c_neL (by decide) _ _ | with_reducible exact b_addI _ _ | with_reducible exact b_subI _ _ | with_reducible apply b_addT | with_reducible apply b_addL | with_reducible exact p_lenLm _ _ | with_reducible exact p_lenTm _ _ | with_reducible exact p_lenL _ | with_reducible exact p_lenT _ | with_reducible exact p_tupL _ | with_reducible exact p_tupT _ | with_reducible exact p_lstL _ | with_reducible exact p_lstT _ | with_reducible exact p_all _ _ | with_reducible exact p_any _ _ | with_reducible exact p_intI _ | with_reducible exact p_intB _ | with_reducible exact p_max _ _ | with_reducible exact p_min _ _ | ((with_reducible show subP _ _ = some _); exact rfl) | ((with_reducible show itemsOf _ = some _); exact rfl) | ((with_reducible show iterD _ = some _); exact rfl) | ((with_reducible show look _ _ _ = some _); exact rfl) | ((with_reducible show isV _ = false); exact rfl) | ((with_reducible show List.length _ ≤ 16777216); exact of_decide_eq_true rfl) | ((with_reducible show (_ : Option Slot) = some _); exact rfl))
local macro_rules | `(tactic| walk_at "evt1") => `(tactic| first | walk_at "evE" | walk_at "evO" | walk_at "evC" | walk_at "evP")
local macro_rules | `(tactic| walk_at "evt") => `(tactic| repeat' (walk_at "evt1"))
local macro_rules | `(tactic| walk_at "st1") => `(tactic| first | with_reducible apply w_set | with_reducible apply w_par | with_reducible apply w_par3 | with_reducible apply w_unp | with_reducible apply w_frz | with_reducible apply w_app | with_reducible apply w_ret | with_reducible apply w_nil | with_reducible apply thenQ_n | with_reducible apply thenQ_r | with_reducible apply turnQ_n | with_reducible apply turnQ_r | with_reducible apply fin1 | ((with_reducible show List.set _ _ _ = _); dsimp only [List.set_cons_zero, List.set_cons_succ]; try exact rfl) | ((with_reducible show bnd _ _ _ = some _); dsimp only [bnd, List.set_cons_zero, List.set_cons_succ]; try exact rfl) | ((with_reducible show bnd _ _ _ = some _); exact rfl) | ((with_reducible show freeze _ _ = _); exact rfl) | walk_at "evt1")
local macro_rules | `(tactic| walk_at "st") => `(tactic| repeat' (walk_at "st1"))
local macro_rules | `(tactic| walk_at "evC") => `(tactic| first | with_reducible apply cal_lmet | with_reducible apply cal_lmetL)
local macro_rules | `(tactic| walk_at "evC") => `(tactic| with_reducible apply s_step)
local macro_rules | `(tactic| walk_at "evC") => `(tactic| with_reducible apply cal_lready)
local macro_rules | `(tactic| walk_at "evC") => `(tactic| with_reducible apply cal_lnext)
local macro_rules | `(tactic| walk_at "evC") => `(tactic| first | with_reducible exact bi_sortL _ | with_reducible exact bi_sortT _)
local macro_rules | `(tactic| walk_at "evC") => `(tactic| with_reducible apply cal_lleft)
local macro_rules | `(tactic| walk_at "evC") => `(tactic| first | ((with_reducible apply of_self); with_reducible assumption) | exact Rule.Fit.ok (by assumption) | exact Good.filter (by assumption) _ | exact Good.inn (by assumption) _ (by assumption))
local macro_rules | `(tactic| walk_at "evC") => `(tactic| with_reducible exact cmp_isN _)
local macro_rules | `(tactic| walk_at "evC") => `(tactic| first | with_reducible exact cmp_isO _ | with_reducible apply b_snocI | with_reducible apply b_catLI)
local macro_rules | `(tactic| walk_at "evC") => `(tactic| with_reducible apply cal_aft)
local macro_rules | `(tactic| walk_at "evC") => `(tactic| with_reducible apply cal_levent)
local macro_rules | `(tactic| walk_at "evC") => `(tactic| with_reducible apply cal_fol)
local macro_rules | `(tactic| walk_at "evC") => `(tactic| with_reducible apply cal_ref)
local macro_rules | `(tactic| walk_at "evC") => `(tactic| with_reducible exact b_rep1 _)
local macro_rules | `(tactic| walk_at "evC") => `(tactic| with_reducible apply cal_lfol)
local macro_rules | `(tactic| walk_at "evC") => `(tactic| first | with_reducible apply p_sset | with_reducible exact p_srtL _ | with_reducible exact p_srtT _)
structure NeedOk (m own : Int) (n : Need) : Prop where
  so : Sorted n.2
  ne : n.2 ≠ []
  inn : ∀ a ∈ n.2, 0 ≤ a ∧ a < m
  own : own ∉ n.2
  lo : 1 ≤ n.1
  hi : n.1 ≤ 6
theorem sub4a {v : Nat} (h : v < 4) : ∃ w : Nat, w ≤ 2 ∧ subP (.d (.list [.int 0, .int 1, .int 1, .int 2])) (.int (v : Int)) = some (.int (w : Int)) :=
  match v, h with
  | 0, _ => ⟨0, by decide, rfl⟩
  | 1, _ => ⟨1, by decide, rfl⟩
  | 2, _ => ⟨1, by decide, rfl⟩
  | 3, _ => ⟨2, by decide, rfl⟩
theorem sub4b {v : Nat} (l : Nat) (h : v < 4) (hl : 1 ≤ l) (hl2 : l ≤ 6) : ∃ w : Int, 1 ≤ w ∧ w ≤ 6 ∧ subP (.d (.list [.int 1, .int 1, .int 2, .int (l : Int)])) (.int (v : Int)) = some (.int w) :=
  match v, h with
  | 0, _ => ⟨1, by decide, by decide, rfl⟩
  | 1, _ => ⟨1, by decide, by decide, rfl⟩
  | 2, _ => ⟨2, by decide, by decide, rfl⟩
  | 3, _ => ⟨l, by omega, by omega, rfl⟩
theorem len_le {m : Int} {xs : List Int} (so : Sorted xs) (inn : ∀ a ∈ xs, 0 ≤ a ∧ a < m) (h0 : 0 ≤ m) : (xs.length : Int) ≤ m := by
  have nd : xs.Nodup := so.imp fun h e => by omega
  have q := nodup_sub_len xs ((List.range m.toNat).map fun (i : Nat) => (i : Int)) nd fun a ha => by
    obtain ⟨h0, h1⟩ := inn a ha
    exact List.mem_map.mpr ⟨a.toNat, List.mem_range.mpr (by omega), by omega⟩
  rw [List.length_map, List.length_range] at q
  omega
theorem wp_needs (N k : Nat) (R : Sto) (t : Tape) (m : Nat) (own : Int) (l : Nat) (hm : m ≤ 6) (hl : l ≤ 2) : Wp (cal phi N (k + 3) 11 [.r 0, .d (.int (m : Int)), .d (.int own), .d (.int (l : Int))] (tpO t :: R)) fun q => ∃ (ns : List Need) (t' : Tape), q = (eNeeds ns, tpO t' :: R) ∧ (∀ n ∈ ns, NeedOk m own n) ∧ ns.length ≤ 2 ∧ (othersN m own ≠ [] → l ≤ ns.length) := by
  refine fn_law_needs ?_
  refine w_set (k_val (r_tup .nil (by decide))) rfl ?_
  obtain ⟨v, t1, hv, hc⟩ := draw_i N (k + 1) R t 4 (by decide) (by decide)
  obtain ⟨w, hw, hs⟩ := sub4a (v := v) (by omega)
  refine w_for (xs := List.range (max l w)) (enc := fun (i : Nat) => .int (i : Int)) (S1 := tpO t1 :: R) (fun left ρ S => ∃ (acc : List Need) (t' : Tape) (x y : Slot), S = tpO t' :: R ∧ ρ = [.ref 0, .val (.int (m : Int)), .val (.int own), .val (.int (l : Int)), .val (eNeeds acc), x, y] ∧ acc.length + left.length ≤ 2 ∧ (∀ n ∈ acc, NeedOk m own n) ∧ (othersN m own ≠ [] → acc.length + left.length = max l w)) rfl ?_ ⟨[], t1, _, _, rfl, rfl, by rw [List.length_range]; simp; omega, by simp, by simp⟩ ?_ ?_
  · refine i_rng (n := max l w) (r_conv (d := .int (max (l : Int) (w : Int))) ?_ (by congr 1; omega)) (by omega)
    refine r_bi2 (r_v rfl) (r_sub (S1 := tpO t :: R) (S2 := tpO t1 :: R) (.e (fun i z => by cases z) (r_lst (ds := [.int 0, .int 1, .int 1, .int 2]) ?_ (by decide))) ?_ hs) (p_max _ _)
    · walk_at "evt"
    · walk_at "evt"
  · rintro i ys ρ S hi ⟨acc, t', x, y, rfl, rfl, h1, h2, h3⟩
    rw [List.length_cons] at h1 h3
    refine ⟨_, rfl, ?_⟩
    dsimp only [List.set_cons_zero, List.set_cons_succ]
    obtain ⟨_, hc, xs, t2, rfl, so, inn, len, ne⟩ := wp_some N k R t' m own hm
    refine w_set (sl := .val (tI xs)) (S1 := tpO t2 :: R) (by walk_at "evt") rfl ?_
    dsimp only [List.set_cons_zero, List.set_cons_succ]
    apply w_if
    · walk_at "evt"
    · intro hx
      rw [Bool.not_eq_true', List.isEmpty_eq_false_iff] at hx
      have hp := List.length_pos_iff.mpr hx
      obtain ⟨u, t3, hu, hcd⟩ := draw_i N (k + 1) R t2 4 (by decide) (by decide)
      obtain ⟨c, c1, c2, hs⟩ := sub4b (v := u) xs.length (by omega) hp (by omega)
      refine w_set (sl := .val (eNeeds (acc ++ [(c, xs)]))) (S1 := tpO t3 :: R) (k_val ?_) rfl ?_
      · have e : ev (cal phi N (k + 2)) (.tup (.cons (.tup (.cons (.sub (.lst (.cons (.c (.int 1)) (.cons (.c (.int 1)) (.cons (.c (.int 2)) (.cons (.bi .len (.v 6)) .nil))))) (.call 8 (.cons (.v 0) (.cons (.c (.int 4)) .nil)))) (.cons (.v 6) .nil))) .nil)) [.ref 0, .val (.int (m : Int)), .val (.int own), .val (.int (l : Int)), .val (eNeeds acc), .val (.int (i : Int)), .val (tI xs)] (tpO t2 :: R) = some (.tuple [.tuple [.int c, tI xs]], tpO t3 :: R) := by
          refine r_tup (.cons (r_tup (.cons (r_sub (S1 := tpO t2 :: R) (.e (fun i z => by cases z) (r_lst (ds := [.int 1, .int 1, .int 2, .int (xs.length : Int)]) ?_ (by simp))) ?_ hs) (.cons (r_v rfl) .nil)) (by simp)) .nil) (by simp)
          · walk_at "evt"
          · walk_at "evt"
        refine r_conv (r_bin (S2 := tpO t3 :: R) (opf_val rfl) (.e (fun i z => by cases z) e) (b_addT (by rw [List.length_map]; simp; omega))) ?_
        unfold eNeeds
        rw [List.map_append]
        rfl
      · dsimp only [List.set_cons_zero, List.set_cons_succ]
        refine w_nil (thenQ_n (w_nil (turnQ_n ⟨acc ++ [(c, xs)], t3, _, _, rfl, rfl, ?_, fun n hn => ?_, fun z => ?_⟩)))
        · rw [List.length_append, List.length_singleton]; omega
        · rcases List.mem_append.mp hn with z | z
          · exact h2 n z
          · rw [List.mem_singleton] at z; subst z
            exact ⟨so, hx, fun a ha => ⟨(inn a ha).1, (inn a ha).2.1⟩, fun z => (inn _ z).2.2 rfl, c1, c2⟩
        · have := h3 z; rw [List.length_append, List.length_singleton]; omega
    · intro hx
      rw [Bool.not_eq_false', List.isEmpty_iff] at hx
      exact w_nil (thenQ_n (w_nil (turnQ_n ⟨acc, t2, _, _, rfl, rfl, by omega, h2, fun z => absurd hx (ne z)⟩)))
  · rintro ρ S ⟨acc, t', x, y, rfl, rfl, h1, h2, h3⟩
    simp only [List.length_nil, Nat.add_zero] at h1 h3
    exact w_ret (r_v rfl) ⟨acc, t', fin3 rfl, h2, h1, fun z => by have := h3 z; omega⟩
structure StepOk (m i : Int) (s : Step) : Prop where
  few : s.2.1.length ≤ 2
  needs : ∀ n ∈ s.2.1, NeedOk m i n
  desk : s.1 ∈ (["boss", "clerk", "audit", "clerk", "chief"] : List Str)
  reads : s.2.2 ∈ ([[], ["a"], ["b"], ["a", "b"], ["c"]] : List (List Str))
/-- a rule as it is drawn, of at most so many steps -/
structure RuleD (ms : Int) (r : Rule) : Prop where
  one : 1 ≤ r.1.length
  most : (r.1.length : Int) ≤ ms
  steps : ∀ (i : Nat) s, r.1[i]? = some s → StepOk r.1.length i s
  g1 : 1 ≤ r.2.length
  g2 : r.2.length ≤ 2
  goal : ∀ n ∈ r.2, NeedOk r.1.length (-1) n
theorem sub_mem {α : Type} {e : α → Dt} {xs : List α} {v : Nat} (h : v < xs.length) : ∃ x ∈ xs, subP (.d (.list (xs.map e))) (.int (v : Int)) = some (e x) := by
  refine ⟨xs[v], List.getElem_mem h, ?_⟩
  show atI _ _ = _
  unfold atI
  rw [ixN_ok (by omega) (by rw [List.length_map]; omega), Option.bind_some, Int.toNat_natCast, List.getElem?_map, List.getElem?_eq_getElem h]
  rfl
abbrev eStrs (xs : List Str) : Dt := .tuple (xs.map .str)
theorem wp_rule (N k : Nat) (R : Sto) (t : Tape) (ms : Int) (h1 : 1 ≤ ms) (h6 : ms ≤ 6) : Wp (cal phi N (k + 4) 12 [.r 0, .d (.int ms)] (tpO t :: R)) fun q => ∃ (r : Rule) (t' : Tape), q = (eRule r, tpO t' :: R) ∧ RuleD ms r := by
  refine fn_law_rule ?_
  obtain ⟨v, t1, hv, hc⟩ := draw_i N (k + 2) R t ms (by omega) (by omega)
  have hm6 : 1 + v ≤ 6 := by omega
  refine w_set (sl := .val (.int ((1 + v : Nat) : Int))) (S1 := tpO t1 :: R) (k_val (r_conv (d := .int (1 + (v : Int))) (by walk_at "evt") (by simp))) rfl ?_
  dsimp only [List.set_cons_zero, List.set_cons_succ]
  refine w_set (k_val (r_tup .nil (by decide))) rfl ?_
  dsimp only [List.set_cons_zero, List.set_cons_succ]
  generalize hmd : 1 + v = m at hm6
  have hms : (m : Int) ≤ ms := by omega
  have hm1 : 1 ≤ m := by omega
  clear hmd hc hv
  refine w_for (xs := List.range' 0 m) (enc := fun (i : Nat) => .int (i : Int)) (S1 := tpO t1 :: R) (fun left ρ S => ∃ (acc : List Step) (t' : Tape) (x y z w : Slot), S = tpO t' :: R ∧ left = List.range' acc.length (m - acc.length) ∧ ρ = [.ref 0, .val (.int ms), .val (.int (m : Int)), .val (.tuple (acc.map eStep)), x, y, z, w] ∧ acc.length ≤ m ∧ (∀ (i : Nat) s, acc[i]? = some s → StepOk m i s)) rfl ?_ ⟨[], t1, _, _, _, _, rfl, rfl, rfl, Nat.zero_le _, by simp⟩ ?_ ?_
  · rw [← List.range_eq_range']
    refine i_rng (r_v rfl) (by omega)
  · rintro i ys ρ S hi ⟨acc, t', x, y, z, w, rfl, hl, rfl, ha, h2⟩
    have hlt : acc.length < m := by
      rcases Nat.lt_or_ge acc.length m with q | q
      · exact q
      · have : m - acc.length = 0 := by omega
        rw [this] at hl; cases hl
    have ed : m - acc.length = (m - (acc.length + 1)) + 1 := by omega
    rw [ed, List.range'_succ] at hl
    injection hl with hi' hys
    subst hi' hys
    refine ⟨_, rfl, ?_⟩
    dsimp only [List.set_cons_zero, List.set_cons_succ]
    obtain ⟨v5, t2, hv5, hc5⟩ := draw_i N (k + 2) R t' 5 (by decide) (by decide)
    have hmm : ∃ m' : Nat, m' ≤ m ∧ (if decide ((v5 : Int) = 0) = true then PyData.int (m : Int) else PyData.int (acc.length : Int)) = .int (m' : Int) := by
      split
      · exact ⟨m, Nat.le_refl _, rfl⟩
      · exact ⟨acc.length, by omega, rfl⟩
    obtain ⟨m', hm', em⟩ := hmm
    obtain ⟨_, hcn, ns, t3, rfl, hn1, hn2, _⟩ := wp_needs N k R t2 m' (acc.length : Int) 0 (by omega) (by omega)
    refine w_set (sl := .val (eNeeds ns)) (S1 := tpO t3 :: R) (k_val (r_call (as := [.r 0, .d (.int (m' : Int)), .d (.int (acc.length : Int)), .d (.int 0)]) (S1 := tpO t2 :: R) (.ref rfl (.e (fun i z => by cases z) (r_conv (r_ite (c := decide ((v5 : Int) = 0)) (S1 := tpO t2 :: R) (by walk_at "evt") (fun _ => r_v rfl) (fun _ => r_v rfl)) em) (.val rfl (.e (fun i z => by cases z) (ev_c _) .nil)))) hcn)) rfl ?_
    dsimp only [List.set_cons_zero, List.set_cons_succ]
    obtain ⟨u, t4, hu, hcu⟩ := draw_i N (k + 2) R t3 5 (by decide) (by decide)
    obtain ⟨desk, hd, hds⟩ := sub_mem (e := PyData.str) (xs := ["boss", "clerk", "audit", "clerk", "chief"]) (v := u) (by simp; omega)
    refine w_set (sl := .val (.str desk)) (S1 := tpO t4 :: R) (k_val (r_sub (S1 := tpO t3 :: R) (.e (fun i z => by cases z) (r_lst (ds := (["boss", "clerk", "audit", "clerk", "chief"] : List Str).map .str) ?_ (by decide))) ?_ hds)) rfl ?_
    · exact .cons (ev_c _) (.cons (ev_c _) (.cons (ev_c _) (.cons (ev_c _) (.cons (ev_c _) .nil))))
    · walk_at "evt"
    dsimp only [List.set_cons_zero, List.set_cons_succ]
    obtain ⟨u2, t5, hu2, hcu2⟩ := draw_i N (k + 2) R t4 5 (by decide) (by decide)
    obtain ⟨rd, hr, hrs⟩ := sub_mem (e := eStrs) (xs := [[], ["a"], ["b"], ["a", "b"], ["c"]]) (v := u2) (by simp; omega)
    refine w_set (sl := .val (eStrs rd)) (S1 := tpO t5 :: R) (k_val (r_sub (S1 := tpO t4 :: R) (.e (fun i z => by cases z) (r_lst (ds := ([[], ["a"], ["b"], ["a", "b"], ["c"]] : List (List Str)).map eStrs) ?_ (by decide))) ?_ hrs)) rfl ?_
    · refine .cons (r_tup .nil (by decide)) (.cons (r_tup (.cons (ev_c _) .nil) (by simp)) (.cons (r_tup (.cons (ev_c _) .nil) (by simp)) (.cons (r_tup (.cons (ev_c _) (.cons (ev_c _) .nil)) (by simp)) (.cons (r_tup (.cons (ev_c _) .nil) (by simp)) .nil))))
    · walk_at "evt"
    dsimp only [List.set_cons_zero, List.set_cons_succ]
    refine w_set (sl := .val (.tuple ((acc ++ [(desk, ns, rd)]).map eStep))) (S1 := tpO t5 :: R) (k_val ?_) rfl ?_
    · refine r_conv (r_bin (S2 := tpO t5 :: R) (S1 := tpO t5 :: R) (opf_val rfl) (.e (fun i z => by cases z) (r_tup (.cons (r_tup (.cons (r_v rfl) (.cons (r_v rfl) (.cons (r_v rfl) .nil))) (by simp)) .nil) (by simp))) (b_addT (by rw [List.length_map]; simp; omega))) ?_
      rw [List.map_append]
      rfl
    dsimp only [List.set_cons_zero, List.set_cons_succ]
    refine w_nil (turnQ_n ⟨acc ++ [(desk, ns, rd)], t5, _, _, _, _, rfl, ?_, rfl, ?_, fun i s his => ?_⟩)
    · rw [List.length_append, List.length_singleton]
    · rw [List.length_append, List.length_singleton]; omega
    · rcases Nat.lt_or_ge i acc.length with q | q
      · rw [List.getElem?_append_left q] at his
        exact h2 i s his
      · rw [List.getElem?_append_right q] at his
        have : i - acc.length = 0 := by
          cases hh : i - acc.length with
          | zero => rfl
          | succ j => rw [hh] at his; simp at his
        rw [this] at his
        cases his
        have : i = acc.length := by omega
        subst this
        exact ⟨hn2, fun n hn => let o := hn1 n hn; ⟨o.so, o.ne, fun a ha => ⟨(o.inn a ha).1, by have := (o.inn a ha).2; omega⟩, o.own, o.lo, o.hi⟩, hd, hr⟩
  · rintro ρ S ⟨acc, t', x, y, z, w, rfl, hl, rfl, ha, h2⟩
    have hle : acc.length = m := by
      rcases Nat.lt_or_ge acc.length m with q | q
      · have ed : m - acc.length = (m - (acc.length + 1)) + 1 := by omega
        rw [ed, List.range'_succ] at hl; cases hl
      · omega
    obtain ⟨_, hcn, ns, t3, rfl, hn1, hn2, hn3⟩ := wp_needs N k R t' m (-1) 1 (by omega) (by omega)
    refine w_ret (d := eRule (acc, ns)) (S1 := tpO t3 :: R) (r_tup (.cons (r_v rfl) (.cons (r_call (.ref rfl (.val rfl (.e (fun i z => by cases z) (r_neg (ev_c _)) (.e (fun i z => by cases z) (ev_c _) .nil)))) hcn) .nil)) (by simp)) ⟨(acc, ns), t3, fin3 rfl, ?_⟩
    subst hle
    refine ⟨hm1, hms, h2, hn3 ?_, hn2, hn1⟩
    intro e
    have : 0 ∈ othersN acc.length (-1) := List.mem_filter.mpr ⟨List.mem_range.mpr (by omega), by simp⟩
    rw [e] at this
    cases this
end Fw

set_option autoImplicit false
set_option linter.all false
set_option maxRecDepth 100000
set_option maxHeartbeats 400000
/-! desks, events, drawn rows -/
namespace Fw
open PySem L2
local macro_rules | `(tactic| walk_at "evC") => `(tactic| ((with_reducible show _ = _); with_reducible assumption))
local macro_rules | `(tactic| walk_at "evE") => `(tactic| first | with_reducible exact ev_c _ | with_reducible apply r_v | with_reducible apply r_call | with_reducible apply r_cmp | with_reducible apply r_sub | with_reducible apply r_bi | with_reducible apply r_bin | with_reducible apply r_tup | with_reducible apply r_lst | with_reducible apply r_comp | with_reducible apply r_comp0 | with_reducible apply r_not | with_reducible apply r_andN | with_reducible apply r_and1 | with_reducible apply r_orN | with_reducible apply r_or1 | with_reducible apply r_isi | with_reducible apply r_bi2 | with_reducible apply r_slc | with_reducible apply r_rev | with_reducible apply r_neg | with_reducible apply r_chain | with_reducible apply r_scr | with_reducible apply i_of | with_reducible apply i_enum' | with_reducible apply i_rng | with_reducible apply i_peek | with_reducible apply k_val | with_reducible apply k_own | with_reducible apply k_copy | with_reducible apply k_ref)
local macro_rules | `(tactic| walk_at "evO") => `(tactic| first | exact Args.nil | (apply Args.val; exact rfl) | (apply Args.ref; exact rfl) | apply args_e | (apply Opd.v; exact rfl) | apply opd_e | (apply opf_val; exact rfl) | (apply Opf.v; exact rfl) | apply opf_e | exact Evs.nil | apply Evs.cons | apply Evs.star | exact IxR'.no | apply IxR'.yes | (with_reducible apply compB_i; intro x hx; refine ⟨_, rfl, ?_, fun hp => ?_⟩) | (with_reducible apply compM_i; intro x hx; refine ⟨_, rfl, ?_⟩) | ((with_reducible show (_ = true → _ = some _)); intro) | ((with_reducible show (_ = false → _ = some _)); intro))
local macro_rules | `(tactic| walk_at "evP") => `(tactic| first | with_reducible exact c_eqI _ _ | with_reducible exact c_eqS _ _ | with_reducible exact c_neI _ _ | with_reducible exact c_neS _ _ | with_reducible exact c_ltI _ _ | with_reducible exact c_leI _ _ | with_reducible exact c_gtI _ _ | with_reducible exact c_geI _ _ | with_reducible exact c_eqB _ _ | with_reducible exact c_neB _ _ | with_reducible exact c_inT (e := PyData.int) (by decide) _ _ | with_reducible exact c_niT (e := PyData.int) (by decide) _ _ | with_reducible exact c_inL (e := PyData.int) (by decide) _ _ | with_reducible exact c_niL (e := PyData.int) (by decide) _ _ | with_reducible exact c_inT (e := PyData.str) (by decide) _ _ | with_reducible exact c_niT (e := PyData.str) (by decide) _ _ | with_reducible exact c_inL (e := PyData.str) (by decide) _ _ | with_reducible exact c_niL (e := PyData.str) (by decide) _ _ | with_reducible exact c_eqTm _ _ | with_reducible exact c_neTm _ _ | with_reducible exact c_eqLm _ _ | with_reducible exact c_neLm _ _ | with_reducible exact c_eqT (by decide) _ _ | with_reducible exact c_neT (by decide) _ _ | with_reducible exact c_eqL (by decide) _ _ | with_reducible exact c_neL (by decide) _ _ | with_reducible exact b_addI _ _ | with_reducible exact b_subI _ _ | with_reducible apply b_addT | with_reducible apply b_addL | with_reducible exact p_lenLm _ _ | with_reducible exact p_lenTm _ _ | with_reducible exact p_lenL _ | with_reducible exact p_lenT _ | with_reducible exact p_tupL _ | with_reducible exact p_tupT _ | with_reducible exact p_lstL _ | with_reducible exact p_lstT _ | with_reducible exact p_all _ _ | with_reducible exact p_any _ _ | with_reducible exact p_intI _ | with_reducible exact p_intB _ | with_reducible exact p_max _ _ | with_reducible exact p_min _ _ | ((with_reducible show subP _ _ = some _); exact rfl) | ((with_reducible show itemsOf _ = some _); exact rfl) | ((with_reducible show iterD _ = some _); exact rfl) | ((with_reducible show look _ _ _ = some _); exact rfl) | ((with_reducible show isV _ = false); exact rfl) | ((with_reducible show List.length _ ≤ 16777216); exact of_decide_eq_true rfl) | ((with_reducible show (_ : Option Slot) = some _); exact rfl))
local macro_rules | `(tactic| walk_at "evt1") => `(tactic| first | walk_at "evE" | walk_at "evO" | walk_at "evC" | walk_at "evP")
local macro_rules | `(tactic| walk_at "evt") => `(tactic| repeat' (walk_at "evt1"))
local macro_rules | `(tactic| walk_at "st1") => `(tactic| first | with_reducible apply w_set | with_reducible apply w_par | with_reducible apply w_par3 | with_reducible apply w_unp | with_reducible apply w_frz | with_reducible apply w_app | with_reducible apply w_ret | with_reducible apply w_nil | with_reducible apply thenQ_n | with_reducible apply thenQ_r | with_reducible apply turnQ_n | with_reducible apply turnQ_r | with_reducible apply fin1 | ((with_reducible show List.set _ _ _ = _); dsimp only [List.set_cons_zero, List.set_cons_succ]; try exact rfl) | ((with_reducible show bnd _ _ _ = some _); dsimp only [bnd, List.set_cons_zero, List.set_cons_succ]; try exact rfl) | ((with_reducible show bnd _ _ _ = some _); exact rfl) | ((with_reducible show freeze _ _ = _); exact rfl) | walk_at "evt1")
local macro_rules | `(tactic| walk_at "st") => `(tactic| repeat' (walk_at "st1"))
local macro_rules | `(tactic| walk_at "evC") => `(tactic| first | with_reducible apply cal_lmet | with_reducible apply cal_lmetL)
local macro_rules | `(tactic| walk_at "evC") => `(tactic| with_reducible apply s_step)
local macro_rules | `(tactic| walk_at "evC") => `(tactic| with_reducible apply cal_lready)
local macro_rules | `(tactic| walk_at "evC") => `(tactic| with_reducible apply cal_lnext)
local macro_rules | `(tactic| walk_at "evC") => `(tactic| first | with_reducible exact bi_sortL _ | with_reducible exact bi_sortT _)
local macro_rules | `(tactic| walk_at "evC") => `(tactic| with_reducible apply cal_lleft)
local macro_rules | `(tactic| walk_at "evC") => `(tactic| first | ((with_reducible apply of_self); with_reducible assumption) | exact Rule.Fit.ok (by assumption) | exact Good.filter (by assumption) _ | exact Good.inn (by assumption) _ (by assumption))
local macro_rules | `(tactic| walk_at "evC") => `(tactic| with_reducible exact cmp_isN _)
local macro_rules | `(tactic| walk_at "evC") => `(tactic| first | with_reducible exact cmp_isO _ | with_reducible apply b_snocI | with_reducible apply b_catLI)
local macro_rules | `(tactic| walk_at "evC") => `(tactic| with_reducible apply cal_aft)
local macro_rules | `(tactic| walk_at "evC") => `(tactic| with_reducible apply cal_levent)
local macro_rules | `(tactic| walk_at "evC") => `(tactic| with_reducible apply cal_fol)
local macro_rules | `(tactic| walk_at "evC") => `(tactic| with_reducible apply cal_ref)
local macro_rules | `(tactic| walk_at "evC") => `(tactic| with_reducible exact b_rep1 _)
local macro_rules | `(tactic| walk_at "evC") => `(tactic| with_reducible apply cal_lfol)
local macro_rules | `(tactic| walk_at "evC") => `(tactic| first | with_reducible apply p_sset | with_reducible exact p_srtL _ | with_reducible exact p_srtT _)
theorem RuleD.fit {ms : Int} {r : Rule} (d : RuleD ms r) (h : ms ≤ 6) : r.Fit := by
  have h6 : r.1.length ≤ 6 := by have := d.most; omega
  have nl : ∀ {i : Int} {n : Need}, NeedOk r.1.length i n → n.2.length ≤ 1000 := fun o => by
    have := len_le o.so o.inn (by omega); omega
  refine ⟨⟨by omega, fun s hs => ?_, by have := d.g2; omega, fun n hn => nl (d.goal n hn)⟩, h6⟩
  obtain ⟨i, hi⟩ := List.mem_iff_getElem?.mp hs
  have o := d.steps i s hi
  exact ⟨by have := o.few; omega, fun n hn => nl (o.needs n hn)⟩
def desks (r : Rule) : List Str := uset PyData.str (r.1.map fun s => s.1)
theorem p_ssetf {α β : Type} [DecidableEq α] {e : α → Dt} {κ : α → NestedKey} [SetE e κ] {ys : List β} {g : β → α} (h : ys.length < 69) : biP .sset (.d (.list (ys.map fun y => e (g y)))) = some (.list ((uset e (ys.map g)).map e)) := by
  have := p_sset (e := e) (xs := ys.map g) (Nat.lt_of_le_of_lt (dd_len _) (by rw [List.length_map]; exact h))
  rw [List.map_map] at this
  exact this
theorem desks_len (r : Rule) : (desks r).length ≤ r.1.length := by
  unfold desks
  refine Nat.le_trans (uset_len _) ?_
  rw [List.length_map]; exact Nat.le_refl _
theorem cal_ldesks (N k : Nat) (S : Sto) (r : Rule) (hr : r.Fit) : cal phi N (k + 1) 18 [.d (eRule r)] S = some (.list ((desks r).map .str), S) := by
  have h6 := hr.six
  refine wp_eq (fn_law_desks ?_)
  refine w_ret (r_bi (.e (fun i z => by cases z) (r_comp0 (xs := r.1) (enc := eStep) (h := fun s => .str s.1) ?_ ?_ (by omega))) (p_ssetf (g := fun (s : Step) => s.1) (by omega))) (fin1 rfl)
  · walk_at "evt"
  · walk_at "evt"
local macro_rules | `(tactic| walk_at "evC") => `(tactic| with_reducible apply cal_ldesks)
def deskEvs (r : Rule) : List Ev := (desks r).flatMap fun d => [("sign", d), ("back", d)]
def changes : List Ev := [("change", "a"), ("change", "b"), ("change", "c")]
def levs (rs : List Rule) : List Ev := uset eEv (rs.flatMap deskEvs ++ changes)
theorem deskEvs_len (r : Rule) : (deskEvs r).length = 2 * (desks r).length := by
  unfold deskEvs
  induction desks r with
  | nil => rfl
  | cons d ds ih => rw [List.flatMap_cons, List.length_append, ih, List.length_cons]; simp only [List.length_cons, List.length_nil]; omega
theorem flat_len : ∀ (rs : List Rule), (∀ r ∈ rs, r.Fit) → (rs.flatMap deskEvs).length ≤ 12 * rs.length
  | [], _ => Nat.le_refl _
  | r :: rs, h => by
    have h1 := flat_len rs fun x hx => h x (List.mem_cons_of_mem _ hx)
    have h2 := desks_len r
    have h3 := (h r List.mem_cons_self).six
    rw [List.flatMap_cons, List.length_append, deskEvs_len, List.length_cons]
    omega
theorem cal_levs (N k : Nat) (S : Sto) (rs : List Rule) (hr : ∀ r ∈ rs, r.Fit) (hl : rs.length ≤ 5) : cal phi N (k + 2) 19 [.d (.tuple (rs.map eRule))] S = some (.list ((levs rs).map eEv), S) := by
  refine wp_eq (fn_law_events ?_)
  have hfl := flat_len rs hr
  refine w_set (k_val (r_lst .nil (by decide))) rfl ?_
  refine w_for (xs := rs) (enc := eRule) (fun left ρ S' => S' = S ∧ ∃ (acc : List Ev) (x y z : Slot), ρ = [.val (.tuple (rs.map eRule)), .val (.list (acc.map eEv)), x, y, z] ∧ acc ++ left.flatMap deskEvs = rs.flatMap deskEvs) rfl (by walk_at "evt") ⟨rfl, [], _, _, _, rfl, rfl⟩ ?_ ?_
  · rintro r rs' ρ S' hrm ⟨rfl, acc, x, y, z, rfl, h2⟩
    refine ⟨_, rfl, ?_⟩
    dsimp only [List.set_cons_zero, List.set_cons_succ]
    have hz : (acc ++ (r :: rs').flatMap deskEvs).length ≤ 60 := by rw [h2]; omega
    rw [List.flatMap_cons] at h2 hz
    rw [List.length_append, List.length_append] at hz
    refine w_for (xs := desks r) (enc := PyData.str) (S1 := S') (fun left ρ S'' => S'' = S' ∧ ∃ (acc' : List Ev) (y z : Slot), ρ = [.val (.tuple (rs.map eRule)), .val (.list (acc'.map eEv)), .val (eRule r), y, z] ∧ acc' ++ (left.flatMap fun d => ([("sign", d), ("back", d)] : List Ev)) = acc ++ deskEvs r) rfl ?_ ⟨rfl, acc, _, _, rfl, rfl⟩ ?_ ?_
    · walk_at "evt"
      exact hr r hrm
    · rintro d ds ρ S'' hd ⟨rfl, acc', y, z, rfl, h3⟩
      refine ⟨_, rfl, ?_⟩
      dsimp only [List.set_cons_zero, List.set_cons_succ]
      have hz3 := congrArg List.length h3
      rw [List.flatMap_cons, List.length_append, List.length_append, List.length_append] at hz3
      simp only [List.length_cons, List.length_nil] at hz3
      refine w_set (sl := .val (.list ((acc' ++ ([("sign", d), ("back", d)] : List Ev)).map eEv))) (S1 := S'') (k_val (r_conv (r_bin (S1 := S'') (S2 := S'') (opf_val rfl) (.e (fun i z => by cases z) (r_lst (ds := [eEv ("sign", d), eEv ("back", d)]) (.cons (r_tup (.cons (ev_c _) (.cons (r_v rfl) .nil)) (by simp)) (.cons (r_tup (.cons (ev_c _) (.cons (r_v rfl) .nil)) (by simp)) .nil)) (by simp))) (b_addL (by rw [List.length_map]; simp; omega))) (by rw [List.map_append]; rfl))) rfl ?_
      refine w_nil (turnQ_n ⟨rfl, _, _, _, rfl, ?_⟩)
      rw [← h3, List.append_assoc, List.flatMap_cons]
    · rintro ρ S'' ⟨rfl, acc', y, z, rfl, h3⟩
      refine w_nil (turnQ_n ⟨rfl, _, _, _, _, rfl, ?_⟩)
      rw [List.flatMap_nil, List.append_nil] at h3
      rw [h3, List.append_assoc]
      exact h2
  · rintro ρ S' ⟨rfl, acc, x, y, z, rfl, h2⟩
    rw [List.flatMap_nil, List.append_nil] at h2
    subst h2
    have e : ev (cal phi N (k + 1)) (.comp (.tup (.cons (.c (.str "change")) (.cons (.v 4) .nil))) (.one 4) (.of (.c (.str "abc"))) .no) [.val (.tuple (rs.map eRule)), .val (.list ((rs.flatMap deskEvs).map eEv)), x, y, z] S' = some (.list ((["a", "b", "c"] : List Str).map fun p => eEv ("change", p)), S') := by
      refine r_comp0 (enc := PyData.str) (i_of (ev_c _) rfl) (compM_i fun p hp => ⟨_, rfl, ?_⟩) (by decide)
      exact r_tup (.cons (ev_c _) (.cons (r_v rfl) .nil)) (by simp)
    refine w_ret (r_bi (.e (fun i z => by cases z) (r_conv (r_bin (S1 := S') (S2 := S') (opf_val rfl) (.e (fun i z => by cases z) e) (b_addL (by rw [List.length_map, List.length_map]; have : (["a", "b", "c"] : List Str).length = 3 := rfl; omega))) (d' := .list ((rs.flatMap deskEvs ++ changes).map eEv)) (by rw [List.map_append]; rfl))) (p_sset ?_)) (fin1 rfl)
    refine Nat.lt_of_le_of_lt (dd_len _) ?_
    rw [List.length_append]
    have : changes.length = 3 := rfl
    omega
local macro_rules | `(tactic| walk_at "evC") => `(tactic| with_reducible apply cal_levs)
theorem levs_len {rs : List Rule} (hr : ∀ r ∈ rs, r.Fit) (hl : rs.length ≤ 5) : (levs rs).length ≤ 63 := by
  have := flat_len rs hr
  refine Nat.le_trans (uset_len _) ?_
  rw [List.length_append]
  have : changes.length = 3 := rfl
  omega
theorem levs_pos (rs : List Rule) : 0 < (levs rs).length := by
  have : ((("change" : Str), ("a" : Str)) : Ev) ∈ levs rs := mem_uset.mpr (List.mem_append_right _ List.mem_cons_self)
  exact List.length_pos_of_mem this
/-- for a back there is a sign -/
theorem levs_sign {rs : List Rule} {e : Ev} (h : e ∈ levs rs) (hb : e.1 = ("back" : Str)) : ((("sign" : Str), e.2) : Ev) ∈ levs rs := by
  rcases List.mem_append.mp (mem_uset.mp h) with z | z
  · obtain ⟨r, h1, h2⟩ := List.mem_flatMap.mp z
    obtain ⟨d, h3, h4⟩ := List.mem_flatMap.mp h2
    have e2 : e.2 = d := by
      simp only [List.mem_cons, List.not_mem_nil, or_false] at h4
      rcases h4 with rfl | rfl <;> rfl
    refine mem_uset.mpr (List.mem_append_left _ (List.mem_flatMap.mpr ⟨r, h1, (List.mem_flatMap.mpr ⟨d, h3, ?_⟩ : _ ∈ deskEvs r)⟩))
    rw [e2]; exact List.mem_cons_self
  · unfold changes at z
    simp only [List.mem_cons, List.not_mem_nil, or_false] at z
    rcases z with rfl | rfl | rfl <;> exact absurd hb (by decide)
theorem wp_row (N k : Nat) (R : Sto) (t : Tape) (rs : List Rule) (ms : Int) (hr : ∀ r ∈ rs, r.Fit) (hl : rs.length ≤ 5) (h0 : 0 ≤ ms) (h1 : ms ≤ 1000) : Wp (cal phi N (k + 3) 20 [.r 0, .d (.tuple (rs.map eRule)), .d (.int ms)] (tpO t :: R)) fun q => ∃ (es : List Ev) (t' : Tape), q = (eEvs es, tpO t' :: R) ∧ (es.length : Int) ≤ ms ∧ ∀ e ∈ es, e ∈ levs rs := by
  refine fn_law_row ?_
  have hel := levs_len hr hl
  have hep := levs_pos rs
  refine w_par (sl := .val (.list ((levs rs).map eEv))) (S1 := tpO t :: R) (k_val (by walk_at "evt" <;> assumption)) (k_val (r_tup .nil (by decide))) rfl ?_
  dsimp only [List.set_cons_zero, List.set_cons_succ]
  obtain ⟨v, t1, hv, hc⟩ := draw_i N (k + 1) R t (ms + 1) (by omega) (by omega)
  refine w_for (xs := List.range v) (enc := fun (i : Nat) => .int (i : Int)) (S1 := tpO t1 :: R) (fun left ρ S => ∃ (acc : List Ev) (t' : Tape) (x y : Slot), S = tpO t' :: R ∧ ρ = [.ref 0, .val (.tuple (rs.map eRule)), .val (.int ms), .val (.list ((levs rs).map eEv)), .val (eEvs acc), x, y] ∧ ((acc.length + left.length : Nat) : Int) ≤ ms ∧ ∀ e ∈ acc, e ∈ levs rs) rfl ?_ ⟨[], t1, _, _, rfl, rfl, by rw [List.length_range]; simp; omega, by simp⟩ ?_ ?_
  · walk_at "evt"
    omega
  · rintro i ys ρ S hi ⟨acc, t', x, y, rfl, rfl, h2, h3⟩
    rw [List.length_cons] at h2
    refine ⟨_, rfl, ?_⟩
    dsimp only [List.set_cons_zero, List.set_cons_succ]
    obtain ⟨u, t2, hu, hcu⟩ := draw_i N (k + 1) R t' (levs rs).length (by omega) (by omega)
    obtain ⟨e, he, hes⟩ := sub_mem (e := eEv) (xs := levs rs) (v := u) (by omega)
    refine w_set (sl := .val (eEv e)) (S1 := tpO t2 :: R) (k_val (r_sub (S1 := tpO t' :: R) (opf_val rfl) (by walk_at "evt") hes)) rfl ?_
    dsimp only [List.set_cons_zero, List.set_cons_succ]
    obtain ⟨w, t3, hw, hcw⟩ := draw_i N (k + 1) R t2 3 (by omega) (by omega)
    have last : ∀ (e' : Ev) (i : Int), e' ∈ levs rs → Wp (xcs (cal phi N (k + 2)) N (.cons (.set 4 (.val (.bin .Add (.v 4) (.tup (.cons (.v 6) .nil))))) .nil) [.ref 0, .val (.tuple (rs.map eRule)), .val (.int ms), .val (.list ((levs rs).map eEv)), .val (eEvs acc), .val (.int i), .val (eEv e')] (tpO t3 :: R)) (turnQ (fun ρ S => ∃ (acc : List Ev) (t' : Tape) (x y : Slot), S = tpO t' :: R ∧ ρ = [.ref 0, .val (.tuple (rs.map eRule)), .val (.int ms), .val (.list ((levs rs).map eEv)), .val (eEvs acc), x, y] ∧ ((acc.length + ys.length : Nat) : Int) ≤ ms ∧ ∀ e ∈ acc, e ∈ levs rs) fun q => ∃ (es : List Ev) (t' : Tape), (outD q.1, q.2.2.take (tpO t :: R).length) = (eEvs es, tpO t' :: R) ∧ (es.length : Int) ≤ ms ∧ ∀ e ∈ es, e ∈ levs rs) := by
      intro e' i he'
      refine w_set (sl := .val (eEvs (acc ++ [e']))) (S1 := tpO t3 :: R) (k_val (r_conv (r_bin (S1 := tpO t3 :: R) (S2 := tpO t3 :: R) (opf_val rfl) (.e (fun i z => by cases z) (r_tup (.cons (r_v rfl) .nil) (by simp))) (b_addT (by rw [List.length_map]; simp; omega))) (by unfold eEvs; rw [List.map_append]; rfl))) rfl ?_
      refine w_nil (turnQ_n ⟨acc ++ [e'], t3, _, _, rfl, rfl, by rw [List.length_append, List.length_singleton]; omega, fun z hz => ?_⟩)
      rcases List.mem_append.mp hz with q | q
      · exact h3 z q
      · rw [List.mem_singleton] at q; rw [q]; exact he'
    apply w_if (k := (decide ((0 : Int) < (w : Int)) && decide (e.1 = ("back" : Str))))
    · exact r_and2 (S1 := tpO t3 :: R) (by walk_at "evt") fun _ => by walk_at "evt"
    · intro hc
      rw [Bool.and_eq_true, decide_eq_true_eq, decide_eq_true_eq] at hc
      refine w_set (sl := .val (eEv ("sign", e.2))) (S1 := tpO t3 :: R) (k_val (r_tup (.cons (ev_c _) (.cons (by walk_at "evt") .nil)) (by simp))) rfl ?_
      exact w_nil (thenQ_n (last ("sign", e.2) i (levs_sign he hc.2)))
    · intro _
      exact w_nil (thenQ_n (last e i he))
  · rintro ρ S ⟨acc, t', x, y, rfl, rfl, h2, h3⟩
    simp only [List.length_nil, Nat.add_zero] at h2
    exact w_ret (r_v rfl) ⟨acc, t', fin3 rfl, h2, h3⟩
end Fw

set_option autoImplicit false
set_option linter.all false
set_option maxRecDepth 100000
set_option maxHeartbeats 400000
/-! sorting by putting in; examples can be reckoned -/
namespace Fw
open PySem L2
local macro_rules | `(tactic| walk_at "evC") => `(tactic| ((with_reducible show _ = _); with_reducible assumption))
local macro_rules | `(tactic| walk_at "evE") => `(tactic| first | with_reducible exact ev_c _ | with_reducible apply r_v | with_reducible apply r_call | with_reducible apply r_cmp | with_reducible apply r_sub | with_reducible apply r_bi | with_reducible apply r_bin | with_reducible apply r_tup | with_reducible apply r_lst | with_reducible apply r_comp | with_reducible apply r_comp0 | with_reducible apply r_not | with_reducible apply r_andN | with_reducible apply r_and1 | with_reducible apply r_orN | with_reducible apply r_or1 | with_reducible apply r_isi | with_reducible apply r_bi2 | with_reducible apply r_slc | with_reducible apply r_rev | with_reducible apply r_neg | with_reducible apply r_chain | with_reducible apply r_scr | with_reducible apply i_of | with_reducible apply i_enum' | with_reducible apply i_rng | with_reducible apply i_peek | with_reducible apply k_val | with_reducible apply k_own | with_reducible apply k_copy | with_reducible apply k_ref)
local macro_rules | `(tactic| walk_at "evO") => `(tactic| first | exact Args.nil | (apply Args.val; exact rfl) | (apply Args.ref; exact rfl) | apply args_e | (apply Opd.v; exact rfl) | apply opd_e | (apply opf_val; exact rfl) | (apply Opf.v; exact rfl) | apply opf_e | exact Evs.nil | apply Evs.cons | apply Evs.star | exact IxR'.no | apply IxR'.yes | (with_reducible apply compB_i; intro x hx; refine ⟨_, rfl, ?_, fun hp => ?_⟩) | (with_reducible apply compM_i; intro x hx; refine ⟨_, rfl, ?_⟩) | ((with_reducible show (_ = true → _ = some _)); intro) | ((with_reducible show (_ = false → _ = some _)); intro))
local macro_rules | `(tactic| walk_at "evP") => `(tactic| first | with_reducible exact c_eqI _ _ | with_reducible exact c_eqS _ _ | with_reducible exact c_neI _ _ | with_reducible exact c_neS _ _ | with_reducible exact c_ltI _ _ | with_reducible exact c_leI _ _ | with_reducible exact c_gtI _ _ | with_reducible exact c_geI _ _ | with_reducible exact c_eqB _ _ | with_reducible exact c_neB _ _ | with_reducible exact c_inT (e := PyData.int) (by decide) _ _ | with_reducible exact c_niT (e := PyData.int) (by decide) _ _ | with_reducible exact c_inL (e := PyData.int) (by decide) _ _ | with_reducible exact c_niL (e := PyData.int) (by decide) _ _ | with_reducible exact c_inT (e := PyData.str) (by decide) _ _ | with_reducible exact c_niT (e := PyData.str) (by decide) _ _ | with_reducible exact c_inL (e := PyData.str) (by decide) _ _ | with_reducible exact c_niL (e := PyData.str) (by decide) _ _ | with_reducible exact c_eqTm _ _ | with_reducible exact c_neTm _ _ | with_reducible exact c_eqLm _ _ | with_reducible exact c_neLm _ _ | with_reducible exact c_eqT (by decide) _ _ | with_reducible exact c_neT (by decide) _ _ | with_reducible exact c_eqL (by decide) _ _ | with_reducible exact c_neL (by decide) _ _ | with_reducible exact b_addI _ _ | with_reducible exact b_subI _ _ | with_reducible apply b_addT | with_reducible apply b_addL | with_reducible exact p_lenLm _ _ | with_reducible exact p_lenTm _ _ | with_reducible exact p_lenL _ | with_reducible exact p_lenT _ | with_reducible exact p_tupL _ | with_reducible exact p_tupT _ | with_reducible exact p_lstL _ | with_reducible exact p_lstT _ | with_reducible exact p_all _ _ | with_reducible exact p_any _ _ | with_reducible exact p_intI _ | with_reducible exact p_intB _ | with_reducible exact p_max _ _ | with_reducible exact p_min _ _ | ((with_reducible show subP _ _ = some _); exact rfl) | ((with_reducible show itemsOf _ = some _); exact rfl) | ((with_reducible show iterD _ = some _); exact rfl) | ((with_reducible show look _ _ _ = some _); exact rfl) | ((with_reducible show isV _ = false); exact rfl) | ((with_reducible show List.length _ ≤ 16777216); exact of_decide_eq_true rfl) | ((with_reducible show (_ : Option Slot) = some _); exact rfl))
local macro_rules | `(tactic| walk_at "evt1") => `(tactic| first | walk_at "evE" | walk_at "evO" | walk_at "evC" | walk_at "evP")
local macro_rules | `(tactic| walk_at "evt") => `(tactic| repeat' (walk_at "evt1"))
local macro_rules | `(tactic| walk_at "st1") => `(tactic| first | with_reducible apply w_set | with_reducible apply w_par | with_reducible apply w_par3 | with_reducible apply w_unp | with_reducible apply w_frz | with_reducible apply w_app | with_reducible apply w_ret | with_reducible apply w_nil | with_reducible apply thenQ_n | with_reducible apply thenQ_r | with_reducible apply turnQ_n | with_reducible apply turnQ_r | with_reducible apply fin1 | ((with_reducible show List.set _ _ _ = _); dsimp only [List.set_cons_zero, List.set_cons_succ]; try exact rfl) | ((with_reducible show bnd _ _ _ = some _); dsimp only [bnd, List.set_cons_zero, List.set_cons_succ]; try exact rfl) | ((with_reducible show bnd _ _ _ = some _); exact rfl) | ((with_reducible show freeze _ _ = _); exact rfl) | walk_at "evt1")
local macro_rules | `(tactic| walk_at "st") => `(tactic| repeat' (walk_at "st1"))
local macro_rules | `(tactic| walk_at "evC") => `(tactic| first | with_reducible apply cal_lmet | with_reducible apply cal_lmetL)
local macro_rules | `(tactic| walk_at "evC") => `(tactic| with_reducible apply s_step)
local macro_rules | `(tactic| walk_at "evC") => `(tactic| with_reducible apply cal_lready)
local macro_rules | `(tactic| walk_at "evC") => `(tactic| with_reducible apply cal_lnext)
local macro_rules | `(tactic| walk_at "evC") => `(tactic| first | with_reducible exact bi_sortL _ | with_reducible exact bi_sortT _)
local macro_rules | `(tactic| walk_at "evC") => `(tactic| with_reducible apply cal_lleft)
local macro_rules | `(tactic| walk_at "evC") => `(tactic| first | ((with_reducible apply of_self); with_reducible assumption) | exact Rule.Fit.ok (by assumption) | exact Good.filter (by assumption) _ | exact Good.inn (by assumption) _ (by assumption))
local macro_rules | `(tactic| walk_at "evC") => `(tactic| with_reducible exact cmp_isN _)
local macro_rules | `(tactic| walk_at "evC") => `(tactic| first | with_reducible exact cmp_isO _ | with_reducible apply b_snocI | with_reducible apply b_catLI)
local macro_rules | `(tactic| walk_at "evC") => `(tactic| with_reducible apply cal_aft)
local macro_rules | `(tactic| walk_at "evC") => `(tactic| with_reducible apply cal_levent)
local macro_rules | `(tactic| walk_at "evC") => `(tactic| with_reducible apply cal_fol)
local macro_rules | `(tactic| walk_at "evC") => `(tactic| with_reducible apply cal_ref)
local macro_rules | `(tactic| walk_at "evC") => `(tactic| with_reducible exact b_rep1 _)
local macro_rules | `(tactic| walk_at "evC") => `(tactic| with_reducible apply cal_lfol)
local macro_rules | `(tactic| walk_at "evC") => `(tactic| first | with_reducible apply p_sset | with_reducible exact p_srtL _ | with_reducible exact p_srtT _)
local macro_rules | `(tactic| walk_at "evC") => `(tactic| with_reducible apply cal_ldesks)
local macro_rules | `(tactic| walk_at "evC") => `(tactic| with_reducible apply cal_levs)
section
variable {α : Type} {le : α → α → Bool}
def ins (le : α → α → Bool) (a : α) : List α → List α
  | [] => [a]
  | b :: l => if le a b = true then a :: b :: l else b :: ins le a l
def isrt (le : α → α → Bool) : List α → List α
  | [] => []
  | a :: l => ins le a (isrt le l)
theorem ins_perm (a : α) : ∀ l : List α, (ins le a l).Perm (a :: l)
  | [] => List.Perm.refl _
  | b :: l => by
    rw [ins]
    split
    · exact List.Perm.refl _
    · exact ((ins_perm a l).cons b).trans (List.Perm.swap ..)
theorem isrt_perm : ∀ l : List α, (isrt le l).Perm l
  | [] => List.Perm.refl _
  | a :: l => (ins_perm a _).trans ((isrt_perm l).cons a)
theorem ins_sorted (tr : ∀ a b c, le a b = true → le b c = true → le a c = true) (to : ∀ a b, (le a b || le b a) = true) (a : α) : ∀ l : List α, l.Pairwise (fun a b => le a b = true) → (ins le a l).Pairwise (fun a b => le a b = true)
  | [], _ => by rw [ins]; exact List.pairwise_singleton _ _
  | b :: l, h => by
    rw [List.pairwise_cons] at h
    rw [ins]
    split
    · rename_i hab
      rw [List.pairwise_cons, List.pairwise_cons]
      refine ⟨fun c hc => ?_, h⟩
      rcases List.mem_cons.mp hc with rfl | hc
      · exact hab
      · exact tr a b c hab (h.1 c hc)
    · rename_i hab
      rw [List.pairwise_cons]
      refine ⟨fun c hc => ?_, ins_sorted tr to a l h.2⟩
      rcases List.mem_cons.mp ((ins_perm a l).mem_iff.mp hc) with rfl | hc
      · have := to c b
        rw [Bool.or_eq_true] at this
        rcases this with z | z
        · exact absurd z hab
        · exact z
      · exact h.1 c hc
theorem isrt_sorted (tr : ∀ a b c, le a b = true → le b c = true → le a c = true) (to : ∀ a b, (le a b || le b a) = true) : ∀ l : List α, (isrt le l).Pairwise (fun a b => le a b = true)
  | [] => List.Pairwise.nil
  | a :: l => ins_sorted tr to a _ (isrt_sorted tr to l)
theorem msort_isrt (tr : ∀ a b c, le a b = true → le b c = true → le a c = true) (to : ∀ a b, (le a b || le b a) = true) (an : ∀ a b, le a b = true → le b a = true → a = b) (l : List α) : l.mergeSort le = isrt le l :=
  List.Perm.eq_of_pairwise (fun a b _ _ => an a b) (List.pairwise_mergeSort tr to l) (isrt_sorted tr to l) ((List.mergeSort_perm l le).trans (isrt_perm l).symm)
end
def leI (a b : Int) : Bool := decide (a ≤ b)
theorem isort_isrt (l : List Int) : isort l = isrt leI l := msort_isrt (fun a b c h1 h2 => by rw [decide_eq_true_eq] at *; omega) (fun a b => by rw [Bool.or_eq_true, decide_eq_true_eq, decide_eq_true_eq]; omega) (fun a b h1 h2 => by rw [decide_eq_true_eq] at *; omega) l
/-- the same, to be reckoned -/
def aftC (r : Rule) (st : List Int) (e : Ev) : Option (List Int) :=
  if e.1 = ("change" : Str) then some (fall r (r.1.length + 1) (st.filter fun a => !decide (e.2 ∈ (stepAt r a).2.2)))
  else match (nexts r st e.2).head? with
    | none => none
    | some a => if e.1 = ("sign" : Str) then some (isrt leI (st ++ [a]))
      else if (st.filter fun s => !decide (s ∈ asked (stepAt r a).2.1)) = st then none else some (fall r (r.1.length + 1) (st.filter fun s => !decide (s ∈ asked (stepAt r a).2.1)))
theorem aft_C (r : Rule) (st : List Int) (e : Ev) : aft r st e = aftC r st e := by
  unfold aft after aftC
  cases (nexts r st e.2).head? with
  | none => rfl
  | some a => simp only [isort_isrt]
def traceC (r : Rule) : List Int → List Ev → List (List Int)
  | _, [] => []
  | st, e :: es => (aftC r st e).getD st :: traceC r ((aftC r st e).getD st) es
def badsC (r : Rule) : Nat → List Int → List Ev → List Int
  | _, _, [] => []
  | i, st, e :: es => (if (aftC r st e).isNone = true then [(i : Int)] else []) ++ badsC r (i + 1) ((aftC r st e).getD st) es
theorem trace_C (r : Rule) : ∀ (es : List Ev) (st : List Int), trace r st es = traceC r st es
  | [], _ => rfl
  | e :: es, st => by rw [trace, traceC, trace_C r es, aft_C]
theorem bads_C (r : Rule) : ∀ (es : List Ev) (i : Nat) (st : List Int), bads r i st es = badsC r i st es
  | [], _, _ => rfl
  | e :: es, i, st => by rw [bads, badsC, bads_C r es, aft_C]
theorem trace_good {r : Rule} : ∀ {es : List Ev} {st : List Int}, Good r st → ∀ s ∈ trace r st es, Good r s
  | [], _, _, _, h => by cases h
  | e :: es, st, g, s, h => by
    rw [trace] at h
    rcases List.mem_cons.mp h with rfl | h
    · exact aft_good g e
    · exact trace_good (aft_good g e) s h
theorem depth_T {α : Type} {e : α → Dt} {n : Nat} [EqE e n] (xs : List α) : PyData.depth (.tuple (xs.map e)) ≤ n + 1 := by rw [PyData.depth]; exact Nat.succ_le_succ (depthAll_map xs)
theorem depth_L {α : Type} {e : α → Dt} {n : Nat} [EqE e n] (xs : List α) : PyData.depth (.list (xs.map e)) ≤ n + 1 := by rw [PyData.depth]; exact Nat.succ_le_succ (depthAll_map xs)
theorem nice_L {α : Type} {e : α → Dt} {xs : List α} (hl : xs.length ≤ 16777216) (h : ∀ x ∈ xs, nice (e x) = true) : nice (.list (xs.map e)) = true := by rw [nice, List.length_map, decide_eq_true hl, niceAll_map h]; rfl
theorem nice_T {α : Type} {e : α → Dt} {xs : List α} (hl : xs.length ≤ 16777216) (h : ∀ x ∈ xs, nice (e x) = true) : nice (.tuple (xs.map e)) = true := by rw [nice, List.length_map, decide_eq_true hl, niceAll_map h]; rfl
theorem nice_tI {r : Rule} {st : List Int} (hr : r.Fit) (g : Good r st) : nice (tI st) = true := nice_T (by have := g.len; have := hr.six; omega) fun _ _ => rfl
theorem slc_hi {xs : List Dt} (n : Nat) : slcD (.list xs) none (some (n : Int)) = some (.list (xs.take n)) := by
  simp only [slcD, cutD, HT.sIx_none, HT.sIx_nat, List.drop_zero, Nat.sub_zero]
  rw [Nat.min_def]
  split
  · rfl
  · rw [List.take_of_length_le (Nat.le_refl _), List.take_of_length_le (by omega)]
end Fw

set_option autoImplicit false
set_option linter.all false
set_option maxRecDepth 100000
set_option maxHeartbeats 400000
/-! walks by levels; what desks can sign at last -/
namespace Fw
open PySem L2

def subs : List Int → List (List Int)
  | [] => [[]]
  | a :: l => subs l ++ (subs l).map (a :: ·)
theorem subs_len : ∀ l : List Int, (subs l).length = 2 ^ l.length
  | [] => rfl
  | a :: l => by rw [subs, List.length_append, List.length_map, subs_len l, List.length_cons, Nat.pow_succ]; omega
theorem mem_subs : ∀ {l s : List Int}, s.Sublist l → s ∈ subs l
  | _, _, .slnil => List.mem_cons_self
  | _, _, .cons a h => by rw [subs]; exact List.mem_append_left _ (mem_subs h)
  | _, _, .cons₂ a h => by rw [subs]; exact List.mem_append_right _ (List.mem_map.mpr ⟨_, mem_subs h, rfl⟩)
theorem sorted_sub : ∀ {l s : List Int}, Sorted s → Sorted l → (∀ a ∈ s, a ∈ l) → s.Sublist l
  | _, [], _, _, _ => List.nil_sublist _
  | [], a :: s, _, _, h => by cases h a List.mem_cons_self
  | b :: l, a :: s, hs, hl, h => by
    unfold Sorted at hs hl
    rw [List.pairwise_cons] at hs hl
    by_cases e : a = b
    · subst e
      refine .cons₂ a (sorted_sub hs.2 hl.2 fun c hc => ?_)
      rcases List.mem_cons.mp (h c (List.mem_cons_of_mem _ hc)) with z | z
      · have := hs.1 c hc; omega
      · exact z
    · have hab : b < a := by
        rcases List.mem_cons.mp (h a List.mem_cons_self) with z | z
        · exact absurd z e
        · exact hl.1 a z
      refine .cons b (sorted_sub (List.pairwise_cons.mpr hs) hl.2 fun c hc => ?_)
      rcases List.mem_cons.mp (h c hc) with z | z
      · rcases List.mem_cons.mp hc with q | q
        · omega
        · have := hs.1 c q; omega
      · exact z
def rangeI (n : Nat) : List Int := (List.range n).map fun (i : Nat) => (i : Int)
theorem mem_rangeI {n : Nat} {a : Int} : a ∈ rangeI n ↔ 0 ≤ a ∧ a < n := by
  unfold rangeI
  rw [List.mem_map]
  constructor
  · rintro ⟨i, h, rfl⟩; have := List.mem_range.mp h; omega
  · rintro ⟨h0, h1⟩; exact ⟨a.toNat, List.mem_range.mpr (by omega), by omega⟩
theorem rangeI_sorted (n : Nat) : Sorted (rangeI n) := by
  unfold rangeI Sorted
  rw [List.pairwise_map]
  exact List.pairwise_lt_range.imp fun h => by omega
theorem nodup_len {α : Type} [DecidableEq α] : ∀ {l u : List α}, l.Nodup → (∀ a ∈ l, a ∈ u) → l.length ≤ u.length
  | [], _, _, _ => Nat.zero_le _
  | a :: l, u, nd, h => by
    rw [List.nodup_cons] at nd
    have h1 := nodup_len (u := u.erase a) nd.2 fun b hb => (List.mem_erase_of_ne fun e => nd.1 (by rw [← e]; exact hb)).mpr (h b (List.mem_cons_of_mem _ hb))
    have ha := h a List.mem_cons_self
    rw [List.length_erase_of_mem ha] at h1
    have := List.length_pos_of_mem ha
    rw [List.length_cons]
    omega
theorem states_bound {r : Rule} {kn : List (List Int)} (h6 : r.1.length ≤ 6) (nd : kn.Nodup) (g : ∀ s ∈ kn, Good r s) : kn.length ≤ 64 := by
  have h1 := nodup_len nd (u := subs (rangeI r.1.length)) fun s hs => mem_subs (sorted_sub (g s hs).so (rangeI_sorted _) fun a ha => mem_rangeI.mpr ((g s hs).inn a ha))
  rw [subs_len] at h1
  have e : (rangeI r.1.length).length = r.1.length := by unfold rangeI; rw [List.length_map, List.length_range]
  rw [e] at h1
  exact Nat.le_trans h1 (Nat.le_trans (Nat.pow_le_pow_right (by decide) h6) (by decide))
theorem sorted_ext {s t : List Int} (hs : Sorted s) (ht : Sorted t) (h : ∀ a, a ∈ s ↔ a ∈ t) : s = t := by
  refine List.Perm.eq_of_pairwise (le := fun a b => a < b) (fun a b _ _ h1 h2 => by omega) hs ht ?_
  exact (List.perm_ext_iff_of_nodup (hs.imp fun h e => by omega) (ht.imp fun h e => by omega)).mpr h

/-! ### by levels -/
section
variable {ν L : Type} [DecidableEq ν]
def bStep (nx : ν → L → Option ν) (row : List L) (now : ν) (acc : List ν × List (List L × ν)) (l : L) : List ν × List (List L × ν) := match nx now l with
  | none => acc
  | some t => if t ∈ acc.1 then acc else (acc.1 ++ [t], acc.2 ++ [(row ++ [l], t)])
theorem bStep_none {nx : ν → L → Option ν} {row : List L} {now : ν} {acc : List ν × List (List L × ν)} {l : L} (q : nx now l = none) : bStep nx row now acc l = acc := by unfold bStep; rw [q]
theorem bStep_old {nx : ν → L → Option ν} {row : List L} {now t : ν} {acc : List ν × List (List L × ν)} {l : L} (q : nx now l = some t) (h : t ∈ acc.1) : bStep nx row now acc l = acc := by unfold bStep; rw [q]; simp only; rw [if_pos h]
theorem bStep_new {nx : ν → L → Option ν} {row : List L} {now t : ν} {acc : List ν × List (List L × ν)} {l : L} (q : nx now l = some t) (h : t ∉ acc.1) : bStep nx row now acc l = (acc.1 ++ [t], acc.2 ++ [(row ++ [l], t)]) := by unfold bStep; rw [q]; simp only; rw [if_neg h]
def bLevel (nx : ν → L → Option ν) (gl : ν → Bool) (ls : List L) : List (List L × ν) → List ν × List (List L × ν) → (List L) ⊕ (List ν × List (List L × ν))
  | [], acc => .inr acc
  | p :: ps, acc => if gl p.2 = true then .inl p.1 else bLevel nx gl ls ps (ls.foldl (bStep nx p.1 p.2) acc)
def bfs (nx : ν → L → Option ν) (gl : ν → Bool) (ls : List L) : Nat → List ν → List (List L × ν) → Option (List L)
  | 0, _, _ => none
  | n + 1, kn, last => if last.isEmpty = true then none else match bLevel nx gl ls last (kn, []) with
    | .inl row => some row
    | .inr acc => bfs nx gl ls n acc.1 acc.2
variable {nx : ν → L → Option ν} {gl : ν → Bool} {ls : List L}
/-- what stands in a level that is being made -/
structure AccOk (P : ν → Prop) (kn0 : List ν) (acc : List ν × List (List L × ν)) : Prop where
  len : acc.1.length = kn0.length + acc.2.length
  nd : acc.1.Nodup
  good : ∀ s ∈ acc.1, P s
  rows : ∀ p ∈ acc.2, p.1.length ≤ kn0.length ∧ p.2 ∈ acc.1
theorem AccOk.step {P : ν → Prop} {kn0 : List ν} {acc : List ν × List (List L × ν)} (o : AccOk P kn0 acc) {row : List L} {now : ν} {l : L} (hr : row.length + 1 ≤ kn0.length) (hp : ∀ t, nx now l = some t → P t) : AccOk P kn0 (bStep nx row now acc l) := by
  unfold bStep
  cases e : nx now l with
  | none => exact o
  | some t =>
    simp only
    split
    · exact o
    · rename_i hn
      refine ⟨by simp only [List.length_append, List.length_singleton, o.len]; omega, ?_, fun s hs => ?_, fun p hp' => ?_⟩
      · rw [List.nodup_append]
        exact ⟨o.nd, List.nodup_cons.mpr ⟨by simp, List.nodup_nil⟩, fun a ha b hb e => by rw [List.mem_singleton] at hb; rw [e, hb] at ha; exact hn ha⟩
      · rcases List.mem_append.mp hs with z | z
        · exact o.good s z
        · rw [List.mem_singleton] at z; rw [z]; exact hp t e
      · rcases List.mem_append.mp hp' with z | z
        · exact ⟨(o.rows p z).1, List.mem_append_left _ (o.rows p z).2⟩
        · rw [List.mem_singleton] at z
          subst z
          refine ⟨by rw [List.length_append, List.length_singleton]; exact hr, List.mem_append_right _ List.mem_cons_self⟩
theorem AccOk.steps {P : ν → Prop} {kn0 : List ν} {row : List L} {now : ν} (hr : row.length + 1 ≤ kn0.length) : ∀ (ls : List L) {acc : List ν × List (List L × ν)}, AccOk P kn0 acc → (∀ l ∈ ls, ∀ t, nx now l = some t → P t) → AccOk P kn0 (ls.foldl (bStep nx row now) acc)
  | [], _, o, _ => o
  | l :: ls, _, o, h => AccOk.steps hr ls (o.step hr (h l List.mem_cons_self)) fun m hm => h m (List.mem_cons_of_mem _ hm)
/-- what stands between the levels, U a bound -/
structure BOk (P : ν → Prop) (U : Nat) (f : Nat) (kn : List ν) (last : List (List L × ν)) : Prop where
  nd : kn.Nodup
  good : ∀ s ∈ kn, P s
  rows : ∀ p ∈ last, p.1.length + 1 ≤ kn.length ∧ p.2 ∈ kn
  few : last.length ≤ kn.length
  fuel : U - kn.length + (if last.isEmpty = true then 0 else 1) ≤ f
theorem BOk.acc {P : ν → Prop} {U f : Nat} {kn : List ν} {last : List (List L × ν)} (b : BOk P U f kn last) : AccOk P kn ((kn, []) : List ν × List (List L × ν)) := ⟨rfl, b.nd, b.good, fun p hp => by cases hp⟩
theorem BOk.next {P : ν → Prop} {U f : Nat} {kn : List ν} {last : List (List L × ν)} {acc : List ν × List (List L × ν)} (b : BOk P U (f + 1) kn last) (ne : last.isEmpty = false) (o : AccOk P kn acc) (hU : ∀ l : List ν, l.Nodup → (∀ s ∈ l, P s) → l.length ≤ U) : BOk P U f acc.1 acc.2 := by
  have h1 := b.fuel
  rw [ne, if_neg Bool.false_ne_true] at h1
  have h2 := hU _ o.nd o.good
  have h3 := o.len
  refine ⟨o.nd, o.good, fun p hp => ⟨?_, (o.rows p hp).2⟩, by omega, ?_⟩
  · have := (o.rows p hp).1
    have := List.length_pos_of_mem hp
    omega
  · split
    · omega
    · rename_i hz
      have : acc.2 ≠ [] := fun e => hz (by rw [e]; rfl)
      have := List.length_pos_iff.mpr this
      omega
/-- where rows lead, no goal on the way -/
inductive Wy (nx : ν → L → Option ν) (gl : ν → Bool) (ls : List L) (s : ν) : List L → ν → Prop
  | nil : Wy nx gl ls s [] s
  | snoc {row : List L} {t u : ν} {l : L} (h : Wy nx gl ls s row t) (g : gl t = false) (hl : l ∈ ls) (e : nx t l = some u) : Wy nx gl ls s (row ++ [l]) u
inductive Rch (nx : ν → L → Option ν) (ls : List L) (s : ν) : ν → Prop
  | refl : Rch nx ls s s
  | step {t u : ν} {l : L} (h : Rch nx ls s t) (hl : l ∈ ls) (e : nx t l = some u) : Rch nx ls s u
theorem Wy.rch {s t : ν} {row : List L} (w : Wy nx gl ls s row t) : Rch nx ls s t := by
  induction w with
  | nil => exact .refl
  | snoc _ _ hl e ih => exact .step ih hl e
theorem bStep_wy {s now : ν} {row : List L} (w : Wy nx gl ls s row now) (g : gl now = false) : ∀ (ms : List L) {acc : List ν × List (List L × ν)}, (∀ l ∈ ms, l ∈ ls) → (∀ p ∈ acc.2, Wy nx gl ls s p.1 p.2) → ∀ p ∈ (ms.foldl (bStep nx row now) acc).2, Wy nx gl ls s p.1 p.2
  | [], _, _, h => h
  | l :: ms, acc, hm, h => by
    refine bStep_wy w g ms (fun m hm' => hm m (List.mem_cons_of_mem _ hm')) fun p hp => ?_
    unfold bStep at hp
    cases e : nx now l with
    | none => rw [e] at hp; exact h p hp
    | some t =>
      rw [e] at hp
      simp only at hp
      split at hp
      · exact h p hp
      · rcases List.mem_append.mp hp with z | z
        · exact h p z
        · rw [List.mem_singleton] at z; subst z
          exact .snoc w g (hm l List.mem_cons_self) e
theorem bLevel_wy {s : ν} : ∀ (ps : List (List L × ν)) {acc : List ν × List (List L × ν)}, (∀ p ∈ ps, Wy nx gl ls s p.1 p.2) → (∀ p ∈ acc.2, Wy nx gl ls s p.1 p.2) →
    (∀ row, bLevel nx gl ls ps acc = .inl row → ∃ t, Wy nx gl ls s row t ∧ gl t = true) ∧ ∀ acc', bLevel nx gl ls ps acc = .inr acc' → ∀ p ∈ acc'.2, Wy nx gl ls s p.1 p.2
  | [], acc, _, h => ⟨fun row e => (by cases e), fun acc' e => (by cases e; exact h)⟩
  | p :: ps, acc, hp, h => by
    rw [bLevel]
    by_cases c : gl p.2 = true
    · rw [if_pos c]
      exact ⟨fun row e => (by cases e; exact ⟨_, hp p List.mem_cons_self, c⟩), fun acc' e => (by cases e)⟩
    · rw [if_neg c]
      exact bLevel_wy ps (fun q hq => hp q (List.mem_cons_of_mem _ hq)) (bStep_wy (hp p List.mem_cons_self) (by simpa using c) ls (fun _ h => h) h)
theorem bfs_some {s : ν} : ∀ (f : Nat) {kn : List ν} {last : List (List L × ν)}, (∀ p ∈ last, Wy nx gl ls s p.1 p.2) → ∀ row, bfs nx gl ls f kn last = some row → ∃ t, Wy nx gl ls s row t ∧ gl t = true
  | 0, _, _, _, _, e => by cases e
  | f + 1, kn, last, h, row, e => by
    rw [bfs] at e
    split at e
    · cases e
    · have q := bLevel_wy last (acc := (kn, [])) h fun p hp => by cases hp
      cases e2 : bLevel nx gl ls last (kn, []) with
      | inl row' => rw [e2] at e; cases e; exact q.1 _ e2
      | inr acc => rw [e2] at e; exact bfs_some f (q.2 acc e2) row e
/-- whatever is known is to come, or has been gone on from -/
def Cld (nx : ν → L → Option ν) (gl : ν → Bool) (ls : List L) (kn : List ν) (td : List ν) : Prop := ∀ s ∈ kn, s ∈ td ∨ (gl s = false ∧ ∀ l ∈ ls, ∀ t, nx s l = some t → t ∈ kn)
theorem bStep_sub {nx : ν → L → Option ν} {row : List L} {now : ν} {acc : List ν × List (List L × ν)} {l : L} : (∀ s ∈ acc.1, s ∈ (bStep nx row now acc l).1) ∧ (∀ s ∈ (bStep nx row now acc l).1, s ∈ acc.1 ∨ s ∈ (bStep nx row now acc l).2.map (·.2)) ∧ (∀ p ∈ acc.2, p ∈ (bStep nx row now acc l).2) ∧ ∀ t, nx now l = some t → t ∈ (bStep nx row now acc l).1 := by
  unfold bStep
  cases e : nx now l with
  | none => exact ⟨fun _ h => h, fun _ h => .inl h, fun _ h => h, fun t z => (by cases z)⟩
  | some t =>
    simp only
    split
    · rename_i hm; exact ⟨fun _ h => h, fun _ h => .inl h, fun _ h => h, fun t z => by cases z; exact hm⟩
    · refine ⟨fun _ h => List.mem_append_left _ h, fun s h => ?_, fun _ h => List.mem_append_left _ h, fun t z => by cases z; exact List.mem_append_right _ List.mem_cons_self⟩
      rcases List.mem_append.mp h with z | z
      · exact .inl z
      · rw [List.mem_singleton] at z; subst z
        exact .inr (List.mem_map.mpr ⟨_, List.mem_append_right _ List.mem_cons_self, rfl⟩)
theorem steps_sub {nx : ν → L → Option ν} {row : List L} {now : ν} : ∀ (ms : List L) {acc : List ν × List (List L × ν)}, (∀ s ∈ acc.1, s ∈ (ms.foldl (bStep nx row now) acc).1) ∧ (∀ s ∈ (ms.foldl (bStep nx row now) acc).1, s ∈ acc.1 ∨ s ∈ (ms.foldl (bStep nx row now) acc).2.map (·.2)) ∧
    (∀ p ∈ acc.2, p ∈ (ms.foldl (bStep nx row now) acc).2) ∧ ∀ l ∈ ms, ∀ t, nx now l = some t → t ∈ (ms.foldl (bStep nx row now) acc).1
  | [], _ => ⟨fun _ h => h, fun _ h => .inl h, fun _ h => h, fun _ h => by cases h⟩
  | m :: ms, acc => by
    obtain ⟨a1, a2, a3, a4⟩ := bStep_sub (nx := nx) (row := row) (now := now) (acc := acc) (l := m)
    obtain ⟨b1, b2, b3, b4⟩ := steps_sub (nx := nx) (row := row) (now := now) ms (acc := bStep nx row now acc m)
    refine ⟨fun s h => b1 s (a1 s h), fun s h => ?_, fun p h => b3 p (a3 p h), fun l hl t e => ?_⟩
    · rcases b2 s h with z | z
      · rcases a2 s z with q | q
        · exact .inl q
        · obtain ⟨p, hp, rfl⟩ := List.mem_map.mp q
          exact .inr (List.mem_map.mpr ⟨p, b3 p hp, rfl⟩)
      · exact .inr z
    · rcases List.mem_cons.mp hl with rfl | hl
      · exact b1 _ (a4 t e)
      · exact b4 l hl t e
theorem bLevel_cl : ∀ (ps : List (List L × ν)) {acc : List ν × List (List L × ν)}, Cld nx gl ls acc.1 (ps.map (·.2) ++ acc.2.map (·.2)) → ∀ acc', bLevel nx gl ls ps acc = .inr acc' → Cld nx gl ls acc'.1 (acc'.2.map (·.2)) ∧ ∀ s ∈ acc.1, s ∈ acc'.1
  | [], acc, h, acc', e => by cases e; exact ⟨h, fun _ h => h⟩
  | p :: ps, acc, h, acc', e => by
    rw [bLevel] at e
    split at e
    · cases e
    · rename_i c
      have c : gl p.2 = false := by simpa using c
      obtain ⟨a1, a2, a3, a4⟩ := steps_sub (nx := nx) (row := p.1) (now := p.2) ls (acc := acc)
      obtain ⟨q1, q2⟩ := bLevel_cl ps (acc := ls.foldl (bStep nx p.1 p.2) acc) (fun s hs => by
        have old : s ∈ acc.1 → s ∈ ps.map (·.2) ++ (ls.foldl (bStep nx p.1 p.2) acc).2.map (·.2) ∨ (gl s = false ∧ ∀ l ∈ ls, ∀ t, nx s l = some t → t ∈ (ls.foldl (bStep nx p.1 p.2) acc).1) := fun z => by
          rcases h s z with q | ⟨q1, q2⟩
          · rw [List.map_cons, List.cons_append] at q
            rcases List.mem_cons.mp q with q | q
            · subst q; exact .inr ⟨c, a4⟩
            · rcases List.mem_append.mp q with q | q
              · exact .inl (List.mem_append_left _ q)
              · obtain ⟨x, hx, rfl⟩ := List.mem_map.mp q
                exact .inl (List.mem_append_right _ (List.mem_map.mpr ⟨x, a3 x hx, rfl⟩))
          · exact .inr ⟨q1, fun l hl t e => a1 t (q2 l hl t e)⟩
        rcases a2 s hs with z | z
        · exact old z
        · exact .inl (List.mem_append_right _ z)) acc' e
      exact ⟨q1, fun s hs => q2 s (a1 s hs)⟩
theorem bLevel_acc {P : ν → Prop} {kn0 : List ν} (cl : ∀ s, P s → ∀ l ∈ ls, ∀ t, nx s l = some t → P t) : ∀ (ps : List (List L × ν)) {acc : List ν × List (List L × ν)}, (∀ p ∈ ps, p.1.length + 1 ≤ kn0.length ∧ P p.2) → AccOk P kn0 acc → ∀ acc', bLevel nx gl ls ps acc = .inr acc' → AccOk P kn0 acc'
  | [], acc, _, o, acc', e => by cases e; exact o
  | p :: ps, acc, h, o, acc', e => by
    rw [bLevel] at e
    split at e
    · cases e
    · exact bLevel_acc cl ps (fun q hq => h q (List.mem_cons_of_mem _ hq)) (AccOk.steps (h p List.mem_cons_self).1 ls o (cl _ (h p List.mem_cons_self).2)) acc' e
theorem bfs_none {P : ν → Prop} {U : Nat} (hU : ∀ l : List ν, l.Nodup → (∀ s ∈ l, P s) → l.length ≤ U) (cl : ∀ s, P s → ∀ l ∈ ls, ∀ t, nx s l = some t → P t) : ∀ (f : Nat) {kn : List ν} {last : List (List L × ν)}, BOk P U f kn last → Cld nx gl ls kn (last.map (·.2)) → bfs nx gl ls f kn last = none →
    ∀ s ∈ kn, ∀ t, Rch nx ls s t → gl t = false := by
  intro f
  have fin : ∀ {kn : List ν}, Cld nx gl ls kn [] → ∀ s ∈ kn, ∀ t, Rch nx ls s t → t ∈ kn ∧ gl t = false := by
    intro kn h s hs t r
    have st : ∀ x ∈ kn, gl x = false ∧ ∀ l ∈ ls, ∀ t, nx x l = some t → t ∈ kn := fun x hx => (h x hx).elim (fun z => by cases z) id
    induction r with
    | refl => exact ⟨hs, (st s hs).1⟩
    | step _ hl e ih => have := (st _ ih.1).2 _ hl _ e; exact ⟨this, (st _ this).1⟩
  induction f with
  | zero =>
    intro kn last b c _ s hs t r
    have hf := b.fuel
    have : last = [] := by
      cases last with
      | nil => rfl
      | cons p ps => simp at hf
    subst this
    exact (fin c s hs t r).2
  | succ f ih =>
    intro kn last b c e s hs t r
    rw [bfs] at e
    split at e
    · rename_i hz
      rw [List.isEmpty_iff] at hz
      subst hz
      exact (fin c s hs t r).2
    · rename_i hz
      have hz : last.isEmpty = false := by simpa using hz
      cases e2 : bLevel nx gl ls last (kn, []) with
      | inl row => rw [e2] at e; cases e
      | inr acc =>
        rw [e2] at e
        have o := bLevel_acc cl last (fun p hp => ⟨(b.rows p hp).1, b.good _ (b.rows p hp).2⟩) b.acc acc e2
        obtain ⟨q1, q2⟩ := bLevel_cl last (acc := (kn, [])) (by simpa using c) acc e2
        exact ih (b.next hz o hU) q1 e s (q2 s hs) t r
end
end Fw

set_option autoImplicit false
set_option linter.all false
set_option maxRecDepth 100000
set_option maxHeartbeats 400000
/-! what desks can sign at last -/
namespace Fw
open PySem L2
local macro_rules | `(tactic| walk_at "evC") => `(tactic| ((with_reducible show _ = _); with_reducible assumption))
local macro_rules | `(tactic| walk_at "evE") => `(tactic| first | with_reducible exact ev_c _ | with_reducible apply r_v | with_reducible apply r_call | with_reducible apply r_cmp | with_reducible apply r_sub | with_reducible apply r_bi | with_reducible apply r_bin | with_reducible apply r_tup | with_reducible apply r_lst | with_reducible apply r_comp | with_reducible apply r_comp0 | with_reducible apply r_not | with_reducible apply r_andN | with_reducible apply r_and1 | with_reducible apply r_orN | with_reducible apply r_or1 | with_reducible apply r_isi | with_reducible apply r_bi2 | with_reducible apply r_slc | with_reducible apply r_rev | with_reducible apply r_neg | with_reducible apply r_chain | with_reducible apply r_scr | with_reducible apply i_of | with_reducible apply i_enum' | with_reducible apply i_rng | with_reducible apply i_peek | with_reducible apply k_val | with_reducible apply k_own | with_reducible apply k_copy | with_reducible apply k_ref)
local macro_rules | `(tactic| walk_at "evO") => `(tactic| first | exact Args.nil | (apply Args.val; exact rfl) | (apply Args.ref; exact rfl) | apply args_e | (apply Opd.v; exact rfl) | apply opd_e | (apply opf_val; exact rfl) | (apply Opf.v; exact rfl) | apply opf_e | exact Evs.nil | apply Evs.cons | apply Evs.star | exact IxR'.no | apply IxR'.yes | (with_reducible apply compB_i; intro x hx; refine ⟨_, rfl, ?_, fun hp => ?_⟩) | (with_reducible apply compM_i; intro x hx; refine ⟨_, rfl, ?_⟩) | ((with_reducible show (_ = true → _ = some _)); intro) | ((with_reducible show (_ = false → _ = some _)); intro))
local macro_rules | `(tactic| walk_at "evP") => `(tactic| first | with_reducible exact c_eqI _ _ | with_reducible exact c_eqS _ _ | with_reducible exact c_neI _ _ | with_reducible exact c_neS _ _ | with_reducible exact c_ltI _ _ | with_reducible exact c_leI _ _ | with_reducible exact c_gtI _ _ | with_reducible exact c_geI _ _ | with_reducible exact c_eqB _ _ | with_reducible exact c_neB _ _ | with_reducible exact c_inT (e := PyData.int) (by decide) _ _ | with_reducible exact c_niT (e := PyData.int) (by decide) _ _ | with_reducible exact c_inL (e := PyData.int) (by decide) _ _ | with_reducible exact c_niL (e := PyData.int) (by decide) _ _ | with_reducible exact c_inT (e := PyData.str) (by decide) _ _ | with_reducible exact c_niT (e := PyData.str) (by decide) _ _ | with_reducible exact c_inL (e := PyData.str) (by decide) _ _ | with_reducible exact c_niL (e := PyData.str) (by decide) _ _ | with_reducible exact c_eqTm _ _ | with_reducible exact c_neTm _ _ | with_reducible exact c_eqLm _ _ | with_reducible exact c_neLm _ _ | with_reducible exact c_eqT (by decide) _ _ | with_reducible exact c_neT (by decide) _ _ | with_reducible exact c_eqL (by decide) _ _ | with_reducible exact c_neL (by decide) _ _ | with_reducible exact b_addI _ _ | with_reducible exact b_subI _ _ | with_reducible apply b_addT | with_reducible apply b_addL | with_reducible exact p_lenLm _ _ | with_reducible exact p_lenTm _ _ | with_reducible exact p_lenL _ | with_reducible exact p_lenT _ | with_reducible exact p_tupL _ | with_reducible exact p_tupT _ | with_reducible exact p_lstL _ | with_reducible exact p_lstT _ | with_reducible exact p_all _ _ | with_reducible exact p_any _ _ | with_reducible exact p_intI _ | with_reducible exact p_intB _ | with_reducible exact p_max _ _ | with_reducible exact p_min _ _ | ((with_reducible show subP _ _ = some _); exact rfl) | ((with_reducible show itemsOf _ = some _); exact rfl) | ((with_reducible show iterD _ = some _); exact rfl) | ((with_reducible show look _ _ _ = some _); exact rfl) | ((with_reducible show isV _ = false); exact rfl) | ((with_reducible show List.length _ ≤ 16777216); exact of_decide_eq_true rfl) | ((with_reducible show (_ : Option Slot) = some _); exact rfl))
local macro_rules | `(tactic| walk_at "evt1") => `(tactic| first | walk_at "evE" | walk_at "evO" | walk_at "evC" | walk_at "evP")
local macro_rules | `(tactic| walk_at "evt") => `(tactic| repeat' (walk_at "evt1"))
local macro_rules | `(tactic| walk_at "st1") => `(tactic| first | with_reducible apply w_set | with_reducible apply w_par | with_reducible apply w_par3 | with_reducible apply w_unp | with_reducible apply w_frz | with_reducible apply w_app | with_reducible apply w_ret | with_reducible apply w_nil | with_reducible apply thenQ_n | with_reducible apply thenQ_r | with_reducible apply turnQ_n | with_reducible apply turnQ_r | with_reducible apply fin1 | ((with_reducible show List.set _ _ _ = _); dsimp only [List.set_cons_zero, List.set_cons_succ]; try exact rfl) | ((with_reducible show bnd _ _ _ = some _); dsimp only [bnd, List.set_cons_zero, List.set_cons_succ]; try exact rfl) | ((with_reducible show bnd _ _ _ = some _); exact rfl) | ((with_reducible show freeze _ _ = _); exact rfl) | walk_at "evt1")
local macro_rules | `(tactic| walk_at "st") => `(tactic| repeat' (walk_at "st1"))
local macro_rules | `(tactic| walk_at "evC") => `(tactic| first | with_reducible apply cal_lmet | with_reducible apply cal_lmetL)
local macro_rules | `(tactic| walk_at "evC") => `(tactic| with_reducible apply s_step)
local macro_rules | `(tactic| walk_at "evC") => `(tactic| with_reducible apply cal_lready)
local macro_rules | `(tactic| walk_at "evC") => `(tactic| with_reducible apply cal_lnext)
local macro_rules | `(tactic| walk_at "evC") => `(tactic| first | with_reducible exact bi_sortL _ | with_reducible exact bi_sortT _)
local macro_rules | `(tactic| walk_at "evC") => `(tactic| with_reducible apply cal_lleft)
local macro_rules | `(tactic| walk_at "evC") => `(tactic| first | ((with_reducible apply of_self); with_reducible assumption) | exact Rule.Fit.ok (by assumption) | exact Good.filter (by assumption) _ | exact Good.inn (by assumption) _ (by assumption))
local macro_rules | `(tactic| walk_at "evC") => `(tactic| with_reducible exact cmp_isN _)
local macro_rules | `(tactic| walk_at "evC") => `(tactic| first | with_reducible exact cmp_isO _ | with_reducible apply b_snocI | with_reducible apply b_catLI)
local macro_rules | `(tactic| walk_at "evC") => `(tactic| with_reducible apply cal_aft)
local macro_rules | `(tactic| walk_at "evC") => `(tactic| with_reducible apply cal_levent)
local macro_rules | `(tactic| walk_at "evC") => `(tactic| with_reducible apply cal_fol)
local macro_rules | `(tactic| walk_at "evC") => `(tactic| with_reducible apply cal_ref)
local macro_rules | `(tactic| walk_at "evC") => `(tactic| with_reducible exact b_rep1 _)
local macro_rules | `(tactic| walk_at "evC") => `(tactic| with_reducible apply cal_lfol)
local macro_rules | `(tactic| walk_at "evC") => `(tactic| first | with_reducible apply p_sset | with_reducible exact p_srtL _ | with_reducible exact p_srtT _)
local macro_rules | `(tactic| walk_at "evC") => `(tactic| with_reducible apply cal_ldesks)
local macro_rules | `(tactic| walk_at "evC") => `(tactic| with_reducible apply cal_levs)
def newS (r : Rule) (some : List Str) (st : List Int) : List Int := (readys r st).filter fun a => decide ((stepAt r a).1 ∈ some)
def clo (r : Rule) (some : List Str) : Nat → List Int → List Int
  | 0, st => st
  | n + 1, st => if (newS r some st).isEmpty = true then st else clo r some n (isort (st ++ newS r some st))
theorem mem_readys {r : Rule} {st : List Int} {a : Int} : a ∈ readys r st ↔ (0 ≤ a ∧ a < r.1.length) ∧ a ∉ st ∧ met (stepAt r a).2.1 st = true := by
  unfold readys
  rw [List.mem_filter, ← rangeI, mem_rangeI]
  unfold readyAt
  rw [Bool.and_eq_true, Bool.not_eq_true', decide_eq_false_iff_not]
theorem mem_newS {r : Rule} {some : List Str} {st : List Int} {a : Int} : a ∈ newS r some st ↔ ((0 ≤ a ∧ a < r.1.length) ∧ a ∉ st ∧ met (stepAt r a).2.1 st = true) ∧ (stepAt r a).1 ∈ some := by
  unfold newS
  rw [List.mem_filter, mem_readys, decide_eq_true_eq]
theorem newS_nodup (r : Rule) (some : List Str) (st : List Int) : (newS r some st).Nodup := by
  unfold newS readys
  refine (List.Pairwise.sublist List.filter_sublist (List.Pairwise.sublist List.filter_sublist ?_))
  rw [← rangeI]
  exact (rangeI_sorted _).imp fun h e => by omega
theorem isort_mem {xs : List Int} {a : Int} : a ∈ isort xs ↔ a ∈ xs := (isort_perm xs).mem_iff
theorem Good.adds {r : Rule} {st new : List Int} (g : Good r st) (nd : new.Nodup) (inn : ∀ a ∈ new, 0 ≤ a ∧ a < r.1.length) (dis : ∀ a ∈ new, a ∉ st) : Good r (isort (st ++ new)) := by
  refine ⟨?_, fun b hb => ?_⟩
  · have nd1 : (st ++ new).Nodup := by
      rw [List.nodup_append]
      exact ⟨g.so.imp fun h e => by omega, nd, fun x hx y hy e => dis y hy (by rw [← e]; exact hx)⟩
    have nd2 : (isort (st ++ new)).Nodup := (isort_perm _).nodup_iff.mpr nd1
    have le : (isort (st ++ new)).Pairwise (fun x y => decide (x ≤ y) = true) := List.pairwise_mergeSort (fun a b c h1 h2 => by simp only [decide_eq_true_eq] at *; omega) (fun a b => by simp only [Bool.or_eq_true, decide_eq_true_eq]; omega) _
    exact (le.and nd2).imp fun ⟨h1, h2⟩ => by
      rw [decide_eq_true_eq] at h1
      omega
  · rcases List.mem_append.mp (isort_mem.mp hb) with z | z
    · exact g.inn b z
    · exact inn b z
theorem Good.new {r : Rule} {st : List Int} (g : Good r st) (some : List Str) : Good r (isort (st ++ newS r some st)) :=
  g.adds (newS_nodup ..) (fun a ha => (mem_newS.mp ha).1.1) fun a ha => (mem_newS.mp ha).1.2.1
theorem met_mono {ns : List Need} {st st' : List Int} (h : ∀ a ∈ st, a ∈ st') (hm : met ns st = true) : met ns st' = true := by
  unfold met at hm ⊢
  rw [List.all_eq_true] at hm ⊢
  intro n hn
  have h1 := hm n hn
  rw [decide_eq_true_eq] at h1 ⊢
  have h2 : (n.2.filter fun s => decide (s ∈ st)).length ≤ (n.2.filter fun s => decide (s ∈ st')).length := by
    rw [← List.countP_eq_length_filter, ← List.countP_eq_length_filter]
    refine List.countP_mono_left fun a _ ha => ?_
    rw [decide_eq_true_eq] at ha ⊢
    exact h a ha
  omega
/-- closed under what some desks can sign -/
def Closed (r : Rule) (some : List Str) (X : List Int) : Prop := ∀ a : Int, 0 ≤ a ∧ a < r.1.length → (stepAt r a).1 ∈ some → met (stepAt r a).2.1 X = true → a ∈ X
theorem closed_iff {r : Rule} {some : List Str} {X : List Int} : newS r some X = [] ↔ Closed r some X := by
  rw [List.eq_nil_iff_forall_not_mem]
  constructor
  · intro h a h1 h2 h3
    by_cases c : a ∈ X
    · exact c
    · exact absurd (mem_newS.mpr ⟨⟨h1, c, h3⟩, h2⟩) (h a)
  · intro h a ha
    obtain ⟨⟨h1, h2, h3⟩, h4⟩ := mem_newS.mp ha
    exact h2 (h a h1 h4 h3)
theorem clo_all {r : Rule} {some : List Str} : ∀ (n : Nat) {st : List Int}, Good r st → r.1.length < st.length + n → Good r (clo r some n st) ∧ (∀ a ∈ st, a ∈ clo r some n st) ∧ Closed r some (clo r some n st) ∧ ∀ X, Closed r some X → (∀ a ∈ st, a ∈ X) → ∀ a ∈ clo r some n st, a ∈ X
  | 0, st, g, h => by have := g.len; omega
  | n + 1, st, g, h => by
    rw [clo]
    by_cases c : (newS r some st).isEmpty = true
    · rw [if_pos c]
      rw [List.isEmpty_iff] at c
      exact ⟨g, fun _ h => h, closed_iff.mp c, fun X _ h => h⟩
    · rw [if_neg c]
      have hp : 0 < (newS r some st).length := List.length_pos_iff.mpr fun e => c (by rw [e]; rfl)
      have hl : (isort (st ++ newS r some st)).length = st.length + (newS r some st).length := by rw [isort_len, List.length_append]
      obtain ⟨h1, h2, h3, h4⟩ := clo_all (some := some) n (g.new some) (by omega)
      refine ⟨h1, fun a ha => h2 a (isort_mem.mpr (List.mem_append_left _ ha)), h3, fun X hX hs => h4 X hX fun a ha => ?_⟩
      rcases List.mem_append.mp (isort_mem.mp ha) with z | z
      · exact hs a z
      · obtain ⟨⟨q1, q2, q3⟩, q4⟩ := mem_newS.mp z
        exact hX a q1 q4 (met_mono hs q3)
/-- all that some desks can sign from a state on -/
def last (r : Rule) (some : List Str) (st : List Int) : List Int := clo r some 7 st
theorem last_all {r : Rule} (h6 : r.1.length ≤ 6) (some : List Str) {st : List Int} (g : Good r st) : Good r (last r some st) ∧ (∀ a ∈ st, a ∈ last r some st) ∧ Closed r some (last r some st) ∧ ∀ X, Closed r some X → (∀ a ∈ st, a ∈ X) → ∀ a ∈ last r some st, a ∈ X := clo_all 7 g (by omega)
theorem last_eq {r : Rule} (h6 : r.1.length ≤ 6) {some : List Str} {st : List Int} (g : Good r st) (h : ∀ a ∈ st, a ∈ last r some []) : last r some st = last r some [] := by
  obtain ⟨a1, a2, a3, a4⟩ := last_all h6 some g
  obtain ⟨b1, b2, b3, b4⟩ := last_all h6 some (good_nil (r := r))
  exact sorted_ext a1.so b1.so fun a => ⟨a4 _ b3 h a, b4 _ a3 (fun _ h => by cases h) a⟩
theorem desk_mem {r : Rule} {a : Int} (h : 0 ≤ a ∧ a < r.1.length) : (stepAt r a).1 ∈ desks r := by
  unfold desks
  exact mem_uset.mpr (List.mem_map.mpr ⟨_, (at_step h.1 h.2).2, rfl⟩)
/-- whatever happens, what is signed could be signed from the beginning -/
theorem aft_sub {r : Rule} {X st : List Int} {e : Ev} (hX : Closed r (desks r) X) (h : ∀ a ∈ st, a ∈ X) : ∀ a ∈ (aft r st e).getD st, a ∈ X := by
  cases q : aft r st e with
  | none => exact h
  | some st' =>
    show ∀ a ∈ st', a ∈ X
    unfold aft after at q
    split at q
    · cases q
      exact fun a ha => h a (List.mem_filter.mp ((fall_sub r _ _).mem ha)).1
    · split at q
      · cases q
      · rename_i b hb
        obtain ⟨b0, b1, b2⟩ := nexts_head hb
        unfold readyAt at b2
        rw [Bool.and_eq_true] at b2
        split at q
        · cases q
          intro a ha
          rcases List.mem_append.mp (isort_mem.mp ha) with z | z
          · exact h a z
          · rw [List.mem_singleton] at z; subst z
            exact hX _ ⟨b0, b1⟩ (desk_mem ⟨b0, b1⟩) (met_mono h b2.2)
        · split at q
          · cases q
          · cases q
            exact fun a ha => h a (List.mem_filter.mp ((fall_sub r _ _).mem ha)).1
theorem trace_sub {r : Rule} {X : List Int} (hX : Closed r (desks r) X) : ∀ {es : List Ev} {st : List Int}, (∀ a ∈ st, a ∈ X) → ∀ s ∈ trace r st es, ∀ a ∈ s, a ∈ X
  | [], _, _, _, h => by cases h
  | e :: es, st, hs, s, h => by
    rw [trace] at h
    rcases List.mem_cons.mp h with rfl | h
    · exact aft_sub hX hs
    · exact trace_sub hX (aft_sub hX hs) s h
/-- signatures -/
def nxS (r : Rule) (st : List Int) (d : Str) : Option (List Int) := aft r st ("sign", d)
theorem nxS_good {r : Rule} {st t : List Int} {d : Str} (g : Good r st) (h : nxS r st d = some t) : Good r t := by
  have := aft_good g ("sign", d)
  unfold nxS at h
  rw [h] at this
  exact this
theorem nxS_eq {r : Rule} {st : List Int} {d : Str} : nxS r st d = (nexts r st d).head?.map fun a => isort (st ++ [a]) := by
  unfold nxS aft after
  rw [if_neg (fun h => absurd h (by decide : ¬ (("sign" : Str) = ("change" : Str))))]
  cases (nexts r st d).head? with
  | none => rfl
  | some a => rfl
theorem rch_good {r : Rule} {s t : List Int} (g : Good r s) (h : Rch (nxS r) (desks r) s t) : Good r t := by
  induction h with
  | refl => exact g
  | step _ _ e ih => exact nxS_good ih e
/-- signing on and on comes to all -/
theorem rch_last {r : Rule} (h6 : r.1.length ≤ 6) : ∀ (n : Nat) {st : List Int}, Good r st → (∀ a ∈ st, a ∈ last r (desks r) []) → (last r (desks r) []).length ≤ st.length + n → Rch (nxS r) (desks r) st (last r (desks r) []) := by
  obtain ⟨b1, b2, b3, b4⟩ := last_all h6 (desks r) (good_nil (r := r))
  have stop : ∀ {st : List Int}, Good r st → (∀ a ∈ st, a ∈ last r (desks r) []) → Closed r (desks r) st → st = last r (desks r) [] := fun g h c => sorted_ext g.so b1.so fun a => ⟨h a, b4 _ c (fun _ h => by cases h) a⟩
  intro n
  induction n with
  | zero =>
    intro st g h hl
    have : st = last r (desks r) [] := by
      have q := (sorted_sub g.so b1.so h).eq_of_length_le hl
      exact q
    rw [← this]; exact .refl
  | succ n ih =>
    intro st g h hl
    by_cases c : newS r (desks r) st = []
    · rw [← stop g h (closed_iff.mp c)]; exact .refl
    · obtain ⟨a, ha⟩ := List.exists_mem_of_ne_nil _ c
      obtain ⟨⟨q1, q2, q3⟩, q4⟩ := mem_newS.mp ha
      have hn : a ∈ nexts r st (stepAt r a).1 := List.mem_filter.mpr ⟨mem_readys.mpr ⟨q1, q2, q3⟩, by simp⟩
      cases q : (nexts r st (stepAt r a).1).head? with
      | none => rw [List.head?_eq_none_iff] at q; rw [q] at hn; cases hn
      | some b =>
        have e : nxS r st (stepAt r a).1 = some (isort (st ++ [b])) := by rw [nxS_eq, q]; rfl
        obtain ⟨b0, b1', b2'⟩ := nexts_head q
        have g' := nxS_good g e
        have s' : ∀ x ∈ isort (st ++ [b]), x ∈ last r (desks r) [] := by
          have := aft_sub (e := ("sign", (stepAt r a).1)) b3 h
          unfold nxS at e
          rw [e] at this
          exact this
        have l' : (isort (st ++ [b])).length = st.length + 1 := by rw [isort_len, List.length_append]; rfl
        have r2 := ih g' s' (by omega)
        have go : ∀ {u : List Int}, Rch (nxS r) (desks r) (isort (st ++ [b])) u → Rch (nxS r) (desks r) st u := by
          intro u hu
          induction hu with
          | refl => exact .step .refl q4 e
          | step _ hl e' ih => exact .step ih hl e'
        exact go r2
theorem rch_sub {r : Rule} {X s t : List Int} (hX : Closed r (desks r) X) (hs : ∀ a ∈ s, a ∈ X) (h : Rch (nxS r) (desks r) s t) : ∀ a ∈ t, a ∈ X := by
  induction h with
  | refl => exact hs
  | @step t u l _ _ e ih =>
    have := aft_sub (e := ("sign", l)) hX ih
    unfold nxS at e
    rw [e] at this
    exact this
def fway (r : Rule) (st : List Int) : Option (List Str) := bfs (nxS r) (fun s => met r.2 s) (desks r) 100 [st] [([], st)]
theorem states_U {r : Rule} (h6 : r.1.length ≤ 6) : ∀ l : List (List Int), l.Nodup → (∀ s ∈ l, Good r s) → l.length ≤ 64 := fun _ nd g => states_bound h6 nd g
theorem fway_ok {r : Rule} {st : List Int} (g : Good r st) : BOk (Good r) 64 100 [st] ([([], st)] : List (List Str × List Int)) := by
  refine ⟨by simp, fun s hs => ?_, fun p hp => ?_, by simp, by simp⟩
  · rw [List.mem_singleton] at hs; rw [hs]; exact g
  · rw [List.mem_singleton] at hp; subst hp; simp
theorem fway_some {r : Rule} {st : List Int} {row : List Str} (h : fway r st = some row) : ∃ t, Wy (nxS r) (fun s => met r.2 s) (desks r) st row t ∧ met r.2 t = true :=
  bfs_some 100 (fun p hp => by rw [List.mem_singleton] at hp; subst hp; exact .nil) row h
theorem fway_none {r : Rule} (h6 : r.1.length ≤ 6) {st : List Int} (g : Good r st) (h : fway r st = none) : ∀ t, Rch (nxS r) (desks r) st t → met r.2 t = false :=
  bfs_none (P := Good r) (U := 64) (states_U h6) (fun s gs l _ t e => nxS_good gs e) 100 (fway_ok g) (fun s hs => .inl (by simpa using hs)) h st List.mem_cons_self
/-- there is a way if and only if all that can be signed is enough -/
theorem fway_iff {r : Rule} (h6 : r.1.length ≤ 6) {st : List Int} (g : Good r st) (h : ∀ a ∈ st, a ∈ last r (desks r) []) : (fway r st).isNone = !met r.2 (last r (desks r) []) := by
  obtain ⟨b1, b2, b3, b4⟩ := last_all h6 (desks r) (good_nil (r := r))
  cases q : fway r st with
  | none =>
    rw [fway_none h6 g q _ (rch_last h6 (last r (desks r) []).length g h (by omega))]; rfl
  | some row =>
    obtain ⟨t, w, ht⟩ := fway_some q
    rw [met_mono (rch_sub b3 h w.rch) ht]; rfl
end Fw

set_option autoImplicit false
set_option linter.all false
set_option maxRecDepth 100000
set_option maxHeartbeats 400000
/-! desks, greatest, closed, tables as sets of states -/
namespace Fw
open PySem L2
local macro_rules | `(tactic| walk_at "evC") => `(tactic| ((with_reducible show _ = _); with_reducible assumption))
local macro_rules | `(tactic| walk_at "evE") => `(tactic| first | with_reducible exact ev_c _ | with_reducible apply r_v | with_reducible apply r_call | with_reducible apply r_cmp | with_reducible apply r_sub | with_reducible apply r_bi | with_reducible apply r_bin | with_reducible apply r_tup | with_reducible apply r_lst | with_reducible apply r_comp | with_reducible apply r_comp0 | with_reducible apply r_not | with_reducible apply r_andN | with_reducible apply r_and1 | with_reducible apply r_orN | with_reducible apply r_or1 | with_reducible apply r_isi | with_reducible apply r_bi2 | with_reducible apply r_slc | with_reducible apply r_rev | with_reducible apply r_neg | with_reducible apply r_chain | with_reducible apply r_scr | with_reducible apply i_of | with_reducible apply i_enum' | with_reducible apply i_rng | with_reducible apply i_peek | with_reducible apply k_val | with_reducible apply k_own | with_reducible apply k_copy | with_reducible apply k_ref)
local macro_rules | `(tactic| walk_at "evO") => `(tactic| first | exact Args.nil | (apply Args.val; exact rfl) | (apply Args.ref; exact rfl) | apply args_e | (apply Opd.v; exact rfl) | apply opd_e | (apply opf_val; exact rfl) | (apply Opf.v; exact rfl) | apply opf_e | exact Evs.nil | apply Evs.cons | apply Evs.star | exact IxR'.no | apply IxR'.yes | (with_reducible apply compB_i; intro x hx; refine ⟨_, rfl, ?_, fun hp => ?_⟩) | (with_reducible apply compM_i; intro x hx; refine ⟨_, rfl, ?_⟩) | ((with_reducible show (_ = true → _ = some _)); intro) | ((with_reducible show (_ = false → _ = some _)); intro))
local macro_rules | `(tactic| walk_at "evP") => `(tactic| first | with_reducible exact c_eqI _ _ | with_reducible exact c_eqS _ _ | with_reducible exact c_neI _ _ | with_reducible exact c_neS _ _ | with_reducible exact c_ltI _ _ | with_reducible exact c_leI _ _ | with_reducible exact c_gtI _ _ | with_reducible exact c_geI _ _ | with_reducible exact c_eqB _ _ | with_reducible exact c_neB _ _ | with_reducible exact c_inT (e := PyData.int) (by decide) _ _ | with_reducible exact c_niT (e := PyData.int) (by decide) _ _ | with_reducible exact c_inL (e := PyData.int) (by decide) _ _ | with_reducible exact c_niL (e := PyData.int) (by decide) _ _ | with_reducible exact c_inT (e := PyData.str) (by decide) _ _ | with_reducible exact c_niT (e := PyData.str) (by decide) _ _ | with_reducible exact c_inL (e := PyData.str) (by decide) _ _ | with_reducible exact c_niL (e := PyData.str) (by decide) _ _ | with_reducible exact c_eqTm _ _ | with_reducible exact c_neTm _ _ | with_reducible exact c_eqLm _ _ | with_reducible exact c_neLm _ _ | with_reducible exact c_eqT (by decide) _ _ | with_reducible exact c_neT (by decide) _ _ | with_reducible exact c_eqL (by decide) _ _ | with_reducible exact c_neL (by decide) _ _ | with_reducible exact b_addI _ _ | with_reducible exact b_subI _ _ | with_reducible apply b_addT | with_reducible apply b_addL | with_reducible exact p_lenLm _ _ | with_reducible exact p_lenTm _ _ | with_reducible exact p_lenL _ | with_reducible exact p_lenT _ | with_reducible exact p_tupL _ | with_reducible exact p_tupT _ | with_reducible exact p_lstL _ | with_reducible exact p_lstT _ | with_reducible exact p_all _ _ | with_reducible exact p_any _ _ | with_reducible exact p_intI _ | with_reducible exact p_intB _ | with_reducible exact p_max _ _ | with_reducible exact p_min _ _ | ((with_reducible show subP _ _ = some _); exact rfl) | ((with_reducible show itemsOf _ = some _); exact rfl) | ((with_reducible show iterD _ = some _); exact rfl) | ((with_reducible show look _ _ _ = some _); exact rfl) | ((with_reducible show isV _ = false); exact rfl) | ((with_reducible show List.length _ ≤ 16777216); exact of_decide_eq_true rfl) | ((with_reducible show (_ : Option Slot) = some _); exact rfl))
local macro_rules | `(tactic| walk_at "evt1") => `(tactic| first | walk_at "evE" | walk_at "evO" | walk_at "evC" | walk_at "evP")
local macro_rules | `(tactic| walk_at "evt") => `(tactic| repeat' (walk_at "evt1"))
local macro_rules | `(tactic| walk_at "st1") => `(tactic| first | with_reducible apply w_set | with_reducible apply w_par | with_reducible apply w_par3 | with_reducible apply w_unp | with_reducible apply w_frz | with_reducible apply w_app | with_reducible apply w_ret | with_reducible apply w_nil | with_reducible apply thenQ_n | with_reducible apply thenQ_r | with_reducible apply turnQ_n | with_reducible apply turnQ_r | with_reducible apply fin1 | ((with_reducible show List.set _ _ _ = _); dsimp only [List.set_cons_zero, List.set_cons_succ]; try exact rfl) | ((with_reducible show bnd _ _ _ = some _); dsimp only [bnd, List.set_cons_zero, List.set_cons_succ]; try exact rfl) | ((with_reducible show bnd _ _ _ = some _); exact rfl) | ((with_reducible show freeze _ _ = _); exact rfl) | walk_at "evt1")
local macro_rules | `(tactic| walk_at "st") => `(tactic| repeat' (walk_at "st1"))
local macro_rules | `(tactic| walk_at "evC") => `(tactic| first | with_reducible apply cal_lmet | with_reducible apply cal_lmetL)
local macro_rules | `(tactic| walk_at "evC") => `(tactic| with_reducible apply s_step)
local macro_rules | `(tactic| walk_at "evC") => `(tactic| with_reducible apply cal_lready)
local macro_rules | `(tactic| walk_at "evC") => `(tactic| with_reducible apply cal_lnext)
local macro_rules | `(tactic| walk_at "evC") => `(tactic| first | with_reducible exact bi_sortL _ | with_reducible exact bi_sortT _)
local macro_rules | `(tactic| walk_at "evC") => `(tactic| with_reducible apply cal_lleft)
local macro_rules | `(tactic| walk_at "evC") => `(tactic| first | ((with_reducible apply of_self); with_reducible assumption) | exact Rule.Fit.ok (by assumption) | exact Good.filter (by assumption) _ | exact Good.inn (by assumption) _ (by assumption))
local macro_rules | `(tactic| walk_at "evC") => `(tactic| with_reducible exact cmp_isN _)
local macro_rules | `(tactic| walk_at "evC") => `(tactic| first | with_reducible exact cmp_isO _ | with_reducible apply b_snocI | with_reducible apply b_catLI)
local macro_rules | `(tactic| walk_at "evC") => `(tactic| with_reducible apply cal_aft)
local macro_rules | `(tactic| walk_at "evC") => `(tactic| with_reducible apply cal_levent)
local macro_rules | `(tactic| walk_at "evC") => `(tactic| with_reducible apply cal_fol)
local macro_rules | `(tactic| walk_at "evC") => `(tactic| with_reducible apply cal_ref)
local macro_rules | `(tactic| walk_at "evC") => `(tactic| with_reducible exact b_rep1 _)
local macro_rules | `(tactic| walk_at "evC") => `(tactic| with_reducible apply cal_lfol)
local macro_rules | `(tactic| walk_at "evC") => `(tactic| first | with_reducible apply p_sset | with_reducible exact p_srtL _ | with_reducible exact p_srtT _)
local macro_rules | `(tactic| walk_at "evC") => `(tactic| with_reducible apply cal_ldesks)
local macro_rules | `(tactic| walk_at "evC") => `(tactic| with_reducible apply cal_levs)
theorem cal_desks (N k : Nat) (S : Sto) (r : Rule) (hr : r.Fit) : cal phi N (k + 1) 39 [.d (eRule r)] S = some (.list ((desks r).map .str), S) := by
  have h6 := hr.six
  refine wp_eq (fn_desks ?_)
  refine w_ret (r_bi (.e (fun i z => by cases z) (r_comp0 (xs := r.1) (enc := eStep) (h := fun s => .str s.1) ?_ ?_ (by omega))) (p_ssetf (g := fun (s : Step) => s.1) (by omega))) (fin1 rfl)
  · walk_at "evt"
  · walk_at "evt"
local macro_rules | `(tactic| walk_at "evC") => `(tactic| with_reducible apply cal_desks)
theorem newS_len (r : Rule) (some : List Str) (st : List Int) : (newS r some st).length ≤ r.1.length := Nat.le_trans (List.length_filter_le _ _) (readys_len r st)
theorem isE_ite {b : Bool} {x y d : List Int} (h : b = false → y = d) : (if b = true then tI x else tI y) = tI (if b = true then x else d) := by
  cases b with
  | true => rfl
  | false => rw [if_neg Bool.false_ne_true, if_neg Bool.false_ne_true, h rfl]
theorem cal_great_go (N : Nat) (S : Sto) (r : Rule) (hr : r.Fit) (some : List Str) (sd : Dt) (hm : ∀ x, cmpP .In (.str x) (.d sd) = .some (decide (x ∈ some))) : ∀ (n k : Nat) (st : List Int), Good r st → r.1.length < st.length + n → cal phi N (k + n + 3) 40 [.d (eRule r), .d (tI st), .d sd] S = .some (tI (clo r some n st), S)
  | 0, k, st, g, h => by have := g.len; omega
  | n + 1, k, st, g, h => by
    have h6 := hr.six
    have hl := g.len
    have hnl := newS_len r some st
    refine wp_eq (fn_greatest ?_)
    refine w_set (sl := .val (.list ((newS r some st).map .int))) (S1 := S) (k_val ?_) rfl ?_
    · refine r_comp (xs := readys r st) (enc := PyData.int) (p := fun a => decide ((stepAt r a).1 ∈ some)) (h := PyData.int) (i_of (r_call (.val rfl (.val rfl .nil)) (cal_ready N (k + n + 1) S r st hr.ok)) rfl) (compB_i fun a ha => ⟨_, rfl, ?_, fun _ => r_v rfl⟩) (by have := readys_len r st; omega)
      have ha := readys_in ha
      refine r_cmp (S1 := S) (.e (fun i z => by cases z) ?_) (.v rfl) (hm _)
      walk_at "evt"
    dsimp only [List.set_cons_zero, List.set_cons_succ]
    refine w_ret (r_ite (c := (newS r some st).isEmpty) (x := tI st) (y := tI (clo r some n (isort (st ++ newS r some st)))) (S1 := S) (S2 := S) ?_ (fun _ => r_v rfl) fun hc => ?_) (fin1 ?_)
    · walk_at "evt"
    · have hp : 0 < (newS r some st).length := List.length_pos_iff.mpr fun e => by rw [e] at hc; cases hc
      have hl2 : (isort (st ++ newS r some st)).length = st.length + (newS r some st).length := by rw [isort_len, List.length_append]
      have ih := cal_great_go N S r hr some sd hm n k (isort (st ++ newS r some st)) (g.new some) (by omega)
      have e : k + n + 3 = k + (n + 1) + 2 := by omega
      refine r_call (as := [.d (eRule r), .d (tI (isort (st ++ newS r some st))), .d sd]) (S1 := S) (.val rfl (.e (fun i z => by cases z) ?_ (.val rfl .nil))) (by rw [← e]; exact ih)
      refine r_bi (.e (fun i z => by cases z) (r_bi (.e (fun i z => by cases z) (r_conv (r_lst (.star (.v rfl) rfl (.star (.v rfl) rfl .nil)) (by simp only [List.length_append, List.length_map, List.length_nil]; omega)) (d' := .list ((st ++ newS r some st).map .int)) (by rw [List.append_nil, List.map_append]))) (bi_sortL _))) rfl
    · rw [clo]
      cases (newS r some st).isEmpty <;> rfl
theorem cal_great (N k : Nat) (S : Sto) (r : Rule) (hr : r.Fit) (some : List Str) (sd : Dt) (hm : ∀ x, cmpP .In (.str x) (.d sd) = .some (decide (x ∈ some))) (st : List Int) (g : Good r st) : cal phi N (k + 10) 40 [.d (eRule r), .d (tI st), .d sd] S = .some (tI (last r some st), S) :=
  cal_great_go N S r hr some sd hm 7 k st g (by have := hr.six; omega)
theorem in_strsL (xs : List Str) : ∀ x, cmpP .In (.str x) (.d (.list (xs.map .str))) = some (decide (x ∈ xs)) := c_inL (e := PyData.str) (by decide) xs
theorem in_strsT (xs : List Str) : ∀ x, cmpP .In (.str x) (.d (.tuple (xs.map .str))) = some (decide (x ∈ xs)) := c_inT (e := PyData.str) (by decide) xs
def canEnd (r : Rule) : Bool := met r.2 (last r (desks r) [])
theorem cal_can (N k : Nat) (S : Sto) (r : Rule) (hr : r.Fit) : cal phi N (k + 11) 41 [.d (eRule r)] S = some (.bool (canEnd r), S) := by
  refine wp_eq (fn_can_end ?_)
  refine w_ret (r_call (.val rfl (.e (fun i z => by cases z) (r_call (.val rfl (.e (fun i z => by cases z) (r_tup .nil (by decide)) (.e (fun i z => by cases z) (r_call (.val rfl .nil) (cal_desks N (k + 9) S r hr)) .nil))) (cal_great N k S r hr (desks r) _ (in_strsL _) [] good_nil)) .nil)) (cal_ended N (k + 8) S r _ hr.ok)) (fin1 rfl)
local macro_rules | `(tactic| walk_at "evC") => `(tactic| with_reducible apply cal_can)
/-- the law's own -/
theorem cal_lclosed (N k : Nat) (S : Sto) (r : Rule) (hr : r.Fit) (hN : 100 ≤ N) (some : List Str) (sd : Dt) (hm : ∀ x, cmpP .In (.str x) (.d sd) = .some (decide (x ∈ some))) (st : List Int) (g : Good r st) : cal phi N (k + 3) 43 [.d (eRule r), .d (tI st), .d sd] S = .some (tI (last r some st), S) := by
  have h6 := hr.six
  refine wp_eq (fn_law_closed ?_)
  refine w_set (k_val (ev_c _)) rfl ?_
  dsimp only [List.set_cons_zero, List.set_cons_succ]
  refine w_whl (N := N) (fun m ρ S' => S' = S ∧ ∃ (cur : List Int) (b : Bool) (n : Nat) (x y : Slot), ρ = [.val (eRule r), .val (tI cur), .val sd, .val (.bool b), x, y] ∧ Good r cur ∧ (if b = true then m = n ∧ r.1.length < cur.length + n ∧ last r some st = clo r some n cur else m = 0 ∧ last r some st = cur)) 7 (by omega) ⟨rfl, st, true, 7, _, _, rfl, g, by simp only [if_true]; exact ⟨trivial, by omega, rfl⟩⟩ ?_
  rintro m ρ S' ⟨rfl, cur, b, n, x, y, rfl, gc, hb⟩
  refine ⟨b, S', r_v rfl, fun hc => ?_, fun hc => ?_⟩
  · subst hc
    simp only [if_true] at hb
    obtain ⟨rfl, h1, h2⟩ := hb
    have hl := gc.len
    have hnl := newS_len r some cur
    refine w_set (sl := .val (.list ((newS r some cur).map .int))) (S1 := S') (k_val ?_) rfl ?_
    · refine r_comp (xs := readys r cur) (enc := PyData.int) (p := fun a => decide ((stepAt r a).1 ∈ some)) (h := PyData.int) (i_of (r_call (.val rfl (.val rfl .nil)) (cal_lready N k S' r cur hr.ok)) rfl) (compB_i fun a ha => ⟨_, rfl, ?_, fun _ => r_v rfl⟩) (by have := readys_len r cur; omega)
      have ha := readys_in ha
      refine r_cmp (S1 := S') (.e (fun i z => by cases z) ?_) (.v rfl) (hm _)
      walk_at "evt"
    dsimp only [List.set_cons_zero, List.set_cons_succ]
    refine w_set (sl := .val (.bool (!(newS r some cur).isEmpty))) (S1 := S') (k_val (by walk_at "evt")) rfl ?_
    dsimp only [List.set_cons_zero, List.set_cons_succ]
    refine w_set (sl := .val (tI (isort (cur ++ newS r some cur)))) (S1 := S') (k_val ?_) rfl ?_
    · exact r_bi (.e (fun i z => by cases z) (r_bi (.e (fun i z => by cases z) (r_conv (r_bin (S1 := S') (S2 := S') (opf_val rfl) (.e (fun i z => by cases z) (r_bi (.v rfl) rfl)) (b_addT (by rw [List.length_map, List.length_map]; omega))) (d' := .tuple ((cur ++ newS r some cur).map .int)) (by rw [List.map_append]))) (bi_sortT _))) rfl
    dsimp only [List.set_cons_zero, List.set_cons_succ]
    obtain ⟨n', rfl⟩ : ∃ n', m = n' + 1 := ⟨m - 1, by omega⟩
    rw [clo] at h2
    cases c : (newS r some cur).isEmpty with
    | true =>
      rw [c, if_pos rfl] at h2
      refine w_nil (turnQ_n ⟨0, by omega, rfl, isort (cur ++ newS r some cur), false, 0, _, _, rfl, gc.new some, ?_⟩)
      rw [if_neg Bool.false_ne_true]
      refine ⟨rfl, ?_⟩
      rw [List.isEmpty_iff.mp c, List.append_nil, isort_sorted gc.so]
      exact h2
    | false =>
      rw [c, if_neg Bool.false_ne_true] at h2
      have hp : 0 < (newS r some cur).length := List.length_pos_iff.mpr fun e => by rw [e] at c; cases c
      refine w_nil (turnQ_n ⟨n', by omega, rfl, isort (cur ++ newS r some cur), true, n', _, _, rfl, gc.new some, ?_⟩)
      rw [if_pos rfl]
      exact ⟨rfl, by rw [isort_len, List.length_append]; omega, h2⟩
  · subst hc
    rw [if_neg Bool.false_ne_true] at hb
    obtain ⟨_, h2⟩ := hb
    rw [h2]
    exact w_ret (r_v rfl) (fin1 rfl)
/-! tables that hold states -/
section
variable {α : Type} [DecidableEq α] {e : α → Dt} {κ : α → NestedKey}
class TabE {α : Type} (e : α → Dt) (κ : outParam (α → NestedKey)) : Prop where
  key : ∀ x, tkey (e x) = some (κ x)
  inj : ∀ x y, κ x = κ y → x = y
  dat : ∀ x, (κ x).data = e x
abbrev kvs {β : Type} (κ : α → NestedKey) (h : β → Dt) (kn : List (α × β)) : List (NestedKey × Dt) := kn.map fun p => (κ p.1, h p.2)
theorem tget_find {β : Type} {h : β → Dt} [TabE e κ] (x : α) : ∀ kn : List (α × β), tget (kvs κ h kn) (κ x) = (kn.find? fun p => decide (p.1 = x)).map fun p => h p.2
  | [] => rfl
  | p :: kn => by
    have ih := tget_find (h := h) x kn
    unfold tget kvs at ih ⊢
    rw [List.map_cons, List.find?_cons, List.find?_cons]
    by_cases c : p.1 = x
    · rw [decide_eq_true c, decide_eq_true (show (κ p.1, h p.2).1 = κ x by show κ p.1 = κ x; rw [c])]; rfl
    · rw [decide_eq_false c, decide_eq_false (show ¬ (κ p.1, h p.2).1 = κ x from fun z => c (TabE.inj (e := e) _ _ z))]; exact ih
abbrev kset (κ : α → NestedKey) (kn : List α) : List (NestedKey × Dt) := kn.map fun x => (κ x, .bool true)
theorem kset_get [TabE e κ] (x : α) : ∀ kn : List α, (tget (kset κ kn) (κ x)).isSome = decide (x ∈ kn)
  | [] => rfl
  | y :: kn => by
    have ih := kset_get x kn
    unfold tget kset at ih ⊢
    rw [List.map_cons, List.find?_cons]
    by_cases c : y = x
    · rw [decide_eq_true (show (κ y, PyData.bool true).1 = κ x by show κ y = κ x; rw [c]), c]; simp
    · rw [decide_eq_false (show ¬ (κ y, PyData.bool true).1 = κ x from fun z => c (TabE.inj (e := e) _ _ z))]
      simp only
      rw [ih]
      have : x ≠ y := fun z => c z.symm
      simp [this]
theorem kset_put [TabE e κ] {x : α} {kn : List α} (h : x ∉ kn) : tput (kset κ kn) (κ x) (.bool true) = kset κ (kn ++ [x]) := by
  unfold tput
  rw [kset_get (e := e), decide_eq_false h, if_neg Bool.false_ne_true]
  unfold kset
  rw [List.map_append]
  rfl
theorem c_niSet [TabE e κ] (kn : List α) (x : α) : cmpP .NotIn (e x) (.t (kset κ kn)) = some (!decide (x ∈ kn)) := by
  simp only [cmpP, TabE.key, Option.map_some, kset_get (e := e)]
theorem c_inSet [TabE e κ] (kn : List α) (x : α) : cmpP .In (e x) (.t (kset κ kn)) = some (decide (x ∈ kn)) := by
  simp only [cmpP, TabE.key, Option.map_some, kset_get (e := e)]
end
theorem depth_num (xs : List Int) : (NestedKey.tup (xs.map .num)).depth ≤ 1 := by
  rw [NestedKey.depth]
  have := key_depth (xs := xs.map NestedKey.num) (n := 0) (fun k hk => by obtain ⟨i, _, rfl⟩ := List.mem_map.mp hk; simp [NestedKey.depth])
  omega
instance : TabE tI (fun xs => .tup (xs.map .num)) where
  key xs := by
    show (keyD (tI xs)).bind _ = _
    rw [SetE.key (e := tI), Option.bind_some, if_pos (Nat.le_trans (depth_num xs) (by decide))]
  inj x y h := SetE.inj (e := tI) x y h
  dat xs := data_keyD _ _ (SetE.key (e := tI) xs)
section
variable {C : Cl} {N : Nat} {ρ ρ' : Rho} {S S1 S2 : Sto} {a e : E} {r : Ss} {Q : RQ} {y d : Dt}
/-- an own table is stored into -/
theorem w_putD {i : Nat} {k : NestedKey} {kv : List (NestedKey × Dt)} (hv : ev C e ρ S = some (d, S1)) (hj : ev C a ρ S1 = some (y, S2)) (hi : ρ[i]? = some (.ownd kv)) (hk : tkey y = some k) (hl : kv.length + 1 ≤ 16777216) (hρ : ρ.set i (.ownd (tput kv k d)) = ρ') (w : Wp (xcs C N r ρ' S2) Q) :
    Wp (xcs C N (.cons (.put i a e) r) ρ S) Q := by
  subst hρ
  refine w_cons (Wp.of (r := (Out.next, ρ.set i (.ownd (tput kv k d)), S2)) ?_ w)
  rw [xc_put, hv, Option.bind_some, hj, Option.bind_some]
  simp only [change, hi, hk, Option.bind_some]
  rw [if_pos (fits_of hl)]
  rfl
theorem k_tab : evKd C .tab ρ S = some (.ownd [], S) := rfl
theorem k_tab1 {k v : E} {key : NestedKey} {x : Dt} (h1 : ev C k ρ S = some (x, S1)) (h2 : ev C v ρ S1 = some (d, S2)) (h3 : tkey x = some key) : evKd C (.tab1 k v) ρ S = some (.ownd [(key, d)], S2) := by
  rw [evKd, h1, Option.bind_some, h2, Option.bind_some, h3]; rfl
end
end Fw

set_option autoImplicit false
set_option linter.all false
set_option maxRecDepth 100000
set_option maxHeartbeats 400000
/-! first_way -/
namespace Fw
open PySem L2
local macro_rules | `(tactic| walk_at "evC") => `(tactic| ((with_reducible show _ = _); with_reducible assumption))
local macro_rules | `(tactic| walk_at "evE") => `(tactic| first | with_reducible exact ev_c _ | with_reducible apply r_v | with_reducible apply r_call | with_reducible apply r_cmp | with_reducible apply r_sub | with_reducible apply r_bi | with_reducible apply r_bin | with_reducible apply r_tup | with_reducible apply r_lst | with_reducible apply r_comp | with_reducible apply r_comp0 | with_reducible apply r_not | with_reducible apply r_andN | with_reducible apply r_and1 | with_reducible apply r_orN | with_reducible apply r_or1 | with_reducible apply r_isi | with_reducible apply r_bi2 | with_reducible apply r_slc | with_reducible apply r_rev | with_reducible apply r_neg | with_reducible apply r_chain | with_reducible apply r_scr | with_reducible apply i_of | with_reducible apply i_enum' | with_reducible apply i_rng | with_reducible apply i_peek | with_reducible apply k_val | with_reducible apply k_own | with_reducible apply k_copy | with_reducible apply k_ref)
local macro_rules | `(tactic| walk_at "evO") => `(tactic| first | exact Args.nil | (apply Args.val; exact rfl) | (apply Args.ref; exact rfl) | apply args_e | (apply Opd.v; exact rfl) | apply opd_e | (apply opf_val; exact rfl) | (apply Opf.v; exact rfl) | apply opf_e | exact Evs.nil | apply Evs.cons | apply Evs.star | exact IxR'.no | apply IxR'.yes | (with_reducible apply compB_i; intro x hx; refine ⟨_, rfl, ?_, fun hp => ?_⟩) | (with_reducible apply compM_i; intro x hx; refine ⟨_, rfl, ?_⟩) | ((with_reducible show (_ = true → _ = some _)); intro) | ((with_reducible show (_ = false → _ = some _)); intro))
local macro_rules | `(tactic| walk_at "evP") => `(tactic| first | with_reducible exact c_eqI _ _ | with_reducible exact c_eqS _ _ | with_reducible exact c_neI _ _ | with_reducible exact c_neS _ _ | with_reducible exact c_ltI _ _ | with_reducible exact c_leI _ _ | with_reducible exact c_gtI _ _ | with_reducible exact c_geI _ _ | with_reducible exact c_eqB _ _ | with_reducible exact c_neB _ _ | with_reducible exact c_inT (e := PyData.int) (by decide) _ _ | with_reducible exact c_niT (e := PyData.int) (by decide) _ _ | with_reducible exact c_inL (e := PyData.int) (by decide) _ _ | with_reducible exact c_niL (e := PyData.int) (by decide) _ _ | with_reducible exact c_inT (e := PyData.str) (by decide) _ _ | with_reducible exact c_niT (e := PyData.str) (by decide) _ _ | with_reducible exact c_inL (e := PyData.str) (by decide) _ _ | with_reducible exact c_niL (e := PyData.str) (by decide) _ _ | with_reducible exact c_eqTm _ _ | with_reducible exact c_neTm _ _ | with_reducible exact c_eqLm _ _ | with_reducible exact c_neLm _ _ | with_reducible exact c_eqT (by decide) _ _ | with_reducible exact c_neT (by decide) _ _ | with_reducible exact c_eqL (by decide) _ _ | with_reducible exact c_neL (by decide) _ _ | with_reducible exact b_addI _ _ | with_reducible exact b_subI _ _ | with_reducible apply b_addT | with_reducible apply b_addL | with_reducible exact p_lenLm _ _ | with_reducible exact p_lenTm _ _ | with_reducible exact p_lenL _ | with_reducible exact p_lenT _ | with_reducible exact p_tupL _ | with_reducible exact p_tupT _ | with_reducible exact p_lstL _ | with_reducible exact p_lstT _ | with_reducible exact p_all _ _ | with_reducible exact p_any _ _ | with_reducible exact p_intI _ | with_reducible exact p_intB _ | with_reducible exact p_max _ _ | with_reducible exact p_min _ _ | ((with_reducible show subP _ _ = some _); exact rfl) | ((with_reducible show itemsOf _ = some _); exact rfl) | ((with_reducible show iterD _ = some _); exact rfl) | ((with_reducible show look _ _ _ = some _); exact rfl) | ((with_reducible show isV _ = false); exact rfl) | ((with_reducible show List.length _ ≤ 16777216); exact of_decide_eq_true rfl) | ((with_reducible show (_ : Option Slot) = some _); exact rfl))
local macro_rules | `(tactic| walk_at "evt1") => `(tactic| first | walk_at "evE" | walk_at "evO" | walk_at "evC" | walk_at "evP")
local macro_rules | `(tactic| walk_at "evt") => `(tactic| repeat' (walk_at "evt1"))
local macro_rules | `(tactic| walk_at "st1") => `(tactic| first | with_reducible apply w_set | with_reducible apply w_par | with_reducible apply w_par3 | with_reducible apply w_unp | with_reducible apply w_frz | with_reducible apply w_app | with_reducible apply w_ret | with_reducible apply w_nil | with_reducible apply thenQ_n | with_reducible apply thenQ_r | with_reducible apply turnQ_n | with_reducible apply turnQ_r | with_reducible apply fin1 | ((with_reducible show List.set _ _ _ = _); dsimp only [List.set_cons_zero, List.set_cons_succ]; try exact rfl) | ((with_reducible show bnd _ _ _ = some _); dsimp only [bnd, List.set_cons_zero, List.set_cons_succ]; try exact rfl) | ((with_reducible show bnd _ _ _ = some _); exact rfl) | ((with_reducible show freeze _ _ = _); exact rfl) | walk_at "evt1")
local macro_rules | `(tactic| walk_at "st") => `(tactic| repeat' (walk_at "st1"))
local macro_rules | `(tactic| walk_at "evC") => `(tactic| first | with_reducible apply cal_lmet | with_reducible apply cal_lmetL)
local macro_rules | `(tactic| walk_at "evC") => `(tactic| with_reducible apply s_step)
local macro_rules | `(tactic| walk_at "evC") => `(tactic| with_reducible apply cal_lready)
local macro_rules | `(tactic| walk_at "evC") => `(tactic| with_reducible apply cal_lnext)
local macro_rules | `(tactic| walk_at "evC") => `(tactic| first | with_reducible exact bi_sortL _ | with_reducible exact bi_sortT _)
local macro_rules | `(tactic| walk_at "evC") => `(tactic| with_reducible apply cal_lleft)
local macro_rules | `(tactic| walk_at "evC") => `(tactic| first | ((with_reducible apply of_self); with_reducible assumption) | exact Rule.Fit.ok (by assumption) | exact Good.filter (by assumption) _ | exact Good.inn (by assumption) _ (by assumption))
local macro_rules | `(tactic| walk_at "evC") => `(tactic| with_reducible exact cmp_isN _)
local macro_rules | `(tactic| walk_at "evC") => `(tactic| first | with_reducible exact cmp_isO _ | with_reducible apply b_snocI | with_reducible apply b_catLI)
local macro_rules | `(tactic| walk_at "evC") => `(tactic| with_reducible apply cal_aft)
local macro_rules | `(tactic| walk_at "evC") => `(tactic| with_reducible apply cal_levent)
local macro_rules | `(tactic| walk_at "evC") => `(tactic| with_reducible apply cal_fol)
local macro_rules | `(tactic| walk_at "evC") => `(tactic| with_reducible apply cal_ref)
local macro_rules | `(tactic| walk_at "evC") => `(tactic| with_reducible exact b_rep1 _)
local macro_rules | `(tactic| walk_at "evC") => `(tactic| with_reducible apply cal_lfol)
local macro_rules | `(tactic| walk_at "evC") => `(tactic| first | with_reducible apply p_sset | with_reducible exact p_srtL _ | with_reducible exact p_srtT _)
local macro_rules | `(tactic| walk_at "evC") => `(tactic| with_reducible apply cal_ldesks)
local macro_rules | `(tactic| walk_at "evC") => `(tactic| with_reducible apply cal_levs)
local macro_rules | `(tactic| walk_at "evC") => `(tactic| with_reducible apply cal_desks)
local macro_rules | `(tactic| walk_at "evC") => `(tactic| with_reducible apply cal_can)
abbrev eRS (p : List Str × List Int) : Dt := .tuple [eStrs p.1, tI p.2]
def eOptR : Option (List Str) → Dt
  | none => .none
  | some row => eStrs row
abbrev κI (xs : List Int) : NestedKey := .tup (xs.map .num)
abbrev glS (r : Rule) : List Int → Bool := fun s => met r.2 s
theorem cmp_isNotN (o : Option (List Int)) : cmpP .IsNot (eOpt o) (.d .none) = some (!o.isNone) := by cases o <;> rfl
theorem AccOk.small {r : Rule} (h6 : r.1.length ≤ 6) {kn0 : List (List Int)} {acc : List (List Int) × List (List Str × List Int)} (o : AccOk (Good r) kn0 acc) : acc.1.length ≤ 64 := states_bound h6 o.nd o.good
theorem cal_first_way (N k : Nat) (S : Sto) (r : Rule) (hr : r.Fit) (hN : 1000 ≤ N) (st : List Int) (g : Good r st) : cal phi N (k + 11) 42 [.d (eRule r), .d (tI st)] S = some (eOptR (fway r st), S) := by
  have h6 := hr.six
  refine wp_eq (fn_first_way ?_)
  refine w_par (sl := .ownd (kset κI [st])) (sl2 := .val (.list (([([], st)] : List (List Str × List Int)).map eRS))) (S1 := S) (S2 := S) (k_tab1 (r_v rfl) (ev_c _) (TabE.key st)) (k_val (r_lst (.cons (r_tup (.cons (r_tup (ds := []) .nil (by simp)) (.cons (r_v rfl) .nil)) (by simp)) .nil) (by simp))) rfl ?_
  dsimp only [List.set_cons_zero, List.set_cons_succ]
  refine w_whl (N := N) (fun m ρ S' => S' = S ∧ ∃ (kn : List (List Int)) (lst : List (List Str × List Int)) (a b c d e : Slot), ρ = [.val (eRule r), .val (tI st), .ownd (kset κI kn), .val (.list (lst.map eRS)), a, b, c, d, e] ∧ BOk (Good r) 64 m kn lst ∧ fway r st = bfs (nxS r) (glS r) (desks r) m kn lst) 100 (by omega) ⟨rfl, [st], [([], st)], _, _, _, _, _, rfl, fway_ok g, rfl⟩ ?_
  rintro m ρ S' ⟨rfl, kn, lst, a, b, c, d, e, rfl, bo, hf⟩
  refine ⟨!lst.isEmpty, S', r_cmp (.v rfl) (.e (fun i z => by cases z) (r_lst .nil (by decide))) (c_neLm _ _), fun hc => ?_, fun hc => ?_⟩
  · have hz : lst.isEmpty = false := by simpa using hc
    have hmp : 0 < m := by have := bo.fuel; rw [hz, if_neg Bool.false_ne_true] at this; omega
    obtain ⟨m, rfl⟩ : ∃ n, m = n + 1 := ⟨m - 1, by omega⟩
    have h64 := states_bound h6 bo.nd bo.good
    have hfew := bo.few
    refine w_set (k_own .nil (by decide)) rfl ?_
    dsimp only [List.set_cons_zero, List.set_cons_succ]
    refine w_for (xs := lst) (enc := eRS) (S1 := S') (fun left ρ S'' => S'' = S' ∧ ∃ (acc : List (List Int) × List (List Str × List Int)) (b c d e : Slot), ρ = [.val (eRule r), .val (tI st), .ownd (kset κI acc.1), .val (.list (lst.map eRS)), .own (acc.2.map eRS), b, c, d, e] ∧ AccOk (Good r) kn acc ∧ bLevel (nxS r) (glS r) (desks r) lst (kn, []) = bLevel (nxS r) (glS r) (desks r) left acc) rfl (i_of (r_v rfl) rfl) ⟨rfl, (kn, []), _, _, _, _, rfl, bo.acc, rfl⟩ ?_ ?_
    · rintro ⟨row, now⟩ left ρ S'' hp ⟨rfl, acc, b, c, d, e, rfl, ao, hl⟩
      obtain ⟨hrow, hnow⟩ := bo.rows _ hp
      have hrow : row.length + 1 ≤ kn.length := hrow
      have gn := bo.good _ hnow
      refine ⟨_, rfl, ?_⟩
      dsimp only [List.set_cons_zero, List.set_cons_succ]
      refine w_if (S1 := S'') (r_call (.val rfl (.val rfl .nil)) (cal_ended N (k + 8) S'' r now hr.ok)) (fun hm => ?_) (fun hm => ?_)
      · refine w_ret (r_v rfl) (thenQ_r (turnQ_r (turnQ_r (fin1 ?_))))
        rw [hf, bfs, if_neg (by rw [hz]; exact Bool.false_ne_true), hl, bLevel, if_pos hm]
        rfl
      · refine w_nil (thenQ_n ?_)
        refine w_for (xs := desks r) (enc := PyData.str) (S1 := S'') (fun ds ρ S3 => S3 = S'' ∧ ∃ (ac : List (List Int) × List (List Str × List Int)) (d e : Slot), ρ = [.val (eRule r), .val (tI st), .ownd (kset κI ac.1), .val (.list (lst.map eRS)), .own (ac.2.map eRS), .val (eStrs row), .val (tI now), d, e] ∧ AccOk (Good r) kn ac ∧ (desks r).foldl (bStep (nxS r) row now) acc = ds.foldl (bStep (nxS r) row now) ac) rfl (i_of (r_call (.val rfl .nil) (cal_desks N (k + 9) S'' r hr)) rfl) ⟨rfl, acc, _, _, rfl, ao, rfl⟩ ?_ ?_
        · rintro desk ds ρ S3 hd ⟨rfl, ac, d, e, rfl, ao, hfo⟩
          refine ⟨_, rfl, ?_⟩
          dsimp only [List.set_cons_zero, List.set_cons_succ]
          have hs64 := ao.small h6
          have hal := ao.len
          refine w_set (sl := .val (eOpt (nxS r now desk))) (S1 := S3) (k_val (r_call (as := [.d (eRule r), .d (tI now), .d (eEv ("sign", desk))]) (S1 := S3) (.val rfl (.val rfl (.e (fun i z => by cases z) (r_tup (.cons (ev_c _) (.cons (r_v rfl) .nil)) (by simp)) .nil))) (cal_aft N k S3 r now ("sign", desk) hr gn))) rfl ?_
          dsimp only [List.set_cons_zero, List.set_cons_succ]
          rw [List.foldl_cons] at hfo
          have ao' := ao.step (nx := nxS r) (l := desk) hrow fun t e => nxS_good gn e
          cases q : nxS r now desk with
          | none =>
            refine w_ifF (S1 := S3) ?_ ?_
            · refine r_and2 (c := false) (k := false) (S1 := S3) (r_cmp (.v rfl) (.e (fun i z => by cases z) (ev_c _)) rfl) fun z => by cases z
            · refine w_nil (thenQ_n (w_nil (turnQ_n ⟨rfl, ac, _, _, rfl, ao, ?_⟩)))
              rw [hfo, bStep_none q]
          | some t =>
            refine w_if (S1 := S3) (r_and2 (c := true) (S1 := S3) (r_cmp (.v rfl) (.e (fun i z => by cases z) (ev_c _)) rfl) fun _ => r_cmp (x := tI t) (.v rfl) (.v rfl) (c_niSet (e := tI) ac.1 t)) (fun hn => ?_) (fun hn => ?_)
            · have hn : t ∉ ac.1 := by simpa using hn
              have eq1 := bStep_new (row := row) q hn
              refine w_putD (d := .bool true) (y := tI t) (S1 := S3) (S2 := S3) (ev_c _) (r_v rfl) rfl (TabE.key t) (by rw [List.length_map]; omega) rfl ?_
              rw [kset_put (e := tI) hn]
              dsimp only [List.set_cons_zero, List.set_cons_succ]
              refine w_app (d := eRS (row ++ [desk], t)) (S1 := S3) rfl ?_ (by rw [List.length_map]; omega) rfl ?_
              · refine r_tup (.cons (r_conv (r_tup (.star (.v rfl) rfl (.cons (r_v rfl) .nil)) (by simp only [List.length_append, List.length_map, List.length_singleton]; omega)) (d' := eStrs (row ++ [desk])) (by show PyData.tuple _ = .tuple (List.map _ (_ ++ _)); rw [List.map_append]; rfl)) (.cons (r_v rfl) .nil)) (by simp)
              · dsimp only [List.set_cons_zero, List.set_cons_succ]
                refine w_nil (thenQ_n (w_nil (turnQ_n ⟨rfl, (ac.1 ++ [t], ac.2 ++ [(row ++ [desk], t)]), _, _, by rw [List.map_append]; rfl, ?_, ?_⟩)))
                · rw [eq1] at ao'; exact ao'
                · rw [hfo, eq1]
            · have hn : t ∈ ac.1 := by simpa using hn
              have eq1 := bStep_old (row := row) q hn
              refine w_nil (thenQ_n (w_nil (turnQ_n ⟨rfl, ac, _, _, rfl, ao, ?_⟩)))
              rw [hfo, eq1]
        · rintro ρ S3 ⟨rfl, ac, d, e, rfl, ao, hfo⟩
          refine w_nil (turnQ_n ⟨rfl, ac, _, _, _, _, rfl, ao, ?_⟩)
          rw [hl, bLevel, if_neg (by show ¬ met r.2 now = true; rw [hm]; exact Bool.false_ne_true), hfo]
          rfl
    · rintro ρ S'' ⟨rfl, acc, b, c, d, e, rfl, ao, hl⟩
      refine w_frz (ρ' := [.val (eRule r), .val (tI st), .ownd (kset κI acc.1), .val (.list (lst.map eRS)), .val (.list (acc.2.map eRS)), b, c, d, e]) rfl ?_
      refine w_set (k_val (r_v rfl)) rfl ?_
      dsimp only [List.set_cons_zero, List.set_cons_succ]
      refine w_nil (turnQ_n ⟨m, by omega, rfl, acc.1, acc.2, _, _, _, _, _, rfl, bo.next hz ao (states_U h6), ?_⟩)
      rw [hf, bfs, if_neg (by rw [hz]; exact Bool.false_ne_true), hl, bLevel]
  · have hz : lst.isEmpty = true := by simpa using hc
    refine w_ret (ev_c _) (fin1 ?_)
    rw [hf]
    cases m with
    | zero => rfl
    | succ m => rw [bfs, if_pos hz]; rfl
local macro_rules | `(tactic| walk_at "evC") => `(tactic| with_reducible apply cal_first_way)
end Fw

set_option autoImplicit false
set_option linter.all false
set_option maxRecDepth 100000
set_option maxHeartbeats 400000
/-! all events; behind an event -/
namespace Fw
open PySem L2
local macro_rules | `(tactic| walk_at "evC") => `(tactic| ((with_reducible show _ = _); with_reducible assumption))
local macro_rules | `(tactic| walk_at "evE") => `(tactic| first | with_reducible exact ev_c _ | with_reducible apply r_v | with_reducible apply r_call | with_reducible apply r_cmp | with_reducible apply r_sub | with_reducible apply r_bi | with_reducible apply r_bin | with_reducible apply r_tup | with_reducible apply r_lst | with_reducible apply r_comp | with_reducible apply r_comp0 | with_reducible apply r_not | with_reducible apply r_andN | with_reducible apply r_and1 | with_reducible apply r_orN | with_reducible apply r_or1 | with_reducible apply r_isi | with_reducible apply r_bi2 | with_reducible apply r_slc | with_reducible apply r_rev | with_reducible apply r_neg | with_reducible apply r_chain | with_reducible apply r_scr | with_reducible apply i_of | with_reducible apply i_enum' | with_reducible apply i_rng | with_reducible apply i_peek | with_reducible apply k_val | with_reducible apply k_own | with_reducible apply k_copy | with_reducible apply k_ref)
local macro_rules | `(tactic| walk_at "evO") => `(tactic| first | exact Args.nil | (apply Args.val; exact rfl) | (apply Args.ref; exact rfl) | apply args_e | (apply Opd.v; exact rfl) | apply opd_e | (apply opf_val; exact rfl) | (apply Opf.v; exact rfl) | apply opf_e | exact Evs.nil | apply Evs.cons | apply Evs.star | exact IxR'.no | apply IxR'.yes | (with_reducible apply compB_i; intro x hx; refine ⟨_, rfl, ?_, fun hp => ?_⟩) | (with_reducible apply compM_i; intro x hx; refine ⟨_, rfl, ?_⟩) | ((with_reducible show (_ = true → _ = some _)); intro) | ((with_reducible show (_ = false → _ = some _)); intro))
local macro_rules | `(tactic| walk_at "evP") => `(tactic| first | with_reducible exact c_eqI _ _ | with_reducible exact c_eqS _ _ | with_reducible exact c_neI _ _ | with_reducible exact c_neS _ _ | with_reducible exact c_ltI _ _ | with_reducible exact c_leI _ _ | with_reducible exact c_gtI _ _ | with_reducible exact c_geI _ _ | with_reducible exact c_eqB _ _ | with_reducible exact c_neB _ _ | with_reducible exact c_inT (e := PyData.int) (by decide) _ _ | with_reducible exact c_niT (e := PyData.int) (by decide) _ _ | with_reducible exact c_inL (e := PyData.int) (by decide) _ _ | with_reducible exact c_niL (e := PyData.int) (by decide) _ _ | with_reducible exact c_inT (e := PyData.str) (by decide) _ _ | with_reducible exact c_niT (e := PyData.str) (by decide) _ _ | with_reducible exact c_inL (e := PyData.str) (by decide) _ _ | with_reducible exact c_niL (e := PyData.str) (by decide) _ _ | with_reducible exact c_eqTm _ _ | with_reducible exact c_neTm _ _ | with_reducible exact c_eqLm _ _ | with_reducible exact c_neLm _ _ | with_reducible exact c_eqT (by decide) _ _ | with_reducible exact c_neT (by decide) _ _ | with_reducible exact c_eqL (by decide) _ _ | with_reducible exact c_neL (by decide) _ _ | with_reducible exact b_addI _ _ | with_reducible exact b_subI _ _ | with_reducible apply b_addT | with_reducible apply b_addL | with_reducible exact p_lenLm _ _ | with_reducible exact p_lenTm _ _ | with_reducible exact p_lenL _ | with_reducible exact p_lenT _ | with_reducible exact p_tupL _ | with_reducible exact p_tupT _ | with_reducible exact p_lstL _ | with_reducible exact p_lstT _ | with_reducible exact p_all _ _ | with_reducible exact p_any _ _ | with_reducible exact p_intI _ | with_reducible exact p_intB _ | with_reducible exact p_max _ _ | with_reducible exact p_min _ _ | ((with_reducible show subP _ _ = some _); exact rfl) | ((with_reducible show itemsOf _ = some _); exact rfl) | ((with_reducible show iterD _ = some _); exact rfl) | ((with_reducible show look _ _ _ = some _); exact rfl) | ((with_reducible show isV _ = false); exact rfl) | ((with_reducible show List.length _ ≤ 16777216); exact of_decide_eq_true rfl) | ((with_reducible show (_ : Option Slot) = some _); exact rfl))
local macro_rules | `(tactic| walk_at "evt1") => `(tactic| first | walk_at "evE" | walk_at "evO" | walk_at "evC" | walk_at "evP")
local macro_rules | `(tactic| walk_at "evt") => `(tactic| repeat' (walk_at "evt1"))
local macro_rules | `(tactic| walk_at "st1") => `(tactic| first | with_reducible apply w_set | with_reducible apply w_par | with_reducible apply w_par3 | with_reducible apply w_unp | with_reducible apply w_frz | with_reducible apply w_app | with_reducible apply w_ret | with_reducible apply w_nil | with_reducible apply thenQ_n | with_reducible apply thenQ_r | with_reducible apply turnQ_n | with_reducible apply turnQ_r | with_reducible apply fin1 | ((with_reducible show List.set _ _ _ = _); dsimp only [List.set_cons_zero, List.set_cons_succ]; try exact rfl) | ((with_reducible show bnd _ _ _ = some _); dsimp only [bnd, List.set_cons_zero, List.set_cons_succ]; try exact rfl) | ((with_reducible show bnd _ _ _ = some _); exact rfl) | ((with_reducible show freeze _ _ = _); exact rfl) | walk_at "evt1")
local macro_rules | `(tactic| walk_at "st") => `(tactic| repeat' (walk_at "st1"))
local macro_rules | `(tactic| walk_at "evC") => `(tactic| first | with_reducible apply cal_lmet | with_reducible apply cal_lmetL)
local macro_rules | `(tactic| walk_at "evC") => `(tactic| with_reducible apply s_step)
local macro_rules | `(tactic| walk_at "evC") => `(tactic| with_reducible apply cal_lready)
local macro_rules | `(tactic| walk_at "evC") => `(tactic| with_reducible apply cal_lnext)
local macro_rules | `(tactic| walk_at "evC") => `(tactic| first | with_reducible exact bi_sortL _ | with_reducible exact bi_sortT _)
local macro_rules | `(tactic| walk_at "evC") => `(tactic| with_reducible apply cal_lleft)
local macro_rules | `(tactic| walk_at "evC") => `(tactic| first | ((with_reducible apply of_self); with_reducible assumption) | exact Rule.Fit.ok (by assumption) | exact Good.filter (by assumption) _ | exact Good.inn (by assumption) _ (by assumption))
local macro_rules | `(tactic| walk_at "evC") => `(tactic| with_reducible exact cmp_isN _)
local macro_rules | `(tactic| walk_at "evC") => `(tactic| first | with_reducible exact cmp_isO _ | with_reducible apply b_snocI | with_reducible apply b_catLI)
local macro_rules | `(tactic| walk_at "evC") => `(tactic| with_reducible apply cal_aft)
local macro_rules | `(tactic| walk_at "evC") => `(tactic| with_reducible apply cal_levent)
local macro_rules | `(tactic| walk_at "evC") => `(tactic| with_reducible apply cal_fol)
local macro_rules | `(tactic| walk_at "evC") => `(tactic| with_reducible apply cal_ref)
local macro_rules | `(tactic| walk_at "evC") => `(tactic| with_reducible exact b_rep1 _)
local macro_rules | `(tactic| walk_at "evC") => `(tactic| with_reducible apply cal_lfol)
local macro_rules | `(tactic| walk_at "evC") => `(tactic| first | with_reducible apply p_sset | with_reducible exact p_srtL _ | with_reducible exact p_srtT _)
local macro_rules | `(tactic| walk_at "evC") => `(tactic| with_reducible apply cal_ldesks)
local macro_rules | `(tactic| walk_at "evC") => `(tactic| with_reducible apply cal_levs)
local macro_rules | `(tactic| walk_at "evC") => `(tactic| with_reducible apply cal_desks)
local macro_rules | `(tactic| walk_at "evC") => `(tactic| with_reducible apply cal_can)
local macro_rules | `(tactic| walk_at "evC") => `(tactic| with_reducible apply cal_first_way)
section
variable {α : Type} [DecidableEq α] {e : α → Dt} {κ : α → NestedKey}
theorem SetE.einj [SetE e κ] {x y : α} (h : e x = e y) : x = y := by
  have h1 := SetE.key (e := e) x
  have h2 := SetE.key (e := e) y
  rw [h, h2] at h1
  exact (SetE.inj (e := e) _ _ (Option.some.inj h1)).symm
theorem srt_perm [SetE e κ] {xs ys : List α} (h : xs.Perm ys) : srt e xs = srt e ys := by
  refine map_inj' (f := e) (fun x y z => SetE.einj z) _ _ ?_
  rw [← sortD_map, ← sortD_map]
  refine sortD_perm (h.map e) fun a ha b hb => ?_
  obtain ⟨x, _, rfl⟩ := List.mem_map.mp ha
  obtain ⟨y, _, rfl⟩ := List.mem_map.mp hb
  exact SetE.alk x y
theorem srt_uset [SetE e κ] {xs ys : List α} (nd : xs.Nodup) (h : ∀ x, x ∈ xs ↔ x ∈ ys) : srt e xs = uset e ys :=
  srt_perm ((List.perm_ext_iff_of_nodup nd dd_nodup).mpr fun x => (h x).trans mem_dd.symm)
end
def evsOf (some : List Str) : List Ev := changes ++ (["back", "sign"] : List Str).flatMap fun w => some.map fun d => (w, d)
theorem evsOf_nodup {some : List Str} (h : some.Nodup) : (evsOf some).Nodup := by
  unfold evsOf
  have mp : ∀ w : Str, (some.map fun d => ((w, d) : Ev)).Nodup := fun w => List.Pairwise.map (R := fun a b => a ≠ b) (S := fun a b => a ≠ b) (fun d => ((w, d) : Ev)) (fun a b hab e => hab (by cases e; rfl)) h
  simp only [List.flatMap_cons, List.flatMap_nil, List.append_nil]
  rw [List.nodup_append, List.nodup_append]
  refine ⟨by decide, ⟨mp _, mp _, ?_⟩, ?_⟩
  · rintro a ha b hb rfl
    obtain ⟨x, _, rfl⟩ := List.mem_map.mp ha
    obtain ⟨y, _, h2⟩ := List.mem_map.mp hb
    exact absurd (congrArg Prod.fst h2) (by show ¬ (("sign" : Str) = "back"); decide)
  · rintro a ha b hb rfl
    have ea : a.1 = ("change" : Str) := by
      unfold changes at ha
      simp only [List.mem_cons, List.not_mem_nil, or_false] at ha
      rcases ha with rfl | rfl | rfl <;> rfl
    rcases List.mem_append.mp hb with z | z
    · obtain ⟨y, _, h2⟩ := List.mem_map.mp z
      rw [← h2] at ea
      exact absurd ea (by show ¬ (("back" : Str) = "change"); decide)
    · obtain ⟨y, _, h2⟩ := List.mem_map.mp z
      rw [← h2] at ea
      exact absurd ea (by show ¬ (("sign" : Str) = "change"); decide)
theorem evsOf_levs (rs : List Rule) : srt eEv (evsOf (uset PyData.str (rs.flatMap desks))) = levs rs := by
  unfold levs
  refine srt_uset (evsOf_nodup uset_nodup) fun e => ?_
  unfold evsOf
  simp only [List.mem_append, List.mem_flatMap, List.mem_map, mem_uset, List.mem_cons, List.not_mem_nil, or_false]
  constructor
  · rintro (h | ⟨w, hw, d, ⟨r, hr, hd⟩, rfl⟩)
    · exact .inr h
    · refine .inl ⟨r, hr, ?_⟩
      unfold deskEvs
      rw [List.mem_flatMap]
      refine ⟨d, hd, ?_⟩
      rcases hw with rfl | rfl
      · exact List.mem_cons_of_mem _ List.mem_cons_self
      · exact List.mem_cons_self
  · rintro (⟨r, hr, h⟩ | h)
    · unfold deskEvs at h
      rw [List.mem_flatMap] at h
      obtain ⟨d, hd, h⟩ := h
      simp only [List.mem_cons, List.not_mem_nil, or_false] at h
      rcases h with rfl | rfl
      · exact .inr ⟨_, .inr rfl, d, ⟨r, hr, hd⟩, rfl⟩
      · exact .inr ⟨_, .inl rfl, d, ⟨r, hr, hd⟩, rfl⟩
    · exact .inl h
theorem desksAll_len : ∀ (rs : List Rule), (∀ r ∈ rs, r.Fit) → (rs.flatMap desks).length ≤ 6 * rs.length
  | [], _ => Nat.le_refl _
  | r :: rs, h => by
    have h1 := desksAll_len rs fun x hx => h x (List.mem_cons_of_mem _ hx)
    have h2 := desks_len r
    have h3 := (h r List.mem_cons_self).six
    rw [List.flatMap_cons, List.length_append, List.length_cons]
    omega
theorem cal_allev (N k : Nat) (S : Sto) (rs : List Rule) (hr : ∀ r ∈ rs, r.Fit) (hl : rs.length ≤ 5) : cal phi N (k + 2) 45 [.d (.tuple (rs.map eRule))] S = some (.list ((levs rs).map eEv), S) := by
  refine wp_eq (fn_all_events ?_)
  have hfl := desksAll_len rs hr
  have hul := uset_len (e := PyData.str) (rs.flatMap desks)
  have e1 : ∀ ρ, ρ[0]? = some (Slot.val (.tuple (rs.map eRule))) → ρ.length = 7 → ev (cal phi N (k + 1)) (.comp2 (.v 3) (.one 2) (.of (.v 0)) .no (.one 3) (.of (.call 39 (.cons (.v 2) .nil))) .no) ρ S = some (.list (rs.flatMap fun r => (desks r).map PyData.str), S) := by
    intro ρ h0 hρ
    refine ev_comp2 (xs := rs) (enc := eRule) desks PyData.str (fun _ d => .str d) (i_of (r_v h0) rfl) ?_ fun r hrm => ?_
    · rw [← List.map_flatMap, List.length_map]; omega
    · obtain ⟨s0, s1, s2, s3, s4, s5, s6, rfl⟩ : ∃ s0 s1 s2 s3 s4 s5 s6, ρ = [s0, s1, s2, s3, s4, s5, s6] := by
        match ρ, hρ with
        | [s0, s1, s2, s3, s4, s5, s6], _ => exact ⟨_, _, _, _, _, _, _, rfl⟩
      refine ⟨_, rfl, i_of (r_call (.val rfl .nil) (cal_desks N k S r (hr r hrm))) rfl, fun d hd => ⟨_, rfl, r_v rfl⟩⟩
  refine w_set (sl := .val (.list ((uset PyData.str (rs.flatMap desks)).map PyData.str))) (S1 := S) (k_val (r_bi (.e (fun i z => by cases z) (r_conv (e1 _ rfl rfl) (d' := .list ((rs.flatMap desks).map PyData.str)) (by rw [List.map_flatMap]))) (p_sset (Nat.lt_of_le_of_lt (dd_len _) (by omega))))) rfl ?_
  dsimp only [List.set_cons_zero, List.set_cons_succ]
  refine w_set (sl := .val (.list (changes.map eEv))) (S1 := S) (k_val (r_conv (r_comp0 (xs := (["a", "b", "c"] : List Str)) (enc := PyData.str) (h := fun p => eEv ("change", p)) (i_of (d := .tuple [.str "a", .str "b", .str "c"]) (by rw [ev]) rfl) (compM_i fun p hp => ⟨_, rfl, r_tup (.cons (ev_c _) (.cons (r_v rfl) .nil)) (by simp)⟩) (by decide)) rfl)) rfl ?_
  dsimp only [List.set_cons_zero, List.set_cons_succ]
  rw [← evsOf_levs]
  generalize uset PyData.str (rs.flatMap desks) = some at hul ⊢
  refine w_ret (r_bi (.e (fun i z => by cases z) (r_conv (r_lst (.star (.v rfl) rfl (.star (.e (fun i z => by cases z) (ev_comp2 (xs := (["back", "sign"] : List Str)) (enc := PyData.str) (fun _ => some) PyData.str (fun w d => eEv (w, d)) (i_of (d := .tuple [.str "back", .str "sign"]) (r_tup (.cons (ev_c _) (.cons (ev_c _) .nil)) (by simp)) rfl) ?_ fun w hw => ⟨_, rfl, i_of (r_v rfl) rfl, fun d hd => ⟨_, rfl, r_tup (.cons (r_v rfl) (.cons (r_v rfl) .nil)) (by simp)⟩⟩)) rfl .nil)) ?_) (d' := .list ((evsOf some).map eEv)) ?_)) (p_srtL _)) (fin1 rfl)
  · simp only [List.flatMap_cons, List.flatMap_nil, List.append_nil, List.length_append, List.length_map]; omega
  · have : changes.length = 3 := rfl
    simp only [List.flatMap_cons, List.flatMap_nil, List.append_nil, List.length_append, List.length_map]; omega
  · unfold evsOf
    simp only [List.flatMap_cons, List.flatMap_nil, List.append_nil, List.map_append, List.map_map]
    rfl
local macro_rules | `(tactic| walk_at "evC") => `(tactic| with_reducible apply cal_allev)
def behD (r : Rule) (st : List Int) (e : Ev) : Dt := .tuple [.bool (aft r st e).isNone, tI ((aft r st e).getD st)]
theorem cal_behind (N k : Nat) (S : Sto) (r : Rule) (hr : r.Fit) (st : List Int) (g : Good r st) (e : Ev) : cal phi N (k + 11) 46 [.d (eRule r), .d (tI st), .d (eEv e)] S = some (behD r st e, S) := by
  refine wp_eq (fn_behind ?_)
  refine w_set (sl := .val (eOpt (aft r st e))) (S1 := S) (k_val (r_call (.val rfl (.val rfl (.val rfl .nil))) (cal_aft N k S r st e hr g))) rfl ?_
  dsimp only [List.set_cons_zero, List.set_cons_succ]
  unfold behD
  cases q : aft r st e with
  | none => exact w_ret (r_ite (c := true) (x := behD r st e) (y := behD r st e) (S1 := S) (S2 := S) (r_cmp (.v rfl) (.e (fun i z => by cases z) (ev_c _)) rfl) (fun _ => r_conv (r_tup (.cons (ev_c _) (.cons (r_v rfl) .nil)) (by simp)) (by unfold behD; rw [q]; rfl)) fun z => by cases z) (fin1 (by unfold behD; rw [q]; rfl))
  | some t => exact w_ret (r_ite (c := false) (x := behD r st e) (y := behD r st e) (S1 := S) (S2 := S) (r_cmp (.v rfl) (.e (fun i z => by cases z) (ev_c _)) rfl) (fun z => by cases z) fun _ => r_conv (r_tup (.cons (ev_c _) (.cons (r_v rfl) .nil)) (by simp)) (by unfold behD; rw [q]; rfl)) (fin1 (by unfold behD; rw [q]; rfl))
end Fw

set_option autoImplicit false
set_option linter.all false
set_option maxRecDepth 100000
set_option maxHeartbeats 400000
/-! what is reached: lists of work -/
namespace Fw
open PySem L2
local macro_rules | `(tactic| walk_at "evC") => `(tactic| ((with_reducible show _ = _); with_reducible assumption))
local macro_rules | `(tactic| walk_at "evE") => `(tactic| first | with_reducible exact ev_c _ | with_reducible apply r_v | with_reducible apply r_call | with_reducible apply r_cmp | with_reducible apply r_sub | with_reducible apply r_bi | with_reducible apply r_bin | with_reducible apply r_tup | with_reducible apply r_lst | with_reducible apply r_comp | with_reducible apply r_comp0 | with_reducible apply r_not | with_reducible apply r_andN | with_reducible apply r_and1 | with_reducible apply r_orN | with_reducible apply r_or1 | with_reducible apply r_isi | with_reducible apply r_bi2 | with_reducible apply r_slc | with_reducible apply r_rev | with_reducible apply r_neg | with_reducible apply r_chain | with_reducible apply r_scr | with_reducible apply i_of | with_reducible apply i_enum' | with_reducible apply i_rng | with_reducible apply i_peek | with_reducible apply k_val | with_reducible apply k_own | with_reducible apply k_copy | with_reducible apply k_ref)
local macro_rules | `(tactic| walk_at "evO") => `(tactic| first | exact Args.nil | (apply Args.val; exact rfl) | (apply Args.ref; exact rfl) | apply args_e | (apply Opd.v; exact rfl) | apply opd_e | (apply opf_val; exact rfl) | (apply Opf.v; exact rfl) | apply opf_e | exact Evs.nil | apply Evs.cons | apply Evs.star | exact IxR'.no | apply IxR'.yes | (with_reducible apply compB_i; intro x hx; refine ⟨_, rfl, ?_, fun hp => ?_⟩) | (with_reducible apply compM_i; intro x hx; refine ⟨_, rfl, ?_⟩) | ((with_reducible show (_ = true → _ = some _)); intro) | ((with_reducible show (_ = false → _ = some _)); intro))
local macro_rules | `(tactic| walk_at "evP") => `(tactic| first | with_reducible exact c_eqI _ _ | with_reducible exact c_eqS _ _ | with_reducible exact c_neI _ _ | with_reducible exact c_neS _ _ | with_reducible exact c_ltI _ _ | with_reducible exact c_leI _ _ | with_reducible exact c_gtI _ _ | with_reducible exact c_geI _ _ | with_reducible exact c_eqB _ _ | with_reducible exact c_neB _ _ | with_reducible exact c_inT (e := PyData.int) (by decide) _ _ | with_reducible exact c_niT (e := PyData.int) (by decide) _ _ | with_reducible exact c_inL (e := PyData.int) (by decide) _ _ | with_reducible exact c_niL (e := PyData.int) (by decide) _ _ | with_reducible exact c_inT (e := PyData.str) (by decide) _ _ | with_reducible exact c_niT (e := PyData.str) (by decide) _ _ | with_reducible exact c_inL (e := PyData.str) (by decide) _ _ | with_reducible exact c_niL (e := PyData.str) (by decide) _ _ | with_reducible exact c_eqTm _ _ | with_reducible exact c_neTm _ _ | with_reducible exact c_eqLm _ _ | with_reducible exact c_neLm _ _ | with_reducible exact c_eqT (by decide) _ _ | with_reducible exact c_neT (by decide) _ _ | with_reducible exact c_eqL (by decide) _ _ | with_reducible exact c_neL (by decide) _ _ | with_reducible exact b_addI _ _ | with_reducible exact b_subI _ _ | with_reducible apply b_addT | with_reducible apply b_addL | with_reducible exact p_lenLm _ _ | with_reducible exact p_lenTm _ _ | with_reducible exact p_lenL _ | with_reducible exact p_lenT _ | with_reducible exact p_tupL _ | with_reducible exact p_tupT _ | with_reducible exact p_lstL _ | with_reducible exact p_lstT _ | with_reducible exact p_all _ _ | with_reducible exact p_any _ _ | with_reducible exact p_intI _ | with_reducible exact p_intB _ | with_reducible exact p_max _ _ | with_reducible exact p_min _ _ | ((with_reducible show subP _ _ = some _); exact rfl) | ((with_reducible show itemsOf _ = some _); exact rfl) | ((with_reducible show iterD _ = some _); exact rfl) | ((with_reducible show look _ _ _ = some _); exact rfl) | ((with_reducible show isV _ = false); exact rfl) | ((with_reducible show List.length _ ≤ 16777216); exact of_decide_eq_true rfl) | ((with_reducible show (_ : Option Slot) = some _); exact rfl))
local macro_rules | `(tactic| walk_at "evt1") => `(tactic| first | walk_at "evE" | walk_at "evO" | walk_at "evC" | walk_at "evP")
local macro_rules | `(tactic| walk_at "evt") => `(tactic| repeat' (walk_at "evt1"))
local macro_rules | `(tactic| walk_at "st1") => `(tactic| first | with_reducible apply w_set | with_reducible apply w_par | with_reducible apply w_par3 | with_reducible apply w_unp | with_reducible apply w_frz | with_reducible apply w_app | with_reducible apply w_ret | with_reducible apply w_nil | with_reducible apply thenQ_n | with_reducible apply thenQ_r | with_reducible apply turnQ_n | with_reducible apply turnQ_r | with_reducible apply fin1 | ((with_reducible show List.set _ _ _ = _); dsimp only [List.set_cons_zero, List.set_cons_succ]; try exact rfl) | ((with_reducible show bnd _ _ _ = some _); dsimp only [bnd, List.set_cons_zero, List.set_cons_succ]; try exact rfl) | ((with_reducible show bnd _ _ _ = some _); exact rfl) | ((with_reducible show freeze _ _ = _); exact rfl) | walk_at "evt1")
local macro_rules | `(tactic| walk_at "st") => `(tactic| repeat' (walk_at "st1"))
local macro_rules | `(tactic| walk_at "evC") => `(tactic| first | with_reducible apply cal_lmet | with_reducible apply cal_lmetL)
local macro_rules | `(tactic| walk_at "evC") => `(tactic| with_reducible apply s_step)
local macro_rules | `(tactic| walk_at "evC") => `(tactic| with_reducible apply cal_lready)
local macro_rules | `(tactic| walk_at "evC") => `(tactic| with_reducible apply cal_lnext)
local macro_rules | `(tactic| walk_at "evC") => `(tactic| first | with_reducible exact bi_sortL _ | with_reducible exact bi_sortT _)
local macro_rules | `(tactic| walk_at "evC") => `(tactic| with_reducible apply cal_lleft)
local macro_rules | `(tactic| walk_at "evC") => `(tactic| first | ((with_reducible apply of_self); with_reducible assumption) | exact Rule.Fit.ok (by assumption) | exact Good.filter (by assumption) _ | exact Good.inn (by assumption) _ (by assumption))
local macro_rules | `(tactic| walk_at "evC") => `(tactic| with_reducible exact cmp_isN _)
local macro_rules | `(tactic| walk_at "evC") => `(tactic| first | with_reducible exact cmp_isO _ | with_reducible apply b_snocI | with_reducible apply b_catLI)
local macro_rules | `(tactic| walk_at "evC") => `(tactic| with_reducible apply cal_aft)
local macro_rules | `(tactic| walk_at "evC") => `(tactic| with_reducible apply cal_levent)
local macro_rules | `(tactic| walk_at "evC") => `(tactic| with_reducible apply cal_fol)
local macro_rules | `(tactic| walk_at "evC") => `(tactic| with_reducible apply cal_ref)
local macro_rules | `(tactic| walk_at "evC") => `(tactic| with_reducible exact b_rep1 _)
local macro_rules | `(tactic| walk_at "evC") => `(tactic| with_reducible apply cal_lfol)
local macro_rules | `(tactic| walk_at "evC") => `(tactic| first | with_reducible apply p_sset | with_reducible exact p_srtL _ | with_reducible exact p_srtT _)
local macro_rules | `(tactic| walk_at "evC") => `(tactic| with_reducible apply cal_ldesks)
local macro_rules | `(tactic| walk_at "evC") => `(tactic| with_reducible apply cal_levs)
local macro_rules | `(tactic| walk_at "evC") => `(tactic| with_reducible apply cal_desks)
local macro_rules | `(tactic| walk_at "evC") => `(tactic| with_reducible apply cal_can)
local macro_rules | `(tactic| walk_at "evC") => `(tactic| with_reducible apply cal_first_way)
local macro_rules | `(tactic| walk_at "evC") => `(tactic| with_reducible apply cal_allev)
section
variable {ν L : Type} {P : ν → Prop} {nx : ν → L → ν} {ls : List L}
inductive Rea (nx : ν → L → ν) (ls : List L) (s0 : ν) : ν → Prop
  | nil : Rea nx ls s0 s0
  | step {s : ν} {l : L} : Rea nx ls s0 s → l ∈ ls → Rea nx ls s0 (nx s l)
structure WL (P : ν → Prop) (nx : ν → L → ν) (ls : List L) (kn todo : List ν) (s : ν) (left : List L) : Prop where
  nd : kn.Nodup
  good : ∀ t ∈ kn, P t
  tin : ∀ t ∈ todo, t ∈ kn
  cl : ∀ t ∈ kn, t ∈ todo ∨ ∀ l ∈ ls, nx t l ∈ kn ∨ (t = s ∧ l ∈ left)
theorem WL.start {kn todo todo' : List ν} {s s' : ν} (w : WL P nx ls kn todo s' []) (h1 : ∀ t ∈ todo, t = s ∨ t ∈ todo') (h2 : ∀ t ∈ todo', t ∈ todo) : WL P nx ls kn todo' s ls := by
  refine ⟨w.nd, w.good, fun t ht => w.tin t (h2 t ht), fun t ht => ?_⟩
  rcases w.cl t ht with z | z
  · rcases h1 t z with q | q
    · exact .inr fun l hl => .inr ⟨q, hl⟩
    · exact .inl q
  · refine .inr fun l hl => .inl ?_
    rcases z l hl with q | ⟨_, q⟩
    · exact q
    · cases q
theorem WL.old {kn todo : List ν} {s : ν} {l : L} {left : List L} (w : WL P nx ls kn todo s (l :: left)) (h : nx s l ∈ kn) : WL P nx ls kn todo s left := by
  refine ⟨w.nd, w.good, w.tin, fun t ht => ?_⟩
  rcases w.cl t ht with z | z
  · exact .inl z
  · refine .inr fun m hm => ?_
    rcases z m hm with q | ⟨q, q2⟩
    · exact .inl q
    · rcases List.mem_cons.mp q2 with e | e
      · subst e q; exact .inl h
      · exact .inr ⟨q, e⟩
theorem WL.new {kn todo : List ν} {s : ν} {l : L} {left : List L} (w : WL P nx ls kn todo s (l :: left)) (h : nx s l ∉ kn) (hp : P (nx s l)) : WL P nx ls (kn ++ [nx s l]) (todo ++ [nx s l]) s left := by
  refine ⟨?_, fun t ht => ?_, fun t ht => ?_, fun t ht => ?_⟩
  · rw [List.nodup_append]
    exact ⟨w.nd, List.nodup_cons.mpr ⟨by simp, List.nodup_nil⟩, fun a ha b hb e => by rw [List.mem_singleton] at hb; rw [e, hb] at ha; exact h ha⟩
  · rcases List.mem_append.mp ht with z | z
    · exact w.good t z
    · rw [List.mem_singleton] at z; rw [z]; exact hp
  · rcases List.mem_append.mp ht with z | z
    · exact List.mem_append_left _ (w.tin t z)
    · exact List.mem_append_right _ z
  · rcases List.mem_append.mp ht with z | z
    · rcases w.cl t z with y | y
      · exact .inl (List.mem_append_left _ y)
      · refine .inr fun m hm => ?_
        rcases y m hm with q | ⟨q, q2⟩
        · exact .inl (List.mem_append_left _ q)
        · rcases List.mem_cons.mp q2 with e | e
          · subst e q; exact .inl (List.mem_append_right _ List.mem_cons_self)
          · exact .inr ⟨q, e⟩
    · exact .inl (List.mem_append_right _ z)
theorem WL.done {kn : List ν} {s s0 : ν} (w : WL P nx ls kn [] s []) (h0 : s0 ∈ kn) : ∀ t, Rea nx ls s0 t → t ∈ kn := by
  intro t h
  induction h with
  | nil => exact h0
  | step _ hl ih =>
    rcases w.cl _ ih with z | z
    · cases z
    · rcases z _ hl with q | ⟨_, q⟩
      · exact q
      · cases q
end
def nxT (r : Rule) (s : List Int) (e : Ev) : List Int := (aft r s e).getD s
abbrev Reas (r : Rule) : List Int → Prop := Rea (nxT r) (levs [r]) []
theorem reas_good {r : Rule} {s : List Int} (h : Reas r s) : Good r s := by
  induction h with
  | nil => exact good_nil
  | step _ _ ih => exact aft_good ih _
open Classical in
noncomputable def sts (r : Rule) : List (List Int) := uset tI ((subs (rangeI r.1.length)).filter fun s => decide (Reas r s))
theorem mem_sts {r : Rule} {s : List Int} : s ∈ sts r ↔ Reas r s := by
  unfold sts
  rw [mem_uset, List.mem_filter]
  simp only [decide_eq_true_eq]
  exact ⟨And.right, fun h => ⟨mem_subs (sorted_sub (reas_good h).so (rangeI_sorted _) fun a ha => mem_rangeI.mpr ((reas_good h).inn a ha)), h⟩⟩
theorem sts_of {r : Rule} {kn : List (List Int)} (nd : kn.Nodup) (h : ∀ s, s ∈ kn ↔ Reas r s) : srt tI kn = sts r := by
  unfold sts
  refine srt_uset nd fun s => ?_
  rw [h s, ← mem_sts (r := r)]
  unfold sts
  rw [mem_uset]
theorem sts_len {r : Rule} (h6 : r.1.length ≤ 6) : (sts r).length ≤ 64 := states_bound h6 uset_nodup fun s hs => reas_good (mem_sts.mp hs)
theorem sts_pos (r : Rule) : 0 < (sts r).length := List.length_pos_of_mem (mem_sts.mpr .nil)
theorem sts_fin {r : Rule} {kn : List (List Int)} {s : List Int} (w : WL (Reas r) (nxT r) (levs [r]) kn [] s []) (h0 : [] ∈ kn) : srt tI kn = sts r := sts_of w.nd fun t => ⟨w.good t, w.done h0 t⟩
theorem p_srtS {α : Type} {e : α → Dt} {κ κ' : α → NestedKey} [DecidableEq α] [SetE e κ'] [TabE e κ] (kn : List α) : biP .sorted (.t (kset κ kn)) = some (.list ((srt e kn).map e)) := by
  have h : (kset κ kn).map (fun p => p.1.data) = kn.map e := by
    unfold kset
    rw [List.map_map]
    exact List.map_congr_left fun x _ => TabE.dat x
  simp only [biP]
  rw [h, okSort_map, if_pos rfl, sortD_map]
theorem WL.few {r : Rule} (h6 : r.1.length ≤ 6) {kn todo : List (List Int)} {s : List Int} {left : List Ev} (w : WL (Reas r) (nxT r) (levs [r]) kn todo s left) : kn.length ≤ 64 := states_bound h6 w.nd fun s hs => reas_good (w.good s hs)
theorem wl0 (r : Rule) : WL (Reas r) (nxT r) (levs [r]) [[]] [[]] [] [] := ⟨List.nodup_cons.mpr ⟨by simp, List.nodup_nil⟩, fun t ht => by rw [List.mem_singleton] at ht; subst ht; exact .nil, fun t ht => ht, fun t ht => .inl ht⟩
theorem fit1 {r : Rule} (hr : r.Fit) : ∀ x ∈ [r], x.Fit := fun x hx => by rw [List.mem_singleton] at hx; rw [hx]; exact hr
theorem cal_states (N k : Nat) (S : Sto) (r : Rule) (hr : r.Fit) (hN : 1000 ≤ N) : cal phi N (k + 12) 53 [.d (eRule r)] S = some (.list ((sts r).map tI), S) := by
  have h6 := hr.six
  refine wp_eq (fn_states ?_)
  refine w_par (sl := .ownd (kset κI [[]])) (sl2 := .val (.list (([[]] : List (List Int)).map tI))) (S1 := S) (S2 := S) (k_tab1 (r_tup .nil (by decide)) (ev_c _) (TabE.key (e := tI) [])) (k_val (r_lst (.cons (r_tup (ds := []) .nil (by simp)) .nil) (by simp))) rfl ?_
  dsimp only [List.set_cons_zero, List.set_cons_succ]
  refine w_whl (N := N) (fun m ρ S' => S' = S ∧ ∃ (kn lst : List (List Int)) (a b c d : Slot), ρ = [.val (eRule r), .ownd (kset κI kn), .val (.list (lst.map tI)), a, b, c, d] ∧ WL (Reas r) (nxT r) (levs [r]) kn lst [] [] ∧ ([] : List Int) ∈ kn ∧ 64 - kn.length + (if lst.isEmpty = true then 0 else 1) ≤ m) 100 (by omega) ⟨rfl, [[]], [[]], _, _, _, _, rfl, wl0 r, List.mem_cons_self, by decide⟩ ?_
  rintro m ρ S' ⟨rfl, kn, lst, a, b, c, d, rfl, w, h0, hf⟩
  refine ⟨!lst.isEmpty, S', r_cmp (.v rfl) (.e (fun i z => by cases z) (r_lst .nil (by decide))) (c_neLm _ _), fun hc => ?_, fun hc => ?_⟩
  · have hz : lst.isEmpty = false := by simpa using hc
    rw [hz, if_neg Bool.false_ne_true] at hf
    obtain ⟨m, rfl⟩ : ∃ n, m = n + 1 := ⟨m - 1, by omega⟩
    refine w_set (k_own .nil (by decide)) rfl ?_
    dsimp only [List.set_cons_zero, List.set_cons_succ]
    refine w_for (xs := lst) (enc := tI) (S1 := S') (fun left ρ S'' => S'' = S' ∧ ∃ (kn' later : List (List Int)) (b c d : Slot), ρ = [.val (eRule r), .ownd (kset κI kn'), .val (.list (lst.map tI)), .own (later.map tI), b, c, d] ∧ WL (Reas r) (nxT r) (levs [r]) kn' (left ++ later) [] [] ∧ ([] : List Int) ∈ kn' ∧ kn'.length = kn.length + later.length) rfl (i_of (r_v rfl) rfl) ⟨rfl, kn, [], _, _, _, rfl, by rw [List.append_nil]; exact w, h0, rfl⟩ ?_ ?_
    · rintro st left ρ S'' hst ⟨rfl, kn', later, b, c, d, rfl, w', h0', hl⟩
      have gs : Good r st := reas_good (w'.good st (w'.tin st List.mem_cons_self))
      have rs : Reas r st := w'.good st (w'.tin st List.mem_cons_self)
      refine ⟨_, rfl, ?_⟩
      dsimp only [List.set_cons_zero, List.set_cons_succ]
      refine w_for (xs := levs [r]) (enc := eEv) (S1 := S'') (fun evs ρ S3 => S3 = S'' ∧ ∃ (kn2 later2 : List (List Int)) (c d : Slot), ρ = [.val (eRule r), .ownd (kset κI kn2), .val (.list (lst.map tI)), .own (later2.map tI), .val (tI st), c, d] ∧ WL (Reas r) (nxT r) (levs [r]) kn2 (left ++ later2) st evs ∧ ([] : List Int) ∈ kn2 ∧ kn2.length = kn.length + later2.length) rfl (i_of (r_call (.e (fun i z => by cases z) (r_tup (.cons (r_v rfl) .nil) (by simp)) .nil) (cal_allev N (k + 9) S'' [r] (fit1 hr) (by simp))) rfl) ⟨rfl, kn', later, _, _, rfl, w'.start (fun t ht => ?_) (fun t ht => List.mem_cons_of_mem _ ht), h0', hl⟩ ?_ ?_
      · rcases List.mem_cons.mp ht with z | z
        · exact .inl z
        · exact .inr z
      · rintro e evs ρ S3 he ⟨rfl, kn2, later2, c, d, rfl, w2, h02, hl2⟩
        refine ⟨_, rfl, ?_⟩
        dsimp only [List.set_cons_zero, List.set_cons_succ]
        have hk := w2.few h6
        refine w_set (sl := .val (tI (nxT r st e))) (S1 := S3) (k_val (r_sub (S1 := S3) (.e (fun i z => by cases z) (r_call (.val rfl (.val rfl (.val rfl .nil))) (cal_behind N k S3 r hr st gs e))) (ev_c _) rfl)) rfl ?_
        dsimp only [List.set_cons_zero, List.set_cons_succ]
        refine w_if (S1 := S3) (r_cmp (x := tI (nxT r st e)) (.v rfl) (.v rfl) (c_niSet (e := tI) kn2 (nxT r st e))) (fun hn => ?_) (fun hn => ?_)
        · have hn : nxT r st e ∉ kn2 := by simpa using hn
          refine w_putD (d := .bool true) (y := tI (nxT r st e)) (S1 := S3) (S2 := S3) (ev_c _) (r_v rfl) rfl (TabE.key (e := tI) _) (by rw [List.length_map]; omega) rfl ?_
          rw [kset_put (e := tI) hn]
          dsimp only [List.set_cons_zero, List.set_cons_succ]
          refine w_app (d := tI (nxT r st e)) (S1 := S3) rfl (r_v rfl) (by rw [List.length_map]; omega) rfl ?_
          dsimp only [List.set_cons_zero, List.set_cons_succ]
          have w3 := w2.new hn (.step rs he)
          rw [List.append_assoc] at w3
          exact w_nil (thenQ_n (w_nil (turnQ_n ⟨rfl, kn2 ++ [nxT r st e], later2 ++ [nxT r st e], _, _, by rw [List.map_append]; rfl, w3, List.mem_append_left _ h02, by rw [List.length_append, List.length_append, List.length_singleton]; omega⟩)))
        · have hn : nxT r st e ∈ kn2 := by simpa using hn
          exact w_nil (thenQ_n (w_nil (turnQ_n ⟨rfl, kn2, later2, _, _, rfl, w2.old hn, h02, hl2⟩)))
      · rintro ρ S3 ⟨rfl, kn2, later2, c, d, rfl, w2, h02, hl2⟩
        exact w_nil (turnQ_n ⟨rfl, kn2, later2, _, _, _, rfl, ⟨w2.nd, w2.good, w2.tin, fun t ht => (w2.cl t ht).imp id fun z l hl => .inl ((z l hl).elim id fun q => by cases q.2)⟩, h02, hl2⟩)
    · rintro ρ S'' ⟨rfl, kn', later, b, c, d, rfl, w', h0', hl⟩
      have hk := w'.few h6
      refine w_frz (ρ' := [.val (eRule r), .ownd (kset κI kn'), .val (.list (lst.map tI)), .val (.list (later.map tI)), b, c, d]) rfl ?_
      refine w_set (k_val (r_v rfl)) rfl ?_
      dsimp only [List.set_cons_zero, List.set_cons_succ]
      rw [List.nil_append] at w'
      refine w_nil (turnQ_n ⟨m, by omega, rfl, kn', later, _, _, _, _, rfl, w', h0', ?_⟩)
      by_cases q : later.isEmpty = true
      · rw [if_pos q]; omega
      · rw [if_neg q]
        have : later ≠ [] := fun z => q (by rw [z]; rfl)
        have := List.length_pos_iff.mpr this
        omega
  · have hz : lst.isEmpty = true := by simpa using hc
    rw [List.isEmpty_iff.mp hz] at w
    refine w_ret (r_bi (.v rfl) (p_srtS (e := tI) kn)) (fin1 ?_)
    rw [sts_fin w h0]
local macro_rules | `(tactic| walk_at "evC") => `(tactic| with_reducible apply cal_states)
theorem cal_reached (N k : Nat) (S : Sto) (r : Rule) (hr : r.Fit) (hN : 1000 ≤ N) : cal phi N (k + 12) 54 [.d (eRule r)] S = some (.list ((sts r).map tI), S) := by
  have h6 := hr.six
  refine wp_eq (fn_law_reached ?_)
  refine w_par3 (sl := .ownd (kset κI [[]])) (sl2 := .own (([[]] : List (List Int)).map tI)) (sl3 := .val (.list ((levs [r]).map eEv))) (S1 := S) (S2 := S) (S3 := S) (k_tab1 (r_tup .nil (by decide)) (ev_c _) (TabE.key (e := tI) [])) (k_own (.cons (r_tup (ds := []) .nil (by simp)) .nil) (by simp)) (k_val (r_call (.e (fun i z => by cases z) (r_tup (.cons (r_v rfl) .nil) (by simp)) .nil) (cal_levs N (k + 9) S [r] (fit1 hr) (by simp)))) rfl ?_
  dsimp only [List.set_cons_zero, List.set_cons_succ]
  refine w_whl (N := N) (fun m ρ S' => S' = S ∧ ∃ (kn st : List (List Int)) (b c d : Slot), ρ = [.val (eRule r), .ownd (kset κI kn), .own (st.map tI), .val (.list ((levs [r]).map eEv)), b, c, d] ∧ WL (Reas r) (nxT r) (levs [r]) kn st [] [] ∧ ([] : List Int) ∈ kn ∧ 64 - kn.length + st.length ≤ m ∧ st.length ≤ kn.length) 100 (by omega) ⟨rfl, [[]], [[]], _, _, _, rfl, wl0 r, List.mem_cons_self, by decide, by decide⟩ ?_
  rintro m ρ S' ⟨rfl, kn, stk, b, c, d, rfl, w, h0, hf, hfe⟩
  refine ⟨!stk.isEmpty, S', r_cmp (.v rfl) (.e (fun i z => by cases z) (r_lst .nil (by decide))) (c_neLm _ _), fun hc => ?_, fun hc => ?_⟩
  · have hz : stk.isEmpty = false := by simpa using hc
    obtain ⟨stk', st, rfl⟩ : ∃ s' t, stk = s' ++ [t] := by
      rcases List.eq_nil_or_concat stk with z | ⟨s', t, z⟩
      · rw [z] at hz; cases hz
      · exact ⟨s', t, by rw [z, List.concat_eq_append]⟩
    rw [List.length_append, List.length_singleton] at hf hfe
    obtain ⟨m, rfl⟩ : ∃ n, m = n + 1 := ⟨m - 1, by omega⟩
    have rs : Reas r st := w.good st (w.tin st (List.mem_append_right _ List.mem_cons_self))
    have gs : Good r st := reas_good rs
    have hk0 := w.few h6
    refine w_pop (ρ' := [.val (eRule r), .ownd (kset κI kn), .own (stk'.map tI), .val (.list ((levs [r]).map eEv)), .val (tI st), c, d]) (d := tI st) (ds := (stk' ++ [st]).map tI) rfl ?_ ?_ ?_
    · rw [List.map_append]; exact List.getLast?_concat ..
    · rw [List.map_append]
      have : (stk'.map tI ++ [st].map tI).dropLast = stk'.map tI := List.dropLast_concat ..
      rw [this]
      rfl
    refine w_for (xs := levs [r]) (enc := eEv) (S1 := S') (fun evs ρ S3 => S3 = S' ∧ ∃ (kn2 st2 : List (List Int)) (c d : Slot), ρ = [.val (eRule r), .ownd (kset κI kn2), .own (st2.map tI), .val (.list ((levs [r]).map eEv)), .val (tI st), c, d] ∧ WL (Reas r) (nxT r) (levs [r]) kn2 st2 st evs ∧ ([] : List Int) ∈ kn2 ∧ kn2.length + stk'.length = kn.length + st2.length) rfl (i_of (r_v rfl) rfl) ⟨rfl, kn, stk', _, _, rfl, w.start (fun t ht => ?_) (fun t ht => List.mem_append_left _ ht), h0, rfl⟩ ?_ ?_
    · rcases List.mem_append.mp ht with z | z
      · exact .inr z
      · rw [List.mem_singleton] at z; exact .inl z
    · rintro e evs ρ S3 he ⟨rfl, kn2, st2, c, d, rfl, w2, h02, hl2⟩
      refine ⟨_, rfl, ?_⟩
      dsimp only [List.set_cons_zero, List.set_cons_succ]
      have hk := w2.few h6
      refine w_set (sl := .val (tI (nxT r st e))) (S1 := S3) (k_val (r_sub (S1 := S3) (.e (fun i z => by cases z) (r_call (.val rfl (.val rfl (.val rfl .nil))) (cal_levent N (k + 1) S3 r st e hr gs (by omega)))) (ev_c _) rfl)) rfl ?_
      dsimp only [List.set_cons_zero, List.set_cons_succ]
      refine w_if (S1 := S3) (r_cmp (x := tI (nxT r st e)) (.v rfl) (.v rfl) (c_niSet (e := tI) kn2 (nxT r st e))) (fun hn => ?_) (fun hn => ?_)
      · have hn : nxT r st e ∉ kn2 := by simpa using hn
        refine w_putD (d := .bool true) (y := tI (nxT r st e)) (S1 := S3) (S2 := S3) (ev_c _) (r_v rfl) rfl (TabE.key (e := tI) _) (by rw [List.length_map]; omega) rfl ?_
        rw [kset_put (e := tI) hn]
        dsimp only [List.set_cons_zero, List.set_cons_succ]
        refine w_app (d := tI (nxT r st e)) (S1 := S3) rfl (r_v rfl) (by rw [List.length_map]; omega) rfl ?_
        dsimp only [List.set_cons_zero, List.set_cons_succ]
        exact w_nil (thenQ_n (w_nil (turnQ_n ⟨rfl, kn2 ++ [nxT r st e], st2 ++ [nxT r st e], _, _, by rw [List.map_append]; rfl, w2.new hn (.step rs he), List.mem_append_left _ h02, by rw [List.length_append, List.length_append, List.length_singleton]; omega⟩)))
      · have hn : nxT r st e ∈ kn2 := by simpa using hn
        exact w_nil (thenQ_n (w_nil (turnQ_n ⟨rfl, kn2, st2, _, _, rfl, w2.old hn, h02, hl2⟩)))
    · rintro ρ S3 ⟨rfl, kn2, st2, c, d, rfl, w2, h02, hl2⟩
      have hk := w2.few h6
      exact w_nil (turnQ_n ⟨m, by omega, rfl, kn2, st2, _, _, _, rfl, ⟨w2.nd, w2.good, w2.tin, fun t ht => (w2.cl t ht).imp id fun z l hl => .inl ((z l hl).elim id fun q => by cases q.2)⟩, h02, by omega, by omega⟩)
  · have hz : stk.isEmpty = true := by simpa using hc
    rw [List.isEmpty_iff.mp hz] at w
    refine w_ret (r_bi (.v rfl) (p_srtS (e := tI) kn)) (fin1 ?_)
    rw [sts_fin w h0]
local macro_rules | `(tactic| walk_at "evC") => `(tactic| with_reducible apply cal_reached)
end Fw

set_option autoImplicit false
set_option linter.all false
set_option maxRecDepth 100000
set_option maxHeartbeats 400000
/-! the law's own way; fewest signs -/
namespace Fw
open PySem L2
local macro_rules | `(tactic| walk_at "evC") => `(tactic| ((with_reducible show _ = _); with_reducible assumption))
local macro_rules | `(tactic| walk_at "evE") => `(tactic| first | with_reducible exact ev_c _ | with_reducible apply r_v | with_reducible apply r_call | with_reducible apply r_cmp | with_reducible apply r_sub | with_reducible apply r_bi | with_reducible apply r_bin | with_reducible apply r_tup | with_reducible apply r_lst | with_reducible apply r_comp | with_reducible apply r_comp0 | with_reducible apply r_not | with_reducible apply r_andN | with_reducible apply r_and1 | with_reducible apply r_orN | with_reducible apply r_or1 | with_reducible apply r_isi | with_reducible apply r_bi2 | with_reducible apply r_slc | with_reducible apply r_rev | with_reducible apply r_neg | with_reducible apply r_chain | with_reducible apply r_scr | with_reducible apply i_of | with_reducible apply i_enum' | with_reducible apply i_rng | with_reducible apply i_peek | with_reducible apply k_val | with_reducible apply k_own | with_reducible apply k_copy | with_reducible apply k_ref)
local macro_rules | `(tactic| walk_at "evO") => `(tactic| first | exact Args.nil | (apply Args.val; exact rfl) | (apply Args.ref; exact rfl) | apply args_e | (apply Opd.v; exact rfl) | apply opd_e | (apply opf_val; exact rfl) | (apply Opf.v; exact rfl) | apply opf_e | exact Evs.nil | apply Evs.cons | apply Evs.star | exact IxR'.no | apply IxR'.yes | (with_reducible apply compB_i; intro x hx; refine ⟨_, rfl, ?_, fun hp => ?_⟩) | (with_reducible apply compM_i; intro x hx; refine ⟨_, rfl, ?_⟩) | ((with_reducible show (_ = true → _ = some _)); intro) | ((with_reducible show (_ = false → _ = some _)); intro))
local macro_rules | `(tactic| walk_at "evP") => `(tactic| first | with_reducible exact c_eqI _ _ | with_reducible exact c_eqS _ _ | with_reducible exact c_neI _ _ | with_reducible exact c_neS _ _ | with_reducible exact c_ltI _ _ | with_reducible exact c_leI _ _ | with_reducible exact c_gtI _ _ | with_reducible exact c_geI _ _ | with_reducible exact c_eqB _ _ | with_reducible exact c_neB _ _ | with_reducible exact c_inT (e := PyData.int) (by decide) _ _ | with_reducible exact c_niT (e := PyData.int) (by decide) _ _ | with_reducible exact c_inL (e := PyData.int) (by decide) _ _ | with_reducible exact c_niL (e := PyData.int) (by decide) _ _ | with_reducible exact c_inT (e := PyData.str) (by decide) _ _ | with_reducible exact c_niT (e := PyData.str) (by decide) _ _ | with_reducible exact c_inL (e := PyData.str) (by decide) _ _ | with_reducible exact c_niL (e := PyData.str) (by decide) _ _ | with_reducible exact c_eqTm _ _ | with_reducible exact c_neTm _ _ | with_reducible exact c_eqLm _ _ | with_reducible exact c_neLm _ _ | with_reducible exact c_eqT (by decide) _ _ | with_reducible exact c_neT (by decide) _ _ | with_reducible exact c_eqL (by decide) _ _ | with_reducible exact c_neL (by decide) _ _ | with_reducible exact b_addI _ _ | with_reducible exact b_subI _ _ | with_reducible apply b_addT | with_reducible apply b_addL | with_reducible exact p_lenLm _ _ | with_reducible exact p_lenTm _ _ | with_reducible exact p_lenL _ | with_reducible exact p_lenT _ | with_reducible exact p_tupL _ | with_reducible exact p_tupT _ | with_reducible exact p_lstL _ | with_reducible exact p_lstT _ | with_reducible exact p_all _ _ | with_reducible exact p_any _ _ | with_reducible exact p_intI _ | with_reducible exact p_intB _ | with_reducible exact p_max _ _ | with_reducible exact p_min _ _ | ((with_reducible show subP _ _ = some _); exact rfl) | ((with_reducible show itemsOf _ = some _); exact rfl) | ((with_reducible show iterD _ = some _); exact rfl) | ((with_reducible show look _ _ _ = some _); exact rfl) | ((with_reducible show isV _ = false); exact rfl) | ((with_reducible show List.length _ ≤ 16777216); exact of_decide_eq_true rfl) | ((with_reducible show (_ : Option Slot) = some _); exact rfl))
local macro_rules | `(tactic| walk_at "evt1") => `(tactic| first | walk_at "evE" | walk_at "evO" | walk_at "evC" | walk_at "evP")
local macro_rules | `(tactic| walk_at "evt") => `(tactic| repeat' (walk_at "evt1"))
local macro_rules | `(tactic| walk_at "st1") => `(tactic| first | with_reducible apply w_set | with_reducible apply w_par | with_reducible apply w_par3 | with_reducible apply w_unp | with_reducible apply w_frz | with_reducible apply w_app | with_reducible apply w_ret | with_reducible apply w_nil | with_reducible apply thenQ_n | with_reducible apply thenQ_r | with_reducible apply turnQ_n | with_reducible apply turnQ_r | with_reducible apply fin1 | ((with_reducible show List.set _ _ _ = _); dsimp only [List.set_cons_zero, List.set_cons_succ]; try exact rfl) | ((with_reducible show bnd _ _ _ = some _); dsimp only [bnd, List.set_cons_zero, List.set_cons_succ]; try exact rfl) | ((with_reducible show bnd _ _ _ = some _); exact rfl) | ((with_reducible show freeze _ _ = _); exact rfl) | walk_at "evt1")
local macro_rules | `(tactic| walk_at "st") => `(tactic| repeat' (walk_at "st1"))
local macro_rules | `(tactic| walk_at "evC") => `(tactic| first | with_reducible apply cal_lmet | with_reducible apply cal_lmetL)
local macro_rules | `(tactic| walk_at "evC") => `(tactic| with_reducible apply s_step)
local macro_rules | `(tactic| walk_at "evC") => `(tactic| with_reducible apply cal_lready)
local macro_rules | `(tactic| walk_at "evC") => `(tactic| with_reducible apply cal_lnext)
local macro_rules | `(tactic| walk_at "evC") => `(tactic| first | with_reducible exact bi_sortL _ | with_reducible exact bi_sortT _)
local macro_rules | `(tactic| walk_at "evC") => `(tactic| with_reducible apply cal_lleft)
local macro_rules | `(tactic| walk_at "evC") => `(tactic| first | ((with_reducible apply of_self); with_reducible assumption) | exact Rule.Fit.ok (by assumption) | exact Good.filter (by assumption) _ | exact Good.inn (by assumption) _ (by assumption))
local macro_rules | `(tactic| walk_at "evC") => `(tactic| with_reducible exact cmp_isN _)
local macro_rules | `(tactic| walk_at "evC") => `(tactic| first | with_reducible exact cmp_isO _ | with_reducible apply b_snocI | with_reducible apply b_catLI)
local macro_rules | `(tactic| walk_at "evC") => `(tactic| with_reducible apply cal_aft)
local macro_rules | `(tactic| walk_at "evC") => `(tactic| with_reducible apply cal_levent)
local macro_rules | `(tactic| walk_at "evC") => `(tactic| with_reducible apply cal_fol)
local macro_rules | `(tactic| walk_at "evC") => `(tactic| with_reducible apply cal_ref)
local macro_rules | `(tactic| walk_at "evC") => `(tactic| with_reducible exact b_rep1 _)
local macro_rules | `(tactic| walk_at "evC") => `(tactic| with_reducible apply cal_lfol)
local macro_rules | `(tactic| walk_at "evC") => `(tactic| first | with_reducible apply p_sset | with_reducible exact p_srtL _ | with_reducible exact p_srtT _)
local macro_rules | `(tactic| walk_at "evC") => `(tactic| with_reducible apply cal_ldesks)
local macro_rules | `(tactic| walk_at "evC") => `(tactic| with_reducible apply cal_levs)
local macro_rules | `(tactic| walk_at "evC") => `(tactic| with_reducible apply cal_desks)
local macro_rules | `(tactic| walk_at "evC") => `(tactic| with_reducible apply cal_can)
local macro_rules | `(tactic| walk_at "evC") => `(tactic| with_reducible apply cal_first_way)
local macro_rules | `(tactic| walk_at "evC") => `(tactic| with_reducible apply cal_allev)
local macro_rules | `(tactic| walk_at "evC") => `(tactic| with_reducible apply cal_states)
local macro_rules | `(tactic| walk_at "evC") => `(tactic| with_reducible apply cal_reached)
theorem cal_lway (N k : Nat) (S : Sto) (r : Rule) (hr : r.Fit) (hN : 1000 ≤ N) (st : List Int) (g : Good r st) : cal phi N (k + 11) 57 [.d (eRule r), .d (tI st)] S = some (eOptR (fway r st), S) := by
  have h6 := hr.six
  refine wp_eq (fn_law_way ?_)
  refine w_par (sl := .ownd (kset κI [st])) (sl2 := .val (.list (([([], st)] : List (List Str × List Int)).map eRS))) (S1 := S) (S2 := S) (k_tab1 (r_v rfl) (ev_c _) (TabE.key st)) (k_val (r_lst (.cons (r_tup (.cons (r_tup (ds := []) .nil (by simp)) (.cons (r_v rfl) .nil)) (by simp)) .nil) (by simp))) rfl ?_
  dsimp only [List.set_cons_zero, List.set_cons_succ]
  refine w_whl (N := N) (fun m ρ S' => S' = S ∧ ∃ (kn : List (List Int)) (lst : List (List Str × List Int)) (a b c d e f : Slot), ρ = [.val (eRule r), .val (tI st), .ownd (kset κI kn), .val (.list (lst.map eRS)), a, b, c, d, e, f] ∧ BOk (Good r) 64 m kn lst ∧ fway r st = bfs (nxS r) (glS r) (desks r) m kn lst) 100 (by omega) ⟨rfl, [st], [([], st)], _, _, _, _, _, _, rfl, fway_ok g, rfl⟩ ?_
  rintro m ρ S' ⟨rfl, kn, lst, a, b, c, d, e, f, rfl, bo, hf⟩
  refine ⟨!lst.isEmpty, S', r_cmp (.v rfl) (.e (fun i z => by cases z) (r_lst .nil (by decide))) (c_neLm _ _), fun hc => ?_, fun hc => ?_⟩
  · have hz : lst.isEmpty = false := by simpa using hc
    have hmp : 0 < m := by have := bo.fuel; rw [hz, if_neg Bool.false_ne_true] at this; omega
    obtain ⟨m, rfl⟩ : ∃ n, m = n + 1 := ⟨m - 1, by omega⟩
    have h64 := states_bound h6 bo.nd bo.good
    have hfew := bo.few
    refine w_set (k_own .nil (by decide)) rfl ?_
    dsimp only [List.set_cons_zero, List.set_cons_succ]
    refine w_for (xs := lst) (enc := eRS) (S1 := S') (fun left ρ S'' => S'' = S' ∧ ∃ (acc : List (List Int) × List (List Str × List Int)) (b c d e f : Slot), ρ = [.val (eRule r), .val (tI st), .ownd (kset κI acc.1), .val (.list (lst.map eRS)), .own (acc.2.map eRS), b, c, d, e, f] ∧ AccOk (Good r) kn acc ∧ bLevel (nxS r) (glS r) (desks r) lst (kn, []) = bLevel (nxS r) (glS r) (desks r) left acc) rfl (i_of (r_v rfl) rfl) ⟨rfl, (kn, []), _, _, _, _, _, rfl, bo.acc, rfl⟩ ?_ ?_
    · rintro ⟨row, now⟩ left ρ S'' hp ⟨rfl, acc, b, c, d, e, f, rfl, ao, hl⟩
      obtain ⟨hrow, hnow⟩ := bo.rows _ hp
      have hrow : row.length + 1 ≤ kn.length := hrow
      have gn := bo.good _ hnow
      refine ⟨_, rfl, ?_⟩
      dsimp only [List.set_cons_zero, List.set_cons_succ]
      refine w_if (S1 := S'') (r_call (.e (fun i z => by cases z) (r_sub (opf_val rfl) (ev_c _) rfl) (.val rfl .nil)) (cal_lmet N (k + 9) S'' r.2 now hr.ok.goal.2)) (fun hm => ?_) (fun hm => ?_)
      · refine w_ret (r_v rfl) (thenQ_r (turnQ_r (turnQ_r (fin1 ?_))))
        rw [hf, bfs, if_neg (by rw [hz]; exact Bool.false_ne_true), hl, bLevel, if_pos hm]
        rfl
      · refine w_nil (thenQ_n ?_)
        refine w_for (xs := desks r) (enc := PyData.str) (S1 := S'') (fun ds ρ S3 => S3 = S'' ∧ ∃ (ac : List (List Int) × List (List Str × List Int)) (d e f : Slot), ρ = [.val (eRule r), .val (tI st), .ownd (kset κI ac.1), .val (.list (lst.map eRS)), .own (ac.2.map eRS), .val (eStrs row), .val (tI now), d, e, f] ∧ AccOk (Good r) kn ac ∧ (desks r).foldl (bStep (nxS r) row now) acc = ds.foldl (bStep (nxS r) row now) ac) rfl (i_of (r_call (.val rfl .nil) (cal_ldesks N (k + 9) S'' r hr)) rfl) ⟨rfl, acc, _, _, _, rfl, ao, rfl⟩ ?_ ?_
        · rintro desk ds ρ S3 hd ⟨rfl, ac, d, e, f, rfl, ao, hfo⟩
          refine ⟨_, rfl, ?_⟩
          dsimp only [List.set_cons_zero, List.set_cons_succ]
          have hs64 := ao.small h6
          have hal := ao.len
          refine w_unp (d := evD r now ("sign", desk)) (S1 := S3) (r_call (as := [.d (eRule r), .d (tI now), .d (eEv ("sign", desk))]) (S1 := S3) (.val rfl (.val rfl (.e (fun i z => by cases z) (r_tup (.cons (ev_c _) (.cons (r_v rfl) .nil)) (by simp)) .nil))) (cal_levent N k S3 r now ("sign", desk) hr gn (by omega))) rfl ?_
          dsimp only [List.set_cons_zero, List.set_cons_succ]
          rw [List.foldl_cons] at hfo
          have ao' := ao.step (nx := nxS r) (l := desk) hrow fun t e => nxS_good gn e
          have q0 : aft r now ("sign", desk) = nxS r now desk := rfl
          rw [q0]
          cases q : nxS r now desk with
          | none =>
            refine w_ifF (S1 := S3) ?_ ?_
            · refine r_conv (r_and2 (k := false) (S1 := S3) (r_cmp (x := tI now) (.v rfl) (.v rfl) (c_niSet (e := tI) ac.1 now)) fun z => r_not (b0 := true) (r_v rfl)) ?_
              rw [Bool.and_false]
            · refine w_nil (thenQ_n (w_nil (turnQ_n ⟨rfl, ac, _, _, _, rfl, ao, ?_⟩)))
              rw [hfo, bStep_none q]
          | some t =>
            refine w_if (S1 := S3) (r_and2 (k := true) (S1 := S3) (r_cmp (x := tI t) (.v rfl) (.v rfl) (c_niSet (e := tI) ac.1 t)) fun _ => r_not (b0 := false) (r_v rfl)) (fun hn => ?_) (fun hn => ?_)
            · have hn : t ∉ ac.1 := by simpa using hn
              have eq1 := bStep_new (row := row) q hn
              refine w_putD (d := .bool true) (y := tI t) (S1 := S3) (S2 := S3) (ev_c _) (r_v rfl) rfl (TabE.key t) (by rw [List.length_map]; omega) rfl ?_
              rw [kset_put (e := tI) hn]
              dsimp only [List.set_cons_zero, List.set_cons_succ]
              refine w_app (d := eRS (row ++ [desk], t)) (S1 := S3) rfl ?_ (by rw [List.length_map]; omega) rfl ?_
              · refine r_tup (.cons (r_conv (r_bin (S1 := S3) (S2 := S3) (opf_val rfl) (.e (fun i z => by cases z) (r_tup (.cons (r_v rfl) .nil) (by simp))) (b_addT (by rw [List.length_map]; simp; omega))) (d' := eStrs (row ++ [desk])) (by show PyData.tuple _ = .tuple (List.map _ (_ ++ _)); rw [List.map_append]; rfl)) (.cons (r_v rfl) .nil)) (by simp)
              · dsimp only [List.set_cons_zero, List.set_cons_succ]
                refine w_nil (thenQ_n (w_nil (turnQ_n ⟨rfl, (ac.1 ++ [t], ac.2 ++ [(row ++ [desk], t)]), _, _, _, by rw [List.map_append]; rfl, ?_, ?_⟩)))
                · rw [eq1] at ao'; exact ao'
                · rw [hfo, eq1]
            · have hn : t ∈ ac.1 := by simpa using hn
              have eq1 := bStep_old (row := row) q hn
              refine w_nil (thenQ_n (w_nil (turnQ_n ⟨rfl, ac, _, _, _, rfl, ao, ?_⟩)))
              rw [hfo, eq1]
        · rintro ρ S3 ⟨rfl, ac, d, e, f, rfl, ao, hfo⟩
          refine w_nil (turnQ_n ⟨rfl, ac, _, _, _, _, _, rfl, ao, ?_⟩)
          rw [hl, bLevel, if_neg (by show ¬ met r.2 now = true; rw [hm]; exact Bool.false_ne_true), hfo]
          rfl
    · rintro ρ S'' ⟨rfl, acc, b, c, d, e, f, rfl, ao, hl⟩
      refine w_frz (ρ' := [.val (eRule r), .val (tI st), .ownd (kset κI acc.1), .val (.list (lst.map eRS)), .val (.list (acc.2.map eRS)), b, c, d, e, f]) rfl ?_
      refine w_set (k_val (r_v rfl)) rfl ?_
      dsimp only [List.set_cons_zero, List.set_cons_succ]
      refine w_nil (turnQ_n ⟨m, by omega, rfl, acc.1, acc.2, _, _, _, _, _, _, rfl, bo.next hz ao (states_U h6), ?_⟩)
      rw [hf, bfs, if_neg (by rw [hz]; exact Bool.false_ne_true), hl, bLevel]
  · have hz : lst.isEmpty = true := by simpa using hc
    refine w_ret (ev_c _) (fin1 ?_)
    rw [hf]
    cases m with
    | zero => rfl
    | succ m => rw [bfs, if_pos hz]; rfl
local macro_rules | `(tactic| walk_at "evC") => `(tactic| with_reducible apply cal_lway)
def eLen : Option (List Str) → Dt
  | none => .none
  | some row => .int row.length
theorem cmp_isR (o : Option (List Str)) : cmpP .Is (eOptR o) (.d .none) = some o.isNone := by cases o <;> rfl
theorem cal_fewest (N k : Nat) (S : Sto) (r : Rule) (hr : r.Fit) (hN : 1000 ≤ N) (st : List Int) (g : Good r st) : cal phi N (k + 12) 56 [.d (eRule r), .d (tI st)] S = some (eLen (fway r st), S) := by
  refine wp_eq (fn_fewest_signs ?_)
  refine w_set (sl := .val (eOptR (fway r st))) (S1 := S) (k_val (r_call (.val rfl (.val rfl .nil)) (cal_first_way N k S r hr hN st g))) rfl ?_
  dsimp only [List.set_cons_zero, List.set_cons_succ]
  cases q : fway r st with
  | none => exact w_ret (r_iteT (S1 := S) (r_cmp (.v rfl) (.e (fun i z => by cases z) (ev_c _)) rfl) (ev_c _)) (fin1 rfl)
  | some row => exact w_ret (r_iteF (S1 := S) (r_cmp (.v rfl) (.e (fun i z => by cases z) (ev_c _)) rfl) (r_bi (.v rfl) (p_lenTm _ _))) (fin1 rfl)
local macro_rules | `(tactic| walk_at "evC") => `(tactic| with_reducible apply cal_fewest)
/-- along a row, no goal on the way -/
def wk (r : Rule) : List Int → List Str → Option (List Int)
  | s, [] => some s
  | s, l :: row => if met r.2 s = true then none else (nxS r s l).bind fun u => wk r u row
theorem wk_snoc {r : Rule} {l : Str} : ∀ (row : List Str) (s : List Int), wk r s (row ++ [l]) = (wk r s row).bind fun t => if met r.2 t = true then none else nxS r t l
  | [], s => by
    rw [List.nil_append, wk, wk, Option.bind_some]
    split
    · rfl
    · cases nxS r s l with
      | none => rfl
      | some u => rfl
  | m :: row, s => by
    rw [List.cons_append, wk, wk]
    split
    · rfl
    · cases nxS r s m with
      | none => rfl
      | some u => rw [Option.bind_some, Option.bind_some]; exact wk_snoc row u
theorem wy_wk {r : Rule} {s t : List Int} {row : List Str} (w : Wy (nxS r) (fun s => met r.2 s) (desks r) s row t) : wk r s row = some t := by
  induction w with
  | nil => rfl
  | snoc _ g _ e ih => rw [wk_snoc, ih, Option.bind_some, if_neg (by rw [g]; exact Bool.false_ne_true), e]
end Fw

set_option autoImplicit false
set_option linter.all false
set_option maxRecDepth 100000
set_option maxHeartbeats 400000
/-! what changes cost -/
namespace Fw
open PySem L2
local macro_rules | `(tactic| walk_at "evC") => `(tactic| ((with_reducible show _ = _); with_reducible assumption))
local macro_rules | `(tactic| walk_at "evE") => `(tactic| first | with_reducible exact ev_c _ | with_reducible apply r_v | with_reducible apply r_call | with_reducible apply r_cmp | with_reducible apply r_sub | with_reducible apply r_bi | with_reducible apply r_bin | with_reducible apply r_tup | with_reducible apply r_lst | with_reducible apply r_comp | with_reducible apply r_comp0 | with_reducible apply r_not | with_reducible apply r_andN | with_reducible apply r_and1 | with_reducible apply r_orN | with_reducible apply r_or1 | with_reducible apply r_isi | with_reducible apply r_bi2 | with_reducible apply r_slc | with_reducible apply r_rev | with_reducible apply r_neg | with_reducible apply r_chain | with_reducible apply r_scr | with_reducible apply i_of | with_reducible apply i_enum' | with_reducible apply i_rng | with_reducible apply i_peek | with_reducible apply k_val | with_reducible apply k_own | with_reducible apply k_copy | with_reducible apply k_ref)
local macro_rules | `(tactic| walk_at "evO") => `(tactic| first | exact Args.nil | (apply Args.val; exact rfl) | (apply Args.ref; exact rfl) | apply args_e | (apply Opd.v; exact rfl) | apply opd_e | (apply opf_val; exact rfl) | (apply Opf.v; exact rfl) | apply opf_e | exact Evs.nil | apply Evs.cons | apply Evs.star | exact IxR'.no | apply IxR'.yes | (with_reducible apply compB_i; intro x hx; refine ⟨_, rfl, ?_, fun hp => ?_⟩) | (with_reducible apply compM_i; intro x hx; refine ⟨_, rfl, ?_⟩) | ((with_reducible show (_ = true → _ = some _)); intro) | ((with_reducible show (_ = false → _ = some _)); intro))
local macro_rules | `(tactic| walk_at "evP") => `(tactic| first | with_reducible exact c_eqI _ _ | with_reducible exact c_eqS _ _ | with_reducible exact c_neI _ _ | with_reducible exact c_neS _ _ | with_reducible exact c_ltI _ _ | with_reducible exact c_leI _ _ | with_reducible exact c_gtI _ _ | with_reducible exact c_geI _ _ | with_reducible exact c_eqB _ _ | with_reducible exact c_neB _ _ | with_reducible exact c_inT (e := PyData.int) (by decide) _ _ | with_reducible exact c_niT (e := PyData.int) (by decide) _ _ | with_reducible exact c_inL (e := PyData.int) (by decide) _ _ | with_reducible exact c_niL (e := PyData.int) (by decide) _ _ | with_reducible exact c_inT (e := PyData.str) (by decide) _ _ | with_reducible exact c_niT (e := PyData.str) (by decide) _ _ | with_reducible exact c_inL (e := PyData.str) (by decide) _ _ | with_reducible exact c_niL (e := PyData.str) (by decide) _ _ | with_reducible exact c_eqTm _ _ | with_reducible exact c_neTm _ _ | with_reducible exact c_eqLm _ _ | with_reducible exact c_neLm _ _ | with_reducible exact c_eqT (by decide) _ _ | with_reducible exact c_neT (by decide) _ _ | with_reducible exact c_eqL (by decide) _ _ | with_reducible exact c_neL (by decide) _ _ | with_reducible exact b_addI _ _ | with_reducible exact b_subI _ _ | with_reducible apply b_addT | with_reducible apply b_addL | with_reducible exact p_lenLm _ _ | with_reducible exact p_lenTm _ _ | with_reducible exact p_lenL _ | with_reducible exact p_lenT _ | with_reducible exact p_tupL _ | with_reducible exact p_tupT _ | with_reducible exact p_lstL _ | with_reducible exact p_lstT _ | with_reducible exact p_all _ _ | with_reducible exact p_any _ _ | with_reducible exact p_intI _ | with_reducible exact p_intB _ | with_reducible exact p_max _ _ | with_reducible exact p_min _ _ | ((with_reducible show subP _ _ = some _); exact rfl) | ((with_reducible show itemsOf _ = some _); exact rfl) | ((with_reducible show iterD _ = some _); exact rfl) | ((with_reducible show look _ _ _ = some _); exact rfl) | ((with_reducible show isV _ = false); exact rfl) | ((with_reducible show List.length _ ≤ 16777216); exact of_decide_eq_true rfl) | ((with_reducible show (_ : Option Slot) = some _); exact rfl))
local macro_rules | `(tactic| walk_at "evt1") => `(tactic| first | walk_at "evE" | walk_at "evO" | walk_at "evC" | walk_at "evP")
local macro_rules | `(tactic| walk_at "evt") => `(tactic| repeat' (walk_at "evt1"))
local macro_rules | `(tactic| walk_at "st1") => `(tactic| first | with_reducible apply w_set | with_reducible apply w_par | with_reducible apply w_par3 | with_reducible apply w_unp | with_reducible apply w_frz | with_reducible apply w_app | with_reducible apply w_ret | with_reducible apply w_nil | with_reducible apply thenQ_n | with_reducible apply thenQ_r | with_reducible apply turnQ_n | with_reducible apply turnQ_r | with_reducible apply fin1 | ((with_reducible show List.set _ _ _ = _); dsimp only [List.set_cons_zero, List.set_cons_succ]; try exact rfl) | ((with_reducible show bnd _ _ _ = some _); dsimp only [bnd, List.set_cons_zero, List.set_cons_succ]; try exact rfl) | ((with_reducible show bnd _ _ _ = some _); exact rfl) | ((with_reducible show freeze _ _ = _); exact rfl) | walk_at "evt1")
local macro_rules | `(tactic| walk_at "st") => `(tactic| repeat' (walk_at "st1"))
local macro_rules | `(tactic| walk_at "evC") => `(tactic| first | with_reducible apply cal_lmet | with_reducible apply cal_lmetL)
local macro_rules | `(tactic| walk_at "evC") => `(tactic| with_reducible apply s_step)
local macro_rules | `(tactic| walk_at "evC") => `(tactic| with_reducible apply cal_lready)
local macro_rules | `(tactic| walk_at "evC") => `(tactic| with_reducible apply cal_lnext)
local macro_rules | `(tactic| walk_at "evC") => `(tactic| first | with_reducible exact bi_sortL _ | with_reducible exact bi_sortT _)
local macro_rules | `(tactic| walk_at "evC") => `(tactic| with_reducible apply cal_lleft)
local macro_rules | `(tactic| walk_at "evC") => `(tactic| first | ((with_reducible apply of_self); with_reducible assumption) | exact Rule.Fit.ok (by assumption) | exact Good.filter (by assumption) _ | exact Good.inn (by assumption) _ (by assumption))
local macro_rules | `(tactic| walk_at "evC") => `(tactic| with_reducible exact cmp_isN _)
local macro_rules | `(tactic| walk_at "evC") => `(tactic| first | with_reducible exact cmp_isO _ | with_reducible apply b_snocI | with_reducible apply b_catLI)
local macro_rules | `(tactic| walk_at "evC") => `(tactic| with_reducible apply cal_aft)
local macro_rules | `(tactic| walk_at "evC") => `(tactic| with_reducible apply cal_levent)
local macro_rules | `(tactic| walk_at "evC") => `(tactic| with_reducible apply cal_fol)
local macro_rules | `(tactic| walk_at "evC") => `(tactic| with_reducible apply cal_ref)
local macro_rules | `(tactic| walk_at "evC") => `(tactic| with_reducible exact b_rep1 _)
local macro_rules | `(tactic| walk_at "evC") => `(tactic| with_reducible apply cal_lfol)
local macro_rules | `(tactic| walk_at "evC") => `(tactic| first | with_reducible apply p_sset | with_reducible exact p_srtL _ | with_reducible exact p_srtT _)
local macro_rules | `(tactic| walk_at "evC") => `(tactic| with_reducible apply cal_ldesks)
local macro_rules | `(tactic| walk_at "evC") => `(tactic| with_reducible apply cal_levs)
local macro_rules | `(tactic| walk_at "evC") => `(tactic| with_reducible apply cal_desks)
local macro_rules | `(tactic| walk_at "evC") => `(tactic| with_reducible apply cal_can)
local macro_rules | `(tactic| walk_at "evC") => `(tactic| with_reducible apply cal_first_way)
local macro_rules | `(tactic| walk_at "evC") => `(tactic| with_reducible apply cal_allev)
local macro_rules | `(tactic| walk_at "evC") => `(tactic| with_reducible apply cal_states)
local macro_rules | `(tactic| walk_at "evC") => `(tactic| with_reducible apply cal_reached)
local macro_rules | `(tactic| walk_at "evC") => `(tactic| with_reducible apply cal_lway)
local macro_rules | `(tactic| walk_at "evC") => `(tactic| with_reducible apply cal_fewest)
theorem decT {p : Prop} {i : Decidable p} (h : p) : @decide p i = true := @decide_eq_true p i h
theorem decF {p : Prop} {i : Decidable p} (h : ¬ p) : @decide p i = false := @decide_eq_false p i h
theorem sign_levs' {r : Rule} {d : Str} (h : d ∈ desks r) : ((("sign" : Str), d) : Ev) ∈ levs [r] := by
  unfold levs
  refine mem_uset.mpr (List.mem_append_left _ (List.mem_flatMap.mpr ⟨r, List.mem_cons_self, ?_⟩))
  unfold deskEvs
  exact List.mem_flatMap.mpr ⟨d, h, List.mem_cons_self⟩
theorem rea_subs {r : Rule} {X s : List Int} (hX : Closed r (desks r) X) (h : Reas r s) : ∀ a ∈ s, a ∈ X := by
  induction h with
  | nil => intro a ha; cases ha
  | step _ _ ih => exact aft_sub hX ih
abbrev abc : List Str := ["a", "b", "c"]
theorem change_levs {rs : List Rule} {p : Str} (h : p ∈ abc) : ((("change" : Str), p) : Ev) ∈ levs rs := by
  unfold levs
  refine mem_uset.mpr (List.mem_append_right _ ?_)
  simp only [List.mem_cons, List.not_mem_nil, or_false] at h
  unfold changes
  rcases h with rfl | rfl | rfl <;> simp
/-- behind a change -/
def chg (r : Rule) (st : List Int) (p : Str) : List Int := nxT r st ("change", p)
theorem aft_ch (r : Rule) (st : List Int) (p : Str) : aft r st ("change", p) = some (chg r st p) := by
  unfold chg nxT aft after
  rw [if_pos rfl]
  rfl
theorem chg_reas {r : Rule} {st : List Int} {p : Str} (h : Reas r st) (hp : p ∈ abc) : Reas r (chg r st p) := .step h (change_levs hp)
theorem fway_no {r : Rule} (h6 : r.1.length ≤ 6) {st : List Int} (h : Reas r st) : (fway r st).isNone = !canEnd r := by
  obtain ⟨b1, b2, b3, b4⟩ := last_all h6 (desks r) (good_nil (r := r))
  unfold canEnd
  exact fway_iff h6 (reas_good h) (rea_subs b3 h)
/-- how many signatures -/
def wv (r : Rule) (st : List Int) : Int := (((fway r st).getD []).length : Int)
theorem eLen_eq {r : Rule} (h6 : r.1.length ≤ 6) {st : List Int} (h : Reas r st) : eLen (fway r st) = if canEnd r = true then .int (wv r st) else .none := by
  have e := fway_no h6 h
  unfold wv
  cases q : fway r st with
  | none =>
    rw [q] at e
    cases c : canEnd r with
    | true => rw [c] at e; cases e
    | false => rfl
  | some row =>
    rw [q] at e
    cases c : canEnd r with
    | true => rfl
    | false => rw [c] at e; cases e
def fallsL (r : Rule) (st : List Int) (p : Str) : List Int := st.filter fun a => !decide (a ∈ chg r st p)
theorem cal_falls (N k : Nat) (S : Sto) (r : Rule) (hr : r.Fit) (st : List Int) (g : Good r st) (p : Str) : cal phi N (k + 11) 70 [.d (eRule r), .d (tI st), .d (.str p)] S = some (.list ((fallsL r st p).map .int), S) := by
  have hl := g.len
  have h6 := hr.six
  refine wp_eq (fn_falls ?_)
  refine w_set (sl := .val (tI (chg r st p))) (S1 := S) (k_val (r_conv (r_call (as := [.d (eRule r), .d (tI st), .d (eEv ("change", p))]) (S1 := S) (.val rfl (.val rfl (.e (fun i z => by cases z) (r_tup (.cons (ev_c _) (.cons (r_v rfl) .nil)) (by simp)) .nil))) (cal_aft N k S r st ("change", p) hr g)) (by rw [aft_ch]; rfl))) rfl ?_
  dsimp only [List.set_cons_zero, List.set_cons_succ]
  exact w_ret (r_comp (enc := PyData.int) (p := fun a => !decide (a ∈ chg r st p)) (h := PyData.int) (i_of (r_v rfl) rfl) (compB_i fun a ha => ⟨_, rfl, r_cmp (x := .int a) (S1 := S) (.v rfl) (.v rfl) (c_niT (e := PyData.int) (by decide) _ _), fun _ => r_v rfl⟩) (by omega)) (fin1 rfl)
local macro_rules | `(tactic| walk_at "evC") => `(tactic| with_reducible apply cal_falls)
def costV (r : Rule) (st : List Int) (p : Str) : Int := wv r (chg r st p) - wv r st
def costD (r : Rule) (st : List Int) (p : Str) : Dt := if canEnd r = true then .int (costV r st p) else .none
theorem cal_cost (N k : Nat) (S : Sto) (r : Rule) (hr : r.Fit) (hN : 1000 ≤ N) (st : List Int) (h : Reas r st) (p : Str) (hp : p ∈ abc) : cal phi N (k + 13) 71 [.d (eRule r), .d (tI st), .d (.str p)] S = some (costD r st p, S) := by
  have h6 := hr.six
  have g := reas_good h
  have hc := chg_reas h hp
  have h1 := cal_fewest N k S r hr hN st g
  have h2 := cal_fewest N k S r hr hN (chg r st p) (reas_good hc)
  rw [eLen_eq h6 h] at h1
  rw [eLen_eq h6 hc] at h2
  refine wp_eq (fn_cost ?_)
  unfold costD costV
  cases q : canEnd r with
  | false =>
    rw [q, if_neg Bool.false_ne_true] at h1
    refine w_set (sl := .val .none) (S1 := S) (k_val (r_call (.val rfl (.val rfl .nil)) h1)) rfl ?_
    dsimp only [List.set_cons_zero, List.set_cons_succ]
    refine w_ifT (S1 := S) (r_cmp (x := .none) (.v rfl) (.e (fun i z => by cases z) (ev_c _)) rfl) (w_ret (ev_c _) (thenQ_r (fin1 rfl)))
  | true =>
    rw [q, if_pos rfl] at h1 h2
    refine w_set (sl := .val (.int (wv r st))) (S1 := S) (k_val (r_call (.val rfl (.val rfl .nil)) h1)) rfl ?_
    dsimp only [List.set_cons_zero, List.set_cons_succ]
    refine w_ifF (S1 := S) (r_cmp (x := .int (wv r st)) (.v rfl) (.e (fun i z => by cases z) (ev_c _)) rfl) (w_nil (thenQ_n ?_))
    refine w_ret (r_bin (S1 := S) (S2 := S) (.e (fun i z => by cases z) (r_call (.val rfl (.e (fun i z => by cases z) (r_conv (d' := tI (chg r st p)) (r_call (as := [.d (eRule r), .d (tI st), .d (eEv ("change", p))]) (S1 := S) (.val rfl (.val rfl (.e (fun i z => by cases z) (r_tup (.cons (ev_c _) (.cons (r_v rfl) .nil)) (by simp)) .nil))) (cal_aft N (k + 2) S r st ("change", p) hr g)) (by rw [aft_ch]; rfl)) .nil)) h2)) (.v rfl) (b_subI _ _)) (fin1 rfl)
local macro_rules | `(tactic| walk_at "evC") => `(tactic| with_reducible apply cal_cost)
/-! numbers or None -/
def eOI : Option Int → Dt
  | none => .none
  | some i => .int i
instance : EqE eOI 0 := ⟨fun x y => by cases x <;> cases y <;> simp [eOI, PyData.eqv], fun x => by cases x <;> simp [eOI, PyData.depth]⟩
def maxL : List Int → Int
  | [] => 0
  | n :: r => r.foldl (fun m x => if x > m then x else m) n
theorem intsDm : ∀ xs : List Int, intsD (xs.map .int) = some xs
  | [] => rfl
  | x :: xs => by rw [List.map_cons, intsD, intsDm xs]; rfl
theorem p_maxL {xs : List Int} (h : xs ≠ []) : biP .max (.d (.list (xs.map .int))) = some (.int (maxL xs)) := by
  cases xs with
  | nil => exact absurd rfl h
  | cons x xs => show (intsD ((x :: xs).map .int)).bind _ = _; rw [intsDm, Option.bind_some]; rfl
noncomputable def greatD (r : Rule) (p : Str) : Dt := if canEnd r = true then .int (maxL ((sts r).map fun s => costV r s p)) else .none
theorem sts_ne (r : Rule) : sts r ≠ [] := List.length_pos_iff.mp (sts_pos r)
theorem cal_greatest (N k : Nat) (S : Sto) (r : Rule) (hr : r.Fit) (hN : 1000 ≤ N) (p : Str) (hp : p ∈ abc) : cal phi N (k + 14) 72 [.d (eRule r), .d (.str p)] S = some (greatD r p, S) := by
  have h6 := hr.six
  have hsl := sts_len h6
  have hne := sts_ne r
  refine wp_eq (fn_greatest_cost ?_)
  refine w_set (sl := .val (.list (((sts r).map fun s => if canEnd r = true then some (costV r s p) else none).map eOI))) (S1 := S) (k_val (r_conv (r_comp0 (xs := sts r) (enc := tI) (h := fun s => costD r s p) (i_of (r_call (.val rfl .nil) (cal_states N (k + 1) S r hr hN)) rfl) (compM_i fun s hs => ⟨_, rfl, r_call (.val rfl (.val rfl (.val rfl .nil))) (cal_cost N k S r hr hN s (mem_sts.mp hs) p hp)⟩) (by omega)) (by rw [List.map_map]; congr 1; refine List.map_congr_left fun s hs => ?_; unfold costD; simp only [Function.comp]; split <;> rfl))) rfl ?_
  dsimp only [List.set_cons_zero, List.set_cons_succ]
  unfold greatD
  cases q : canEnd r with
  | false =>
    refine w_ret (r_iteT (S1 := S) (r_conv (r_cmp (S1 := S) (x := eOI none) (.e (fun i z => by cases z) (ev_c _)) (.v rfl) (c_inL (e := eOI) (by decide) _ none)) ?_) (ev_c _)) (fin1 rfl)
    have : (none : Option Int) ∈ (sts r).map fun s => if false = true then some (costV r s p) else none := by
      obtain ⟨s, hs⟩ := List.exists_mem_of_ne_nil _ hne
      exact List.mem_map.mpr ⟨s, hs, rfl⟩
    exact congrArg PyData.bool (decT this)
  | true =>
    have e : ((sts r).map fun s => if true = true then some (costV r s p) else none).map eOI = ((sts r).map fun s => costV r s p).map .int := by
      rw [List.map_map, List.map_map]; rfl
    have ni : (none : Option Int) ∉ (sts r).map fun s => if true = true then some (costV r s p) else none := fun z => by
      obtain ⟨s, _, hs⟩ := List.mem_map.mp z
      cases hs
    refine w_ret (r_iteF (S1 := S) (r_conv (r_cmp (S1 := S) (x := eOI none) (.e (fun i z => by cases z) (ev_c _)) (.v rfl) (c_inL (e := eOI) (by decide) _ none)) ?_) (r_bi (.v rfl) ?_)) (fin1 rfl)
    · exact congrArg PyData.bool (decF ni)
    · rw [e]
      exact p_maxL (fun z => hne (List.map_eq_nil_iff.mp z))
local macro_rules | `(tactic| walk_at "evC") => `(tactic| with_reducible apply cal_greatest)
/-! tables of what is reckoned -/
section
variable {α : Type} [DecidableEq α] {e : α → Dt} {κ : α → NestedKey}
abbrev ktab (κ : α → NestedKey) (f : α → Dt) (kn : List α) : List (NestedKey × Dt) := kn.map fun x => (κ x, f x)
theorem ktab_get [TabE e κ] {f : α → Dt} (x : α) : ∀ {kn : List α}, x ∈ kn → tget (ktab κ f kn) (κ x) = some (f x)
  | [], h => by cases h
  | y :: kn, h => by
    have ih := ktab_get (f := f) x (kn := kn)
    unfold tget ktab at ih ⊢
    rw [List.map_cons, List.find?_cons]
    by_cases c : y = x
    · rw [decide_eq_true (show (κ y, f y).1 = κ x by show κ y = κ x; rw [c]), c]; rfl
    · rw [decide_eq_false (show ¬ (κ y, f y).1 = κ x from fun z => c (TabE.inj (e := e) _ _ z))]
      rcases List.mem_cons.mp h with z | z
      · exact absurd z.symm c
      · exact ih z
theorem ktab_none [TabE e κ] {f : α → Dt} (x : α) : ∀ {kn : List α}, x ∉ kn → tget (ktab κ f kn) (κ x) = none
  | [], _ => rfl
  | y :: kn, h => by
    have ih := ktab_none (f := f) x (kn := kn)
    unfold tget ktab at ih ⊢
    rw [List.map_cons, List.find?_cons]
    have c : ¬ y = x := fun z => h (by rw [z]; exact List.mem_cons_self)
    rw [decide_eq_false (show ¬ (κ y, f y).1 = κ x from fun z => c (TabE.inj (e := e) _ _ z))]
    exact ih fun z => h (List.mem_cons_of_mem _ z)
theorem ktab_put [TabE e κ] {f : α → Dt} {x : α} {kn : List α} (h : x ∉ kn) : tput (ktab κ f kn) (κ x) (f x) = ktab κ f (kn ++ [x]) := by
  unfold tput
  rw [ktab_none (e := e) x h]
  show (if Option.isSome none = true then _ else _) = _
  rw [Option.isSome_none, if_neg Bool.false_ne_true]
  show _ = List.map _ (kn ++ [x])
  rw [List.map_append]
  rfl
theorem s_ktab [TabE e κ] {f : α → Dt} {x : α} {kn : List α} (h : x ∈ kn) : subP (.t (ktab κ f kn)) (e x) = some (f x) := by
  simp only [subP, TabE.key, Option.bind_some]
  exact ktab_get (e := e) x h
end
end Fw

set_option autoImplicit false
set_option linter.all false
set_option maxRecDepth 100000
set_option maxHeartbeats 400000
/-! all rows of desks that sign, the states on them, the worst cost -/
namespace Fw
open PySem L2
structure TR where
  row : List Str
  pre : List (List Int)
  now : List Int
def tOne (r : Rule) (p : TR) (d : Str) : Option TR := (nxS r p.now d).map fun t => ⟨p.row ++ [d], p.pre ++ [p.now], t⟩
def tNext (r : Rule) (p : TR) : List TR := (desks r).filterMap (tOne r p)
def rowsT (r : Rule) : Nat → List TR
  | 0 => [⟨[], [], []⟩]
  | n + 1 => (rowsT r n).flatMap (tNext r)
theorem flatL {α β : Type} {f : α → List β} {n : Nat} : ∀ {l : List α}, (∀ a ∈ l, (f a).length ≤ n) → (l.flatMap f).length ≤ l.length * n
  | [], _ => by simp
  | a :: l, h => by
    rw [List.flatMap_cons, List.length_append, List.length_cons, Nat.succ_mul]
    have h1 := h a List.mem_cons_self
    have h2 := flatL (l := l) fun b hb => h b (List.mem_cons_of_mem _ hb)
    omega
theorem tNext_len {r : Rule} (h6 : r.1.length ≤ 6) (p : TR) : (tNext r p).length ≤ 6 := by
  unfold tNext
  exact Nat.le_trans (List.length_filterMap_le _ _) (Nat.le_trans (desks_len r) h6)
theorem rowsT_len {r : Rule} (h6 : r.1.length ≤ 6) : ∀ n, (rowsT r n).length ≤ 6 ^ n
  | 0 => Nat.le_refl _
  | n + 1 => by
    rw [rowsT, Nat.pow_succ]
    exact Nat.le_trans (flatL fun p _ => tNext_len h6 p) (Nat.mul_le_mul_right _ (rowsT_len h6 n))
theorem reas_sign {r : Rule} {s t : List Int} {d : Str} (h : Reas r s) (hd : d ∈ desks r) (e : nxS r s d = some t) : Reas r t := by
  have q := Rea.step h (sign_levs' hd)
  unfold nxS at e
  unfold nxT at q
  rw [e] at q
  exact q
structure TOk (r : Rule) (n : Nat) (p : TR) : Prop where
  row : p.row.length = n
  pre : p.pre.length = n
  now : Reas r p.now
  on : ∀ s ∈ p.pre, Reas r s
theorem TOk.next {r : Rule} {n : Nat} {p q : TR} {d : Str} (o : TOk r n p) (hd : d ∈ desks r) (e : tOne r p d = some q) : TOk r (n + 1) q := by
  unfold tOne at e
  rw [Option.map_eq_some_iff] at e
  obtain ⟨t, h1, rfl⟩ := e
  refine ⟨by rw [List.length_append, List.length_singleton, o.row], by rw [List.length_append, List.length_singleton, o.pre], reas_sign o.now hd h1, fun s hs => ?_⟩
  rcases List.mem_append.mp hs with z | z
  · exact o.on s z
  · rw [List.mem_singleton] at z; rw [z]; exact o.now
theorem rowsT_ok {r : Rule} : ∀ n, ∀ p ∈ rowsT r n, TOk r n p
  | 0, p, h => by
    rw [rowsT, List.mem_singleton] at h
    subst h
    exact ⟨rfl, rfl, .nil, fun s hs => by cases hs⟩
  | n + 1, p, h => by
    rw [rowsT] at h
    obtain ⟨q, h1, h2⟩ := List.mem_flatMap.mp h
    obtain ⟨d, h3, h4⟩ := List.mem_filterMap.mp h2
    exact (rowsT_ok n q h1).next h3 h4
/-- the worst cost ahead of the last signature -/
def wst (r : Rule) (part : Str) (pre : List (List Int)) : Int := maxL (0 :: pre.map fun s => costV r s part)
theorem wst_snoc (r : Rule) (part : Str) (pre : List (List Int)) (s : List Int) : wst r part (pre ++ [s]) = max (wst r part pre) (costV r s part) := by
  show List.foldl (fun m x => if x > m then x else m) 0 ((pre ++ [s]).map fun s => costV r s part) = max (List.foldl (fun m x => if x > m then x else m) 0 (pre.map fun s => costV r s part)) (costV r s part)
  rw [List.map_append, List.foldl_append, List.map_cons, List.map_nil, List.foldl_cons, List.foldl_nil]
  generalize List.foldl _ _ _ = m
  split <;> omega
theorem wy_rowsT {r : Rule} {gl : List Int → Bool} {row : List Str} {t : List Int} (w : Wy (nxS r) gl (desks r) [] row t) : ∃ pre, (⟨row, pre, t⟩ : TR) ∈ rowsT r row.length := by
  induction w with
  | nil => exact ⟨[], by rw [List.length_nil, rowsT]; exact List.mem_cons_self⟩
  | @snoc row t u l _ _ hl e ih =>
    obtain ⟨pre, h⟩ := ih
    refine ⟨pre ++ [t], ?_⟩
    rw [List.length_append, List.length_singleton, rowsT]
    refine List.mem_flatMap.mpr ⟨_, h, List.mem_filterMap.mpr ⟨l, hl, ?_⟩⟩
    unfold tOne
    simp only [e, Option.map_some]
end Fw

set_option autoImplicit false
set_option linter.all false
set_option maxRecDepth 100000
set_option maxHeartbeats 400000
/-! costs along a way; the law's cost, the law's ways -/
namespace Fw
open PySem L2
local macro_rules | `(tactic| walk_at "evC") => `(tactic| ((with_reducible show _ = _); with_reducible assumption))
local macro_rules | `(tactic| walk_at "evE") => `(tactic| first | with_reducible exact ev_c _ | with_reducible apply r_v | with_reducible apply r_call | with_reducible apply r_cmp | with_reducible apply r_sub | with_reducible apply r_bi | with_reducible apply r_bin | with_reducible apply r_tup | with_reducible apply r_lst | with_reducible apply r_comp | with_reducible apply r_comp0 | with_reducible apply r_not | with_reducible apply r_andN | with_reducible apply r_and1 | with_reducible apply r_orN | with_reducible apply r_or1 | with_reducible apply r_isi | with_reducible apply r_bi2 | with_reducible apply r_slc | with_reducible apply r_rev | with_reducible apply r_neg | with_reducible apply r_chain | with_reducible apply r_scr | with_reducible apply i_of | with_reducible apply i_enum' | with_reducible apply i_rng | with_reducible apply i_peek | with_reducible apply k_val | with_reducible apply k_own | with_reducible apply k_copy | with_reducible apply k_ref)
local macro_rules | `(tactic| walk_at "evO") => `(tactic| first | exact Args.nil | (apply Args.val; exact rfl) | (apply Args.ref; exact rfl) | apply args_e | (apply Opd.v; exact rfl) | apply opd_e | (apply opf_val; exact rfl) | (apply Opf.v; exact rfl) | apply opf_e | exact Evs.nil | apply Evs.cons | apply Evs.star | exact IxR'.no | apply IxR'.yes | (with_reducible apply compB_i; intro x hx; refine ⟨_, rfl, ?_, fun hp => ?_⟩) | (with_reducible apply compM_i; intro x hx; refine ⟨_, rfl, ?_⟩) | ((with_reducible show (_ = true → _ = some _)); intro) | ((with_reducible show (_ = false → _ = some _)); intro))
local macro_rules | `(tactic| walk_at "evP") => `(tactic| first | with_reducible exact c_eqI _ _ | with_reducible exact c_eqS _ _ | with_reducible exact c_neI _ _ | with_reducible exact c_neS _ _ | with_reducible exact c_ltI _ _ | with_reducible exact c_leI _ _ | with_reducible exact c_gtI _ _ | with_reducible exact c_geI _ _ | with_reducible exact c_eqB _ _ | with_reducible exact c_neB _ _ | with_reducible exact c_inT (e := PyData.int) (by decide) _ _ | with_reducible exact c_niT (e := PyData.int) (by decide) _ _ | with_reducible exact c_inL (e := PyData.int) (by decide) _ _ | with_reducible exact c_niL (e := PyData.int) (by decide) _ _ | with_reducible exact c_inT (e := PyData.str) (by decide) _ _ | with_reducible exact c_niT (e := PyData.str) (by decide) _ _ | with_reducible exact c_inL (e := PyData.str) (by decide) _ _ | with_reducible exact c_niL (e := PyData.str) (by decide) _ _ | with_reducible exact c_eqTm _ _ | with_reducible exact c_neTm _ _ | with_reducible exact c_eqLm _ _ | with_reducible exact c_neLm _ _ | with_reducible exact c_eqT (by decide) _ _ | with_reducible exact c_neT (by decide) _ _ | with_reducible exact c_eqL (by decide) _ _ | with_reducible exact c_neL (by decide) _ _ | with_reducible exact b_addI _ _ | with_reducible exact b_subI _ _ | with_reducible apply b_addT | with_reducible apply b_addL | with_reducible exact p_lenLm _ _ | with_reducible exact p_lenTm _ _ | with_reducible exact p_lenL _ | with_reducible exact p_lenT _ | with_reducible exact p_tupL _ | with_reducible exact p_tupT _ | with_reducible exact p_lstL _ | with_reducible exact p_lstT _ | with_reducible exact p_all _ _ | with_reducible exact p_any _ _ | with_reducible exact p_intI _ | with_reducible exact p_intB _ | with_reducible exact p_max _ _ | with_reducible exact p_min _ _ | ((with_reducible show subP _ _ = some _); exact rfl) | ((with_reducible show itemsOf _ = some _); exact rfl) | ((with_reducible show iterD _ = some _); exact rfl) | ((with_reducible show look _ _ _ = some _); exact rfl) | ((with_reducible show isV _ = false); exact rfl) | ((with_reducible show List.length _ ≤ 16777216); exact of_decide_eq_true rfl) | ((with_reducible show (_ : Option Slot) = some _); exact rfl))
local macro_rules | `(tactic| walk_at "evt1") => `(tactic| first | walk_at "evE" | walk_at "evO" | walk_at "evC" | walk_at "evP")
local macro_rules | `(tactic| walk_at "evt") => `(tactic| repeat' (walk_at "evt1"))
local macro_rules | `(tactic| walk_at "st1") => `(tactic| first | with_reducible apply w_set | with_reducible apply w_par | with_reducible apply w_par3 | with_reducible apply w_unp | with_reducible apply w_frz | with_reducible apply w_app | with_reducible apply w_ret | with_reducible apply w_nil | with_reducible apply thenQ_n | with_reducible apply thenQ_r | with_reducible apply turnQ_n | with_reducible apply turnQ_r | with_reducible apply fin1 | ((with_reducible show List.set _ _ _ = _); dsimp only [List.set_cons_zero, List.set_cons_succ]; try exact rfl) | ((with_reducible show bnd _ _ _ = some _); dsimp only [bnd, List.set_cons_zero, List.set_cons_succ]; try exact rfl) | ((with_reducible show bnd _ _ _ = some _); exact rfl) | ((with_reducible show freeze _ _ = _); exact rfl) | walk_at "evt1")
local macro_rules | `(tactic| walk_at "st") => `(tactic| repeat' (walk_at "st1"))
local macro_rules | `(tactic| walk_at "evC") => `(tactic| first | with_reducible apply cal_lmet | with_reducible apply cal_lmetL)
local macro_rules | `(tactic| walk_at "evC") => `(tactic| with_reducible apply s_step)
local macro_rules | `(tactic| walk_at "evC") => `(tactic| with_reducible apply cal_lready)
local macro_rules | `(tactic| walk_at "evC") => `(tactic| with_reducible apply cal_lnext)
local macro_rules | `(tactic| walk_at "evC") => `(tactic| first | with_reducible exact bi_sortL _ | with_reducible exact bi_sortT _)
local macro_rules | `(tactic| walk_at "evC") => `(tactic| with_reducible apply cal_lleft)
local macro_rules | `(tactic| walk_at "evC") => `(tactic| first | ((with_reducible apply of_self); with_reducible assumption) | exact Rule.Fit.ok (by assumption) | exact Good.filter (by assumption) _ | exact Good.inn (by assumption) _ (by assumption))
local macro_rules | `(tactic| walk_at "evC") => `(tactic| with_reducible exact cmp_isN _)
local macro_rules | `(tactic| walk_at "evC") => `(tactic| first | with_reducible exact cmp_isO _ | with_reducible apply b_snocI | with_reducible apply b_catLI)
local macro_rules | `(tactic| walk_at "evC") => `(tactic| with_reducible apply cal_aft)
local macro_rules | `(tactic| walk_at "evC") => `(tactic| with_reducible apply cal_levent)
local macro_rules | `(tactic| walk_at "evC") => `(tactic| with_reducible apply cal_fol)
local macro_rules | `(tactic| walk_at "evC") => `(tactic| with_reducible apply cal_ref)
local macro_rules | `(tactic| walk_at "evC") => `(tactic| with_reducible exact b_rep1 _)
local macro_rules | `(tactic| walk_at "evC") => `(tactic| with_reducible apply cal_lfol)
local macro_rules | `(tactic| walk_at "evC") => `(tactic| first | with_reducible apply p_sset | with_reducible exact p_srtL _ | with_reducible exact p_srtT _)
local macro_rules | `(tactic| walk_at "evC") => `(tactic| with_reducible apply cal_ldesks)
local macro_rules | `(tactic| walk_at "evC") => `(tactic| with_reducible apply cal_levs)
local macro_rules | `(tactic| walk_at "evC") => `(tactic| with_reducible apply cal_desks)
local macro_rules | `(tactic| walk_at "evC") => `(tactic| with_reducible apply cal_can)
local macro_rules | `(tactic| walk_at "evC") => `(tactic| with_reducible apply cal_first_way)
local macro_rules | `(tactic| walk_at "evC") => `(tactic| with_reducible apply cal_allev)
local macro_rules | `(tactic| walk_at "evC") => `(tactic| with_reducible apply cal_states)
local macro_rules | `(tactic| walk_at "evC") => `(tactic| with_reducible apply cal_reached)
local macro_rules | `(tactic| walk_at "evC") => `(tactic| with_reducible apply cal_lway)
local macro_rules | `(tactic| walk_at "evC") => `(tactic| with_reducible apply cal_fewest)
local macro_rules | `(tactic| walk_at "evC") => `(tactic| with_reducible apply cal_falls)
local macro_rules | `(tactic| walk_at "evC") => `(tactic| with_reducible apply cal_cost)
local macro_rules | `(tactic| walk_at "evC") => `(tactic| with_reducible apply cal_greatest)
def trs (r : Rule) : List Int → List Str → Option (List (List Int))
  | _, [] => some []
  | s, d :: row => (nxS r s d).bind fun t => (trs r t row).map (t :: ·)
theorem trs_snoc {r : Rule} {d : Str} : ∀ (row : List Str) (s : List Int), trs r s (row ++ [d]) = (trs r s row).bind fun ks => (nxS r (ks.getLastD s) d).map fun t => ks ++ [t]
  | [], s => by
    rw [List.nil_append, trs, trs, Option.bind_some]
    show (nxS r s d).bind (fun t => (trs r t []).map (t :: ·)) = (nxS r s d).map fun t => [] ++ [t]
    cases nxS r s d with
    | none => rfl
    | some t => rfl
  | e :: row, s => by
    rw [List.cons_append, trs, trs]
    cases nxS r s e with
    | none => rfl
    | some t =>
      rw [Option.bind_some, Option.bind_some, trs_snoc row t]
      cases trs r t row with
      | none => rfl
      | some ks =>
        have e1 : (t :: ks).getLastD s = ks.getLastD t := by cases ks <;> rfl
        simp only [Option.bind_some, Option.map_some, e1, Option.map_map]
        cases nxS r (ks.getLastD t) d <;> rfl
theorem rowsT_trs {r : Rule} : ∀ n, ∀ p ∈ rowsT r n, ∃ ks, trs r [] p.row = some ks ∧ p.pre ++ [p.now] = [] :: ks
  | 0, p, h => by
    rw [rowsT, List.mem_singleton] at h
    subst h
    exact ⟨[], rfl, rfl⟩
  | n + 1, p, h => by
    rw [rowsT] at h
    obtain ⟨q, h1, h2⟩ := List.mem_flatMap.mp h
    obtain ⟨d, h3, h4⟩ := List.mem_filterMap.mp h2
    obtain ⟨ks, k1, k2⟩ := rowsT_trs n q h1
    unfold tOne at h4
    rw [Option.map_eq_some_iff] at h4
    obtain ⟨t, h5, rfl⟩ := h4
    have e : ks.getLastD [] = q.now := by
      have := congrArg List.getLast? k2
      rw [List.getLast?_concat] at this
      cases ks with
      | nil => simpa using this.symm
      | cons a as => rw [List.getLast?_cons_cons] at this; rw [List.getLastD_eq_getLast?, ← this]; rfl
    refine ⟨ks ++ [t], ?_, ?_⟩
    · show trs r [] (q.row ++ [d]) = _
      rw [trs_snoc, k1, Option.bind_some, e, h5]; rfl
    · show (q.pre ++ [q.now]) ++ [t] = _
      rw [k2]; rfl
theorem cal_along (N k : Nat) (S : Sto) (r : Rule) (hr : r.Fit) (hN : 1000 ≤ N) (part : Str) (hp : part ∈ abc) (row : List Str) (ks : List (List Int)) (hk : trs r [] row = some ks) (hd : ∀ d ∈ row, d ∈ desks r) (hl : row.length ≤ 100) : cal phi N (k + 14) 74 [.d (eRule r), .d (eStrs row), .d (.str part)] S = some (.list (([] :: ks).map fun s => costD r s part), S) := by
  refine wp_eq (fn_costs_along ?_)
  refine w_par (sl := .own (([[]] : List (List Int)).map fun s => costD r s part)) (sl2 := .val (tI [])) (S1 := S) (S2 := S) (k_own (.cons (r_call (.val rfl (.e (fun i z => by cases z) (r_tup .nil (by decide)) (.val rfl .nil))) (cal_cost N k S r hr hN [] .nil part hp)) .nil) (by simp)) (k_val (r_tup .nil (by decide))) rfl ?_
  dsimp only [List.set_cons_zero, List.set_cons_succ]
  refine w_for (xs := row) (enc := PyData.str) (S1 := S) (fun left ρ S' => S' = S ∧ ∃ (acc : List (List Int)) (s : List Int) (c : Slot) (ls : List (List Int)), ρ = [.val (eRule r), .val (eStrs row), .val (.str part), .own (acc.map fun s => costD r s part), .val (tI s), c] ∧ Reas r s ∧ trs r s left = some ls ∧ acc ++ ls = [] :: ks ∧ (∀ d ∈ left, d ∈ desks r) ∧ acc.length + left.length ≤ 101) rfl (i_of (r_v rfl) rfl) ⟨rfl, [[]], [], _, ks, rfl, .nil, hk, rfl, hd, by simp; omega⟩ ?_ ?_
  · rintro d left ρ S' hdm ⟨rfl, acc, s, c, ls, rfl, rs, ht, hacc, hdd, hlen⟩
    refine ⟨_, rfl, ?_⟩
    dsimp only [List.set_cons_zero, List.set_cons_succ]
    rw [List.length_cons] at hlen
    rw [trs, Option.bind_eq_some_iff] at ht
    obtain ⟨t, h1, h2⟩ := ht
    rw [Option.map_eq_some_iff] at h2
    obtain ⟨ls', h3, rfl⟩ := h2
    have h1' : aft r s ("sign", d) = some t := h1
    have rt := reas_sign rs (hdd d List.mem_cons_self) h1
    refine w_set (sl := .val (tI t)) (S1 := S') (k_val (r_conv (r_call (as := [.d (eRule r), .d (tI s), .d (eEv ("sign", d))]) (S1 := S') (.val rfl (.val rfl (.e (fun i z => by cases z) (r_tup (.cons (ev_c _) (.cons (r_v rfl) .nil)) (by simp)) .nil))) (cal_aft N (k + 3) S' r s ("sign", d) hr (reas_good rs))) (by rw [h1']; rfl))) rfl ?_
    dsimp only [List.set_cons_zero, List.set_cons_succ]
    refine w_app (d := costD r t part) (S1 := S') rfl (r_call (.val rfl (.val rfl (.val rfl .nil))) (cal_cost N k S' r hr hN t rt part hp)) (by rw [List.length_map]; omega) rfl ?_
    dsimp only [List.set_cons_zero, List.set_cons_succ]
    exact w_nil (turnQ_n ⟨rfl, acc ++ [t], t, _, ls', by rw [List.map_append]; rfl, rt, h3, by rw [List.append_assoc]; exact hacc, fun e he => hdd e (List.mem_cons_of_mem _ he), by rw [List.length_append, List.length_singleton]; omega⟩)
  · rintro ρ S' ⟨rfl, acc, s, c, ls, rfl, rs, ht, hacc, hdd, hlen⟩
    cases ht
    rw [List.append_nil] at hacc
    subst hacc
    refine w_frz (ρ' := [.val (eRule r), .val (eStrs row), .val (.str part), .val (.list (([] :: ks).map fun s => costD r s part)), .val (tI s), c]) rfl ?_
    exact w_ret (r_v rfl) (fin1 rfl)
local macro_rules | `(tactic| walk_at "evC") => `(tactic| with_reducible apply cal_along)
theorem cal_lcost (N k : Nat) (S : Sto) (r : Rule) (hr : r.Fit) (hN : 1000 ≤ N) (st : List Int) (h : Reas r st) (p : Str) (hp : p ∈ abc) : cal phi N (k + 12) 76 [.d (eRule r), .d (tI st), .d (.str p)] S = some (costD r st p, S) := by
  have h6 := hr.six
  have g := reas_good h
  have hc := chg_reas h hp
  refine wp_eq (fn_law_cost ?_)
  refine w_par (sl := .val (eOptR (fway r st))) (sl2 := .val (eOptR (fway r (chg r st p)))) (S1 := S) (S2 := S) (k_val (r_call (.val rfl (.val rfl .nil)) (cal_lway N k S r hr hN st g))) (k_val (r_call (as := [.d (eRule r), .d (tI (chg r st p))]) (S1 := S) (.val rfl (.e (fun i z => by cases z) (r_sub (S1 := S) (.e (fun i z => by cases z) (r_call (as := [.d (eRule r), .d (tI st), .d (eEv ("change", p))]) (S1 := S) (.val rfl (.val rfl (.e (fun i z => by cases z) (r_tup (.cons (ev_c _) (.cons (r_v rfl) .nil)) (by simp)) .nil))) (cal_levent N (k + 1) S r st ("change", p) hr g (by omega)))) (ev_c _) rfl) .nil)) (cal_lway N k S r hr hN (chg r st p) (reas_good hc)))) rfl ?_
  dsimp only [List.set_cons_zero, List.set_cons_succ]
  have e1 := fway_no h6 h
  have e2 := fway_no h6 hc
  unfold costD costV wv
  cases q1 : fway r st with
  | none =>
    rw [q1] at e1
    have c : canEnd r = false := by cases c : canEnd r with | true => rw [c] at e1; cases e1 | false => rfl
    rw [c]
    exact w_ret (r_iteT (S1 := S) (r_or2 (c := true) (k := true) (S1 := S) (r_cmp (x := eOptR none) (.v rfl) (.e (fun i z => by cases z) (ev_c _)) rfl) fun z => by cases z) (ev_c _)) (fin1 rfl)
  | some row =>
    rw [q1] at e1
    have c : canEnd r = true := by cases c : canEnd r with | false => rw [c] at e1; cases e1 | true => rfl
    rw [c] at e2
    cases q2 : fway r (chg r st p) with
    | none => rw [q2] at e2; cases e2
    | some row2 =>
      rw [c]
      exact w_ret (r_iteF (S1 := S) (r_or2 (c := false) (k := false) (S1 := S) (r_cmp (x := eOptR (some row)) (.v rfl) (.e (fun i z => by cases z) (ev_c _)) rfl) fun _ => r_cmp (x := eOptR (some row2)) (.v rfl) (.e (fun i z => by cases z) (ev_c _)) rfl) (r_bin (S1 := S) (S2 := S) (.e (fun i z => by cases z) (r_bi (.v rfl) (p_lenTm row2 _))) (.e (fun i z => by cases z) (r_bi (.v rfl) (p_lenTm row _))) (b_subI _ _))) (fin1 rfl)
local macro_rules | `(tactic| walk_at "evC") => `(tactic| with_reducible apply cal_lcost)
/-! all ways, by the law -/
abbrev eLR (p : TR) : Dt := .tuple [eStrs p.row, .list ((p.pre ++ [p.now]).map tI)]
theorem s_lastT {xs : List (List Int)} {x : List Int} : subP (.d (.list ((xs ++ [x]).map tI))) (.int (-1)) = some (tI x) := by
  show atI _ _ = _
  unfold atI ixN
  rw [List.length_map, List.length_append, List.length_singleton, if_neg (by decide), if_pos (by omega), Option.bind_some, List.getElem?_map]
  have e : (-1 + ((xs.length + 1 : Nat) : Int)).toNat = xs.length := by omega
  rw [e, List.getElem?_concat_length]
  rfl
noncomputable def ways (r : Rule) (n : Nat) : List TR := (rowsT r n).filter fun p => met r.2 p.now
theorem cal_lways (N k : Nat) (S : Sto) (r : Rule) (hr : r.Fit) (hN : 1000 ≤ N) (n : Nat) (hn : n ≤ 6) : cal phi N (k + 12) 77 [.d (eRule r), .d (.int (n : Int))] S = some (.list ((ways r n).map eLR), S) := by
  have h6 := hr.six
  have big : ∀ i, i ≤ 6 → (rowsT r i).length ≤ 46656 := fun i hi => Nat.le_trans (rowsT_len h6 i) (Nat.le_trans (Nat.pow_le_pow_right (by decide) hi) (by decide))
  refine wp_eq (fn_law_ways ?_)
  refine w_set (sl := .val (.list ((rowsT r 0).map eLR))) (S1 := S) (k_val (r_lst (.cons (r_tup (.cons (r_tup (ds := []) .nil (by simp)) (.cons (r_lst (.cons (r_tup (ds := []) .nil (by simp)) .nil) (by simp)) .nil)) (by simp)) .nil) (by simp [rowsT]))) rfl ?_
  dsimp only [List.set_cons_zero, List.set_cons_succ]
  refine w_for (xs := List.range n) (enc := fun (i : Nat) => .int (i : Int)) (S1 := S) (fun left ρ S' => S' = S ∧ ∃ (i : Nat) (a b c d e f g h : Slot), ρ = [.val (eRule r), .val (.int (n : Int)), .val (.list ((rowsT r i).map eLR)), a, b, c, d, e, f, g, h] ∧ i + left.length = n) rfl (i_rng (r_v rfl) (by omega)) ⟨rfl, 0, _, _, _, _, _, _, _, _, rfl, by simp⟩ ?_ ?_
  · rintro j left ρ S' hj ⟨rfl, i, a, b, c, d, e, f, g, h, rfl, hi⟩
    rw [List.length_cons] at hi
    refine ⟨_, rfl, ?_⟩
    dsimp only [List.set_cons_zero, List.set_cons_succ]
    have hb := big (i + 1) (by omega)
    refine w_set (k_own .nil (by decide)) rfl ?_
    dsimp only [List.set_cons_zero, List.set_cons_succ]
    refine w_for (xs := rowsT r i) (enc := eLR) (S1 := S') (fun lf ρ S2 => S2 = S' ∧ ∃ (acc : List TR) (c d e f g : Slot), ρ = [.val (eRule r), .val (.int (n : Int)), .val (.list ((rowsT r i).map eLR)), .val (.int (j : Int)), .own (acc.map eLR), c, d, e, f, g, h] ∧ acc ++ lf.flatMap (tNext r) = rowsT r (i + 1) ∧ ∀ p ∈ lf, TOk r i p) rfl (i_of (r_v rfl) rfl) ⟨rfl, [], _, _, _, _, _, rfl, rfl, rowsT_ok i⟩ ?_ ?_
    · rintro p lf ρ S2 hp ⟨rfl, acc, c, d, e, f, g, rfl, ha, ho⟩
      refine ⟨_, rfl, ?_⟩
      dsimp only [List.set_cons_zero, List.set_cons_succ]
      have o := ho p List.mem_cons_self
      have gp := reas_good o.now
      rw [List.flatMap_cons] at ha
      refine w_for (xs := desks r) (enc := PyData.str) (S1 := S2) (fun ds ρ S3 => S3 = S2 ∧ ∃ (acc2 : List TR) (e f g : Slot), ρ = [.val (eRule r), .val (.int (n : Int)), .val (.list ((rowsT r i).map eLR)), .val (.int (j : Int)), .own (acc2.map eLR), .val (eStrs p.row), .val (.list ((p.pre ++ [p.now]).map tI)), e, f, g, h] ∧ acc2 ++ (ds.filterMap (tOne r p) ++ lf.flatMap (tNext r)) = rowsT r (i + 1)) rfl (i_of (r_call (.val rfl .nil) (cal_ldesks N (k + 10) S2 r hr)) rfl) ⟨rfl, acc, _, _, _, rfl, ha⟩ ?_ ?_
      · rintro dk ds ρ S3 hd ⟨rfl, acc2, e, f, g, rfl, ha2⟩
        refine ⟨_, rfl, ?_⟩
        dsimp only [List.set_cons_zero, List.set_cons_succ]
        have hlen := congrArg List.length ha2
        rw [List.length_append] at hlen
        refine w_unp (d := evD r p.now ("sign", dk)) (S1 := S3) (r_call (as := [.d (eRule r), .d (tI p.now), .d (eEv ("sign", dk))]) (S1 := S3) (.val rfl (.e (fun i z => by cases z) (r_sub (S1 := S3) (opf_val rfl) (r_neg (ev_c _)) s_lastT) (.e (fun i z => by cases z) (r_tup (.cons (ev_c _) (.cons (r_v rfl) .nil)) (by simp)) .nil))) (cal_levent N (k + 1) S3 r p.now ("sign", dk) hr gp (by omega))) rfl ?_
        dsimp only [List.set_cons_zero, List.set_cons_succ]
        have q0 : aft r p.now ("sign", dk) = nxS r p.now dk := rfl
        rw [q0]
        rw [List.filterMap_cons] at ha2
        have ht : tOne r p dk = (nxS r p.now dk).map fun t => ⟨p.row ++ [dk], p.pre ++ [p.now], t⟩ := rfl
        cases q : nxS r p.now dk with
        | none =>
          rw [ht, q] at ha2
          exact w_ifF (S1 := S3) (r_not (b0 := true) (r_v rfl)) (w_nil (thenQ_n (w_nil (turnQ_n ⟨rfl, acc2, _, _, _, rfl, ha2⟩))))
        | some t =>
          rw [ht, q] at ha2
          refine w_ifT (S1 := S3) (r_not (b0 := false) (r_v rfl)) ?_
          refine w_app (d := eLR ⟨p.row ++ [dk], p.pre ++ [p.now], t⟩) (S1 := S3) rfl ?_ (by rw [List.length_map]; omega) rfl ?_
          · refine r_tup (.cons (r_conv (r_bin (S1 := S3) (S2 := S3) (opf_val rfl) (.e (fun i z => by cases z) (r_tup (.cons (r_v rfl) .nil) (by simp))) (b_addT (by rw [List.length_map, o.row]; simp; omega))) (d' := eStrs (p.row ++ [dk])) (by show PyData.tuple _ = .tuple (List.map _ (_ ++ _)); rw [List.map_append]; rfl)) (.cons (r_conv (r_bin (S1 := S3) (S2 := S3) (opf_val rfl) (.e (fun i z => by cases z) (r_lst (.cons (r_v rfl) .nil) (by simp))) (b_addL (by rw [List.length_map, List.length_append, o.pre]; simp; omega))) (d' := .list (((p.pre ++ [p.now]) ++ [t]).map tI)) (by rw [List.map_append (l₂ := [t])]; rfl)) .nil)) (by simp)
          dsimp only [List.set_cons_zero, List.set_cons_succ]
          refine w_nil (thenQ_n (w_nil (turnQ_n ⟨rfl, acc2 ++ [⟨p.row ++ [dk], p.pre ++ [p.now], t⟩], _, _, _, by rw [List.map_append (l₁ := acc2)]; rfl, ?_⟩)))
          rw [List.append_assoc]
          exact ha2
      · rintro ρ S3 ⟨rfl, acc2, e, f, g, rfl, ha2⟩
        exact w_nil (turnQ_n ⟨rfl, acc2, _, _, _, _, _, rfl, ha2, fun q hq => ho q (List.mem_cons_of_mem _ hq)⟩)
    · rintro ρ S2 ⟨rfl, acc, c, d, e, f, g, rfl, ha, ho⟩
      rw [List.flatMap_nil, List.append_nil] at ha
      subst ha
      refine w_frz (ρ' := [.val (eRule r), .val (.int (n : Int)), .val (.list ((rowsT r i).map eLR)), .val (.int (j : Int)), .val (.list ((rowsT r (i + 1)).map eLR)), c, d, e, f, g, h]) rfl ?_
      refine w_set (k_val (r_v rfl)) rfl ?_
      dsimp only [List.set_cons_zero, List.set_cons_succ]
      exact w_nil (turnQ_n ⟨rfl, i + 1, _, _, _, _, _, _, _, _, rfl, by omega⟩)
  · rintro ρ S' ⟨rfl, i, a, b, c, d, e, f, g, h, rfl, hi⟩
    rw [List.length_nil, Nat.add_zero] at hi
    subst hi
    refine w_ret (r_comp (xs := rowsT r i) (enc := eLR) (p := fun p => met r.2 p.now) (h := eLR) (i_of (r_v rfl) rfl) (compB_i fun p hp => ⟨_, rfl, ?_, fun _ => r_v rfl⟩) (by have := big i hn; omega)) (fin1 rfl)
    exact r_call (.e (fun i z => by cases z) (r_sub (opf_val rfl) (ev_c _) rfl) (.e (fun i z => by cases z) (r_sub (S1 := S') (.e (fun i z => by cases z) (r_sub (S1 := S') (opf_val rfl) (ev_c _) rfl)) (r_neg (ev_c _)) s_lastT) .nil)) (cal_lmet N (k + 10) S' r.2 p.now hr.ok.goal.2)
local macro_rules | `(tactic| walk_at "evC") => `(tactic| with_reducible apply cal_lways)
end Fw

set_option autoImplicit false
set_option linter.all false
set_option maxRecDepth 100000
set_option maxHeartbeats 400000
/-! rows are in order; the least of pairs -/
namespace Fw
open PySem PySem.W L2
theorem lt_pair (w w' : Int) (r r' : List Str) : dataLt (.tuple [.int w, .tuple (r.map .str)]) (.tuple [.int w', .tuple (r'.map .str)]) = if w = w' then dataLt (.tuple (r.map .str)) (.tuple (r'.map .str)) else decide (w < w') := by
  have h1 := DatumOrd.lt_eq ((w, (⟨r⟩ : Tup Str)) : Int × Tup Str) (w', ⟨r'⟩)
  have h2 := DatumOrd.lt_eq (⟨r⟩ : Tup Str) ⟨r'⟩
  refine h1.trans ?_
  have h3 : dataLt (.tuple (r.map .str)) (.tuple (r'.map .str)) = DatumOrd.lt (⟨r⟩ : Tup Str) ⟨r'⟩ := h2
  rw [h3]
  rfl
def rl (a b : List Str) : Bool := dataLt (.tuple (a.map .str)) (.tuple (b.map .str))
theorem rl_eq (a b : List Str) : rl a b = listLt a b := DatumOrd.lt_eq (⟨a⟩ : Tup Str) ⟨b⟩
theorem sl_eq (a b : Str) : dataLt (.str a) (.str b) = DatumOrd.lt a b := DatumOrd.lt_eq a b
theorem dlt_asymm {x y : PyData} (h : dataLt x y = true) : dataLt y x = false := by
  rcases Bool.eq_false_or_eq_true (dataLt y x) with q | q
  · have t := leq_total.total x y
    unfold leq at t
    rw [h, q] at t
    exact absurd t (by simp)
  · exact q
theorem rl_snoc : ∀ (a b : List Str) (d e : Str), a.length = b.length → rl a b = true → rl (a ++ [d]) (b ++ [e]) = true := by
  intro a b d e
  simp only [rl_eq]
  induction a generalizing b with
  | nil =>
    intro hl h
    cases b with
    | nil => cases h
    | cons _ _ => cases hl
  | cons x a ih =>
    intro hl h
    cases b with
    | nil => cases hl
    | cons y b =>
      rw [List.cons_append, List.cons_append, listLt]
      rw [listLt] at h
      split
      · rename_i q
        rw [if_pos q] at h
        exact ih b (by simpa using hl) h
      · rename_i q
        rw [if_neg q] at h
        exact h
theorem rl_same (a : List Str) {d e : Str} (hne : d ≠ e) (h : dataLt (.str d) (.str e) = true) : rl (a ++ [d]) (a ++ [e]) = true := by
  rw [rl_eq]
  induction a with
  | nil => rw [List.nil_append, List.nil_append, listLt, if_neg hne, ← sl_eq]; exact h
  | cons x a ih => rw [List.cons_append, List.cons_append, listLt, if_pos rfl]; exact ih
end Fw

set_option autoImplicit false
set_option linter.all false
set_option maxRecDepth 100000
set_option maxHeartbeats 400000
/-! all rows are in order -/
namespace Fw
open PySem PySem.W L2
theorem desks_asc (r : Rule) : (desks r).Pairwise fun d e => d ≠ e ∧ dataLt (.str d) (.str e) = true := by
  have nd : (desks r).Nodup := uset_nodup
  have le : (desks r).Pairwise fun d e => leq (.str d) (.str e) = true := by
    unfold desks uset srt
    exact List.pairwise_mergeSort (le := fun a b : Str => leq (.str a) (.str b)) (fun a b c => leq_total.trans (.str a) (.str b) (.str c)) (fun a b => by rw [Bool.or_eq_true]; exact leq_total.total (.str a) (.str b)) _
  refine (le.and nd).imp fun {d e} ⟨h1, h2⟩ => ⟨h2, ?_⟩
  rcases Bool.eq_false_or_eq_true (dataLt (.str d) (.str e)) with q | q
  · exact q
  · refine absurd ?_ h2
    have h3 : leq (.str e) (.str d) = true := by unfold leq; rw [q]; rfl
    have := leq_antisymm (x := .str d) (y := .str e) rfl h1 h3
    injection this
theorem rowsT_asc (r : Rule) : ∀ n, (rowsT r n).Pairwise fun p q => rl p.row q.row = true
  | 0 => List.pairwise_singleton _ _
  | n + 1 => by
    rw [rowsT, List.pairwise_flatMap]
    have ok := rowsT_ok (r := r) n
    have ih := rowsT_asc r n
    refine ⟨fun p hp => ?_, ?_⟩
    · unfold tNext
      rw [List.pairwise_filterMap]
      refine (desks_asc r).imp fun {d e} ⟨h1, h2⟩ x hx y hy => ?_
      unfold tOne at hx hy
      rw [Option.map_eq_some_iff] at hx hy
      obtain ⟨_, _, rfl⟩ := hx
      obtain ⟨_, _, rfl⟩ := hy
      exact rl_same _ h1 h2
    · refine List.Pairwise.imp_of_mem ?_ ih
      intro p q hp hq h x hx y hy
      obtain ⟨d, _, h4⟩ := List.mem_filterMap.mp hx
      obtain ⟨e, _, h5⟩ := List.mem_filterMap.mp hy
      unfold tOne at h4 h5
      rw [Option.map_eq_some_iff] at h4 h5
      obtain ⟨_, _, rfl⟩ := h4
      obtain ⟨_, _, rfl⟩ := h5
      exact rl_snoc _ _ _ _ (by rw [(ok p hp).row, (ok q hq).row]) h
abbrev eWR (r : Rule) (part : Str) (p : TR) : Dt := .tuple [.int (wst r part p.pre), eStrs p.row]
def bst (r : Rule) (part : Str) (a b : TR) : TR := if wst r part b.pre < wst r part a.pre then b else a
theorem fold_bst (r : Rule) (part : Str) : ∀ (ps : List TR) (p : TR), (p :: ps).Pairwise (fun p q => rl p.row q.row = true) → (ps.map (eWR r part)).foldl (fun a b => if dataLt b a then b else a) (eWR r part p) = eWR r part (ps.foldl (bst r part) p)
  | [], _, _ => rfl
  | q :: ps, p, h => by
    rw [List.pairwise_cons] at h
    have h2 := h.2
    rw [List.pairwise_cons] at h2
    have hr := dlt_asymm (h.1 q List.mem_cons_self)
    rw [List.map_cons, List.foldl_cons, List.foldl_cons]
    have e : (if dataLt (eWR r part q) (eWR r part p) = true then eWR r part q else eWR r part p) = eWR r part (bst r part p q) := by
      have e0 : dataLt (eWR r part q) (eWR r part p) = decide (wst r part q.pre < wst r part p.pre) := by
        rw [lt_pair, hr]
        by_cases c : wst r part q.pre = wst r part p.pre
        · rw [if_pos c]; exact (decide_eq_false (by omega)).symm
        · rw [if_neg c]
      rw [e0]
      unfold bst
      by_cases c : wst r part q.pre < wst r part p.pre
      · rw [decide_eq_true c, if_pos rfl, if_pos c]
      · rw [decide_eq_false c, if_neg Bool.false_ne_true, if_neg c]
    rw [e]
    refine fold_bst r part ps _ (List.pairwise_cons.mpr ⟨fun x hx => ?_, h2.2⟩)
    unfold bst
    split
    · exact h2.1 x hx
    · exact h.1 x (List.mem_cons_of_mem _ hx)
theorem least_ways (r : Rule) (part : Str) {p : TR} {ps : List TR} (h : (p :: ps).Pairwise (fun p q => rl p.row q.row = true)) : leastD ((p :: ps).map (eWR r part)) = some (eWR r part (ps.foldl (bst r part) p)) := by
  rw [List.map_cons]
  unfold leastD
  rw [← fold_bst r part ps p h]
end Fw

set_option autoImplicit false
set_option linter.all false
set_option maxRecDepth 100000
set_option maxHeartbeats 400000
/-! the safest way -/
namespace Fw
open PySem L2
local macro_rules | `(tactic| walk_at "evC") => `(tactic| ((with_reducible show _ = _); with_reducible assumption))
local macro_rules | `(tactic| walk_at "evE") => `(tactic| first | with_reducible exact ev_c _ | with_reducible apply r_v | with_reducible apply r_call | with_reducible apply r_cmp | with_reducible apply r_sub | with_reducible apply r_bi | with_reducible apply r_bin | with_reducible apply r_tup | with_reducible apply r_lst | with_reducible apply r_comp | with_reducible apply r_comp0 | with_reducible apply r_not | with_reducible apply r_andN | with_reducible apply r_and1 | with_reducible apply r_orN | with_reducible apply r_or1 | with_reducible apply r_isi | with_reducible apply r_bi2 | with_reducible apply r_slc | with_reducible apply r_rev | with_reducible apply r_neg | with_reducible apply r_chain | with_reducible apply r_scr | with_reducible apply i_of | with_reducible apply i_enum' | with_reducible apply i_rng | with_reducible apply i_peek | with_reducible apply k_val | with_reducible apply k_own | with_reducible apply k_copy | with_reducible apply k_ref)
local macro_rules | `(tactic| walk_at "evO") => `(tactic| first | exact Args.nil | (apply Args.val; exact rfl) | (apply Args.ref; exact rfl) | apply args_e | (apply Opd.v; exact rfl) | apply opd_e | (apply opf_val; exact rfl) | (apply Opf.v; exact rfl) | apply opf_e | exact Evs.nil | apply Evs.cons | apply Evs.star | exact IxR'.no | apply IxR'.yes | (with_reducible apply compB_i; intro x hx; refine ⟨_, rfl, ?_, fun hp => ?_⟩) | (with_reducible apply compM_i; intro x hx; refine ⟨_, rfl, ?_⟩) | ((with_reducible show (_ = true → _ = some _)); intro) | ((with_reducible show (_ = false → _ = some _)); intro))
local macro_rules | `(tactic| walk_at "evP") => `(tactic| first | with_reducible exact c_eqI _ _ | with_reducible exact c_eqS _ _ | with_reducible exact c_neI _ _ | with_reducible exact c_neS _ _ | with_reducible exact c_ltI _ _ | with_reducible exact c_leI _ _ | with_reducible exact c_gtI _ _ | with_reducible exact c_geI _ _ | with_reducible exact c_eqB _ _ | with_reducible exact c_neB _ _ | with_reducible exact c_inT (e := PyData.int) (by decide) _ _ | with_reducible exact c_niT (e := PyData.int) (by decide) _ _ | with_reducible exact c_inL (e := PyData.int) (by decide) _ _ | with_reducible exact c_niL (e := PyData.int) (by decide) _ _ | with_reducible exact c_inT (e := PyData.str) (by decide) _ _ | with_reducible exact c_niT (e := PyData.str) (by decide) _ _ | with_reducible exact c_inL (e := PyData.str) (by decide) _ _ | with_reducible exact c_niL (e := PyData.str) (by decide) _ _ | with_reducible exact c_eqTm _ _ | with_reducible exact c_neTm _ _ | with_reducible exact c_eqLm _ _ | with_reducible exact c_neLm _ _ | with_reducible exact c_eqT (by decide) _ _ | with_reducible exact c_neT (by decide) _ _ | with_reducible exact c_eqL (by decide) _ _ | with_reducible exact c_neL (by decide) _ _ | with_reducible exact b_addI _ _ | with_reducible exact b_subI _ _ | with_reducible apply b_addT | with_reducible apply b_addL | with_reducible exact p_lenLm _ _ | with_reducible exact p_lenTm _ _ | with_reducible exact p_lenL _ | with_reducible exact p_lenT _ | with_reducible exact p_tupL _ | with_reducible exact p_tupT _ | with_reducible exact p_lstL _ | with_reducible exact p_lstT _ | with_reducible exact p_all _ _ | with_reducible exact p_any _ _ | with_reducible exact p_intI _ | with_reducible exact p_intB _ | with_reducible exact p_max _ _ | with_reducible exact p_min _ _ | ((with_reducible show subP _ _ = some _); exact rfl) | ((with_reducible show itemsOf _ = some _); exact rfl) | ((with_reducible show iterD _ = some _); exact rfl) | ((with_reducible show look _ _ _ = some _); exact rfl) | ((with_reducible show isV _ = false); exact rfl) | ((with_reducible show List.length _ ≤ 16777216); exact of_decide_eq_true rfl) | ((with_reducible show (_ : Option Slot) = some _); exact rfl))
local macro_rules | `(tactic| walk_at "evt1") => `(tactic| first | walk_at "evE" | walk_at "evO" | walk_at "evC" | walk_at "evP")
local macro_rules | `(tactic| walk_at "evt") => `(tactic| repeat' (walk_at "evt1"))
local macro_rules | `(tactic| walk_at "st1") => `(tactic| first | with_reducible apply w_set | with_reducible apply w_par | with_reducible apply w_par3 | with_reducible apply w_unp | with_reducible apply w_frz | with_reducible apply w_app | with_reducible apply w_ret | with_reducible apply w_nil | with_reducible apply thenQ_n | with_reducible apply thenQ_r | with_reducible apply turnQ_n | with_reducible apply turnQ_r | with_reducible apply fin1 | ((with_reducible show List.set _ _ _ = _); dsimp only [List.set_cons_zero, List.set_cons_succ]; try exact rfl) | ((with_reducible show bnd _ _ _ = some _); dsimp only [bnd, List.set_cons_zero, List.set_cons_succ]; try exact rfl) | ((with_reducible show bnd _ _ _ = some _); exact rfl) | ((with_reducible show freeze _ _ = _); exact rfl) | walk_at "evt1")
local macro_rules | `(tactic| walk_at "st") => `(tactic| repeat' (walk_at "st1"))
local macro_rules | `(tactic| walk_at "evC") => `(tactic| first | with_reducible apply cal_lmet | with_reducible apply cal_lmetL)
local macro_rules | `(tactic| walk_at "evC") => `(tactic| with_reducible apply s_step)
local macro_rules | `(tactic| walk_at "evC") => `(tactic| with_reducible apply cal_lready)
local macro_rules | `(tactic| walk_at "evC") => `(tactic| with_reducible apply cal_lnext)
local macro_rules | `(tactic| walk_at "evC") => `(tactic| first | with_reducible exact bi_sortL _ | with_reducible exact bi_sortT _)
local macro_rules | `(tactic| walk_at "evC") => `(tactic| with_reducible apply cal_lleft)
local macro_rules | `(tactic| walk_at "evC") => `(tactic| first | ((with_reducible apply of_self); with_reducible assumption) | exact Rule.Fit.ok (by assumption) | exact Good.filter (by assumption) _ | exact Good.inn (by assumption) _ (by assumption))
local macro_rules | `(tactic| walk_at "evC") => `(tactic| with_reducible exact cmp_isN _)
local macro_rules | `(tactic| walk_at "evC") => `(tactic| first | with_reducible exact cmp_isO _ | with_reducible apply b_snocI | with_reducible apply b_catLI)
local macro_rules | `(tactic| walk_at "evC") => `(tactic| with_reducible apply cal_aft)
local macro_rules | `(tactic| walk_at "evC") => `(tactic| with_reducible apply cal_levent)
local macro_rules | `(tactic| walk_at "evC") => `(tactic| with_reducible apply cal_fol)
local macro_rules | `(tactic| walk_at "evC") => `(tactic| with_reducible apply cal_ref)
local macro_rules | `(tactic| walk_at "evC") => `(tactic| with_reducible exact b_rep1 _)
local macro_rules | `(tactic| walk_at "evC") => `(tactic| with_reducible apply cal_lfol)
local macro_rules | `(tactic| walk_at "evC") => `(tactic| first | with_reducible apply p_sset | with_reducible exact p_srtL _ | with_reducible exact p_srtT _)
local macro_rules | `(tactic| walk_at "evC") => `(tactic| with_reducible apply cal_ldesks)
local macro_rules | `(tactic| walk_at "evC") => `(tactic| with_reducible apply cal_levs)
local macro_rules | `(tactic| walk_at "evC") => `(tactic| with_reducible apply cal_desks)
local macro_rules | `(tactic| walk_at "evC") => `(tactic| with_reducible apply cal_can)
local macro_rules | `(tactic| walk_at "evC") => `(tactic| with_reducible apply cal_first_way)
local macro_rules | `(tactic| walk_at "evC") => `(tactic| with_reducible apply cal_allev)
local macro_rules | `(tactic| walk_at "evC") => `(tactic| with_reducible apply cal_states)
local macro_rules | `(tactic| walk_at "evC") => `(tactic| with_reducible apply cal_reached)
local macro_rules | `(tactic| walk_at "evC") => `(tactic| with_reducible apply cal_lway)
local macro_rules | `(tactic| walk_at "evC") => `(tactic| with_reducible apply cal_fewest)
local macro_rules | `(tactic| walk_at "evC") => `(tactic| with_reducible apply cal_falls)
local macro_rules | `(tactic| walk_at "evC") => `(tactic| with_reducible apply cal_cost)
local macro_rules | `(tactic| walk_at "evC") => `(tactic| with_reducible apply cal_greatest)
local macro_rules | `(tactic| walk_at "evC") => `(tactic| with_reducible apply cal_along)
local macro_rules | `(tactic| walk_at "evC") => `(tactic| with_reducible apply cal_lcost)
local macro_rules | `(tactic| walk_at "evC") => `(tactic| with_reducible apply cal_lways)
theorem okSort_ways (r : Rule) (part : Str) (ps : List TR) : okSort (ps.map (eWR r part)) = true := by
  unfold okSort
  rw [List.all_eq_true]
  intro d hd
  obtain ⟨p, _, rfl⟩ := List.mem_map.mp hd
  rw [Bool.and_eq_true, List.all_eq_true, Bool.and_eq_true, decide_eq_true_eq]
  refine ⟨⟨?_, rfl⟩, fun d hd => ?_⟩
  · show PyData.depth (.tuple [.int _, eStrs p.row]) ≤ 100
    rw [PyData.depth]
    have h : PyData.depth (eStrs p.row) ≤ 0 + 1 := depth_T (e := PyData.str) p.row
    simp only [PyData.depthAll]
    have : PyData.depth (.int (wst r part p.pre)) = 0 := by simp [PyData.depth]
    omega
  · obtain ⟨q, _, rfl⟩ := List.mem_map.mp hd
    show PySem.W.alike (.tuple [.int _, .tuple _]) (.tuple [.int _, .tuple _]) = true
    simp only [PySem.W.alike, PySem.W.alikeAll, Bool.true_and, Bool.and_true]
    exact alikeAll_map (fun _ _ => rfl) p.row q.row
theorem p_minW (r : Rule) (part : Str) {p : TR} {ps : List TR} (h : (p :: ps).Pairwise (fun p q => rl p.row q.row = true)) : biP .min (.d (.list ((p :: ps).map (eWR r part)))) = some (eWR r part (ps.foldl (bst r part) p)) := by
  have h1 : intsD ((p :: ps).map (eWR r part)) = none := rfl
  simp only [biP, h1]
  rw [okSort_ways, if_pos rfl, least_ways r part h]
end Fw

set_option autoImplicit false
set_option linter.all false
set_option maxRecDepth 100000
set_option maxHeartbeats 400000
/-! the safest way: the walk -/
namespace Fw
open PySem L2
local macro_rules | `(tactic| walk_at "evC") => `(tactic| ((with_reducible show _ = _); with_reducible assumption))
local macro_rules | `(tactic| walk_at "evE") => `(tactic| first | with_reducible exact ev_c _ | with_reducible apply r_v | with_reducible apply r_call | with_reducible apply r_cmp | with_reducible apply r_sub | with_reducible apply r_bi | with_reducible apply r_bin | with_reducible apply r_tup | with_reducible apply r_lst | with_reducible apply r_comp | with_reducible apply r_comp0 | with_reducible apply r_not | with_reducible apply r_andN | with_reducible apply r_and1 | with_reducible apply r_orN | with_reducible apply r_or1 | with_reducible apply r_isi | with_reducible apply r_bi2 | with_reducible apply r_slc | with_reducible apply r_rev | with_reducible apply r_neg | with_reducible apply r_chain | with_reducible apply r_scr | with_reducible apply i_of | with_reducible apply i_enum' | with_reducible apply i_rng | with_reducible apply i_peek | with_reducible apply k_val | with_reducible apply k_own | with_reducible apply k_copy | with_reducible apply k_ref)
local macro_rules | `(tactic| walk_at "evO") => `(tactic| first | exact Args.nil | (apply Args.val; exact rfl) | (apply Args.ref; exact rfl) | apply args_e | (apply Opd.v; exact rfl) | apply opd_e | (apply opf_val; exact rfl) | (apply Opf.v; exact rfl) | apply opf_e | exact Evs.nil | apply Evs.cons | apply Evs.star | exact IxR'.no | apply IxR'.yes | (with_reducible apply compB_i; intro x hx; refine ⟨_, rfl, ?_, fun hp => ?_⟩) | (with_reducible apply compM_i; intro x hx; refine ⟨_, rfl, ?_⟩) | ((with_reducible show (_ = true → _ = some _)); intro) | ((with_reducible show (_ = false → _ = some _)); intro))
local macro_rules | `(tactic| walk_at "evP") => `(tactic| first | with_reducible exact c_eqI _ _ | with_reducible exact c_eqS _ _ | with_reducible exact c_neI _ _ | with_reducible exact c_neS _ _ | with_reducible exact c_ltI _ _ | with_reducible exact c_leI _ _ | with_reducible exact c_gtI _ _ | with_reducible exact c_geI _ _ | with_reducible exact c_eqB _ _ | with_reducible exact c_neB _ _ | with_reducible exact c_inT (e := PyData.int) (by decide) _ _ | with_reducible exact c_niT (e := PyData.int) (by decide) _ _ | with_reducible exact c_inL (e := PyData.int) (by decide) _ _ | with_reducible exact c_niL (e := PyData.int) (by decide) _ _ | with_reducible exact c_inT (e := PyData.str) (by decide) _ _ | with_reducible exact c_niT (e := PyData.str) (by decide) _ _ | with_reducible exact c_inL (e := PyData.str) (by decide) _ _ | with_reducible exact c_niL (e := PyData.str) (by decide) _ _ | with_reducible exact c_eqTm _ _ | with_reducible exact c_neTm _ _ | with_reducible exact c_eqLm _ _ | with_reducible exact c_neLm _ _ | with_reducible exact c_eqT (by decide) _ _ | with_reducible exact c_neT (by decide) _ _ | with_reducible exact c_eqL (by decide) _ _ | with_reducible exact c_neL (by decide) _ _ | with_reducible exact b_addI _ _ | with_reducible exact b_subI _ _ | with_reducible apply b_addT | with_reducible apply b_addL | with_reducible exact p_lenLm _ _ | with_reducible exact p_lenTm _ _ | with_reducible exact p_lenL _ | with_reducible exact p_lenT _ | with_reducible exact p_tupL _ | with_reducible exact p_tupT _ | with_reducible exact p_lstL _ | with_reducible exact p_lstT _ | with_reducible exact p_all _ _ | with_reducible exact p_any _ _ | with_reducible exact p_intI _ | with_reducible exact p_intB _ | with_reducible exact p_max _ _ | with_reducible exact p_min _ _ | ((with_reducible show subP _ _ = some _); exact rfl) | ((with_reducible show itemsOf _ = some _); exact rfl) | ((with_reducible show iterD _ = some _); exact rfl) | ((with_reducible show look _ _ _ = some _); exact rfl) | ((with_reducible show isV _ = false); exact rfl) | ((with_reducible show List.length _ ≤ 16777216); exact of_decide_eq_true rfl) | ((with_reducible show (_ : Option Slot) = some _); exact rfl))
local macro_rules | `(tactic| walk_at "evt1") => `(tactic| first | walk_at "evE" | walk_at "evO" | walk_at "evC" | walk_at "evP")
local macro_rules | `(tactic| walk_at "evt") => `(tactic| repeat' (walk_at "evt1"))
local macro_rules | `(tactic| walk_at "st1") => `(tactic| first | with_reducible apply w_set | with_reducible apply w_par | with_reducible apply w_par3 | with_reducible apply w_unp | with_reducible apply w_frz | with_reducible apply w_app | with_reducible apply w_ret | with_reducible apply w_nil | with_reducible apply thenQ_n | with_reducible apply thenQ_r | with_reducible apply turnQ_n | with_reducible apply turnQ_r | with_reducible apply fin1 | ((with_reducible show List.set _ _ _ = _); dsimp only [List.set_cons_zero, List.set_cons_succ]; try exact rfl) | ((with_reducible show bnd _ _ _ = some _); dsimp only [bnd, List.set_cons_zero, List.set_cons_succ]; try exact rfl) | ((with_reducible show bnd _ _ _ = some _); exact rfl) | ((with_reducible show freeze _ _ = _); exact rfl) | walk_at "evt1")
local macro_rules | `(tactic| walk_at "st") => `(tactic| repeat' (walk_at "st1"))
local macro_rules | `(tactic| walk_at "evC") => `(tactic| first | with_reducible apply cal_lmet | with_reducible apply cal_lmetL)
local macro_rules | `(tactic| walk_at "evC") => `(tactic| with_reducible apply s_step)
local macro_rules | `(tactic| walk_at "evC") => `(tactic| with_reducible apply cal_lready)
local macro_rules | `(tactic| walk_at "evC") => `(tactic| with_reducible apply cal_lnext)
local macro_rules | `(tactic| walk_at "evC") => `(tactic| first | with_reducible exact bi_sortL _ | with_reducible exact bi_sortT _)
local macro_rules | `(tactic| walk_at "evC") => `(tactic| with_reducible apply cal_lleft)
local macro_rules | `(tactic| walk_at "evC") => `(tactic| first | ((with_reducible apply of_self); with_reducible assumption) | exact Rule.Fit.ok (by assumption) | exact Good.filter (by assumption) _ | exact Good.inn (by assumption) _ (by assumption))
local macro_rules | `(tactic| walk_at "evC") => `(tactic| with_reducible exact cmp_isN _)
local macro_rules | `(tactic| walk_at "evC") => `(tactic| first | with_reducible exact cmp_isO _ | with_reducible apply b_snocI | with_reducible apply b_catLI)
local macro_rules | `(tactic| walk_at "evC") => `(tactic| with_reducible apply cal_aft)
local macro_rules | `(tactic| walk_at "evC") => `(tactic| with_reducible apply cal_levent)
local macro_rules | `(tactic| walk_at "evC") => `(tactic| with_reducible apply cal_fol)
local macro_rules | `(tactic| walk_at "evC") => `(tactic| with_reducible apply cal_ref)
local macro_rules | `(tactic| walk_at "evC") => `(tactic| with_reducible exact b_rep1 _)
local macro_rules | `(tactic| walk_at "evC") => `(tactic| with_reducible apply cal_lfol)
local macro_rules | `(tactic| walk_at "evC") => `(tactic| first | with_reducible apply p_sset | with_reducible exact p_srtL _ | with_reducible exact p_srtT _)
local macro_rules | `(tactic| walk_at "evC") => `(tactic| with_reducible apply cal_ldesks)
local macro_rules | `(tactic| walk_at "evC") => `(tactic| with_reducible apply cal_levs)
local macro_rules | `(tactic| walk_at "evC") => `(tactic| with_reducible apply cal_desks)
local macro_rules | `(tactic| walk_at "evC") => `(tactic| with_reducible apply cal_can)
local macro_rules | `(tactic| walk_at "evC") => `(tactic| with_reducible apply cal_first_way)
local macro_rules | `(tactic| walk_at "evC") => `(tactic| with_reducible apply cal_allev)
local macro_rules | `(tactic| walk_at "evC") => `(tactic| with_reducible apply cal_states)
local macro_rules | `(tactic| walk_at "evC") => `(tactic| with_reducible apply cal_reached)
local macro_rules | `(tactic| walk_at "evC") => `(tactic| with_reducible apply cal_lway)
local macro_rules | `(tactic| walk_at "evC") => `(tactic| with_reducible apply cal_fewest)
local macro_rules | `(tactic| walk_at "evC") => `(tactic| with_reducible apply cal_falls)
local macro_rules | `(tactic| walk_at "evC") => `(tactic| with_reducible apply cal_cost)
local macro_rules | `(tactic| walk_at "evC") => `(tactic| with_reducible apply cal_greatest)
local macro_rules | `(tactic| walk_at "evC") => `(tactic| with_reducible apply cal_along)
local macro_rules | `(tactic| walk_at "evC") => `(tactic| with_reducible apply cal_lcost)
local macro_rules | `(tactic| walk_at "evC") => `(tactic| with_reducible apply cal_lways)
abbrev ePR (r : Rule) (part : Str) (p : TR) : Dt := .tuple [eStrs p.row, tI p.now, .int (wst r part p.pre)]
noncomputable def safest (r : Rule) (part : Str) : Option (List Str) := match fway r [] with
  | none => none
  | some row => match ways r row.length with
    | [] => none
    | p :: ps => some (ps.foldl (bst r part) p).row
theorem fway_len6 {r : Rule} (h6 : r.1.length ≤ 6) {st : List Int} (g : Good r st) {row : List Str} (h : fway r st = some row) : row.length ≤ 6 := by
  obtain ⟨t, w, hm⟩ := fway_some h
  clear hm
  have key : Good r t ∧ st.length + row.length ≤ t.length := by
    clear h
    induction w with
    | nil => exact ⟨g, by simp⟩
    | snoc _ _ _ e ih =>
      refine ⟨nxS_good ih.1 e, ?_⟩
      rw [nxS_eq, Option.map_eq_some_iff] at e
      obtain ⟨a, _, rfl⟩ := e
      rw [isort_len, List.length_append, List.length_append, List.length_singleton, List.length_singleton]
      omega
  have := key.1.len
  omega
theorem ways_ne {r : Rule} {row : List Str} (h : fway r [] = some row) : ways r row.length ≠ [] := by
  obtain ⟨t, w, hm⟩ := fway_some h
  obtain ⟨pre, hp⟩ := wy_rowsT w
  have : (⟨row, pre, t⟩ : TR) ∈ ways r row.length := List.mem_filter.mpr ⟨hp, hm⟩
  exact List.ne_nil_of_mem this
/-- the table of costs on the way -/
structure KOk (r : Rule) (kn : List (List Int)) : Prop where
  nd : kn.Nodup
  rea : ∀ s ∈ kn, Reas r s
theorem KOk.few {r : Rule} (h6 : r.1.length ≤ 6) {kn : List (List Int)} (o : KOk r kn) : kn.length ≤ 64 := states_bound h6 o.nd fun s hs => reas_good (o.rea s hs)
theorem safest_desks (N k : Nat) (S : Sto) (r : Rule) (hr : r.Fit) (hN : 1000 ≤ N) (part : Str) (c : canEnd r = true) (i : Nat) (hi : i + 1 ≤ 6) (p : TR) (lf : List TR) (o : TOk r i p) (acc : List TR) (kn : List (List Int)) (hk : KOk r kn) (hin : p.now ∈ kn) (ha : acc ++ (tNext r p ++ lf.flatMap (tNext r)) = rowsT r (i + 1)) (s2 s3 s5 s10 s11 s12 : Slot) {Q : RQ}
    (hQ : ∀ (acc2 : List TR) (a b : Slot), acc2 ++ lf.flatMap (tNext r) = rowsT r (i + 1) → Q (.next, [.val (eRule r), .val (.str part), s2, s3, .ownd (ktab κI (fun s => costD r s part) kn), s5, .own (acc2.map (ePR r part)), .val (eStrs p.row), .val (tI p.now), .val (.int (wst r part p.pre)), a, b, s12], S)) :
    Wp (xcs (cal phi N (k + 13)) N (.cons (.for (.one 10) (.of (.call 39 (.cons (.v 0) .nil))) (.cons (.set 11 (.val (.call 5 (.cons (.v 0) (.cons (.v 8) (.cons (.tup (.cons (.c (.str "sign")) (.cons (.v 10) .nil))) .nil)))))) (.cons (.ifs (.cmp .IsNot (.v 11) (.c .none)) (.cons (.app 6 (.tup (.cons (.tup (.star (.v 7) (.cons (.v 10) .nil))) (.cons (.v 11) (.cons (.bi2 .max (.v 9) (.sub (.v 4) (.v 8))) .nil))))) .nil) .nil) .nil))) .nil) [.val (eRule r), .val (.str part), s2, s3, .ownd (ktab κI (fun s => costD r s part) kn), s5, .own (acc.map (ePR r part)), .val (eStrs p.row), .val (tI p.now), .val (.int (wst r part p.pre)), s10, s11, s12] S) Q := by
  have h6 := hr.six
  have hb : (rowsT r (i + 1)).length ≤ 46656 := Nat.le_trans (rowsT_len h6 (i + 1)) (Nat.le_trans (Nat.pow_le_pow_right (by decide) hi) (by decide))
  have gp := reas_good o.now
  refine w_for (xs := desks r) (enc := PyData.str) (S1 := S) (fun ds ρ S3 => S3 = S ∧ ∃ (acc2 : List TR) (a b : Slot), ρ = [.val (eRule r), .val (.str part), s2, s3, .ownd (ktab κI (fun s => costD r s part) kn), s5, .own (acc2.map (ePR r part)), .val (eStrs p.row), .val (tI p.now), .val (.int (wst r part p.pre)), a, b, s12] ∧ acc2 ++ (ds.filterMap (tOne r p) ++ lf.flatMap (tNext r)) = rowsT r (i + 1)) rfl (i_of (r_call (.val rfl .nil) (cal_desks N (k + 12) S r hr)) rfl) ⟨rfl, acc, _, _, rfl, ha⟩ ?_ ?_
  · rintro dk ds ρ S3 hd ⟨rfl, acc2, a, b, rfl, ha2⟩
    refine ⟨_, rfl, ?_⟩
    dsimp only [List.set_cons_zero, List.set_cons_succ]
    have hlen := congrArg List.length ha2
    rw [List.length_append] at hlen
    rw [List.filterMap_cons] at ha2
    have ht : tOne r p dk = (nxS r p.now dk).map fun t => ⟨p.row ++ [dk], p.pre ++ [p.now], t⟩ := rfl
    refine w_set (sl := .val (eOpt (nxS r p.now dk))) (S1 := S3) (k_val (r_call (as := [.d (eRule r), .d (tI p.now), .d (eEv ("sign", dk))]) (S1 := S3) (.val rfl (.val rfl (.e (fun i z => by cases z) (r_tup (.cons (ev_c _) (.cons (r_v rfl) .nil)) (by simp)) .nil))) (cal_aft N (k + 3) S3 r p.now ("sign", dk) hr gp))) rfl ?_
    dsimp only [List.set_cons_zero, List.set_cons_succ]
    cases q : nxS r p.now dk with
    | none =>
      rw [ht, q] at ha2
      exact w_ifF (S1 := S3) (r_cmp (x := .none) (.v rfl) (.e (fun i z => by cases z) (ev_c _)) rfl) (w_nil (thenQ_n (w_nil (turnQ_n ⟨rfl, acc2, _, _, rfl, ha2⟩))))
    | some t =>
      rw [ht, q] at ha2
      refine w_ifT (S1 := S3) (r_cmp (x := tI t) (.v rfl) (.e (fun i z => by cases z) (ev_c _)) rfl) ?_
      refine w_app (d := ePR r part ⟨p.row ++ [dk], p.pre ++ [p.now], t⟩) (S1 := S3) rfl ?_ (by rw [List.length_map]; omega) rfl ?_
      · refine r_tup (.cons (r_conv (r_tup (.star (.v rfl) rfl (.cons (r_v rfl) .nil)) (by simp only [List.length_append, List.length_map, List.length_singleton, o.row]; omega)) (d' := eStrs (p.row ++ [dk])) (by show PyData.tuple _ = .tuple (List.map _ (_ ++ _)); rw [List.map_append]; rfl)) (.cons (r_v rfl) (.cons (r_conv (r_bi2 (r_v rfl) (r_sub (S1 := S3) (.v rfl) (r_v rfl) (s_ktab (e := tI) (f := fun s => costD r s part) hin)) (by unfold costD; rw [c, if_pos rfl]; exact p_max _ _)) (by rw [wst_snoc])) .nil))) (by simp)
      dsimp only [List.set_cons_zero, List.set_cons_succ]
      refine w_nil (thenQ_n (w_nil (turnQ_n ⟨rfl, acc2 ++ [⟨p.row ++ [dk], p.pre ++ [p.now], t⟩], _, _, by rw [List.map_append (l₁ := acc2)]; rfl, ?_⟩)))
      rw [List.append_assoc]
      exact ha2
  · rintro ρ S3 ⟨rfl, acc2, a, b, rfl, ha2⟩
    exact w_nil (hQ acc2 _ _ ha2)
end Fw

set_option autoImplicit false
set_option linter.all false
set_option maxRecDepth 100000
set_option maxHeartbeats 400000
/-! the safest way -/
namespace Fw
open PySem L2
local macro_rules | `(tactic| walk_at "evC") => `(tactic| ((with_reducible show _ = _); with_reducible assumption))
local macro_rules | `(tactic| walk_at "evE") => `(tactic| first | with_reducible exact ev_c _ | with_reducible apply r_v | with_reducible apply r_call | with_reducible apply r_cmp | with_reducible apply r_sub | with_reducible apply r_bi | with_reducible apply r_bin | with_reducible apply r_tup | with_reducible apply r_lst | with_reducible apply r_comp | with_reducible apply r_comp0 | with_reducible apply r_not | with_reducible apply r_andN | with_reducible apply r_and1 | with_reducible apply r_orN | with_reducible apply r_or1 | with_reducible apply r_isi | with_reducible apply r_bi2 | with_reducible apply r_slc | with_reducible apply r_rev | with_reducible apply r_neg | with_reducible apply r_chain | with_reducible apply r_scr | with_reducible apply i_of | with_reducible apply i_enum' | with_reducible apply i_rng | with_reducible apply i_peek | with_reducible apply k_val | with_reducible apply k_own | with_reducible apply k_copy | with_reducible apply k_ref)
local macro_rules | `(tactic| walk_at "evO") => `(tactic| first | exact Args.nil | (apply Args.val; exact rfl) | (apply Args.ref; exact rfl) | apply args_e | (apply Opd.v; exact rfl) | apply opd_e | (apply opf_val; exact rfl) | (apply Opf.v; exact rfl) | apply opf_e | exact Evs.nil | apply Evs.cons | apply Evs.star | exact IxR'.no | apply IxR'.yes | (with_reducible apply compB_i; intro x hx; refine ⟨_, rfl, ?_, fun hp => ?_⟩) | (with_reducible apply compM_i; intro x hx; refine ⟨_, rfl, ?_⟩) | ((with_reducible show (_ = true → _ = some _)); intro) | ((with_reducible show (_ = false → _ = some _)); intro))
local macro_rules | `(tactic| walk_at "evP") => `(tactic| first | with_reducible exact c_eqI _ _ | with_reducible exact c_eqS _ _ | with_reducible exact c_neI _ _ | with_reducible exact c_neS _ _ | with_reducible exact c_ltI _ _ | with_reducible exact c_leI _ _ | with_reducible exact c_gtI _ _ | with_reducible exact c_geI _ _ | with_reducible exact c_eqB _ _ | with_reducible exact c_neB _ _ | with_reducible exact c_inT (e := PyData.int) (by decide) _ _ | with_reducible exact c_niT (e := PyData.int) (by decide) _ _ | with_reducible exact c_inL (e := PyData.int) (by decide) _ _ | with_reducible exact c_niL (e := PyData.int) (by decide) _ _ | with_reducible exact c_inT (e := PyData.str) (by decide) _ _ | with_reducible exact c_niT (e := PyData.str) (by decide) _ _ | with_reducible exact c_inL (e := PyData.str) (by decide) _ _ | with_reducible exact c_niL (e := PyData.str) (by decide) _ _ | with_reducible exact c_eqTm _ _ | with_reducible exact c_neTm _ _ | with_reducible exact c_eqLm _ _ | with_reducible exact c_neLm _ _ | with_reducible exact c_eqT (by decide) _ _ | with_reducible exact c_neT (by decide) _ _ | with_reducible exact c_eqL (by decide) _ _ | with_reducible exact c_neL (by decide) _ _ | with_reducible exact b_addI _ _ | with_reducible exact b_subI _ _ | with_reducible apply b_addT | with_reducible apply b_addL | with_reducible exact p_lenLm _ _ | with_reducible exact p_lenTm _ _ | with_reducible exact p_lenL _ | with_reducible exact p_lenT _ | with_reducible exact p_tupL _ | with_reducible exact p_tupT _ | with_reducible exact p_lstL _ | with_reducible exact p_lstT _ | with_reducible exact p_all _ _ | with_reducible exact p_any _ _ | with_reducible exact p_intI _ | with_reducible exact p_intB _ | with_reducible exact p_max _ _ | with_reducible exact p_min _ _ | ((with_reducible show subP _ _ = some _); exact rfl) | ((with_reducible show itemsOf _ = some _); exact rfl) | ((with_reducible show iterD _ = some _); exact rfl) | ((with_reducible show look _ _ _ = some _); exact rfl) | ((with_reducible show isV _ = false); exact rfl) | ((with_reducible show List.length _ ≤ 16777216); exact of_decide_eq_true rfl) | ((with_reducible show (_ : Option Slot) = some _); exact rfl))
local macro_rules | `(tactic| walk_at "evt1") => `(tactic| first | walk_at "evE" | walk_at "evO" | walk_at "evC" | walk_at "evP")
local macro_rules | `(tactic| walk_at "evt") => `(tactic| repeat' (walk_at "evt1"))
local macro_rules | `(tactic| walk_at "st1") => `(tactic| first | with_reducible apply w_set | with_reducible apply w_par | with_reducible apply w_par3 | with_reducible apply w_unp | with_reducible apply w_frz | with_reducible apply w_app | with_reducible apply w_ret | with_reducible apply w_nil | with_reducible apply thenQ_n | with_reducible apply thenQ_r | with_reducible apply turnQ_n | with_reducible apply turnQ_r | with_reducible apply fin1 | ((with_reducible show List.set _ _ _ = _); dsimp only [List.set_cons_zero, List.set_cons_succ]; try exact rfl) | ((with_reducible show bnd _ _ _ = some _); dsimp only [bnd, List.set_cons_zero, List.set_cons_succ]; try exact rfl) | ((with_reducible show bnd _ _ _ = some _); exact rfl) | ((with_reducible show freeze _ _ = _); exact rfl) | walk_at "evt1")
local macro_rules | `(tactic| walk_at "st") => `(tactic| repeat' (walk_at "st1"))
local macro_rules | `(tactic| walk_at "evC") => `(tactic| first | with_reducible apply cal_lmet | with_reducible apply cal_lmetL)
local macro_rules | `(tactic| walk_at "evC") => `(tactic| with_reducible apply s_step)
local macro_rules | `(tactic| walk_at "evC") => `(tactic| with_reducible apply cal_lready)
local macro_rules | `(tactic| walk_at "evC") => `(tactic| with_reducible apply cal_lnext)
local macro_rules | `(tactic| walk_at "evC") => `(tactic| first | with_reducible exact bi_sortL _ | with_reducible exact bi_sortT _)
local macro_rules | `(tactic| walk_at "evC") => `(tactic| with_reducible apply cal_lleft)
local macro_rules | `(tactic| walk_at "evC") => `(tactic| first | ((with_reducible apply of_self); with_reducible assumption) | exact Rule.Fit.ok (by assumption) | exact Good.filter (by assumption) _ | exact Good.inn (by assumption) _ (by assumption))
local macro_rules | `(tactic| walk_at "evC") => `(tactic| with_reducible exact cmp_isN _)
local macro_rules | `(tactic| walk_at "evC") => `(tactic| first | with_reducible exact cmp_isO _ | with_reducible apply b_snocI | with_reducible apply b_catLI)
local macro_rules | `(tactic| walk_at "evC") => `(tactic| with_reducible apply cal_aft)
local macro_rules | `(tactic| walk_at "evC") => `(tactic| with_reducible apply cal_levent)
local macro_rules | `(tactic| walk_at "evC") => `(tactic| with_reducible apply cal_fol)
local macro_rules | `(tactic| walk_at "evC") => `(tactic| with_reducible apply cal_ref)
local macro_rules | `(tactic| walk_at "evC") => `(tactic| with_reducible exact b_rep1 _)
local macro_rules | `(tactic| walk_at "evC") => `(tactic| with_reducible apply cal_lfol)
local macro_rules | `(tactic| walk_at "evC") => `(tactic| first | with_reducible apply p_sset | with_reducible exact p_srtL _ | with_reducible exact p_srtT _)
local macro_rules | `(tactic| walk_at "evC") => `(tactic| with_reducible apply cal_ldesks)
local macro_rules | `(tactic| walk_at "evC") => `(tactic| with_reducible apply cal_levs)
local macro_rules | `(tactic| walk_at "evC") => `(tactic| with_reducible apply cal_desks)
local macro_rules | `(tactic| walk_at "evC") => `(tactic| with_reducible apply cal_can)
local macro_rules | `(tactic| walk_at "evC") => `(tactic| with_reducible apply cal_first_way)
local macro_rules | `(tactic| walk_at "evC") => `(tactic| with_reducible apply cal_allev)
local macro_rules | `(tactic| walk_at "evC") => `(tactic| with_reducible apply cal_states)
local macro_rules | `(tactic| walk_at "evC") => `(tactic| with_reducible apply cal_reached)
local macro_rules | `(tactic| walk_at "evC") => `(tactic| with_reducible apply cal_lway)
local macro_rules | `(tactic| walk_at "evC") => `(tactic| with_reducible apply cal_fewest)
local macro_rules | `(tactic| walk_at "evC") => `(tactic| with_reducible apply cal_falls)
local macro_rules | `(tactic| walk_at "evC") => `(tactic| with_reducible apply cal_cost)
local macro_rules | `(tactic| walk_at "evC") => `(tactic| with_reducible apply cal_greatest)
local macro_rules | `(tactic| walk_at "evC") => `(tactic| with_reducible apply cal_along)
local macro_rules | `(tactic| walk_at "evC") => `(tactic| with_reducible apply cal_lcost)
local macro_rules | `(tactic| walk_at "evC") => `(tactic| with_reducible apply cal_lways)
theorem c_niK {f : List Int → Dt} (kn : List (List Int)) (x : List Int) : cmpP .NotIn (tI x) (.t (ktab κI f kn)) = some (!decide (x ∈ kn)) := by
  simp only [cmpP, TabE.key (e := tI), Option.map_some]
  by_cases h : x ∈ kn
  · rw [ktab_get (e := tI) (f := f) x h, decT h]; rfl
  · rw [ktab_none (e := tI) (f := f) x h, decF h]; rfl
theorem cal_safest (N k : Nat) (S : Sto) (r : Rule) (hr : r.Fit) (hN : 1000 ≤ N) (part : Str) (hp : part ∈ abc) : cal phi N (k + 14) 75 [.d (eRule r), .d (.str part)] S = some (eOptR (safest r part), S) := by
  have h6 := hr.six
  have big : ∀ i, i ≤ 6 → (rowsT r i).length ≤ 46656 := fun i hi => Nat.le_trans (rowsT_len h6 i) (Nat.le_trans (Nat.pow_le_pow_right (by decide) hi) (by decide))
  refine wp_eq (fn_safest_way ?_)
  refine w_set (sl := .val (eLen (fway r []))) (S1 := S) (k_val (r_call (.val rfl (.e (fun i z => by cases z) (r_tup .nil (by decide)) .nil)) (cal_fewest N (k + 1) S r hr hN [] good_nil))) rfl ?_
  dsimp only [List.set_cons_zero, List.set_cons_succ]
  have e1 := fway_no h6 (r := r) (st := []) .nil
  unfold safest
  cases q : fway r [] with
  | none => exact w_ifT (S1 := S) (r_cmp (x := eLen none) (.v rfl) (.e (fun i z => by cases z) (ev_c _)) rfl) (w_ret (ev_c _) (thenQ_r (fin1 rfl)))
  | some row0 =>
    rw [q] at e1
    have c : canEnd r = true := by cases c : canEnd r with | false => rw [c] at e1; cases e1 | true => rfl
    have hl := fway_len6 h6 good_nil q
    have hne := ways_ne q
    obtain ⟨n, hn⟩ : ∃ n, row0.length = n := ⟨_, rfl⟩
    rw [show eLen (some row0) = .int (n : Int) by rw [← hn]; rfl]
    rw [hn] at hl hne
    simp only [hn]
    refine w_ifF (S1 := S) (r_cmp (x := .int (n : Int)) (.v rfl) (.e (fun i z => by cases z) (ev_c _)) rfl) (w_nil (thenQ_n ?_))
    refine w_par (sl := .val (.list ((rowsT r 0).map (ePR r part)))) (sl2 := .ownd (ktab κI (fun s => costD r s part) [])) (S1 := S) (S2 := S) (k_val (r_lst (.cons (r_tup (.cons (r_tup (ds := []) .nil (by simp)) (.cons (r_tup (ds := []) .nil (by simp)) (.cons (ev_c _) .nil))) (by simp)) .nil) (by simp [rowsT]))) k_tab rfl ?_
    dsimp only [List.set_cons_zero, List.set_cons_succ]
    refine w_for (xs := List.range n) (enc := fun (i : Nat) => .int (i : Int)) (S1 := S) (fun left ρ S' => S' = S ∧ ∃ (i : Nat) (kn : List (List Int)) (a b c d e f g h : Slot), ρ = [.val (eRule r), .val (.str part), .val (.int (n : Int)), .val (.list ((rowsT r i).map (ePR r part))), .ownd (ktab κI (fun s => costD r s part) kn), a, b, c, d, e, f, g, h] ∧ i + left.length = n ∧ KOk r kn) rfl (i_rng (r_v rfl) (by omega)) ⟨rfl, 0, [], _, _, _, _, _, _, _, _, rfl, by simp, ⟨List.nodup_nil, fun s hs => by cases hs⟩⟩ ?_ ?_
    · rintro j left ρ S' hj ⟨rfl, i, kn, a, b, c', d, e, f, g, h, rfl, hi, hk⟩
      rw [List.length_cons] at hi
      refine ⟨_, rfl, ?_⟩
      dsimp only [List.set_cons_zero, List.set_cons_succ]
      refine w_set (k_own .nil (by decide)) rfl ?_
      dsimp only [List.set_cons_zero, List.set_cons_succ]
      refine w_for (xs := rowsT r i) (enc := ePR r part) (S1 := S') (fun lf ρ S2 => S2 = S' ∧ ∃ (acc : List TR) (kn : List (List Int)) (c d e f g : Slot), ρ = [.val (eRule r), .val (.str part), .val (.int (n : Int)), .val (.list ((rowsT r i).map (ePR r part))), .ownd (ktab κI (fun s => costD r s part) kn), .val (.int (j : Int)), .own (acc.map (ePR r part)), c, d, e, f, g, h] ∧ acc ++ lf.flatMap (tNext r) = rowsT r (i + 1) ∧ (∀ p ∈ lf, TOk r i p) ∧ KOk r kn) rfl (i_of (r_v rfl) rfl) ⟨rfl, [], kn, _, _, _, _, _, rfl, rfl, rowsT_ok i, hk⟩ ?_ ?_
      · rintro p lf ρ S2 hpm ⟨rfl, acc, kn, c1, d, e, f, g, rfl, ha, ho, hk⟩
        refine ⟨_, rfl, ?_⟩
        dsimp only [List.set_cons_zero, List.set_cons_succ]
        have o := ho p List.mem_cons_self
        have hkl := hk.few h6
        rw [List.flatMap_cons] at ha
        refine w_if (S1 := S2) (r_cmp (x := tI p.now) (.v rfl) (.v rfl) (c_niK kn p.now)) (fun hc => ?_) (fun hc => ?_)
        · have hn : p.now ∉ kn := by simpa using hc
          refine w_putD (d := costD r p.now part) (y := tI p.now) (S1 := S2) (S2 := S2) (r_call (.val rfl (.val rfl (.val rfl .nil))) (cal_cost N k S2 r hr hN p.now o.now part hp)) (r_v rfl) rfl (TabE.key (e := tI) _) (by rw [List.length_map]; omega) rfl ?_
          rw [ktab_put (e := tI) (f := fun s => costD r s part) hn]
          dsimp only [List.set_cons_zero, List.set_cons_succ]
          have hk' : KOk r (kn ++ [p.now]) := ⟨by
            rw [List.nodup_append]
            exact ⟨hk.nd, List.nodup_cons.mpr ⟨by simp, List.nodup_nil⟩, fun a ha b hb e => by rw [List.mem_singleton] at hb; rw [e, hb] at ha; exact hn ha⟩, fun s hs => by
            rcases List.mem_append.mp hs with z | z
            · exact hk.rea s z
            · rw [List.mem_singleton] at z; rw [z]; exact o.now⟩
          exact w_nil (thenQ_n (safest_desks N k S2 r hr hN part c i (by omega) p lf o acc (kn ++ [p.now]) hk' (List.mem_append_right _ List.mem_cons_self) ha _ _ _ _ _ _ fun acc2 a b h2 => turnQ_n ⟨rfl, acc2, _, _, _, _, _, _, rfl, h2, fun q hq => ho q (List.mem_cons_of_mem _ hq), hk'⟩))
        · have hn : p.now ∈ kn := by simpa using hc
          exact w_nil (thenQ_n (safest_desks N k S2 r hr hN part c i (by omega) p lf o acc kn hk hn ha _ _ _ _ _ _ fun acc2 a b h2 => turnQ_n ⟨rfl, acc2, _, _, _, _, _, _, rfl, h2, fun q hq => ho q (List.mem_cons_of_mem _ hq), hk⟩))
      · rintro ρ S2 ⟨rfl, acc, kn, c1, d, e, f, g, rfl, ha, ho, hk⟩
        rw [List.flatMap_nil, List.append_nil] at ha
        subst ha
        refine w_frz (ρ' := [.val (eRule r), .val (.str part), .val (.int (n : Int)), .val (.list ((rowsT r i).map (ePR r part))), .ownd (ktab κI (fun s => costD r s part) kn), .val (.int (j : Int)), .val (.list ((rowsT r (i + 1)).map (ePR r part))), c1, d, e, f, g, h]) rfl ?_
        refine w_set (k_val (r_v rfl)) rfl ?_
        dsimp only [List.set_cons_zero, List.set_cons_succ]
        exact w_nil (turnQ_n ⟨rfl, i + 1, kn, _, _, _, _, _, _, _, _, rfl, by omega, hk⟩)
    · rintro ρ S' ⟨rfl, i, kn, a, b, c', d, e, f, g, h, rfl, hi, hk⟩
      rw [List.length_nil, Nat.add_zero] at hi
      subst hi
      refine w_set (sl := .val (.list ((ways r i).map (eWR r part)))) (S1 := S') (k_val (r_comp (xs := rowsT r i) (enc := ePR r part) (p := fun p => met r.2 p.now) (h := eWR r part) (i_of (r_v rfl) rfl) (compB_i fun p hp => ⟨_, rfl, r_call (.val rfl (.val rfl .nil)) (cal_ended N (k + 11) S' r p.now hr.ok), fun _ => r_tup (.cons (r_v rfl) (.cons (r_v rfl) .nil)) (by simp)⟩) (by have := big i hl; omega))) rfl ?_
      dsimp only [List.set_cons_zero, List.set_cons_succ]
      cases hw : ways r i with
      | nil => exact absurd hw hne
      | cons p ps =>
        have hasc : (p :: ps).Pairwise (fun p q => rl p.row q.row = true) := by rw [← hw]; exact (rowsT_asc r i).filter _
        exact w_ret (r_sub (S1 := S') (.e (fun i z => by cases z) (r_bi (.v rfl) (p_minW r part hasc))) (ev_c _) rfl) (fin1 rfl)
end Fw

set_option autoImplicit false
set_option linter.all false
set_option maxRecDepth 100000
set_option maxHeartbeats 400000
/-! what can be reckoned of an example -/
namespace Fw
open PySem L2
theorem cmp_isNotLen (o : Option (List Str)) : cmpP .IsNot (eLen o) (.d .none) = some (!o.isNone) := by cases o <;> rfl
def levC' (r : Rule) : List Ev := (r.1.flatMap fun s => ([("sign", s.1), ("back", s.1)] : List Ev)) ++ changes
theorem levs_C' {r : Rule} {e : Ev} (h : e ∈ levs [r]) : e ∈ levC' r := by
  unfold levs at h
  unfold levC'
  rcases List.mem_append.mp (mem_uset.mp h) with z | z
  · refine List.mem_append_left _ ?_
    obtain ⟨r', h1, h2⟩ := List.mem_flatMap.mp z
    rw [List.mem_singleton] at h1
    subst h1
    unfold deskEvs desks at h2
    obtain ⟨d, h3, h4⟩ := List.mem_flatMap.mp h2
    obtain ⟨s, h5, rfl⟩ := List.mem_map.mp (mem_uset.mp h3)
    exact List.mem_flatMap.mpr ⟨s, h5, h4⟩
  · exact List.mem_append_right _ z
theorem sts_eq' {r : Rule} {kn : List (List Int)} (hs : srt tI kn = kn) (nd : kn.Nodup) (h0 : [] ∈ kn) (h1 : ∀ s ∈ kn, Reas r s) (h2 : ∀ s ∈ kn, ∀ e ∈ levC' r, (aftC r s e).getD s ∈ kn) : sts r = kn := by
  rw [← sts_of nd fun s => ⟨h1 s, fun h => ?_⟩, hs]
  induction h with
  | nil => exact h0
  | step _ hl ih =>
    have := h2 _ ih _ (levs_C' hl)
    unfold nxT
    rw [aft_C]
    exact this
theorem reas_step {r : Rule} {s t : List Int} {d : Str} (h : Reas r s) (hd : d ∈ r.1.map fun s => s.1) (e : (aftC r s ("sign", d)).getD s = t) : Reas r t := by
  have q := Rea.step h (sign_levs' (r := r) (d := d) (by unfold desks; exact mem_uset.mpr hd))
  unfold nxT at q
  rw [aft_C, e] at q
  exact q
def nxC' (r : Rule) (st : List Int) (d : Str) : Option (List Int) := aftC r st ("sign", d)
theorem fway_C' (r : Rule) (ds : List Str) (h : desks r = ds) (st : List Int) : fway r st = bfs (nxC' r) (fun s => met r.2 s) ds 100 [st] [([], st)] := by
  unfold fway
  rw [h]
  congr 1
  funext s d
  exact aft_C r s _
def wvC (r : Rule) (ds : List Str) (st : List Int) : Int := (((bfs (nxC' r) (fun s => met r.2 s) ds 100 [st] [([], st)]).getD []).length : Int)
theorem wv_C {r : Rule} {ds : List Str} (h : desks r = ds) (st : List Int) : wv r st = wvC r ds st := by unfold wv wvC; rw [fway_C' r ds h]
theorem chg_C (r : Rule) (st : List Int) (p : Str) : chg r st p = (aftC r st ("change", p)).getD st := by unfold chg nxT; rw [aft_C]
theorem cost_C {r : Rule} {ds : List Str} (h : desks r = ds) (st : List Int) (p : Str) : costV r st p = wvC r ds ((aftC r st ("change", p)).getD st) - wvC r ds st := by unfold costV; rw [wv_C h, wv_C h, chg_C]
theorem depth_cost (r : Rule) (st : List Int) (p : Str) : PyData.depth (costD r st p) ≤ 8 := by unfold costD; split <;> simp [PyData.depth]
theorem nice_cost (r : Rule) (st : List Int) (p : Str) : nice (costD r st p) = true := by unfold costD; split <;> rfl
theorem can_C {r : Rule} {ds : List Str} (h6 : r.1.length ≤ 6) (h : desks r = ds) (e : (bfs (nxC' r) (fun s => met r.2 s) ds 100 [[]] [([], [])]).isNone = false) : canEnd r = true := by
  have q := fway_no h6 (r := r) (st := []) .nil
  rw [fway_C' r _ h, e] at q
  cases c : canEnd r with
  | true => rfl
  | false => rw [c] at q; cases q
end Fw

set_option autoImplicit false
set_option linter.all false
set_option maxRecDepth 100000
set_option maxHeartbeats 400000
/-! law k11 -/
namespace Fw
open PySem L2
local macro_rules | `(tactic| walk_at "evC") => `(tactic| ((with_reducible show _ = _); with_reducible assumption))
local macro_rules | `(tactic| walk_at "evE") => `(tactic| first | with_reducible exact ev_c _ | with_reducible apply r_v | with_reducible apply r_call | with_reducible apply r_cmp | with_reducible apply r_sub | with_reducible apply r_bi | with_reducible apply r_bin | with_reducible apply r_tup | with_reducible apply r_lst | with_reducible apply r_comp | with_reducible apply r_comp0 | with_reducible apply r_not | with_reducible apply r_andN | with_reducible apply r_and1 | with_reducible apply r_orN | with_reducible apply r_or1 | with_reducible apply r_isi | with_reducible apply r_bi2 | with_reducible apply r_slc | with_reducible apply r_rev | with_reducible apply r_neg | with_reducible apply r_chain | with_reducible apply r_scr | with_reducible apply i_of | with_reducible apply i_enum' | with_reducible apply i_rng | with_reducible apply i_peek | with_reducible apply k_val | with_reducible apply k_own | with_reducible apply k_copy | with_reducible apply k_ref)
local macro_rules | `(tactic| walk_at "evO") => `(tactic| first | exact Args.nil | (apply Args.val; exact rfl) | (apply Args.ref; exact rfl) | apply args_e | (apply Opd.v; exact rfl) | apply opd_e | (apply opf_val; exact rfl) | (apply Opf.v; exact rfl) | apply opf_e | exact Evs.nil | apply Evs.cons | apply Evs.star | exact IxR'.no | apply IxR'.yes | (with_reducible apply compB_i; intro x hx; refine ⟨_, rfl, ?_, fun hp => ?_⟩) | (with_reducible apply compM_i; intro x hx; refine ⟨_, rfl, ?_⟩) | ((with_reducible show (_ = true → _ = some _)); intro) | ((with_reducible show (_ = false → _ = some _)); intro))
local macro_rules | `(tactic| walk_at "evP") => `(tactic| first | with_reducible exact c_eqI _ _ | with_reducible exact c_eqS _ _ | with_reducible exact c_neI _ _ | with_reducible exact c_neS _ _ | with_reducible exact c_ltI _ _ | with_reducible exact c_leI _ _ | with_reducible exact c_gtI _ _ | with_reducible exact c_geI _ _ | with_reducible exact c_eqB _ _ | with_reducible exact c_neB _ _ | with_reducible exact c_inT (e := PyData.int) (by decide) _ _ | with_reducible exact c_niT (e := PyData.int) (by decide) _ _ | with_reducible exact c_inL (e := PyData.int) (by decide) _ _ | with_reducible exact c_niL (e := PyData.int) (by decide) _ _ | with_reducible exact c_inT (e := PyData.str) (by decide) _ _ | with_reducible exact c_niT (e := PyData.str) (by decide) _ _ | with_reducible exact c_inL (e := PyData.str) (by decide) _ _ | with_reducible exact c_niL (e := PyData.str) (by decide) _ _ | with_reducible exact c_eqTm _ _ | with_reducible exact c_neTm _ _ | with_reducible exact c_eqLm _ _ | with_reducible exact c_neLm _ _ | with_reducible exact c_eqT (by decide) _ _ | with_reducible exact c_neT (by decide) _ _ | with_reducible exact c_eqL (by decide) _ _ | with_reducible exact c_neL (by decide) _ _ | with_reducible exact b_addI _ _ | with_reducible exact b_subI _ _ | with_reducible apply b_addT | with_reducible apply b_addL | with_reducible exact p_lenLm _ _ | with_reducible exact p_lenTm _ _ | with_reducible exact p_lenL _ | with_reducible exact p_lenT _ | with_reducible exact p_tupL _ | with_reducible exact p_tupT _ | with_reducible exact p_lstL _ | with_reducible exact p_lstT _ | with_reducible exact p_all _ _ | with_reducible exact p_any _ _ | with_reducible exact p_intI _ | with_reducible exact p_intB _ | with_reducible exact p_max _ _ | with_reducible exact p_min _ _ | ((with_reducible show subP _ _ = some _); exact rfl) | ((with_reducible show itemsOf _ = some _); exact rfl) | ((with_reducible show iterD _ = some _); exact rfl) | ((with_reducible show look _ _ _ = some _); exact rfl) | ((with_reducible show isV _ = false); exact rfl) | ((with_reducible show List.length _ ≤ 16777216); exact of_decide_eq_true rfl) | ((with_reducible show (_ : Option Slot) = some _); exact rfl))
local macro_rules | `(tactic| walk_at "evt1") => `(tactic| first | walk_at "evE" | walk_at "evO" | walk_at "evC" | walk_at "evP")
local macro_rules | `(tactic| walk_at "evt") => `(tactic| repeat' (walk_at "evt1"))
local macro_rules | `(tactic| walk_at "st1") => `(tactic| first | with_reducible apply w_set | with_reducible apply w_par | with_reducible apply w_par3 | with_reducible apply w_unp | with_reducible apply w_frz | with_reducible apply w_app | with_reducible apply w_ret | with_reducible apply w_nil | with_reducible apply thenQ_n | with_reducible apply thenQ_r | with_reducible apply turnQ_n | with_reducible apply turnQ_r | with_reducible apply fin1 | ((with_reducible show List.set _ _ _ = _); dsimp only [List.set_cons_zero, List.set_cons_succ]; try exact rfl) | ((with_reducible show bnd _ _ _ = some _); dsimp only [bnd, List.set_cons_zero, List.set_cons_succ]; try exact rfl) | ((with_reducible show bnd _ _ _ = some _); exact rfl) | ((with_reducible show freeze _ _ = _); exact rfl) | walk_at "evt1")
local macro_rules | `(tactic| walk_at "st") => `(tactic| repeat' (walk_at "st1"))
local macro_rules | `(tactic| walk_at "evC") => `(tactic| first | with_reducible apply cal_lmet | with_reducible apply cal_lmetL)
local macro_rules | `(tactic| walk_at "evC") => `(tactic| with_reducible apply s_step)
local macro_rules | `(tactic| walk_at "evC") => `(tactic| with_reducible apply cal_lready)
local macro_rules | `(tactic| walk_at "evC") => `(tactic| with_reducible apply cal_lnext)
local macro_rules | `(tactic| walk_at "evC") => `(tactic| first | with_reducible exact bi_sortL _ | with_reducible exact bi_sortT _)
local macro_rules | `(tactic| walk_at "evC") => `(tactic| with_reducible apply cal_lleft)
local macro_rules | `(tactic| walk_at "evC") => `(tactic| first | ((with_reducible apply of_self); with_reducible assumption) | exact Rule.Fit.ok (by assumption) | exact Good.filter (by assumption) _ | exact Good.inn (by assumption) _ (by assumption))
local macro_rules | `(tactic| walk_at "evC") => `(tactic| with_reducible exact cmp_isN _)
local macro_rules | `(tactic| walk_at "evC") => `(tactic| first | with_reducible exact cmp_isO _ | with_reducible apply b_snocI | with_reducible apply b_catLI)
local macro_rules | `(tactic| walk_at "evC") => `(tactic| with_reducible apply cal_aft)
local macro_rules | `(tactic| walk_at "evC") => `(tactic| with_reducible apply cal_levent)
local macro_rules | `(tactic| walk_at "evC") => `(tactic| with_reducible apply cal_fol)
local macro_rules | `(tactic| walk_at "evC") => `(tactic| with_reducible apply cal_ref)
local macro_rules | `(tactic| walk_at "evC") => `(tactic| with_reducible exact b_rep1 _)
local macro_rules | `(tactic| walk_at "evC") => `(tactic| with_reducible apply cal_lfol)
local macro_rules | `(tactic| walk_at "evC") => `(tactic| first | with_reducible apply p_sset | with_reducible exact p_srtL _ | with_reducible exact p_srtT _)
local macro_rules | `(tactic| walk_at "evC") => `(tactic| with_reducible apply cal_ldesks)
local macro_rules | `(tactic| walk_at "evC") => `(tactic| with_reducible apply cal_levs)
local macro_rules | `(tactic| walk_at "evC") => `(tactic| with_reducible apply cal_desks)
local macro_rules | `(tactic| walk_at "evC") => `(tactic| with_reducible apply cal_can)
local macro_rules | `(tactic| walk_at "evC") => `(tactic| with_reducible apply cal_first_way)
local macro_rules | `(tactic| walk_at "evC") => `(tactic| with_reducible apply cal_allev)
local macro_rules | `(tactic| walk_at "evC") => `(tactic| with_reducible apply cal_states)
local macro_rules | `(tactic| walk_at "evC") => `(tactic| with_reducible apply cal_reached)
local macro_rules | `(tactic| walk_at "evC") => `(tactic| with_reducible apply cal_lway)
local macro_rules | `(tactic| walk_at "evC") => `(tactic| with_reducible apply cal_fewest)
local macro_rules | `(tactic| walk_at "evC") => `(tactic| with_reducible apply cal_falls)
local macro_rules | `(tactic| walk_at "evC") => `(tactic| with_reducible apply cal_cost)
local macro_rules | `(tactic| walk_at "evC") => `(tactic| with_reducible apply cal_greatest)
local macro_rules | `(tactic| walk_at "evC") => `(tactic| with_reducible apply cal_along)
local macro_rules | `(tactic| walk_at "evC") => `(tactic| with_reducible apply cal_lcost)
local macro_rules | `(tactic| walk_at "evC") => `(tactic| with_reducible apply cal_lways)
theorem abc_at : ∀ {u : Nat}, (u : Int) < 3 → ∃ p ∈ abc, subP (.d (.str "abc")) (.int (u : Int)) = some (.str p)
  | 0, _ => ⟨"a", by decide, rfl⟩
  | 1, _ => ⟨"b", by decide, rfl⟩
  | 2, _ => ⟨"c", by decide, rfl⟩
  | u + 3, h => absurd h (by omega)
def eBst (r : Rule) (part : Str) : Option TR → Dt
  | none => .none
  | some b => eWR r part b
def bsO (r : Rule) (part : Str) (o : Option TR) (p : TR) : Option TR := some (match o with | none => p | some b => bst r part b p)
theorem bsO_some (r : Rule) (part : Str) : ∀ (ps : List TR) (b : TR), ps.foldl (bsO r part) (some b) = some (ps.foldl (bst r part) b)
  | [], _ => rfl
  | p :: ps, b => by rw [List.foldl_cons, List.foldl_cons]; exact bsO_some r part ps _
theorem rowsT_desks {r : Rule} : ∀ n, ∀ p ∈ rowsT r n, ∀ d ∈ p.row, d ∈ desks r
  | 0, p, h => by rw [rowsT, List.mem_singleton] at h; subst h; intro d hd; cases hd
  | n + 1, p, h => by
    rw [rowsT] at h
    obtain ⟨q, h1, h2⟩ := List.mem_flatMap.mp h
    obtain ⟨d, h3, h4⟩ := List.mem_filterMap.mp h2
    unfold tOne at h4
    rw [Option.map_eq_some_iff] at h4
    obtain ⟨t, h5, rfl⟩ := h4
    intro e he
    rcases List.mem_append.mp he with z | z
    · exact rowsT_desks n q h1 e z
    · rw [List.mem_singleton] at z; rw [z]; exact h3
theorem slc_init {ds : List Dt} {d : Dt} : slcD (.list (ds ++ [d])) none (some (-1)) = some (.list ds) := by
  have e : HT.sIx (ds ++ [d]).length (ds ++ [d]).length (some (-1)) = ds.length := by
    show (if (-1 : Int) < 0 then ((-1 : Int) + ((ds ++ [d]).length : Int)).toNat else min (Int.toNat (-1)) (ds ++ [d]).length) = _
    rw [if_pos (by decide), List.length_append, List.length_singleton]
    omega
  simp only [slcD, cutD, HT.sIx_none, e, List.drop_zero, Nat.sub_zero]
  rw [List.take_left]
/-! the example -/
def tOneC (r : Rule) (p : TR) (d : Str) : Option TR := (nxC' r p.now d).map fun t => ⟨p.row ++ [d], p.pre ++ [p.now], t⟩
def rowsC (r : Rule) (ds : List Str) : Nat → List TR
  | 0 => [⟨[], [], []⟩]
  | n + 1 => (rowsC r ds n).flatMap fun p => ds.filterMap (tOneC r p)
theorem rows_C {r : Rule} {ds : List Str} (h : desks r = ds) : ∀ n, rowsT r n = rowsC r ds n
  | 0 => rfl
  | n + 1 => by
    rw [rowsT, rowsC, rows_C h n]
    congr 1
    funext p
    unfold tNext
    rw [h]
    congr 1
    funext d
    unfold tOne tOneC
    rw [show nxS r p.now d = nxC' r p.now d from aft_C r p.now _]
def wstC (r : Rule) (ds : List Str) (part : Str) (pre : List (List Int)) : Int := maxL (0 :: pre.map fun s => wvC r ds ((aftC r s ("change", part)).getD s) - wvC r ds s)
theorem wst_C {r : Rule} {ds : List Str} (h : desks r = ds) (part : Str) (pre : List (List Int)) : wst r part pre = wstC r ds part pre := by
  unfold wst wstC
  congr 2
  exact List.map_congr_left fun s _ => cost_C h s part
def bstC (r : Rule) (ds : List Str) (part : Str) (a b : TR) : TR := if wstC r ds part b.pre < wstC r ds part a.pre then b else a
def safestC (r : Rule) (ds : List Str) (part : Str) : Option (List Str) := match bfs (nxC' r) (fun s => met r.2 s) ds 100 [[]] [([], [])] with
  | none => none
  | some row => match (rowsC r ds row.length).filter fun p => met r.2 p.now with
    | [] => none
    | p :: ps => some (ps.foldl (bstC r ds part) p).row
theorem safest_C {r : Rule} {ds : List Str} (h : desks r = ds) (part : Str) : safest r part = safestC r ds part := by
  have e : bst r part = bstC r ds part := by
    funext a b
    unfold bst bstC
    rw [wst_C h, wst_C h]
  unfold safest safestC ways
  rw [fway_C' r ds h, e]
  simp only [rows_C h] <;> rfl
def ex11 : Rule := ([("x", [], ["a"]), ("y", [], [])], [(2, [0, 1])])
theorem ex11_fit : ex11.Fit := ⟨⟨by decide, by decide, by decide⟩, by decide⟩
theorem ex11_desks : desks ex11 = (["x", "y"] : List Str) := by
  have e : dd (ex11.1.map fun s => s.1) = (["x", "y"] : List Str) := by decide
  unfold desks uset
  rw [e]
  exact List.mergeSort_of_pairwise (by decide +kernel)
theorem ex11_can : canEnd ex11 = true := can_C ex11_fit.six ex11_desks (by decide +kernel)
theorem ex11_safe : safest ex11 "a" = some (["y", "x"] : List Str) := by
  rw [safest_C ex11_desks]
  decide +kernel
theorem ex11_cost (s : List Int) : costD ex11 s "a" = .int (wvC ex11 (["x", "y"] : List Str) ((aftC ex11 s ("change", "a")).getD s) - wvC ex11 (["x", "y"] : List Str) s) := by
  unfold costD
  rw [ex11_can, if_pos rfl, cost_C ex11_desks]
theorem ex11_costs : (([[], [0], [0, 1]] : List (List Int)).map fun s => costD ex11 s "a") = [.int 0, .int 1, .int 1] := by
  simp only [List.map_cons, List.map_nil, ex11_cost]
  have e1 : wvC ex11 (["x", "y"] : List Str) ((aftC ex11 [] ("change", "a")).getD []) - wvC ex11 (["x", "y"] : List Str) [] = 0 := by decide +kernel
  have e2 : wvC ex11 (["x", "y"] : List Str) ((aftC ex11 [0] ("change", "a")).getD [0]) - wvC ex11 (["x", "y"] : List Str) [0] = 1 := by decide +kernel
  have e3 : wvC ex11 (["x", "y"] : List Str) ((aftC ex11 [0, 1] ("change", "a")).getD [0, 1]) - wvC ex11 (["x", "y"] : List Str) [0, 1] = 1 := by decide +kernel
  rw [e1, e2, e3]
theorem ex11_trs : trs ex11 [] (["x", "y"] : List Str) = some [[0], [0, 1]] := by
  have e1 : nxS ex11 [] "x" = some [0] := by
    rw [show nxS ex11 [] "x" = nxC' ex11 [] "x" from aft_C ex11 [] _]; decide +kernel
  have e2 : nxS ex11 [0] "y" = some [0, 1] := by
    rw [show nxS ex11 [0] "y" = nxC' ex11 [0] "y" from aft_C ex11 [0] _]; decide +kernel
  simp only [trs, e1, e2, Option.bind_some, Option.map_some]
set_option maxHeartbeats 4000000 in
theorem law_k11 (N : Nat) (hN : 1000 ≤ N) (ns : List Int) : ∃ S, cal phi N 200 78 [.s ns] [] = some (.bool true, S) := by
  suffices h : Wp (cal phi N 200 78 [.s ns] []) fun q => q.1 = .bool true by
    obtain ⟨⟨d, S⟩, h1, rfl⟩ := h
    exact ⟨S, h1⟩
  refine w_fn (k := 199) (fn := ⟨1, 14, b_law_v11⟩) rfl rfl ?_
  show Wp (xcs _ _ b_law_v11 [.scr ns, .un, .un, .un, .un, .un, .un, .un, .un, .un, .un, .un, .un, .un] []) _
  refine w_set (sl := .ref 0) (S1 := [tpO ⟨ns, 0, 0, by decide, by decide⟩]) (k_ref (.cons (r_scr rfl) (.cons (ev_c _) (.cons (ev_c _) .nil))) (by simp)) rfl ?_
  refine w_for (xs := List.range 8) (enc := fun (i : Nat) => .int (i : Int)) (S1 := [tpO ⟨ns, 0, 0, by decide, by decide⟩]) (fun left ρ S => ∃ (t : Tape) (a b c d e f g h i j k l : Slot), S = [tpO t] ∧ ρ = [.scr ns, .ref 0, a, b, c, d, e, f, g, h, i, j, k, l]) rfl (i_rng (ev_c _) (by decide)) ⟨_, _, _, _, _, _, _, _, _, _, _, _, _, rfl, rfl⟩ ?_ ?_
  · rintro i0 ys ρ S hi ⟨t, a, b, c, d, e, f, g, h, i, j, k, l, rfl, rfl⟩
    refine ⟨_, rfl, ?_⟩
    dsimp only [List.set_cons_zero, List.set_cons_succ]
    obtain ⟨_, hc, r, t1, rfl, rd⟩ := wp_rule N 195 [] t 5 (by decide) (by decide)
    have fit := rd.fit (by decide)
    have h6 := fit.six
    have hsl := sts_len h6
    have hnd : (sts r).Nodup := uset_nodup
    obtain ⟨u, t2, hu, hcu⟩ := draw_i N 198 [] t1 3 (by omega) (by omega)
    obtain ⟨part, hp, hsp⟩ := abc_at hu
    refine w_par (sl := .val (eRule r)) (sl2 := .val (.str part)) (S1 := [tpO t1]) (S2 := [tpO t2]) (k_val (r_call (.ref rfl (.e (fun i z => by cases z) (ev_c _) .nil)) hc)) (k_val (r_sub (S1 := [tpO t1]) (.e (fun i z => by cases z) (ev_c _)) (r_call (.ref rfl (.e (fun i z => by cases z) (ev_c _) .nil)) hcu) hsp)) rfl ?_
    dsimp only [List.set_cons_zero, List.set_cons_succ]
    clear hc hcu
    refine w_set (sl := .val (eOptR (fway r []))) (S1 := [tpO t2]) (k_val (r_call (.val rfl (.e (fun i z => by cases z) (r_tup .nil (by decide)) .nil)) (cal_lway N 188 [tpO t2] r fit hN [] good_nil))) rfl ?_
    dsimp only [List.set_cons_zero, List.set_cons_succ]
    have hsafe := cal_safest N 185 [tpO t2] r fit hN part hp
    have e1 := fway_no h6 (r := r) (st := []) .nil
    unfold safest at hsafe
    cases q : fway r [] with
    | none =>
      rw [q] at hsafe
      refine w_ifT (S1 := [tpO t2]) (r_cmp (x := eOptR none) (.v rfl) (.e (fun i z => by cases z) (ev_c _)) rfl) ?_
      refine w_ifF (S1 := [tpO t2]) (r_cmp (x := eOptR none) (.e (fun i z => by cases z) (r_call (.val rfl (.val rfl .nil)) hsafe)) (.e (fun i z => by cases z) (ev_c _)) rfl) ?_
      exact w_nil (thenQ_n (w_nil (thenQ_n (w_nil (turnQ_n ⟨t2, _, _, _, _, _, _, _, _, _, _, _, _, rfl, rfl⟩)))))
    | some row0 =>
      rw [q] at e1 hsafe
      have c0 : canEnd r = true := by cases c : canEnd r with | false => rw [c] at e1; cases e1 | true => rfl
      have hl := fway_len6 h6 good_nil q
      have hne := ways_ne q
      have hsafe : cal phi N 199 75 [.d (eRule r), .d (.str part)] [tpO t2] = some (eOptR (match ways r row0.length with
        | [] => none
        | p :: ps => some (ps.foldl (bst r part) p).row), [tpO t2]) := hsafe
      obtain ⟨n, hn⟩ : ∃ n, row0.length = n := ⟨_, rfl⟩
      rw [hn] at hl hne hsafe
      refine w_ifF (S1 := [tpO t2]) (r_cmp (x := eStrs row0) (.v rfl) (.e (fun i z => by cases z) (ev_c _)) rfl) ?_
      refine w_par (sl := .val .none) (sl2 := .ownd (ktab κI (fun s => costD r s part) [])) (S1 := [tpO t2]) (S2 := [tpO t2]) (k_val (ev_c _)) k_tab rfl ?_
      dsimp only [List.set_cons_zero, List.set_cons_succ]
      refine w_for (xs := sts r) (enc := tI) (S1 := [tpO t2]) (fun left ρ S => S = [tpO t2] ∧ ∃ (kn : List (List Int)) (f : Slot), ρ = [.scr ns, .ref 0, .val (.int (i0 : Int)), .val (eRule r), .val (.str part), .val (eStrs row0), .val .none, .ownd (ktab κI (fun s => costD r s part) kn), f, h, i, j, k, l] ∧ kn ++ left = sts r) rfl (i_of (r_call (.val rfl .nil) (cal_reached N 187 [tpO t2] r fit hN)) rfl) ⟨rfl, [], _, rfl, rfl⟩ ?_ ?_
      · rintro s left ρ S hs ⟨rfl, kn, f, rfl, hk⟩
        refine ⟨_, rfl, ?_⟩
        dsimp only [List.set_cons_zero, List.set_cons_succ]
        have rs := mem_sts.mp (show s ∈ sts r by rw [← hk]; exact List.mem_append_right _ List.mem_cons_self)
        have hkl : kn.length ≤ 64 := by have := congrArg List.length hk; rw [List.length_append] at this; omega
        have hni : s ∉ kn := fun z => by
          rw [← hk] at hnd
          exact (List.nodup_append.mp hnd).2.2 s z s List.mem_cons_self rfl
        refine w_putD (d := costD r s part) (y := tI s) (S1 := [tpO t2]) (S2 := [tpO t2]) (r_call (.val rfl (.val rfl (.val rfl .nil))) (cal_lcost N 187 [tpO t2] r fit hN s rs part hp)) (r_v rfl) rfl (TabE.key (e := tI) s) (by rw [List.length_map]; omega) rfl ?_
        rw [ktab_put (e := tI) (f := fun s => costD r s part) hni]
        dsimp only [List.set_cons_zero, List.set_cons_succ]
        exact w_nil (turnQ_n ⟨rfl, kn ++ [s], _, rfl, by rw [List.append_assoc]; exact hk⟩)
      rintro ρ S ⟨rfl, kn, f, rfl, hk⟩
      rw [List.append_nil] at hk
      subst hk
      have big : (ways r n).length ≤ 46656 := Nat.le_trans (List.length_filter_le _ _) (Nat.le_trans (rowsT_len h6 n) (Nat.le_trans (Nat.pow_le_pow_right (by decide) hl) (by decide)))
      refine w_set (sl := .val (.list ((ways r n).map eLR))) (S1 := [tpO t2]) (k_val (r_call (as := [.d (eRule r), .d (.int (n : Int))]) (S1 := [tpO t2]) (.val rfl (.e (fun i z => by cases z) (r_conv (r_bi (.v rfl) (p_lenTm row0 _)) (by rw [hn])) .nil)) (cal_lways N 187 [tpO t2] r fit hN n hl))) rfl ?_
      dsimp only [List.set_cons_zero, List.set_cons_succ]
      refine w_for (xs := ways r n) (enc := eLR) (S1 := [tpO t2]) (fun left ρ S => S = [tpO t2] ∧ ∃ (o : Option TR) (a b c d e : Slot), ρ = [.scr ns, .ref 0, .val (.int (i0 : Int)), .val (eRule r), .val (.str part), .val (eStrs row0), .val (eBst r part o), .ownd (ktab κI (fun s => costD r s part) (sts r)), a, .val (.list ((ways r n).map eLR)), b, c, d, e] ∧ left.foldl (bsO r part) o = (ways r n).foldl (bsO r part) none) rfl (i_of (r_v rfl) rfl) ⟨rfl, none, _, _, _, _, _, rfl, rfl⟩ ?_ ?_
      · rintro p left ρ S hpm ⟨rfl, o, a, b, c, d, e, rfl, hf⟩
        refine ⟨_, rfl, ?_⟩
        dsimp only [List.set_cons_zero, List.set_cons_succ]
        have hpr : p ∈ rowsT r n := (List.mem_filter.mp hpm).1
        have ok := rowsT_ok n p hpr
        obtain ⟨ks, hks, hkk⟩ := rowsT_trs n p hpr
        have hon : ∀ s ∈ p.pre ++ [p.now], s ∈ sts r := fun s hs => by
          rcases List.mem_append.mp hs with z | z
          · exact mem_sts.mpr (ok.on s z)
          · rw [List.mem_singleton] at z; rw [z]; exact mem_sts.mpr ok.now
        have hpl : (p.pre ++ [p.now]).length ≤ 7 := by rw [List.length_append, ok.pre, List.length_singleton]; omega
        refine w_set (sl := .val (.list ((p.pre ++ [p.now]).map fun s => costD r s part))) (S1 := [tpO t2]) (k_val (r_comp0 (xs := p.pre ++ [p.now]) (enc := tI) (h := fun s => costD r s part) (i_of (r_v rfl) rfl) (compM_i fun s hs => ⟨_, rfl, r_sub (S1 := [tpO t2]) (.v rfl) (r_v rfl) (s_ktab (e := tI) (f := fun s => costD r s part) (hon s hs))⟩) (by omega))) rfl ?_
        dsimp only [List.set_cons_zero, List.set_cons_succ]
        have hal := cal_along N 185 [tpO t2] r fit hN part hp p.row ks hks (rowsT_desks n p hpr) (by rw [ok.row]; omega)
        rw [← hkk] at hal
        refine w_ifF (S1 := [tpO t2]) (r_conv (r_and2 (c := decide (((ways r n).length : Int) < 8)) (k := false) (S1 := [tpO t2]) (r_cmp (S1 := [tpO t2]) (.e (fun i z => by cases z) (r_bi (.v rfl) (p_lenLm (ways r n) _))) (.e (fun i z => by cases z) (ev_c _)) (c_ltI _ _)) fun _ => r_not (b0 := true) (r_call (as := [.d (.list ((p.pre ++ [p.now]).map fun s => costD r s part)), .d (.list ((p.pre ++ [p.now]).map fun s => costD r s part))]) (S1 := [tpO t2]) (.e (fun i z => by cases z) (r_call (.val rfl (.val rfl (.val rfl .nil))) hal) (.val rfl .nil)) (cal_like (k := 190) rfl ?_ ?_))) (by rw [Bool.and_false])) (w_nil (thenQ_n ?_))
        · have hd : PyData.depthAll ((p.pre ++ [p.now]).map fun s => costD r s part) ≤ 7 := by
            generalize p.pre ++ [p.now] = l
            induction l with
            | nil => simp [PyData.depthAll]
            | cons x l ih =>
              rw [List.map_cons, PyData.depthAll]
              refine Nat.max_le.mpr ⟨?_, ih⟩
              unfold costD
              split <;> simp [PyData.depth]
          rw [PyData.depth]
          omega
        · exact nice_L (by omega) fun s _ => nice_cost r s part
        have ec : ((p.pre ++ [p.now]).map fun s => costD r s part) = ((p.pre.map fun s => costV r s part).map .int) ++ [.int (costV r p.now part)] := by
          rw [List.map_append, List.map_map]
          unfold costD
          rw [c0]
          rfl
        refine w_set (sl := .val (.int (wst r part p.pre))) (S1 := [tpO t2]) (k_val (r_bi (.e (fun i z => by cases z) (r_conv (r_bin (S1 := [tpO t2]) (.e (fun i z => by cases z) (r_lst (.cons (ev_c _) .nil) (by simp))) (.e (fun i z => by cases z) (r_slc (x := .list ((p.pre ++ [p.now]).map fun s => costD r s part)) (r_v rfl) .no (.yes (r_neg (ev_c _))) (by rw [ec]; exact slc_init))) (b_addL (by rw [List.length_map, List.length_map, ok.pre, List.length_singleton]; omega))) (d' := .list ((0 :: p.pre.map fun s => costV r s part).map .int)) rfl)) (p_maxL (by simp)))) rfl ?_
        dsimp only [List.set_cons_zero, List.set_cons_succ]
        rw [List.foldl_cons] at hf
        refine w_set (sl := .val (eBst r part (bsO r part o p))) (S1 := [tpO t2]) (k_val ?_) rfl ?_
        · cases o with
          | none => exact r_iteT (S1 := [tpO t2]) (r_or2 (c := true) (k := true) (S1 := [tpO t2]) (r_cmp (x := .none) (.v rfl) (.e (fun i z => by cases z) (ev_c _)) rfl) fun z => by cases z) (r_tup (.cons (r_v rfl) (.cons (r_v rfl) .nil)) (by simp))
          | some bb =>
            have hcond : ev (cal phi N 199) (.or (.cons (.cmp .Is (.v 6) (.c .none)) (.cons (.cmp .Lt (.v 13) (.sub (.v 6) (.c (.int 0)))) .nil))) [.scr ns, .ref 0, .val (.int (i0 : Int)), .val (eRule r), .val (.str part), .val (eStrs row0), .val (eWR r part bb), .ownd (ktab κI (fun s => costD r s part) (sts r)), a, .val (.list ((ways r n).map eLR)), .val (eStrs p.row), .val (.list ((p.pre ++ [p.now]).map tI)), .val (.list ((p.pre ++ [p.now]).map fun s => costD r s part)), .val (.int (wst r part p.pre))] [tpO t2] = some (.bool (false || decide (wst r part p.pre < wst r part bb.pre)), [tpO t2]) :=
              r_or2 (c := false) (S1 := [tpO t2]) (r_cmp (x := eWR r part bb) (.v rfl) (.e (fun i z => by cases z) (ev_c _)) rfl) fun _ => r_cmp (S1 := [tpO t2]) (.v rfl) (.e (fun i z => by cases z) (r_sub (S1 := [tpO t2]) (.v rfl) (ev_c _) rfl)) (c_ltI _ _)
            by_cases hlt : wst r part p.pre < wst r part bb.pre
            · have e2 : bsO r part (some bb) p = some p := by show some (bst r part bb p) = _; unfold bst; rw [if_pos hlt]
              rw [e2]
              rw [decT hlt] at hcond
              exact r_iteT hcond (r_tup (.cons (r_v rfl) (.cons (r_v rfl) .nil)) (by simp))
            · have e2 : bsO r part (some bb) p = some bb := by show some (bst r part bb p) = _; unfold bst; rw [if_neg hlt]
              rw [e2]
              rw [decF hlt] at hcond
              exact r_iteF hcond (r_v rfl)
        dsimp only [List.set_cons_zero, List.set_cons_succ]
        exact w_nil (turnQ_n ⟨rfl, _, _, _, _, _, _, rfl, hf⟩)
      · rintro ρ S ⟨rfl, o, a, b, c, d, e, rfl, hf⟩
        cases hw : ways r n with
        | nil => exact absurd hw hne
        | cons p ps =>
          have ho : o = some (ps.foldl (bst r part) p) := by
            have : o = ([] : List TR).foldl (bsO r part) o := rfl
            rw [this, hf, hw, List.foldl_cons]
            exact bsO_some r part ps p
          subst ho
          rw [hw] at hsafe
          have hmem : ps.foldl (bst r part) p ∈ rowsT r n := by
            have key : ∀ (ps : List TR) (p : TR), (∀ q ∈ p :: ps, q ∈ rowsT r n) → ps.foldl (bst r part) p ∈ rowsT r n := by
              intro ps
              induction ps with
              | nil => intro p h; exact h p List.mem_cons_self
              | cons x ps ih =>
                intro p h
                rw [List.foldl_cons]
                refine ih _ fun q hq => ?_
                rcases List.mem_cons.mp hq with z | z
                · rw [z]; unfold bst; split
                  · exact h x (by simp)
                  · exact h p (by simp)
                · exact h q (by simp [z])
            exact key ps p fun q hq => (List.mem_filter.mp (by rw [← hw] at hq; exact hq)).1
          have ok := rowsT_ok n _ hmem
          refine w_ifF (S1 := [tpO t2]) (r_not (b0 := true) (r_call (as := [.d (eStrs (ps.foldl (bst r part) p).row), .d (eStrs (ps.foldl (bst r part) p).row)]) (S1 := [tpO t2]) (.e (fun i z => by cases z) (r_call (.val rfl (.val rfl .nil)) hsafe) (.e (fun i z => by cases z) (r_sub (S1 := [tpO t2]) (.v rfl) (ev_c _) rfl) .nil)) (cal_like (k := 190) rfl (Nat.le_trans (depth_T (e := PyData.str) _) (by decide)) (nice_T (by rw [ok.row]; omega) fun _ _ => rfl)))) ?_
          exact w_nil (thenQ_n (w_nil (thenQ_n (w_nil (turnQ_n ⟨t2, _, _, _, _, _, _, _, _, _, _, _, _, rfl, rfl⟩)))))
  · rintro ρ S ⟨t, a, b, c, d, e, f, g, h, i, j, k, l, rfl, rfl⟩
    have h1 := cal_safest N 185 [tpO t] ex11 ex11_fit hN "a" (by decide)
    have h2 := cal_along N 185 [tpO t] ex11 ex11_fit hN "a" (by decide) ["x", "y"] _ ex11_trs (by rw [ex11_desks]; exact fun _ h => h) (by decide)
    rw [ex11_safe] at h1
    rw [ex11_costs] at h2
    refine w_set (sl := .val (eRule ex11)) (S1 := [tpO t]) (k_val (cst_ok _ _ rfl)) rfl ?_
    dsimp only [List.set_cons_zero, List.set_cons_succ]
    refine w_ret (d := .bool true) (S1 := [tpO t]) ?_ rfl
    refine r_andN (c := true) (k := true) (r_cmp (x := eStrs ["y", "x"]) (S1 := [tpO t]) (.e (fun i z => by cases z) (r_call (.val rfl (.e (fun i z => by cases z) (ev_c _) .nil)) h1)) (.e (fun i z => by cases z) (cst_ok _ (eStrs ["y", "x"]) rfl)) (by decide +kernel)) fun _ => ?_
    exact r_and1 (r_cmp (x := .list [.int 0, .int 1, .int 1]) (S1 := [tpO t]) (.e (fun i z => by cases z) (r_call (.val rfl (.e (fun i z => by cases z) (cst_ok _ (eStrs ["x", "y"]) rfl) (.e (fun i z => by cases z) (ev_c _) .nil))) h2)) (.e (fun i z => by cases z) (cst_ok _ (.list [.int 0, .int 1, .int 1]) rfl)) (by decide +kernel))
end Fw

set_option Elab.async false
set_option linter.all false
set_option autoImplicit false
set_option maxRecDepth 100000
set_option maxHeartbeats 0
/-! the head of law k11 -/
namespace Fw.K11
open PySem PySem.Spec PyProof.Rows L2

def top (i : Nat) : Stmt := PySem.Challenge.pw_stampdesks_k11_whole_ways_on_which_chang.main.body.getD i (.Pass ⟨0, 0, 0, 0⟩)
def d_desks : Df := ⟨39, "desks", ["rule", "step"], ["rule"], b_desks, defArgs (top 1), defBody (top 1), defScope (top 1)⟩
def d_are_met : Df := ⟨0, "are_met", ["needs", "state", "step", "count", "steps"], ["needs", "state"], b_are_met, defArgs (top 2), defBody (top 2), defScope (top 2)⟩
def d_has_ended : Df := ⟨1, "has_ended", ["rule", "state"], ["rule", "state"], b_has_ended, defArgs (top 3), defBody (top 3), defScope (top 3)⟩
def d_ready_steps : Df := ⟨2, "ready_steps", ["rule", "state", "at", "step"], ["rule", "state"], b_ready_steps, defArgs (top 4), defBody (top 4), defScope (top 4)⟩
def d_next_step : Df := ⟨3, "next_step", ["rule", "state", "desk", "some", "at"], ["rule", "state", "desk"], b_next_step, defArgs (top 5), defBody (top 5), defScope (top 5)⟩
def d_fallen : Df := ⟨4, "fallen", ["rule", "state", "left", "at"], ["rule", "state"], b_fallen, defArgs (top 6), defBody (top 6), defScope (top 6)⟩
def d_after : Df := ⟨5, "after", ["rule", "state", "event", "word", "value", "at", "asked", "count", "steps", "step", "left"], ["rule", "state", "event"], b_after, defArgs (top 7), defBody (top 7), defScope (top 7)⟩
def d_first_way : Df := ⟨42, "first_way", ["rule", "state", "known", "last", "later", "row", "now", "desk", "new"], ["rule", "state"], b_first_way, defArgs (top 9), defBody (top 9), defScope (top 9)⟩
def d_fewest_signs : Df := ⟨56, "fewest_signs", ["rule", "state", "way"], ["rule", "state"], b_fewest_signs, defArgs (top 10), defBody (top 10), defScope (top 10)⟩
def d_cost : Df := ⟨71, "cost", ["rule", "state", "part", "before"], ["rule", "state", "part"], b_cost, defArgs (top 12), defBody (top 12), defScope (top 12)⟩
def d_costs_along : Df := ⟨74, "costs_along", ["rule", "way", "part", "found", "state", "desk"], ["rule", "way", "part"], b_costs_along, defArgs (top 13), defBody (top 13), defScope (top 13)⟩
def d_safest_way : Df := ⟨75, "safest_way", ["rule", "part", "many", "rows", "costs", "turn", "later", "row", "state", "worst", "desk", "new", "ways"], ["rule", "part"], b_safest_way, defArgs (top 14), defBody (top 14), defScope (top 14)⟩
def d_law_draw : Df := ⟨8, "_law_draw", ["_law_tape", "_law_many", "_law_prime", "_law_cell", "_law_found"], ["_law_tape", "_law_many"], b_law_draw, defArgs (top 16), defBody (top 16), defScope (top 16)⟩
def d_law_like : Df := ⟨9, "_law_like", ["_law_one", "_law_two", "_law_k"], ["_law_one", "_law_two"], b_law_like, defArgs (top 17), defBody (top 17), defScope (top 17)⟩
def d_law_some : Df := ⟨10, "_law_some", ["_law_tape", "_law_most", "_law_own", "_law_others", "_law_step", "_law_found", "_law_turn"], ["_law_tape", "_law_most", "_law_own"], b_law_some, defArgs (top 18), defBody (top 18), defScope (top 18)⟩
def d_law_needs : Df := ⟨11, "_law_needs", ["_law_tape", "_law_most", "_law_own", "_law_least", "_law_found", "_law_turn", "_law_steps"], ["_law_tape", "_law_most", "_law_own", "_law_least"], b_law_needs, defArgs (top 19), defBody (top 19), defScope (top 19)⟩
def d_law_rule : Df := ⟨12, "_law_rule", ["_law_tape", "_law_most", "_law_many", "_law_steps", "_law_at", "_law_needs_here", "_law_desk", "_law_reads"], ["_law_tape", "_law_most"], b_law_rule, defArgs (top 20), defBody (top 20), defScope (top 20)⟩
def d_law_met : Df := ⟨13, "_law_met", ["_law_needs_here", "_law_state", "_law_count", "_law_steps", "_law_step"], ["_law_needs_here", "_law_state"], b_law_met, defArgs (top 21), defBody (top 21), defScope (top 21)⟩
def d_law_ready : Df := ⟨14, "_law_ready", ["_law_rule_here", "_law_state", "_law_at"], ["_law_rule_here", "_law_state"], b_law_ready, defArgs (top 22), defBody (top 22), defScope (top 22)⟩
def d_law_next : Df := ⟨15, "_law_next", ["_law_rule_here", "_law_state", "_law_desk", "_law_at"], ["_law_rule_here", "_law_state", "_law_desk"], b_law_next, defArgs (top 23), defBody (top 23), defScope (top 23)⟩
def d_law_left : Df := ⟨16, "_law_left", ["_law_rule_here", "_law_state", "_law_more", "_law_left_here", "_law_at"], ["_law_rule_here", "_law_state"], b_law_left, defArgs (top 24), defBody (top 24), defScope (top 24)⟩
def d_law_event : Df := ⟨17, "_law_event", ["_law_rule_here", "_law_state", "_law_event_here", "_law_word", "_law_value", "_law_at", "_law_asked", "_law_count", "_law_steps", "_law_rest", "_law_step"], ["_law_rule_here", "_law_state", "_law_event_here"], b_law_event, defArgs (top 25), defBody (top 25), defScope (top 25)⟩
def d_law_desks : Df := ⟨18, "_law_desks", ["_law_rule_here", "_law_step"], ["_law_rule_here"], b_law_desks, defArgs (top 26), defBody (top 26), defScope (top 26)⟩
def d_law_events : Df := ⟨19, "_law_events", ["_law_rules", "_law_found", "_law_rule_here", "_law_desk", "_law_part"], ["_law_rules"], b_law_events, defArgs (top 27), defBody (top 27), defScope (top 27)⟩
def d_law_reached : Df := ⟨54, "_law_reached", ["_law_rule_here", "_law_known", "_law_some_here", "_law_events_here", "_law_state", "_law_event_here", "_law_new"], ["_law_rule_here"], b_law_reached, defArgs (top 28), defBody (top 28), defScope (top 28)⟩
def d_law_way : Df := ⟨57, "_law_way", ["_law_rule_here", "_law_state", "_law_known", "_law_some_here", "_law_my_later", "_law_row", "_law_now", "_law_desk", "_law_new", "_law_bad"], ["_law_rule_here", "_law_state"], b_law_way, defArgs (top 29), defBody (top 29), defScope (top 29)⟩
def d_law_cost : Df := ⟨76, "_law_cost", ["_law_rule_here", "_law_state", "_law_part", "_law_before", "_law_my_after"], ["_law_rule_here", "_law_state", "_law_part"], b_law_cost, defArgs (top 30), defBody (top 30), defScope (top 30)⟩
def d_law_ways : Df := ⟨77, "_law_ways", ["_law_rule_here", "_law_many", "_law_rows", "_law_turn", "_law_longer", "_law_row", "_law_known", "_law_desk", "_law_new", "_law_bad", "_law_pair"], ["_law_rule_here", "_law_many"], b_law_ways, defArgs (top 31), defBody (top 31), defScope (top 31)⟩
def d_law : Df := ⟨78, "law", ["_law_script", "_law_tape", "_law_turn", "_law_rule_here", "_law_part", "_law_shortest", "_law_best", "_law_table", "_law_state", "_law_ways_here", "_law_row", "_law_known", "_law_costs", "_law_my_worst"], ["_law_script"], b_law_v11, defArgs (top 32), defBody (top 32), defScope (top 32)⟩
def D : List Df := [d_desks, d_are_met, d_has_ended, d_ready_steps, d_next_step, d_fallen, d_after, d_first_way, d_fewest_signs, d_cost, d_costs_along, d_safest_way, d_law_draw, d_law_like, d_law_some, d_law_needs, d_law_rule, d_law_met, d_law_ready, d_law_next, d_law_left, d_law_event, d_law_desks, d_law_events, d_law_reached, d_law_way, d_law_cost, d_law_ways, d_law]
def Gl : List (Str × Dt) := []
theorem g_desks : d_desks.Good D phi (gsOf Gl) := ⟨⟨rfl, rfl, rfl, by decide +kernel, rfl, by decide +kernel, by decide +kernel⟩, by kernel_rfl, rfl, fun _ _ _ _ _ _ us hl => match us, hl with | [_], _ => rfl⟩
theorem g_are_met : d_are_met.Good D phi (gsOf Gl) := ⟨⟨rfl, rfl, rfl, by decide +kernel, rfl, by decide +kernel, by decide +kernel⟩, by kernel_rfl, rfl, fun _ _ _ _ _ _ us hl => match us, hl with | [_, _], _ => rfl⟩
theorem g_has_ended : d_has_ended.Good D phi (gsOf Gl) := ⟨⟨rfl, rfl, rfl, by decide +kernel, rfl, by decide +kernel, by decide +kernel⟩, by kernel_rfl, rfl, fun _ _ _ _ _ _ us hl => match us, hl with | [_, _], _ => rfl⟩
theorem g_ready_steps : d_ready_steps.Good D phi (gsOf Gl) := ⟨⟨rfl, rfl, rfl, by decide +kernel, rfl, by decide +kernel, by decide +kernel⟩, by kernel_rfl, rfl, fun _ _ _ _ _ _ us hl => match us, hl with | [_, _], _ => rfl⟩
theorem g_next_step : d_next_step.Good D phi (gsOf Gl) := ⟨⟨rfl, rfl, rfl, by decide +kernel, rfl, by decide +kernel, by decide +kernel⟩, by kernel_rfl, rfl, fun _ _ _ _ _ _ us hl => match us, hl with | [_, _, _], _ => rfl⟩
theorem g_fallen : d_fallen.Good D phi (gsOf Gl) := ⟨⟨rfl, rfl, rfl, by decide +kernel, rfl, by decide +kernel, by decide +kernel⟩, by kernel_rfl, rfl, fun _ _ _ _ _ _ us hl => match us, hl with | [_, _], _ => rfl⟩
theorem g_after : d_after.Good D phi (gsOf Gl) := ⟨⟨rfl, rfl, rfl, by decide +kernel, rfl, by decide +kernel, by decide +kernel⟩, by kernel_rfl, rfl, fun _ _ _ _ _ _ us hl => match us, hl with | [_, _, _], _ => rfl⟩
theorem g_first_way : d_first_way.Good D phi (gsOf Gl) := ⟨⟨rfl, rfl, rfl, by decide +kernel, rfl, by decide +kernel, by decide +kernel⟩, by kernel_rfl, rfl, fun _ _ _ _ _ _ us hl => match us, hl with | [_, _], _ => rfl⟩
theorem g_fewest_signs : d_fewest_signs.Good D phi (gsOf Gl) := ⟨⟨rfl, rfl, rfl, by decide +kernel, rfl, by decide +kernel, by decide +kernel⟩, by kernel_rfl, rfl, fun _ _ _ _ _ _ us hl => match us, hl with | [_, _], _ => rfl⟩
theorem g_cost : d_cost.Good D phi (gsOf Gl) := ⟨⟨rfl, rfl, rfl, by decide +kernel, rfl, by decide +kernel, by decide +kernel⟩, by kernel_rfl, rfl, fun _ _ _ _ _ _ us hl => match us, hl with | [_, _, _], _ => rfl⟩
theorem g_costs_along : d_costs_along.Good D phi (gsOf Gl) := ⟨⟨rfl, rfl, rfl, by decide +kernel, rfl, by decide +kernel, by decide +kernel⟩, by kernel_rfl, rfl, fun _ _ _ _ _ _ us hl => match us, hl with | [_, _, _], _ => rfl⟩
theorem g_safest_way : d_safest_way.Good D phi (gsOf Gl) := ⟨⟨rfl, rfl, rfl, by decide +kernel, rfl, by decide +kernel, by decide +kernel⟩, by kernel_rfl, rfl, fun _ _ _ _ _ _ us hl => match us, hl with | [_, _], _ => rfl⟩
theorem g_law_draw : d_law_draw.Good D phi (gsOf Gl) := ⟨⟨rfl, rfl, rfl, by decide +kernel, rfl, by decide +kernel, by decide +kernel⟩, by kernel_rfl, rfl, fun _ _ _ _ _ _ us hl => match us, hl with | [_, _], _ => rfl⟩
theorem g_law_like : d_law_like.Good D phi (gsOf Gl) := ⟨⟨rfl, rfl, rfl, by decide +kernel, rfl, by decide +kernel, by decide +kernel⟩, by kernel_rfl, rfl, fun _ _ _ _ _ _ us hl => match us, hl with | [_, _], _ => rfl⟩
theorem g_law_some : d_law_some.Good D phi (gsOf Gl) := ⟨⟨rfl, rfl, rfl, by decide +kernel, rfl, by decide +kernel, by decide +kernel⟩, by kernel_rfl, rfl, fun _ _ _ _ _ _ us hl => match us, hl with | [_, _, _], _ => rfl⟩
theorem g_law_needs : d_law_needs.Good D phi (gsOf Gl) := ⟨⟨rfl, rfl, rfl, by decide +kernel, rfl, by decide +kernel, by decide +kernel⟩, by kernel_rfl, rfl, fun _ _ _ _ _ _ us hl => match us, hl with | [_, _, _, _], _ => rfl⟩
theorem g_law_rule : d_law_rule.Good D phi (gsOf Gl) := ⟨⟨rfl, rfl, rfl, by decide +kernel, rfl, by decide +kernel, by decide +kernel⟩, by kernel_rfl, rfl, fun _ _ _ _ _ _ us hl => match us, hl with | [_, _], _ => rfl⟩
theorem g_law_met : d_law_met.Good D phi (gsOf Gl) := ⟨⟨rfl, rfl, rfl, by decide +kernel, rfl, by decide +kernel, by decide +kernel⟩, by kernel_rfl, rfl, fun _ _ _ _ _ _ us hl => match us, hl with | [_, _], _ => rfl⟩
theorem g_law_ready : d_law_ready.Good D phi (gsOf Gl) := ⟨⟨rfl, rfl, rfl, by decide +kernel, rfl, by decide +kernel, by decide +kernel⟩, by kernel_rfl, rfl, fun _ _ _ _ _ _ us hl => match us, hl with | [_, _], _ => rfl⟩
theorem g_law_next : d_law_next.Good D phi (gsOf Gl) := ⟨⟨rfl, rfl, rfl, by decide +kernel, rfl, by decide +kernel, by decide +kernel⟩, by kernel_rfl, rfl, fun _ _ _ _ _ _ us hl => match us, hl with | [_, _, _], _ => rfl⟩
theorem g_law_left : d_law_left.Good D phi (gsOf Gl) := ⟨⟨rfl, rfl, rfl, by decide +kernel, rfl, by decide +kernel, by decide +kernel⟩, by kernel_rfl, rfl, fun _ _ _ _ _ _ us hl => match us, hl with | [_, _], _ => rfl⟩
theorem g_law_event : d_law_event.Good D phi (gsOf Gl) := ⟨⟨rfl, rfl, rfl, by decide +kernel, rfl, by decide +kernel, by decide +kernel⟩, by kernel_rfl, rfl, fun _ _ _ _ _ _ us hl => match us, hl with | [_, _, _], _ => rfl⟩
theorem g_law_desks : d_law_desks.Good D phi (gsOf Gl) := ⟨⟨rfl, rfl, rfl, by decide +kernel, rfl, by decide +kernel, by decide +kernel⟩, by kernel_rfl, rfl, fun _ _ _ _ _ _ us hl => match us, hl with | [_], _ => rfl⟩
theorem g_law_events : d_law_events.Good D phi (gsOf Gl) := ⟨⟨rfl, rfl, rfl, by decide +kernel, rfl, by decide +kernel, by decide +kernel⟩, by kernel_rfl, rfl, fun _ _ _ _ _ _ us hl => match us, hl with | [_], _ => rfl⟩
theorem g_law_reached : d_law_reached.Good D phi (gsOf Gl) := ⟨⟨rfl, rfl, rfl, by decide +kernel, rfl, by decide +kernel, by decide +kernel⟩, by kernel_rfl, rfl, fun _ _ _ _ _ _ us hl => match us, hl with | [_], _ => rfl⟩
theorem g_law_way : d_law_way.Good D phi (gsOf Gl) := ⟨⟨rfl, rfl, rfl, by decide +kernel, rfl, by decide +kernel, by decide +kernel⟩, by kernel_rfl, rfl, fun _ _ _ _ _ _ us hl => match us, hl with | [_, _], _ => rfl⟩
theorem g_law_cost : d_law_cost.Good D phi (gsOf Gl) := ⟨⟨rfl, rfl, rfl, by decide +kernel, rfl, by decide +kernel, by decide +kernel⟩, by kernel_rfl, rfl, fun _ _ _ _ _ _ us hl => match us, hl with | [_, _, _], _ => rfl⟩
theorem g_law_ways : d_law_ways.Good D phi (gsOf Gl) := ⟨⟨rfl, rfl, rfl, by decide +kernel, rfl, by decide +kernel, by decide +kernel⟩, by kernel_rfl, rfl, fun _ _ _ _ _ _ us hl => match us, hl with | [_, _], _ => rfl⟩
theorem g_law : d_law.Good D phi (gsOf Gl) := ⟨⟨rfl, rfl, rfl, by decide +kernel, rfl, by decide +kernel, by decide +kernel⟩, by kernel_rfl, rfl, fun _ _ _ _ _ _ us hl => match us, hl with | [_], _ => rfl⟩
theorem good : ∀ d ∈ D, d.Good D phi (gsOf Gl) := by
  intro d hd
  simp only [D, List.mem_cons, List.not_mem_nil, or_false] at hd
  rcases hd with rfl | rfl | rfl | rfl | rfl | rfl | rfl | rfl | rfl | rfl | rfl | rfl | rfl | rfl | rfl | rfl | rfl | rfl | rfl | rfl | rfl | rfl | rfl | rfl | rfl | rfl | rfl | rfl | rfl
  · exact g_desks
  · exact g_are_met
  · exact g_has_ended
  · exact g_ready_steps
  · exact g_next_step
  · exact g_fallen
  · exact g_after
  · exact g_first_way
  · exact g_fewest_signs
  · exact g_cost
  · exact g_costs_along
  · exact g_safest_way
  · exact g_law_draw
  · exact g_law_like
  · exact g_law_some
  · exact g_law_needs
  · exact g_law_rule
  · exact g_law_met
  · exact g_law_ready
  · exact g_law_next
  · exact g_law_left
  · exact g_law_event
  · exact g_law_desks
  · exact g_law_events
  · exact g_law_reached
  · exact g_law_way
  · exact g_law_cost
  · exact g_law_ways
  · exact g_law
abbrev R : PySem.W.OpenRow := PySem.W.OpenLaw.row PySem.Challenge.rw_stampdesks_k11_whole_ways_on_which_chang
abbrev fn : List He.DefD := D.map Df.dd
abbrev fa : List He.Fa := faD D
abbrev hk : PySem.W.Hook := hookG 4 fa fn Gl
def ob (s : PySem.W.SharedT) : AlG := obsG 4 fa fn Gl (HandSHeadRun.getT s)
theorem ob_eq (s : PySem.W.SharedT) : ob s = hk.obs s.abs := obsG_eq (HandSHeadRun.getT_eq s)
theorem run (w : World) : HandSHeadRun.RunEq R (PySem.W.view R.prog [32]) hk ob 4000 ["desks", "are_met", "has_ended", "ready_steps", "next_step", "fallen", "after", "first_way", "fewest_signs", "cost", "costs_along", "safest_way", "_law_draw", "_law_like", "_law_some", "_law_needs", "_law_rule", "_law_met", "_law_ready", "_law_next", "_law_left", "_law_event", "_law_desks", "_law_events", "_law_reached", "_law_way", "_law_cost", "_law_ways"] w := by
  intro os
  kernel_rfl
theorem facts {P : Program} {w : World} {K : PySem.W.Frag} {h : Heap} {mg : Str → Option Value} {f : Addr} (N : Nat) (X : K.In h) (G : h.Ns mainGlobals mg) (hfa : mg ("law" : Str) = some (.ref f)) (c : He.SaysD fa fn K) (cx : (Gl.all fun p => glB K p) = true) :
    ∃ fd : FuncData, (∀ (s : Shared) (v : Value), BindsTo s fd ⟨[v], []⟩ [("_law_script", v)]) ∧ ∀ base : Heap, K.In base → base.Ns mainGlobals mg → FnOk P w K mg base CX0 200 f fd ["_law_script"] (spC ⟨K, P, w⟩ (cal phi N 200) 78) := by
  have m : Mdl K mg D (gsOf Gl) := mdl_of X G c cx
  obtain ⟨f', fd, F, e⟩ := m.fd d_law (by simp [D])
  have e2 := hfa.symm.trans e
  cases e2
  have b := FunD.bindsA (ps := ["_law_script"]) F fun _ _ _ _ _ _ us hl => match us, hl with | [_], _ => rfl
  exact ⟨fd, fun s v => b s [v] rfl, fun base _ _ => all_fn m good 200 d_law (by simp [D]) f fd F⟩
end Fw.K11
open PySem PySem.W PySem.Calls PyProof.Rows
theorem head_holds (N : Nat) (hlaw : ∀ ns : List Int, ns.length ≤ 63 → ∃ S, Fw.cal Fw.phi N 200 78 [.s ns] [] = some (.bool true, S)) : PySem.Challenge.rw_stampdesks_k11_whole_ways_on_which_chang.Holds := by
  w_on; o_law
  refine HandSHeadRun.head_any (r := OpenLaw.row PySem.Challenge.rw_stampdesks_k11_whole_ways_on_which_chang) (q := view (OpenLaw.row PySem.Challenge.rw_stampdesks_k11_whole_ways_on_which_chang).prog [32]) (H := Fw.K11.hk) (ob := Fw.K11.ob) (M := 4000) (loose := ["desks", "are_met", "has_ended", "ready_steps", "next_step", "fallen", "after", "first_way", "fewest_signs", "cost", "costs_along", "safest_way", "_law_draw", "_law_like", "_law_some", "_law_needs", "_law_rule", "_law_met", "_law_ready", "_law_next", "_law_left", "_law_event", "_law_desks", "_law_events", "_law_reached", "_law_way", "_law_cost", "_law_ways"]) (d := HandSHeadRun.topDef (OpenLaw.row PySem.Challenge.rw_stampdesks_k11_whole_ways_on_which_chang).prog 32) (kwd := []) Fw.K11.ob_eq
    (by kernel_rfl) (fun s => by kernel_rfl) Fw.K11.run (by kernel_rfl) (by kernel_rfl) (by kernel_rfl) (by rfl) (by first | assumption | decide +kernel) (by decide +kernel) ⟨rfl, rfl, rfl, rfl, rfl, by decide +kernel⟩ ?hw ?hc
  case hw => w_witness2
  case hc =>
    refine L2.walk_ofE (l := PySem.Challenge.rw_stampdesks_k11_whole_ways_on_which_chang) (n := 63) (k := 200) (x := "_law_script") (CX := L2.CX0) rfl (by decide) (by kernel_rfl) ⟨rfl, by decide, by decide⟩ ?F (fun _ _ _ _ z => z)
    intro w mg fa h Y G hmg0
    obtain ⟨K, KX, c, cx⟩ := Y
    have hmg : mg ("law" : PySem.Str) = some (.ref fa) := by
      have e : (HandSHeadRun.topDef (OpenLaw.row PySem.Challenge.rw_stampdesks_k11_whole_ways_on_which_chang).prog 32).name = ("law" : PySem.Str) := by kernel_rfl
      rw [← e]
      exact hmg0
    obtain ⟨fd, hb, hF⟩ := Fw.K11.facts (P := (PySem.Challenge.rw_stampdesks_k11_whole_ways_on_which_chang).prog) (w := w) N KX G hmg c cx
    refine ⟨K, fd, _, KX, hb, fun H a ns hl _ hS => ?_, hF⟩
    obtain ⟨S, hc⟩ := hlaw ns hl
    exact Fw.law_sp hS hc _

theorem PySem.Challenge.cw_stampdesks_k11_whole_ways_on_which_chang_holds : PySem.Challenge.rw_stampdesks_k11_whole_ways_on_which_chang.Holds := by
  exact head_holds 100000 fun ns _ => Fw.law_k11 100000 (by decide) ns
