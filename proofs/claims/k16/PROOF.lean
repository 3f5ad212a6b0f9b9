import PyProof.Rows.All
import Wide.All
import OpenK.AllK
import Wide.FinOn
import HandS.Base
import HandS.Call
import HandS.List
import HandS.Comp
import HandS.Ends
import HandS.Dict
import HandS.Iter
import HandS.Text
import HandS.Words
import HandS.WordsList
import HandS.TupAny
import HandS.TupLe
import HandS.TupMul
import HandS.TupLen
import HandS.Deep
import HandS.Style
import HandS.Flow
import HandS.IsInst
import HandS.TupSets
import HandS.SortInts
import HandS.Wide
import HandS.Conv
import KE.KRevSl
import KE.SortData
import PyProof.Rows.SortWalk
import KE.KDictSum
import KE.KDictWalk
import HandS.ReCall
import KE.KDictCopyH
import HandS.Zip
import PyProof.EnumMake
import KE.GoesZip
import HandS.Small
import PyProof.ListIndexNeg
import KE.KDictPairs
import KE.KDictOf
import PyProof.SetNew
import PyProof.InstFacts
import PyProof.WalksMore
import HandS.SetFor
import HandS.Strs
import HandS.Defaults
import HandS.Head0
import HandS.Head1
import HandS.Head2
import HandS.HeadEnd
import HandS.HeadHook1
import HandS.HeadHook2
import PySem.Challenge.RW_pairbooks_k16_whole_counts_of_rests
set_option Elab.async false
set_option linter.all false
set_option maxRecDepth 100000
namespace PL
open PySem PySem.Spec PyProof.Rows L2

/-! data -/
inductive D where
  | non | bl (b : Bool) | int (i : Int) | str (s : Str)
  | tup (ds : List D) | lst (ds : List D) | dic (es : List (List Int × D)) | scr (ns : List Int)

abbrev kI (k : List Int) : List Key := k.map Sum.inl

mutual
inductive Rep (K : PySem.W.Frag) (Z : Hp) : V → D → Prop
  | non : Rep K Z .non .non
  | bl (b : Bool) : Rep K Z (.bl b) (.bl b)
  | int (i : Int) : Rep K Z (.int i) (.int i)
  | str (x : Str) : Rep K Z (.str x) (.str x)
  | lst {a : Addr} {xs : List V} {ds : List D} : Z a = some (.lst xs) → Reps K Z xs ds → Rep K Z (.ref a) (.lst ds)
  | scr {a : Addr} {ns : List Int} : SqL K Z a (ns.map V.int) → Rep K Z (.ref a) (.scr ns)
  | tup {a : Addr} {xs : List V} {ds : List D} : Z a = some (.tup xs) → Reps K Z xs ds → Rep K Z (.ref a) (.tup ds)
  | dic {a : Addr} {kvs : List (List Key × V)} {es : List (List Int × D)} : Z a = some (.dT kvs) → RepD K Z kvs es → Rep K Z (.ref a) (.dic es)
inductive Reps (K : PySem.W.Frag) (Z : Hp) : List V → List D → Prop
  | nil : Reps K Z [] []
  | cons {v : V} {vs : List V} {d : D} {ds : List D} : Rep K Z v d → Reps K Z vs ds → Reps K Z (v :: vs) (d :: ds)
inductive RepD (K : PySem.W.Frag) (Z : Hp) : List (List Key × V) → List (List Int × D) → Prop
  | nil : RepD K Z [] []
  | cons {k : List Int} {v : V} {vs : List (List Key × V)} {d : D} {ds : List (List Int × D)} : Rep K Z v d → RepD K Z vs ds → RepD K Z ((kI k, v) :: vs) ((k, d) :: ds)
end

/-- all of Z is in H (a dict may be locked there) -/
def SameF (Z H : Hp) : Prop := ∀ b o, Z b = some o → H b = some o ∨ ∃ ob kvs, o = .dT kvs ∧ H b = some (.frz ob (.dT kvs))
theorem SameF.of {Z H : Hp} (h : Same Z H) : SameF Z H := fun b o e => .inl (h b o e)
theorem SameF.tup {Z H : Hp} (s : SameF Z H) {a : Addr} {xs : List V} (h : Z a = some (.tup xs)) : H a = some (.tup xs) := by
  rcases s _ _ h with h | ⟨ob, kvs, e, _⟩
  · exact h
  · cases e
theorem SameF.lst {Z H : Hp} (s : SameF Z H) {a : Addr} {xs : List V} (h : Z a = some (.lst xs)) : H a = some (.lst xs) := by
  rcases s _ _ h with h | ⟨ob, kvs, e, _⟩
  · exact h
  · cases e
theorem SameF.seqL {K : PySem.W.Frag} {Z H : Hp} (s : SameF Z H) {a : Addr} {xs : List V} (h : SqL K Z a xs) : SqL K H a xs := by
  rcases h with (h | ⟨ob, h⟩) | h
  · exact .inl (.inl (s.lst h))
  · rcases s _ _ h with h | ⟨ob', kvs, e, h⟩
    · exact .inl (.inr ⟨ob, h⟩)
    · cases e
  · exact .inr h
theorem SameF.dic {Z H : Hp} (s : SameF Z H) {a : Addr} {kvs : List (List Key × V)} (h : Z a = some (.dT kvs)) : Rd H a (.dT kvs) := by
  rcases s _ _ h with h | ⟨ob, kvs', e, h⟩
  · exact .inl h
  · cases e; exact .inr ⟨ob, h⟩
theorem SameF.dom {Z H : Hp} (s : SameF Z H) {b : Addr} (h : H b = none) : Z b = none := by
  cases e : Z b with
  | none => rfl
  | some o =>
    rcases s _ _ e with q | ⟨ob, kvs, _, q⟩ <;> rw [h] at q <;> cases q

mutual
theorem Rep.mono {K : PySem.W.Frag} {Z Z' : Hp} (s : Same Z Z') : ∀ {v : V} {d : D}, Rep K Z v d → Rep K Z' v d
  | _, _, .non => .non
  | _, _, .bl b => .bl b
  | _, _, .int b => .int b
  | _, _, .str b => .str b
  | _, _, .lst h r => .lst (s _ _ h) (Reps.mono s r)
  | _, _, .scr h => .scr (s.seq h)
  | _, _, .tup h r => .tup (s _ _ h) (Reps.mono s r)
  | _, _, .dic h r => .dic (s _ _ h) (RepD.mono s r)
theorem Reps.mono {K : PySem.W.Frag} {Z Z' : Hp} (s : Same Z Z') : ∀ {v : List V} {d : List D}, Reps K Z v d → Reps K Z' v d
  | _, _, .nil => .nil
  | _, _, .cons h r => .cons (Rep.mono s h) (Reps.mono s r)
theorem RepD.mono {K : PySem.W.Frag} {Z Z' : Hp} (s : Same Z Z') : ∀ {v : List (List Key × V)} {d : List (List Int × D)}, RepD K Z v d → RepD K Z' v d
  | _, _, .nil => .nil
  | _, _, .cons h r => .cons (Rep.mono s h) (RepD.mono s r)
end

theorem Reps.length {K : PySem.W.Frag} {Z : Hp} : ∀ {v : List V} {d : List D}, Reps K Z v d → v.length = d.length
  | _, _, .nil => rfl
  | _, _, .cons _ r => by rw [List.length_cons, List.length_cons, r.length]
theorem Reps.append {K : PySem.W.Frag} {Z : Hp} : ∀ {v w : List V} {d e : List D}, Reps K Z v d → Reps K Z w e → Reps K Z (v ++ w) (d ++ e)
  | _, _, _, _, .nil, q => q
  | _, _, _, _, .cons h r, q => .cons h (r.append q)
theorem Reps.get {K : PySem.W.Frag} {Z : Hp} : ∀ {v : List V} {d : List D} {i : Nat} {x : D}, Reps K Z v d → d[i]? = some x → ∃ u, v[i]? = some u ∧ Rep K Z u x
  | _, _, _, _, .nil, e => by simp at e
  | _, _, 0, _, .cons h _, e => by simp at e; subst e; exact ⟨_, rfl, h⟩
  | _, _, i + 1, x, .cons _ r, e => by
    obtain ⟨u, h1, h2⟩ := r.get (i := i) (x := x) (by simpa using e)
    exact ⟨u, by simpa using h1, h2⟩
theorem Reps.getV {K : PySem.W.Frag} {Z : Hp} : ∀ {v : List V} {d : List D} {i : Nat} {u : V}, Reps K Z v d → v[i]? = some u → ∃ x, d[i]? = some x ∧ Rep K Z u x
  | _, _, _, _, .nil, e => by simp at e
  | _, _, 0, _, .cons h _, e => by simp at e; subst e; exact ⟨_, rfl, h⟩
  | _, _, i + 1, x, .cons _ r, e => by
    obtain ⟨u, h1, h2⟩ := r.getV (i := i) (u := x) (by simpa using e)
    exact ⟨u, by simpa using h1, h2⟩
theorem Reps.set {K : PySem.W.Frag} {Z : Hp} {x : V} {y : D} (q : Rep K Z x y) : ∀ {v : List V} {d : List D} (i : Nat), Reps K Z v d → Reps K Z (v.set i x) (d.set i y)
  | _, _, _, .nil => .nil
  | _, _, 0, .cons _ r => .cons q r
  | _, _, i + 1, .cons h r => .cons h (r.set q i)
theorem Reps.take {K : PySem.W.Frag} {Z : Hp} : ∀ {v : List V} {d : List D} (n : Nat), Reps K Z v d → Reps K Z (v.take n) (d.take n)
  | _, _, 0, _ => .nil
  | _, _, _ + 1, .nil => .nil
  | _, _, n + 1, .cons h r => .cons h (r.take n)
theorem Reps.drop {K : PySem.W.Frag} {Z : Hp} : ∀ {v : List V} {d : List D} (n : Nat), Reps K Z v d → Reps K Z (v.drop n) (d.drop n)
  | _, _, 0, r => r
  | _, _, _ + 1, .nil => .nil
  | _, _, n + 1, .cons _ r => r.drop n
theorem Reps.dropLast {K : PySem.W.Frag} {Z : Hp} {v : List V} {d : List D} (r : Reps K Z v d) : Reps K Z v.dropLast d.dropLast := by
  rw [List.dropLast_eq_take, List.dropLast_eq_take, r.length]; exact r.take _
theorem Reps.reverse {K : PySem.W.Frag} {Z : Hp} : ∀ {v : List V} {d : List D}, Reps K Z v d → Reps K Z v.reverse d.reverse
  | _, _, .nil => .nil
  | _, _, .cons h r => by rw [List.reverse_cons, List.reverse_cons]; exact r.reverse.append (.cons h .nil)
theorem Reps.rep {K : PySem.W.Frag} {Z : Hp} {v : List V} {d : List D} (r : Reps K Z v d) : ∀ n : Nat, Reps K Z (List.replicate n v).flatten (List.replicate n d).flatten
  | 0 => .nil
  | n + 1 => by rw [List.replicate_succ, List.replicate_succ, List.flatten_cons, List.flatten_cons]; exact r.append (r.rep n)
theorem Reps.ints {K : PySem.W.Frag} {Z : Hp} : ∀ {v : List V} {ns : List Int}, Reps K Z v (ns.map D.int) → v = ns.map V.int
  | _, [], .nil => rfl
  | _, _ :: _, .cons h r => by cases h; rw [List.map_cons, Reps.ints r]
theorem Reps.of_ints {K : PySem.W.Frag} {Z : Hp} : ∀ (ns : List Int), Reps K Z (ns.map V.int) (ns.map D.int)
  | [] => .nil
  | n :: r => .cons (.int n) (Reps.of_ints r)
theorem kV_kI (k : List Int) : (kI k).map kV = k.map V.int := by
  unfold kI; rw [List.map_map]; rfl
/-- an object at a, read in H, its items in Z -/
def Ob (K : PySem.W.Frag) (Z H : Hp) (a : Addr) : D → Prop
  | .lst ds => ∃ xs, H a = some (.lst xs) ∧ Reps K Z xs ds
  | .dic es => ∃ kvs, H a = some (.dT kvs) ∧ RepD K Z kvs es
  | _ => False
theorem Ob.mono {K : PySem.W.Frag} {Z H Z' H' : Hp} {a : Addr} {d : D} (o : Ob K Z H a d) (s : Same Z Z') (h : H' a = H a) : Ob K Z' H' a d := by
  cases d with
  | lst ds => obtain ⟨xs, e, r⟩ := o; exact ⟨xs, h.trans e, r.mono s⟩
  | dic es => obtain ⟨xs, e, r⟩ := o; exact ⟨xs, h.trans e, r.mono s⟩
  | _ => exact o.elim
theorem Ob.isS {K : PySem.W.Frag} {Z H : Hp} {a : Addr} {d : D} (o : Ob K Z H a d) : ∃ u, H a = some u := by
  cases d with
  | lst ds => obtain ⟨xs, e, r⟩ := o; exact ⟨_, e⟩
  | dic es => obtain ⟨xs, e, r⟩ := o; exact ⟨_, e⟩
  | _ => exact o.elim
/-- frozen: the object at a is put into Z -/
theorem Ob.frozen {K : PySem.W.Frag} {Z H : Hp} {a : Addr} {d : D} (o : Ob K Z H a d) (n : Z a = none) : ∃ u, H a = some u ∧ Rep K (upd Z a u) (.ref a) d ∧ Same Z (upd Z a u) := by
  have sm : ∀ u, Same Z (upd Z a u) := fun u b x e => by rw [upd_ne (ne_of_none e n)]; exact e
  cases d with
  | lst ds => obtain ⟨xs, e, r⟩ := o; exact ⟨_, e, .lst upd_same (r.mono (sm _)), sm _⟩
  | dic es => obtain ⟨xs, e, r⟩ := o; exact ⟨_, e, .dic upd_same (r.mono (sm _)), sm _⟩
  | _ => exact o.elim

/-- no tuple -/
def NT (o : HO) : Prop := ∀ xs, o ≠ .tup xs
theorem Ob.nt {K : PySem.W.Frag} {Z H : Hp} {a : Addr} {d : D} {u : HO} (o : Ob K Z H a d) (h : H a = some u) : NT u := fun xs e => by
  subst e
  cases d with
  | lst ds => obtain ⟨xs, e, r⟩ := o; rw [h] at e; cases e
  | dic es => obtain ⟨xs, e, r⟩ := o; rw [h] at e; cases e
  | _ => exact o.elim
/-- from (O, Z, H) to (O', Z', H'): O, the addresses that may be changed -/
structure Ext (O : Addr → Prop) (Z H : Hp) (O' : Addr → Prop) (Z' H' : Hp) : Prop where
  z : Same Z Z'
  h : ∀ b o, H b = some o → ¬ O b → H' b = some o
  n : ∀ b o, H b = some o → NT o → ¬ O b → Z' b = Z b
  d : ∀ b o, H b = some o → ∃ o', H' b = some o'
  o : ∀ b, O' b → O b ∨ H b = none
theorem Ext.refl {O : Addr → Prop} {Z H : Hp} : Ext O Z H O Z H := ⟨Same.refl _, fun _ _ e _ => e, fun _ _ _ _ _ => rfl, fun _ _ e => ⟨_, e⟩, fun _ h => .inl h⟩
theorem Ext.trans {O O1 O2 : Addr → Prop} {Z H Z1 H1 Z2 H2 : Hp} (a : Ext O Z H O1 Z1 H1) (b : Ext O1 Z1 H1 O2 Z2 H2) : Ext O Z H O2 Z2 H2 := by
  have nO : ∀ b o, H b = some o → ¬ O b → ¬ O1 b := fun b o e q q1 => by
    rcases a.o b q1 with z | z
    · exact q z
    · rw [e] at z; cases z
  refine ⟨a.z.trans b.z, fun c o e q => b.h c o (a.h c o e q) (nO c o e q), fun c o e t q => (b.n c o (a.h c o e q) t (nO c o e q)).trans (a.n c o e t q), fun c o e => ?_, fun c q => ?_⟩
  · obtain ⟨o1, e1⟩ := a.d c o e
    exact b.d c o1 e1
  · rcases b.o c q with z | z
    · exact a.o c z
    · refine .inr ?_
      cases e : H c with
      | none => rfl
      | some o => obtain ⟨o', e'⟩ := a.d c o e; rw [z] at e'; cases e'
theorem Ext.free {O O' : Addr → Prop} {Z H Z' H' : Hp} (x : Ext O Z H O' Z' H') {p : Addr} (h : H' p = none) : H p = none := by
  cases e : H p with
  | none => rfl
  | some o => obtain ⟨o', e'⟩ := x.d p o e; rw [h] at e'; cases e'
/-- less may be changed -/
theorem Ext.weak {O O' P : Addr → Prop} {Z H Z' H' : Hp} (x : Ext O Z H O' Z' H') (k : ∀ b, O b → P b) (k' : ∀ b, P b → O b ∨ ¬ O b) : Ext P Z H O' Z' H' :=
  ⟨x.z, fun b o e q => x.h b o e fun z => q (k b z), fun b o e t q => x.n b o e t fun z => q (k b z), x.d, fun b q => (x.o b q).imp_left (k b)⟩
end PL

set_option Elab.async false
set_option linter.all false
set_option maxRecDepth 100000
namespace PL
open PySem PySem.Spec PyProof.Rows L2

/-! the evaluator -/
inductive R (α : Type) where
  | ok (a : α) | ex (c : Nat) (x : D) | no
def R.bind {α β : Type} (x : R α) (f : α → R β) : R β := match x with
  | .ok a => f a
  | .ex c d => .ex c d
  | .no => .no
instance : Monad R where
  pure := R.ok
  bind := R.bind

abbrev LIM : Nat := 1000000
inductive Sl where
  | no | fr (d : D) | ow (d : D)
inductive Op2 where | add | sub | mul | fdiv | mod | pow
inductive Cm where | eq | ne | lt | le | gt | ge | isin | notin | is_ | isnot
inductive Ty where | int | bool | tuple | list | str | dict | ntyp
inductive Bi where
  | len | int | abs | max2 | min2 | maxl | minl | sum | sorted | sset | list | tuple | dictp | dictc
  | rgl1 | rgt1 | rgl2 | str | isi (ts : List Ty) | skeys | lkeys | index | count | get2 | join | repl | sumvals
inductive Tg where | nm (i : Nat) | tp (ts : List Tg)

mutual
inductive E where
  | loc (i : Nat) | bor (i : Nat) | rw | cst (d : D)
  | tup (es : Es) | lst (es : Es) | emp
  | bin (o : Op2) (a b : E) | neg (a : E) | not (a : E) | and (a b : E) | or (a b : E)
  | cmp (o : Cm) (a b : E) | chain (o p : Cm) (a b c : E) | ite (c a b : E)
  | ix (a i : E) | sl (a : E) (hl : Bool) (lo : E) (hh : Bool) (hi : E) | rev (a : E)
  | bi (f : Bi) (es : Es) | call (f : Nat) (es : Es) | callr (f : Nat) (es : Es)
  | lc (elt : E) (tg : Tg) (it : It) (ifs : Es) (own : List Nat)
inductive Es where
  | nil | cons (e : E) (es : Es)
inductive It where
  | seq (e : E) | rng1 (e : E) | rng2 (a b : E) | rng3 (a b c : E) | enum (e : E) | zip (a b : E) | keys (e : E)
end
mutual
inductive S where
  | asg (i : Nat) (e : E) | own (i : Nat) (e : E) | asgT (t : Tg) (e : E) | asgP (is : List (Nat × Bool)) (es : Es) | mkrow (e : E)
  | frz (is : List Nat) | setx (i : Nat) (k v : E) | setr (k v : E) | set2 (i : Nat) (k1 k2 e : E)
  | augx (i : Nat) (k : E) (o : Op2) (v : E) | aug (i : Nat) (o : Op2) (e : E)
  | app (i : Nat) (e : E) | pop (t i : Nat) | ex (e : E) | ite (c : E) (a b : Ss)
  | for_ (tg : Tg) (it : It) (body : Ss) | wh (c : E) (body : Ss) | ret (e : E) | retN
  | rais (c : Nat) (es : Es)
inductive Ss where
  | nil | cons (s : S) (ss : Ss)
end
def Es.len : Es → Nat
  | .nil => 0
  | .cons _ r => r.len + 1

/-! ### values -/
mutual
def eqD : D → D → Bool
  | .non, .non => true
  | .bl a, .bl b => a == b
  | .bl a, .int j => (if a then 1 else 0) == j
  | .int i, .bl b => i == (if b then 1 else 0)
  | .int i, .int j => i == j
  | .str x, .str y => x == y
  | .lst xs, .lst ys => eqDs xs ys
  | .tup xs, .tup ys => eqDs xs ys
  | _, _ => false
def eqDs : List D → List D → Bool
  | [], [] => true
  | x :: xs, y :: ys => eqD x y && eqDs xs ys
  | _, _ => false
end
/-! data without dicts, at most so deep -/
mutual
def shD : Nat → D → Bool
  | _, .non => true
  | _, .bl _ => true
  | _, .int _ => true
  | _, .str x => PyData.strOk x
  | 0, _ => false
  | n + 1, .lst xs => shDs n xs
  | n + 1, .tup xs => shDs n xs
  | _, .dic _ => false
  | _, .scr _ => false
def shDs : Nat → List D → Bool
  | _, [] => true
  | n, x :: xs => shD n x && shDs n xs
end
def intsD : List D → Option (List Int)
  | [] => some []
  | .int i :: r => (intsD r).map (i :: ·)
  | _ :: _ => none
def tupsD : List D → Option (List (List Int))
  | [] => some []
  | .tup x :: r => match intsD x, tupsD r with
    | some k, some ks => some (k :: ks)
    | _, _ => none
  | _ :: _ => none
def lexLe : List Int → List Int → Bool
  | [], _ => true
  | _ :: _, [] => false
  | x :: xs, y :: ys => if x = y then lexLe xs ys else decide (x ≤ y)
def insI (x : Int) : List Int → List Int
  | [] => [x]
  | y :: r => if x ≤ y then x :: y :: r else y :: insI x r
def sortI : List Int → List Int
  | [] => []
  | x :: r => insI x (sortI r)
def insT (x : List Int) : List (List Int) → List (List Int)
  | [] => [x]
  | y :: r => if lexLe x y then x :: y :: r else y :: insT x r
def sortT : List (List Int) → List (List Int)
  | [] => []
  | x :: r => insT x (sortT r)
def dedI : List Int → List Int
  | x :: y :: r => if x = y then dedI (y :: r) else x :: dedI (y :: r)
  | r => r
def dedT : List (List Int) → List (List Int)
  | x :: y :: r => if x = y then dedT (y :: r) else x :: dedT (y :: r)
  | r => r
abbrev tI (k : List Int) : D := .tup (k.map D.int)
def seqD : D → Option (List D)
  | .lst ds => some ds
  | .tup ds => some ds
  | _ => none
def idxN (n : Nat) (i : Int) : Option Nat := if 0 ≤ i then (if i < n then some i.toNat else none) else if -(n : Int) ≤ i then some (i + n).toNat else none
def sIxD (n d : Nat) : Option Int → Nat
  | none => d
  | some v => if v < 0 then (v + (n : Int)).toNat else min v.toNat n
def cutD {α : Type} (xs : List α) (lo hi : Option Int) : List α := (xs.drop (sIxD xs.length 0 lo)).take (sIxD xs.length xs.length hi - sIxD xs.length 0 lo)
def lookD (k : List Int) : List (List Int × D) → Option D
  | [] => none
  | (j, d) :: r => if j = k then some d else lookD k r
def putD (k : List Int) (v : D) (es : List (List Int × D)) : List (List Int × D) :=
  if (es.any fun e => decide (e.1 = k)) = true then es.map fun e => if e.1 = k then (e.1, v) else e else es ++ [(k, v)]
def keyD : D → Option (List Int)
  | .tup x => intsD x
  | _ => none
def R.ofO {α : Type} : Option α → R α
  | some a => .ok a
  | none => .no
def op2D : Op2 → D → D → R D
  | .add, .int a, .int b => .ok (.int (a + b))
  | .add, .str a, .str b => if a.length + b.length ≤ LIM then .ok (.str (a ++ b)) else .no
  | .add, .tup a, .tup b => if a.length + b.length ≤ LIM then .ok (.tup (a ++ b)) else .no
  | .add, .lst a, .lst b => if a.length + b.length ≤ LIM then .ok (.lst (a ++ b)) else .no
  | .sub, .int a, .int b => .ok (.int (a - b))
  | .mul, .int a, .int b => if a.natAbs.log2 + b.natAbs.log2 < 1000000 then .ok (.int (a * b)) else .no
  | .mul, .tup a, .int b => if a.length ≤ 1000 ∧ b ≤ 1000 ∧ -1000 ≤ b then .ok (.tup (List.replicate b.toNat a).flatten) else .no
  | .mul, .lst a, .int b => if a.length * b.toNat ≤ LIM ∧ b < 1000000 ∧ -1000000 < b then .ok (.lst (List.replicate b.toNat a).flatten) else .no
  | .fdiv, .int a, .int b => if b ≠ 0 ∧ b.natAbs.log2 < 9000 then .ok (.int (a.fdiv b)) else .no
  | .mod, .int a, .int b => if b ≠ 0 then .ok (.int (a.fmod b)) else .no
  | .pow, .int a, .int b => if 0 ≤ b ∧ b ≤ 1000 ∧ a.natAbs < 2 ^ 64 then .ok (.int (a ^ b.toNat)) else .no
  | _, _, _ => .no
def inD (x : D) : List D → Bool
  | [] => false
  | y :: r => eqD y x || inD x r
def isinD : D → D → R Bool
  | x, .lst ds => if shD 60 x && shD 60 (.lst ds) then .ok (inD x ds) else .no
  | x, .tup ds => if shD 60 x && shD 60 (.tup ds) then .ok (inD x ds) else .no
  | x, .dic es => match keyD x with
    | some k => .ok (lookD k es).isSome
    | none => .no
  | .str a, .str b => .ok (!(Builtin.Str.occurrences b a 0 b.length 1).isEmpty)
  | _, _ => .no
def eqG (a b : D) : R Bool := match a, b with
  | .dic [], .dic es => .ok es.isEmpty
  | .dic es, .dic [] => .ok es.isEmpty
  | _, _ => if shD 60 a && shD 60 b then .ok (eqD a b) else .no
def isNonD : D → Bool
  | .non => true
  | _ => false
def cmpD : Cm → D → D → R Bool
  | .eq, a, b => eqG a b
  | .ne, a, b => match eqG a b with
    | .ok c => .ok (!c)
    | r => r
  | .lt, .int a, .int b => .ok (decide (a < b))
  | .le, .int a, .int b => .ok (decide (a ≤ b))
  | .gt, .int a, .int b => .ok (decide (b < a))
  | .ge, .int a, .int b => .ok (decide (b ≤ a))
  | .le, .tup a, .tup b => match intsD a, intsD b with
    | some x, some y => .ok (lexLe x y)
    | _, _ => .no
  | .isin, a, b => isinD a b
  | .notin, a, b => match isinD a b with
    | .ok c => .ok (!c)
    | r => r
  | .is_, a, .non => .ok (isNonD a)
  | .isnot, a, .non => .ok (!isNonD a)
  | .is_, .bl a, .bl b => .ok (a == b)
  | .isnot, .bl a, .bl b => .ok (!(a == b))
  | _, _, _ => .no
def tyD : D → Ty
  | .non => .ntyp | .bl _ => .bool | .int _ => .int | .str _ => .str | .tup _ => .tuple | .lst _ => .list | .dic _ => .dict | .scr _ => .list
def isiT : Ty → Ty → Bool
  | .bool, .int => true
  | .int, .int => true | .bool, .bool => true | .tuple, .tuple => true | .list, .list => true | .str, .str => true | .dict, .dict => true | .ntyp, .ntyp => true
  | _, _ => false
def rgD (a b : Int) : List D := (List.range (b - a).toNat).map fun i => D.int (a + (i : Nat))
def sortD (ds : List D) : R (List D) := match intsD ds with
  | some ns => .ok ((sortI ns).map D.int)
  | none => match tupsD ds with
    | some ks => if ks.all (fun k => !k.isEmpty) then .ok ((sortT ks).map tI) else .no
    | none => .no
def ssetD (ds : List D) : R (List D) := if ds.length < 64 then match intsD ds with
  | some ns => .ok ((dedI (sortI ns)).map D.int)
  | none => match tupsD ds with
    | some ks => if ks.all (fun k => decide (k.length = (ks.headD []).length) && !k.isEmpty && k.all fun x => decide (0 ≤ x) && decide (x < 64)) then .ok ((dedT (sortT ks)).map tI) else .no
    | none => .no
  else .no
def pairsD : List D → Option (List (List Int × D))
  | [] => some []
  | .tup [.tup x, v] :: r => match intsD x, pairsD r with
    | some k, some ks => some ((k, v) :: ks)
    | _, _ => none
  | _ :: _ => none
def mergeD : List (List Int × D) → List (List Int × D) → List (List Int × D)
  | acc, [] => acc
  | acc, (k, v) :: r => mergeD (putD k v acc) r
def maxI : Int → List Int → Int
  | m, [] => m
  | m, x :: r => maxI (if m < x then x else m) r
def minI : Int → List Int → Int
  | m, [] => m
  | m, x :: r => minI (if x < m then x else m) r
def indexD (x : D) : List D → Nat → Option Nat
  | [], _ => none
  | y :: r, n => if eqD y x then some n else indexD x r (n + 1)
def strsD : List D → Option (List Str)
  | [] => some []
  | .str i :: r => (strsD r).map (i :: ·)
  | _ :: _ => none
def biLen : List D → R D
  | [.lst ds] => .ok (.int ds.length)
  | [.tup ds] => .ok (.int ds.length)
  | [.dic es] => .ok (.int es.length)
  | [.scr ns] => .ok (.int ns.length)
  | [.str x] => if x.length ≤ LIM then .ok (.int x.length) else .no
  | _ => .no
def biInt : List D → R D
  | [.int i] => .ok (.int i)
  | [.bl b] => .ok (.int (if b then 1 else 0))
  | [.str x] => match PySem.intText? x with
    | some n => if x.length ≤ 640 then .ok (.int n) else .no
    | none => .no
  | _ => .no
def biAbs : List D → R D
  | [.int i] => .ok (.int (if i < 0 then -i else i))
  | _ => .no
def biMax2 : List D → R D
  | [.int i, .int j] => .ok (.int (if i < j then j else i))
  | _ => .no
def biMin2 : List D → R D
  | [.int i, .int j] => .ok (.int (if j < i then j else i))
  | _ => .no
def biMaxl : List D → R D
  | [a] => match seqD a with
    | some ds => match intsD ds with
      | some (x :: r) => .ok (.int (maxI x r))
      | _ => .no
    | none => .no
  | _ => .no
def biMinl : List D → R D
  | [a] => match seqD a with
    | some ds => match intsD ds with
      | some (x :: r) => .ok (.int (minI x r))
      | _ => .no
    | none => .no
  | _ => .no
def biSum : List D → R D
  | [.scr ns] => .ok (.int ns.sum)
  | [a] => match seqD a with
    | some ds => match intsD ds with
      | some ns => .ok (.int ns.sum)
      | none => .no
    | none => .no
  | _ => .no
def biSorted : List D → R D
  | [a] => match seqD a with
    | some ds => if ds.length ≤ LIM then (sortD ds).bind fun r => .ok (.lst r) else .no
    | none => .no
  | _ => .no
def biSset : List D → R D
  | [a] => match seqD a with
    | some ds => (ssetD ds).bind fun r => .ok (.lst r)
    | none => .no
  | _ => .no
def biList : List D → R D
  | [a] => match seqD a with
    | some ds => .ok (.lst ds)
    | none => .no
  | _ => .no
def biTuple : List D → R D
  | [a] => match seqD a with
    | some ds => .ok (.tup ds)
    | none => .no
  | _ => .no
def biDictp : List D → R D
  | [.lst ds] => match pairsD ds with
    | some es => .ok (.dic (mergeD [] es))
    | none => .no
  | _ => .no
/-- the hash of a tuple of ints -/
def hashT (k : List Int) : Int := reduceHash (Builtin.Tuple.tupleHashOf (k.map hashInt))
def nodupI : List Int → Bool
  | [] => true
  | x :: r => !r.contains x && nodupI r
def biDictc : List D → R D
  | [.dic es] => if nodupI (es.map fun e => hashT e.1) = true ∧ es.length ≤ LIM then .ok (.dic es) else .no
  | _ => .no
def biRgl1 : List D → R D
  | [.int n] => if n ≤ LIM ∧ -1000000 ≤ n then .ok (.lst (rgD 0 n)) else .no
  | _ => .no
def biRgt1 : List D → R D
  | [.int n] => if n ≤ LIM ∧ -1000000 ≤ n then .ok (.tup (rgD 0 n)) else .no
  | _ => .no
def biRgl2 : List D → R D
  | [.int m, .int n] => if n ≤ LIM ∧ -1000000 ≤ n ∧ m ≤ LIM ∧ -1000000 ≤ m then .ok (.lst (rgD m n)) else .no
  | _ => .no
def biIsi (ts : List Ty) : List D → R D
  | [.scr _] => .no
  | [a] => .ok (.bl (ts.any fun t => isiT (tyD a) t))
  | _ => .no
def biSkeys : List D → R D
  | [.dic es] => if es.length ≤ LIM ∧ (es.all fun e => !e.1.isEmpty) = true then .ok (.lst ((sortT (es.map (·.1))).map tI)) else .no
  | _ => .no
def biLkeys : List D → R D
  | [.dic es] => .ok (.lst ((es.map (·.1)).map tI))
  | _ => .no
def biIndex : List D → R D
  | [.lst ds, x] => if shD 60 x && shD 60 (.lst ds) then match indexD x ds 0 with
      | some n => .ok (.int n)
      | none => .no
    else .no
  | _ => .no
def biCount : List D → R D
  | [.lst ds, x] => if shD 60 x && shD 60 (.lst ds) then .ok (.int (ds.countP fun y => eqD y x)) else .no
  | [.tup ds, x] => if shD 60 x && shD 60 (.tup ds) then .ok (.int (ds.countP fun y => eqD y x)) else .no
  | [.str s, .str x] => if s.length ≤ LIM then .ok (.int (Txt.count s x)) else .no
  | _ => .no
def biGet2 : List D → R D
  | [.dic es, k, d] => match keyD k with
    | some k => .ok ((lookD k es).getD d)
    | none => .no
  | _ => .no
def biStr : List D → R D
  | [.int i] => if i.natAbs < 1000000 then .ok (.str (Str.ofString (toString i))) else .no
  | _ => .no
def biJoin : List D → R D
  | [.str s, .lst ds] => match strsD ds with
    | some xs => if (Txt.join s xs).length ≤ LIM ∧ xs.length ≤ 1000 ∧ (xs.all fun x => decide (x.length ≤ 1000)) = true ∧ s.length ≤ 1000 then .ok (.str (Txt.join s xs)) else .no
    | none => .no
  | _ => .no
def biSumvals : List D → R D
  | [.dic es] => match intsD (es.map (·.2)) with
    | some ns => .ok (.int ns.sum)
    | none => .no
  | _ => .no
def biD : Bi → List D → R D
  | .len => biLen | .int => biInt | .abs => biAbs | .max2 => biMax2 | .min2 => biMin2 | .maxl => biMaxl | .minl => biMinl | .sum => biSum
  | .sorted => biSorted | .sset => biSset | .list => biList | .tuple => biTuple | .dictp => biDictp | .dictc => biDictc
  | .rgl1 => biRgl1 | .rgt1 => biRgt1 | .rgl2 => biRgl2 | .str => biStr | .isi ts => biIsi ts | .skeys => biSkeys | .lkeys => biLkeys
  | .index => biIndex | .count => biCount | .get2 => biGet2 | .join => biJoin | .repl => fun _ => .no | .sumvals => biSumvals
def ixD : D → D → R D
  | .lst ds, .int i => match idxN ds.length i with
    | some j => R.ofO ds[j]?
    | none => .no
  | .tup ds, .int i => match idxN ds.length i with
    | some j => R.ofO ds[j]?
    | none => .no
  | .scr ds, .int i => match idxN ds.length i with
    | some j => R.ofO (ds[j]?.map D.int)
    | none => .no
  | .dic es, k => match keyD k with
    | some k => R.ofO (lookD k es)
    | none => .no
  | _, _ => .no
def slD : D → Option Int → Option Int → R D
  | .lst ds, l, h => .ok (.lst (cutD ds l h))
  | .tup ds, l, h => .ok (.tup (cutD ds l h))
  | .str x, l, h => if x.length ≤ LIM then .ok (.str ⟨(cutD x.cps.toList l h).toArray⟩) else .no
  | _, _, _ => .no
/-- a slice's part -/
def asI : D → D → R (Option Int × D)
  | .int i, r => .ok (some i, r)
  | _, _ => .no
def revD : D → R D
  | .tup ds => .ok (.tup ds.reverse)
  | _ => .no
def setD : D → D → D → R D
  | .lst ds, .int i, v => match idxN ds.length i with
    | some j => .ok (.lst (ds.set j v))
    | none => .no
  | .dic es, k, v => match keyD k with
    | some k => if es.length < LIM then .ok (.dic (putD k v es)) else .no
    | none => .no
  | _, _, _ => .no
def asB : D → R Bool
  | .bl b => .ok b
  | _ => .no
def enumD : Nat → List D → List D
  | _, [] => []
  | n, d :: r => .tup [.int n, d] :: enumD (n + 1) r
def zipD : List D → List D → List D
  | x :: xs, y :: ys => .tup [x, y] :: zipD xs ys
  | _, _ => []
def rg3D (a b c : Int) : R (List D) := if c = -1 ∧ a ≤ LIM ∧ -1000000 ≤ a ∧ b ≤ LIM ∧ -1000000 ≤ b then .ok ((List.range (a - b).toNat).map fun i => D.int (a - (i : Nat))) else .no

/-! ### environments -/
abbrev Env' := List Sl
def wipeE (env : Env') : List Nat → Env'
  | [] => env
  | v :: vs => (wipeE env vs).set v .no
mutual
def bindT : Tg → D → Env' → R Env'
  | .nm i, d, env => .ok (env.set i (.fr d))
  | .tp ts, .tup ds, env => bindTs ts ds env
  | .tp _, _, _ => .no
def bindTs : List Tg → List D → Env' → R Env'
  | [], [], env => .ok env
  | t :: ts, d :: ds, env => (bindT t d env).bind fun env => bindTs ts ds env
  | _, _, _ => .no
end
def lcD (f : D → D → R (Option D × D)) : List D → D → R (List D × D)
  | [], r => .ok ([], r)
  | d :: ds, r => (f d r).bind fun (o, r) => (lcD f ds r).bind fun (out, r) => .ok (match o with | some x => x :: out | none => out, r)

/-- nothing is raised out of it -/
def R.calm {α : Type} : R α → R α
  | .ok a => .ok a
  | _ => .no
abbrev Cl := Nat → D → List D → R (D × D)
def rowOk : D → Bool
  | .lst _ => true
  | _ => false
mutual
def evE (cl : Cl) : E → Env' → D → R (D × D)
  | .loc i, env, r => match env[i]? with
    | some (.fr d) => .ok (d, r)
    | _ => .no
  | .bor i, env, r => match env[i]? with
    | some (.ow d) => .ok (d, r)
    | some (.fr d) => .ok (d, r)
    | _ => .no
  | .rw, _, r => if rowOk r then .ok (r, r) else .no
  | .cst d, _, r => .ok (d, r)
  | .tup es, env, r => (evEs cl es env r).bind fun (ds, r) => .ok (.tup ds, r)
  | .lst es, env, r => (evEs cl es env r).bind fun (ds, r) => .ok (.lst ds, r)
  | .emp, _, r => .ok (.dic [], r)
  | .bin o a b, env, r => (evE cl a env r).bind fun (x, r) => (evE cl b env r).bind fun (y, r) => (op2D o x y).bind fun z => .ok (z, r)
  | .neg a, env, r => (evE cl a env r).bind fun (x, r) => match x with
    | .int i => .ok (.int (-i), r)
    | _ => .no
  | .not a, env, r => (evE cl a env r).bind fun (x, r) => (asB x).bind fun b => .ok (.bl (!b), r)
  | .and a b, env, r => (evE cl a env r).bind fun (x, r) => (asB x).bind fun c => if c then (evE cl b env r).bind fun (y, r) => (asB y).bind fun c => .ok (.bl c, r) else .ok (.bl false, r)
  | .or a b, env, r => (evE cl a env r).bind fun (x, r) => (asB x).bind fun c => if c then .ok (.bl true, r) else (evE cl b env r).bind fun (y, r) => (asB y).bind fun c => .ok (.bl c, r)
  | .cmp o a b, env, r => (evE cl a env r).bind fun (x, r) => (evE cl b env r).bind fun (y, r) => (cmpD o x y).bind fun c => .ok (.bl c, r)
  | .chain o p a b c, env, r => (evE cl a env r).bind fun (x, r) => (evE cl b env r).bind fun (y, r) => (cmpD o x y).bind fun k =>
      if k then (evE cl c env r).bind fun (z, r) => (cmpD p y z).bind fun k => .ok (.bl k, r) else .ok (.bl false, r)
  | .ite c a b, env, r => (evE cl c env r).bind fun (x, r) => (asB x).bind fun k => if k then evE cl a env r else evE cl b env r
  | .ix a i, env, r => (evE cl a env r).bind fun (x, r) => (evE cl i env r).bind fun (y, r) => (ixD x y).bind fun z => .ok (z, r)
  | .sl a hl l hh h, env, r => (evE cl a env r).bind fun (x, r) => (if hl then (evE cl l env r).bind fun (y, r) => asI y r else .ok (none, r)).bind fun (y, r) =>
      (if hh then (evE cl h env r).bind fun (z, r) => asI z r else .ok (none, r)).bind fun (z, r) => (slD x y z).bind fun w => .ok (w, r)
  | .rev a, env, r => (evE cl a env r).bind fun (x, r) => (revD x).bind fun z => .ok (z, r)
  | .bi f es, env, r => (evEs cl es env r).bind fun (ds, r) => (biD f ds).bind fun z => .ok (z, r)
  | .call f es, env, r => (evEs cl es env r).bind fun (ds, r) => (cl f .non ds).bind fun (z, _) => .ok (z, r)
  | .callr f es, env, r => if rowOk r then (evEs cl es env r).bind fun (ds, r) => if rowOk r then cl f r ds else .no else .no
  | .lc elt tg it ifs own, env, r => (evIt cl it env r).bind fun (ds, r) => if ds.length ≤ LIM then
      (lcD (fun d r => (bindT tg d (wipeE env own)).bind fun env => (evC cl ifs env r).bind fun (b, r) => if b then (evE cl elt env r).bind fun (x, r) => .ok (some x, r) else .ok (none, r)) ds r).calm.bind fun (out, r) => .ok (.lst out, r)
    else .no
def evEs (cl : Cl) : Es → Env' → D → R (List D × D)
  | .nil, _, r => .ok ([], r)
  | .cons e es, env, r => (evE cl e env r).bind fun (x, r) => (evEs cl es env r).bind fun (xs, r) => .ok (x :: xs, r)
def evC (cl : Cl) : Es → Env' → D → R (Bool × D)
  | .nil, _, r => .ok (true, r)
  | .cons e es, env, r => (evE cl e env r).bind fun (x, r) => (asB x).bind fun b => if b then evC cl es env r else .ok (false, r)
def evIt (cl : Cl) : It → Env' → D → R (List D × D)
  | .seq e, env, r => (evE cl e env r).bind fun (x, r) => match seqD x with
    | some ds => .ok (ds, r)
    | none => .no
  | .rng1 e, env, r => (evE cl e env r).bind fun (x, r) => match x with
    | .int n => if n ≤ LIM ∧ -1000000 ≤ n then .ok (rgD 0 n, r) else .no
    | _ => .no
  | .rng2 a b, env, r => (evE cl a env r).bind fun (x, r) => (evE cl b env r).bind fun (y, r) => match x, y with
    | .int m, .int n => if n ≤ LIM ∧ -1000000 ≤ n ∧ m ≤ LIM ∧ -1000000 ≤ m then .ok (rgD m n, r) else .no
    | _, _ => .no
  | .rng3 a b c, env, r => (evE cl a env r).bind fun (x, r) => (evE cl b env r).bind fun (y, r) => (evE cl c env r).bind fun (z, r) => match x, y, z with
    | .int m, .int n, .int k => (rg3D m n k).bind fun ds => .ok (ds, r)
    | _, _, _ => .no
  | .enum e, env, r => (evE cl e env r).bind fun (x, r) => match seqD x with
    | some ds => .ok (enumD 0 ds, r)
    | none => .no
  | .zip a b, env, r => (evE cl a env r).bind fun (x, r) => (evE cl b env r).bind fun (y, r) => match x, y with
    | .lst ds, .lst es => .ok (zipD ds es, r)
    | .tup ds, .tup es => .ok (zipD ds es, r)
    | .tup ds, .lst es => .ok (zipD ds es, r)
    | _, _ => .no
  | .keys e, env, r => (evE cl e env r).bind fun (x, r) => match x with
    | .dic es => .ok ((es.map (·.1)).map tI, r)
    | _ => .no
end

/-! ### statements -/
inductive Fl where
  | nx (env : Env') (r : D) | rt (d : D) (r : D)
def forD (f : D → Env' → D → R Fl) : List D → Env' → D → R Fl
  | [], env, r => .ok (.nx env r)
  | d :: ds, env, r => (f d env r).bind fun x => match x with
    | .nx env r => forD f ds env r
    | .rt d r => .ok (.rt d r)
def whD (c : Env' → D → R (Bool × D)) (f : Env' → D → R Fl) : Nat → Env' → D → R Fl
  | 0, _, _ => .no
  | n + 1, env, r => (c env r).bind fun (b, r) => if b then (f env r).bind fun x => match x with
      | .nx env r => whD c f n env r
      | .rt d r => .ok (.rt d r)
    else .ok (.nx env r)
abbrev WF : Nat := 1000000000
def objD : D → Bool
  | .lst _ => true
  | .dic _ => true
  | _ => false
def storeP : List (Nat × Bool) → List D → Env' → R Env'
  | [], [], env => .ok env
  | (i, false) :: is, d :: ds, env => storeP is ds (env.set i (.fr d))
  | (i, true) :: is, d :: ds, env => if objD d then storeP is ds (env.set i (.ow d)) else .no
  | _, _, _ => .no
def frzE : List Nat → Env' → Env'
  | [], env => env
  | i :: is, env => frzE is (match env[i]? with
    | some (.ow d) => env.set i (.fr d)
    | _ => env)
mutual
def evS (cl : Cl) : S → Env' → D → R Fl
  | .asg i e, env, r => (evE cl e env r).bind fun (d, r) => .ok (.nx (env.set i (.fr d)) r)
  | .own i e, env, r => (evE cl e env r).bind fun (d, r) => if objD d then .ok (.nx (env.set i (.ow d)) r) else .no
  | .asgT t e, env, r => (evE cl e env r).bind fun (d, r) => (bindT t d env).bind fun env => .ok (.nx env r)
  | .asgP is es, env, r => (evEs cl es env r).bind fun (ds, r) => (storeP is ds env).bind fun env => .ok (.nx env r)
  | .mkrow e, env, r => match r with
    | .non => (evE cl e env r).bind fun (d, _) => if rowOk d then .ok (.nx env d) else .no
    | _ => .no
  | .frz is, env, r => .ok (.nx (frzE is env) r)
  | .setx i k v, env, r => (evE cl v env r).bind fun (v, r) => match env[i]? with
    | some (.ow d) => (evE cl k env r).bind fun (k, r) => (setD d k v).bind fun d => .ok (.nx (env.set i (.ow d)) r)
    | _ => .no
  | .setr k v, env, r => (evE cl v env r).bind fun (v, r) => if rowOk r then (evE cl k env r).bind fun (k, r) => if rowOk r then (setD r k v).bind fun d => .ok (.nx env d) else .no else .no
  | .set2 i k1 k2 e, env, r => (evE cl e env r).bind fun (x, r) => match x with
    | .tup [v1, v2] => match env[i]? with
      | some (.ow d) => (evE cl k1 env r).bind fun (k1, r) => (setD d k1 v1).bind fun d => (evE cl k2 (env.set i (.ow d)) r).bind fun (k2, r) => (setD d k2 v2).bind fun d => .ok (.nx (env.set i (.ow d)) r)
      | _ => .no
    | _ => .no
  | .augx i k o v, env, r => match env[i]? with
    | some (.ow (.lst ds)) => (evE cl k env r).bind fun (k, r) => (ixD (.lst ds) k).bind fun x => (evE cl v env r).bind fun (y, r) => match x, y with
      | .int _, .int _ => (op2D o x y).bind fun z => (setD (.lst ds) k z).bind fun d => .ok (.nx (env.set i (.ow d)) r)
      | _, _ => .no
    | _ => .no
  | .aug i o e, env, r => match env[i]? with
    | some (.fr x) => (evE cl e env r).bind fun (y, r) => match x, y with
      | .int _, .int _ => (op2D o x y).bind fun z => .ok (.nx (env.set i (.fr z)) r)
      | _, _ => .no
    | _ => .no
  | .app i e, env, r => match env[i]? with
    | some (.ow (.lst ds)) => (evE cl e env r).bind fun (x, r) => if ds.length < LIM then .ok (.nx (env.set i (.ow (.lst (ds ++ [x])))) r) else .no
    | _ => .no
  | .pop t i, env, r => match env[i]? with
    | some (.ow (.lst ds)) => match ds[ds.length - 1]? with
      | some x => .ok (.nx ((env.set i (.ow (.lst ds.dropLast))).set t (.fr x)) r)
      | none => .no
    | _ => .no
  | .ex e, env, r => (evE cl e env r).bind fun (_, r) => .ok (.nx env r)
  | .ite c a b, env, r => (evE cl c env r).bind fun (x, r) => (asB x).bind fun k => if k then evSs cl a env r else evSs cl b env r
  | .for_ tg it body, env, r => (evIt cl it env r).bind fun (ds, r) => forD (fun d env r => (bindT tg d env).bind fun env => evSs cl body env r) ds env r
  | .wh c body, env, r => whD (fun env r => (evE cl c env r).bind fun (x, r) => (asB x).bind fun b => .ok (b, r)) (fun env r => evSs cl body env r) WF env r
  | .ret e, env, r => (evE cl e env r).bind fun (d, r) => .ok (.rt d r)
  | .retN, _, r => .ok (.rt .non r)
  | .rais c es, env, r => (evEs cl es env r).bind fun (ds, r) => match ds with
    | [] => .ex c .non
    | [x] => .ex c x
    | _ => .no
def evSs (cl : Cl) : Ss → Env' → D → R Fl
  | .nil, env, r => .ok (.nx env r)
  | .cons s ss, env, r => (evS cl s env r).bind fun x => match x with
    | .nx env r => evSs cl ss env r
    | .rt d r => .ok (.rt d r)
end

/-! ### defs -/
structure Fd where
  np : Nat
  ns : Nat
  row : Bool
  body : Ss
def startE (fd : Fd) (ds : List D) : Env' := (if fd.row then [.no] else []) ++ ds.map .fr ++ List.replicate (fd.ns - fd.np) .no
def callD (P : List Fd) : Nat → Cl
  | 0, _, _, _ => .no
  | n + 1, f, row, ds => match P[f]? with
    | none => .no
    | some fd => if ds.length + (if fd.row then 1 else 0) = fd.np ∧ rowOk row = fd.row then
        (evSs (callD P n) fd.body (startE fd ds) row).bind fun x => match x with
          | .nx _ r => .ok (.non, r)
          | .rt d r => .ok (d, r)
      else .no
end PL

set_option Elab.async false
set_option linter.all false
set_option maxRecDepth 100000
set_option autoImplicit false
namespace PL
open PySem PySem.Spec PyProof.Rows L2
abbrev VS := L2.St

/-- what a frame is read by: the written part, the calls, the row's slot and address, what is wished of an exception, the entry -/
structure Ctx where
  K : PySem.W.Frag
  cl : Cl
  rs : Option Nat
  ra : Option Addr
  ew : Nat → D → Prop
  O0 : Addr → Prop
  Z0 : Hp
  H0 : Hp

/-- the addresses that the frame may change -/
def Own (C : Ctx) (σ : VS) (env : Env') : Addr → Prop := fun a =>
  (∃ (i : Nat) (d : D), env[i]? = some (.ow d) ∧ σ[i]? = some (some (.ref a))) ∨ (∃ i : Nat, C.rs = some i ∧ σ[i]? = some (some (.ref a)))

structure StOk (C : Ctx) (Z H : Hp) (σ : VS) (env : Env') (r : D) : Prop where
  zh : SameF Z H
  len : env.length = σ.length
  fr : ∀ (i : Nat) (d : D), env[i]? = some (.fr d) → ∃ v, σ[i]? = some (some v) ∧ Rep C.K Z v d
  ow : ∀ (i : Nat) (d : D), env[i]? = some (.ow d) → ∃ a, σ[i]? = some (some (.ref a)) ∧ Z a = none ∧ Ob C.K Z H a d
  sep : ∀ (i j : Nat) (d d' : D) (a : Addr), env[i]? = some (.ow d) → env[j]? = some (.ow d') → σ[i]? = some (some (.ref a)) → σ[j]? = some (some (.ref a)) → i = j
  row : ∀ i : Nat, C.rs = some i → env[i]? = some .no ∧ ((r = .non ∧ σ[i]? = some none ∧ C.ra = none) ∨ (∃ a, rowOk r = true ∧ σ[i]? = some (some (.ref a)) ∧ Z a = none ∧ Ob C.K Z H a r ∧ (∀ a0, C.ra = some a0 → a = a0) ∧
    ∀ (j : Nat) (d : D), env[j]? = some (.ow d) → σ[j]? ≠ some (some (.ref a))))
  norow : C.rs = none → rowOk r = false
  ent : Ext C.O0 C.Z0 C.H0 (Own C σ env) Z H

theorem StOk.ownZ {C : Ctx} {Z H : Hp} {σ : VS} {env : Env'} {r : D} (s : StOk C Z H σ env r) {a : Addr} (h : Own C σ env a) : Z a = none ∧ ∃ d, Ob C.K Z H a d := by
  rcases h with ⟨i, d, h1, h2⟩ | ⟨i, h1, h2⟩
  · obtain ⟨b, e, z, o⟩ := s.ow i d h1
    rw [h2] at e; cases e
    exact ⟨z, d, o⟩
  · obtain ⟨_, h⟩ := s.row i h1
    rcases h with ⟨_, e, _⟩ | ⟨b, _, e, z, o, _⟩
    · rw [h2] at e; cases e
    · rw [h2] at e; cases e
      exact ⟨z, r, o⟩
theorem StOk.ownH {C : Ctx} {Z H : Hp} {σ : VS} {env : Env'} {r : D} (s : StOk C Z H σ env r) {a : Addr} (h : Own C σ env a) : ∃ u, H a = some u := by
  obtain ⟨_, d, o⟩ := s.ownZ h
  exact o.isS

/-- the state moves on: nothing that is owned has changed -/
theorem StOk.step {C : Ctx} {Z H Z' H' : Hp} {σ : VS} {env : Env'} {r : D} (s : StOk C Z H σ env r) (zh : SameF Z' H') (z : Same Z Z') (h : ∀ b o, H b = some o → H' b = some o) (n : ∀ b o, H b = some o → NT o → Z' b = Z b) :
    StOk C Z' H' σ env r ∧ Ext (Own C σ env) Z H (Own C σ env) Z' H' := by
  have k : ∀ a, Own C σ env a → H' a = H a ∧ Z' a = none := fun a ha => by
    obtain ⟨u, e⟩ := s.ownH ha
    obtain ⟨zz, _, ob⟩ := s.ownZ ha
    exact ⟨(h a u e).trans e.symm, (n a u e (ob.nt e)).trans zz⟩
  have x : Ext (Own C σ env) Z H (Own C σ env) Z' H' := ⟨z, fun b o e _ => h b o e, fun b o e t _ => n b o e t, fun b o e => ⟨o, h b o e⟩, fun b q => .inl q⟩
  refine ⟨⟨zh, s.len, fun i d e => ?_, fun i d e => ?_, s.sep, fun i e => ?_, s.norow, s.ent.trans x⟩, x⟩
  · obtain ⟨v, e1, e2⟩ := s.fr i d e
    exact ⟨v, e1, e2.mono z⟩
  · obtain ⟨a, e1, e2, o⟩ := s.ow i d e
    have q := k a (.inl ⟨i, d, e, e1⟩)
    exact ⟨a, e1, q.2, o.mono z q.1⟩
  · obtain ⟨e0, q⟩ := s.row i e
    refine ⟨e0, q.imp_right ?_⟩
    rintro ⟨a, h1, h2, h3, h4, h5, h6⟩
    have q := k a (.inr ⟨i, e, h2⟩)
    exact ⟨a, h1, h2, q.2, h4.mono z q.1, h5, h6⟩
/-- a new object, not frozen -/
theorem SameF.new {Z H : Hp} (s : SameF Z H) {p : Addr} {u : HO} (n : H p = none) : SameF Z (upd H p u) := fun b o e => by
  have ne : b ≠ p := fun q => by subst q; rw [s.dom n] at e; cases e
  rw [upd_ne ne]; exact s b o e
theorem same_upd {H : Hp} {p : Addr} {o : HO} (h : H p = none) : Same H (upd H p o) := fun b x e => by
  rw [upd_ne (ne_of_none e h)]; exact e
theorem StOk.alloc {C : Ctx} {Z H : Hp} {σ : VS} {env : Env'} {r : D} (s : StOk C Z H σ env r) {p : Addr} (u : HO) (n : H p = none) :
    StOk C Z (upd H p u) σ env r ∧ Ext (Own C σ env) Z H (Own C σ env) Z (upd H p u) :=
  s.step (s.zh.new n) (Same.refl _) (same_upd n) fun _ _ _ _ => rfl
/-- .. and frozen -/
theorem StOk.allocF {C : Ctx} {Z H : Hp} {σ : VS} {env : Env'} {r : D} (s : StOk C Z H σ env r) {p : Addr} (u : HO) (n : H p = none) :
    StOk C (upd Z p u) (upd H p u) σ env r ∧ Ext (Own C σ env) Z H (Own C σ env) (upd Z p u) (upd H p u) := by
  refine s.step (fun b o e => ?_) (same_upd (s.zh.dom n)) (same_upd n) fun b o e _ => upd_ne (ne_of_none e n)
  by_cases hb : b = p
  · subst hb; rw [upd_same] at e ⊢; exact .inl e
  · rw [upd_ne hb] at e ⊢; exact s.zh b o e
/-- a tracked object that no slot owns is frozen -/
theorem StOk.freeze {C : Ctx} {Z H : Hp} {σ : VS} {env : Env'} {r : D} (s : StOk C Z H σ env r) {p : Addr} {u : HO} (e : H p = some u) (n : Z p = none) (no : ¬ Own C σ env p) (n0 : C.H0 p = none) : StOk C (upd Z p u) H σ env r := by
  have z : Same Z (upd Z p u) := same_upd n
  have zn : ∀ b, Own C σ env b → upd Z p u b = none := fun b hb => by
    rw [upd_ne (fun (q : b = p) => no (by rw [← q]; exact hb))]; exact (s.ownZ hb).1
  refine ⟨fun b o e' => ?_, s.len, fun i d q => ?_, fun i d q => ?_, s.sep, fun i q => ?_, s.norow, ?_⟩
  · by_cases hb : b = p
    · subst hb; rw [upd_same] at e'; cases e'; exact .inl e
    · rw [upd_ne hb] at e'; exact s.zh b o e'
  · obtain ⟨v, e1, e2⟩ := s.fr i d q
    exact ⟨v, e1, e2.mono z⟩
  · obtain ⟨a, e1, e2, o⟩ := s.ow i d q
    exact ⟨a, e1, zn a (.inl ⟨i, d, q, e1⟩), o.mono z rfl⟩
  · obtain ⟨e0, h⟩ := s.row i q
    refine ⟨e0, h.imp_right ?_⟩
    rintro ⟨a, h1, h2, h3, h4, h5, h6⟩
    exact ⟨a, h1, h2, zn a (.inr ⟨i, q, h2⟩), h4.mono z rfl, h5, h6⟩
  · exact ⟨s.ent.z.trans z, s.ent.h, fun b o e' t q => (upd_ne (ne_of_none e' n0)).trans (s.ent.n b o e' t q), s.ent.d, s.ent.o⟩

/-- tuples that stand are frozen -/
theorem StOk.tupsF {C : Ctx} {Z H : Hp} {σ : VS} {env : Env'} {r : D} (s : StOk C Z H σ env r) (P : Addr → Prop) (hP : ∀ a, P a → ∃ xs, H a = some (.tup xs)) :
    ∃ Z', StOk C Z' H σ env r ∧ Ext (Own C σ env) Z H (Own C σ env) Z' H ∧ Same Z Z' ∧ ∀ a xs, P a → H a = some (.tup xs) → Z' a = some (.tup xs) := by
  classical
  let Z' : Hp := fun a => if P a then H a else Z a
  have zs : Same Z Z' := fun b o e => by
    show (if P b then H b else Z b) = some o
    by_cases h : P b
    · rw [if_pos h]
      obtain ⟨xs, hx⟩ := hP b h
      rcases s.zh b o e with q | ⟨ob, kvs, _, q⟩
      · exact q
      · rw [hx] at q; cases q
    · rw [if_neg h]; exact e
  have zh : SameF Z' H := fun b o e => by
    have e : (if P b then H b else Z b) = some o := e
    by_cases h : P b
    · rw [if_pos h] at e; exact .inl e
    · rw [if_neg h] at e; exact s.zh b o e
  obtain ⟨s', x⟩ := s.step zh zs (fun _ _ e => e) (fun b o e t => by
    show (if P b then H b else Z b) = Z b
    by_cases h : P b
    · obtain ⟨xs, hx⟩ := hP b h
      rw [hx] at e; cases e
      exact absurd rfl (t xs)
    · rw [if_neg h])
  exact ⟨Z', s', x, zs, fun a xs h e => by show (if P a then H a else Z a) = _; rw [if_pos h]; exact e⟩

/-! ### results -/
def isB : E → Bool
  | .bor _ => true
  | .rw => true
  | _ => false
def freshB : Bi → Bool
  | .sorted => true | .sset => true | .list => true | .dictp => true | .dictc => true | .rgl1 => true | .rgl2 => true | .skeys => true | .lkeys => true
  | _ => false
/-- a list or a dict that comes of it is a new one -/
def isF : E → Bool
  | .lst _ => true | .emp => true | .bin _ _ _ => true | .lc _ _ _ _ _ => true
  | .bi f _ => freshB f
  | _ => false
/-- a new object that nobody holds; H: the heap ahead -/
def Fresh (K : PySem.W.Frag) (H Z' H' : Hp) (v : V) (d : D) : Prop := ∃ p, v = .ref p ∧ H p = none ∧ Z' p = none ∧ Ob K Z' H' p d
def Res (C : Ctx) (σ : VS) (H Z' H' : Hp) (e : E) (v : V) (d : D) : Prop :=
  match e with
  | .bor i => σ[i]? = some (some v)
  | .rw => ∃ i : Nat, C.rs = some i ∧ σ[i]? = some (some v)
  | e => (Rep C.K Z' v d ∧ ¬ (isF e = true ∧ objD d = true)) ∨ Fresh C.K H Z' H' v d
theorem Res.strong {C : Ctx} {σ : VS} {H Z' H' : Hp} {e : E} {v : V} {d : D} (h : Res C σ H Z' H' e v d) (b : isB e = false) : (Rep C.K Z' v d ∧ ¬ (isF e = true ∧ objD d = true)) ∨ Fresh C.K H Z' H' v d := by
  cases e <;> first | exact h | (cases b)
theorem Res.of {C : Ctx} {σ : VS} {H Z' H' : Hp} {e : E} {v : V} {d : D} (b : isB e = false) (h : (Rep C.K Z' v d ∧ ¬ (isF e = true ∧ objD d = true)) ∨ Fresh C.K H Z' H' v d) : Res C σ H Z' H' e v d := by
  cases e <;> first | exact h | (cases b)
theorem Res.rep {C : Ctx} {σ : VS} {H Z' H' : Hp} {e : E} {v : V} {d : D} (b : isB e = false) (f : isF e = false ∨ objD d = false) (h : Rep C.K Z' v d) : Res C σ H Z' H' e v d :=
  .of b (.inl ⟨h, fun q => by rcases f with f | f <;> simp [f] at q⟩)

/-- what stands behind an outcome -/
def Post {α : Type} (C : Ctx) (x : R α) (k : α → Prop) : Prop := match x with
  | .ok a => k a
  | .ex c d => C.ew c d
  | .no => False
theorem Post.bind {α β : Type} {C : Ctx} {x : R α} {f : α → R β} {k : β → Prop} (h : Post C (x.bind f) k) : Post C x fun a => Post C (f a) k := by
  cases x <;> exact h
theorem Post.mono {α : Type} {C : Ctx} {x : R α} {k k' : α → Prop} (h : Post C x k) (q : ∀ a, x = .ok a → k a → k' a) : Post C x k' := by
  cases x with
  | ok a => exact q a rfl h
  | ex c d => exact h
  | no => exact h

/-- the reading of an expression -/
def rdE (C : Ctx) (e : E) : TE := fun σ H Q => ∃ Z env r, StOk C Z H σ env r ∧ Post C (evE C.cl e env r) fun (d, r') =>
  ∀ v Z' H', StOk C Z' H' σ env r' → Ext (Own C σ env) Z H (Own C σ env) Z' H' → Res C σ H Z' H' e v d → Q v H'
/-- .. of a list of values that are kept -/
def rdEs (C : Ctx) (es : Es) : TA := fun σ H Q => ∃ Z env r, StOk C Z H σ env r ∧ Post C (evEs C.cl es env r) fun (ds, r') =>
  ∀ vs Z' H', StOk C Z' H' σ env r' → Ext (Own C σ env) Z H (Own C σ env) Z' H' → Reps C.K Z' vs ds → Q vs H'
/-- read in H: frozen, or any list or dict there -/
def RepH (K : PySem.W.Frag) (Z H : Hp) (v : V) (d : D) : Prop := Rep K Z v d ∨ ∃ p, v = .ref p ∧ Ob K Z H p d
inductive RepHs (K : PySem.W.Frag) (Z H : Hp) : List V → List D → Prop
  | nil : RepHs K Z H [] []
  | cons {v : V} {vs : List V} {d : D} {ds : List D} : RepH K Z H v d → RepHs K Z H vs ds → RepHs K Z H (v :: vs) (d :: ds)
/-- .. of a list of operands -/
def rdAs (C : Ctx) (es : Es) : TA := fun σ H Q => ∃ Z env r, StOk C Z H σ env r ∧ Post C (evEs C.cl es env r) fun (ds, r') =>
  ∀ vs Z' H', StOk C Z' H' σ env r' → Ext (Own C σ env) Z H (Own C σ env) Z' H' → RepHs C.K Z' H' vs ds → Q vs H'

/-- a value that is kept is frozen now -/
theorem Res.keep {C : Ctx} {σ : VS} {env : Env'} {r : D} {Z H Z' H' : Hp} {e : E} {v : V} {d : D} (h : Res C σ H Z' H' e v d) (b : isB e = false) (s0 : StOk C Z H σ env r) {r' : D} (s : StOk C Z' H' σ env r') (x : Ext (Own C σ env) Z H (Own C σ env) Z' H') :
    ∃ Z2, StOk C Z2 H' σ env r' ∧ Ext (Own C σ env) Z H (Own C σ env) Z2 H' ∧ Rep C.K Z2 v d ∧ Same Z' Z2 := by
  rcases h.strong b with ⟨h, _⟩ | ⟨p, rfl, hp, zp, o⟩
  · exact ⟨Z', s, x, h, Same.refl _⟩
  · obtain ⟨u, e1, q, sm⟩ := o.frozen zp
    have no : ¬ Own C σ env p := fun q => by
      obtain ⟨u', e'⟩ := s0.ownH q
      rw [hp] at e'; cases e'
    refine ⟨upd Z' p u, s.freeze e1 zp no (s0.ent.free hp), ⟨x.z.trans sm, x.h, fun b o e' t q => (upd_ne (ne_of_none e' hp)).trans (x.n b o e' t q), x.d, x.o⟩, q, sm⟩

/-! ### what does not change the row -/
mutual
def noR : E → Bool
  | .callr _ _ => false
  | .tup es => noRs es | .lst es => noRs es | .bi _ es => noRs es | .call _ es => noRs es
  | .bin _ a b => noR a && noR b | .neg a => noR a | .not a => noR a | .and a b => noR a && noR b | .or a b => noR a && noR b
  | .cmp _ a b => noR a && noR b | .chain _ _ a b c => noR a && noR b && noR c | .ite c a b => noR c && noR a && noR b
  | .ix a b => noR a && noR b | .sl a _ b _ c => noR a && noR b && noR c | .rev a => noR a
  | .lc e _ it ifs _ => noR e && noRi it && noRs ifs
  | _ => true
def noRs : Es → Bool
  | .nil => true
  | .cons e es => noR e && noRs es
def noRi : It → Bool
  | .seq e => noR e | .rng1 e => noR e | .rng2 a b => noR a && noR b | .rng3 a b c => noR a && noR b && noR c | .enum e => noR e | .zip a b => noR a && noR b | .keys e => noR e
end
theorem bind_ok {α β : Type} {x : R α} {f : α → R β} {b : β} (h : x.bind f = .ok b) : ∃ a, x = .ok a ∧ f a = .ok b := by
  cases x with
  | ok a => exact ⟨a, rfl, h⟩
  | ex c d => cases h
  | no => cases h
theorem calm_ok {α : Type} {x : R α} {b : α} (h : x.calm = .ok b) : x = .ok b := by
  cases x <;> first | exact h | cases h
theorem lcD_row {f : D → D → R (Option D × D)} (h : ∀ d r o r', f d r = .ok (o, r') → r' = r) : ∀ (ds : List D) (r : D) (out : List D) (r' : D), lcD f ds r = .ok (out, r') → r' = r
  | [], r, out, r', e => by
    unfold lcD at e; cases e; rfl
  | d :: ds, r, out, r', e => by
    unfold lcD at e
    obtain ⟨⟨o, r1⟩, e1, e2⟩ := bind_ok e
    obtain ⟨⟨out2, r2⟩, e3, e4⟩ := bind_ok e2
    cases e4
    rw [lcD_row h ds _ _ _ e3, h _ _ _ _ e1]
end PL

set_option Elab.async false
set_option linter.all false
set_option maxRecDepth 100000
set_option autoImplicit false
namespace PL
open PySem PySem.Spec PyProof.Rows L2

/-! ### operands -/
section
variable {K : PySem.W.Frag} {Z H : Hp} {v : V}
theorem RepH.int {i : Int} (h : RepH K Z H v (.int i)) : v = .int i := by
  rcases h with h | ⟨p, _, o⟩
  · cases h; rfl
  · exact o.elim
theorem RepH.bl {i : Bool} (h : RepH K Z H v (.bl i)) : v = .bl i := by
  rcases h with h | ⟨p, _, o⟩
  · cases h; rfl
  · exact o.elim
theorem RepH.str {i : Str} (h : RepH K Z H v (.str i)) : v = .str i := by
  rcases h with h | ⟨p, _, o⟩
  · cases h; rfl
  · exact o.elim
theorem RepH.non (h : RepH K Z H v .non) : v = .non := by
  rcases h with h | ⟨p, _, o⟩
  · cases h; rfl
  · exact o.elim
theorem RepH.tup {ds : List D} (h : RepH K Z H v (.tup ds)) (z : SameF Z H) : ∃ a xs, v = .ref a ∧ Z a = some (.tup xs) ∧ H a = some (.tup xs) ∧ Reps K Z xs ds := by
  rcases h with h | ⟨p, _, o⟩
  · cases h with
    | tup e r => exact ⟨_, _, rfl, e, z.tup e, r⟩
  · exact o.elim
theorem RepH.lst {ds : List D} (h : RepH K Z H v (.lst ds)) (z : SameF Z H) : ∃ a xs, v = .ref a ∧ H a = some (.lst xs) ∧ Reps K Z xs ds := by
  rcases h with h | ⟨p, rfl, o⟩
  · cases h with
    | lst e r => exact ⟨_, _, rfl, z.lst e, r⟩
  · obtain ⟨xs, e, r⟩ := o
    exact ⟨p, xs, rfl, e, r⟩
theorem RepH.dic {es : List (List Int × D)} (h : RepH K Z H v (.dic es)) (z : SameF Z H) : ∃ a kvs, v = .ref a ∧ Rd H a (.dT kvs) ∧ RepD K Z kvs es := by
  rcases h with h | ⟨p, rfl, o⟩
  · cases h with
    | dic e r => exact ⟨_, _, rfl, z.dic e, r⟩
  · obtain ⟨xs, e, r⟩ := o
    exact ⟨p, xs, rfl, .inl e, r⟩
theorem RepH.scr {ns : List Int} (h : RepH K Z H v (.scr ns)) (z : SameF Z H) : ∃ a, v = .ref a ∧ SqL K H a (ns.map V.int) := by
  rcases h with h | ⟨p, rfl, o⟩
  · cases h with
    | scr e => exact ⟨_, rfl, z.seqL e⟩
  · exact o.elim
theorem RepHs.one {vs : List V} {d : D} (h : RepHs K Z H vs [d]) : ∃ v, vs = [v] ∧ RepH K Z H v d := by
  cases h with
  | cons h r => cases r; exact ⟨_, rfl, h⟩
theorem RepHs.two {vs : List V} {d e : D} (h : RepHs K Z H vs [d, e]) : ∃ v w, vs = [v, w] ∧ RepH K Z H v d ∧ RepH K Z H w e := by
  cases h with
  | cons h r =>
    cases r with
    | cons h2 r => cases r; exact ⟨_, _, rfl, h, h2⟩
theorem RepHs.three {vs : List V} {d e f : D} (h : RepHs K Z H vs [d, e, f]) : ∃ v w u, vs = [v, w, u] ∧ RepH K Z H v d ∧ RepH K Z H w e ∧ RepH K Z H u f := by
  cases h with
  | cons h r =>
    cases r with
    | cons h2 r =>
      cases r with
      | cons h3 r => cases r; exact ⟨_, _, _, rfl, h, h2, h3⟩
theorem Rep.objR {d : D} (h : Rep K Z v d) (n : objD d = false) : RepH K Z H v d := .inl h
end

/-! ### what an operation hands on -/
/-- from (Z, H): the wish Q at every value for d -/
def VP (C : Ctx) (σ : VS) (env : Env') (r : D) (Z H : Hp) (f : Bool) (d : D) (Q : VK) : Prop := ∀ v Z' H', StOk C Z' H' σ env r → Ext (Own C σ env) Z H (Own C σ env) Z' H' →
  ((Rep C.K Z' v d ∧ ¬ (f = true ∧ objD d = true)) ∨ Fresh C.K H Z' H' v d) → Q v H'
section
variable {C : Ctx} {σ : VS} {env : Env'} {r : D} {Z H : Hp} {f : Bool} {d : D} {Q : VK}
theorem VP.weak (h : VP C σ env r Z H false d Q) (n : f = true → objD d = true → False) : VP C σ env r Z H f d Q := fun v Z' H' s x q =>
  h v Z' H' s x (q.imp_left fun ⟨a, _⟩ => ⟨a, fun z => nomatch z.1⟩)
theorem VP.here (h : VP C σ env r Z H f d Q) (s : StOk C Z H σ env r) {v : V} (q : Rep C.K Z v d) (n : objD d = false) : Q v H :=
  h v Z H s .refl (.inl ⟨q, fun z => by rw [n] at z; exact nomatch z.2⟩)
theorem VP.hereF (h : VP C σ env r Z H false d Q) (s : StOk C Z H σ env r) {v : V} (q : Rep C.K Z v d) : Q v H :=
  h v Z H s .refl (.inl ⟨q, fun z => nomatch z.1⟩)
theorem VP.int {i : Int} (h : VP C σ env r Z H f (.int i) Q) (s : StOk C Z H σ env r) : Q (.int i) H := h.here s (.int i) rfl
theorem VP.bl {i : Bool} (h : VP C σ env r Z H f (.bl i) Q) (s : StOk C Z H σ env r) : Q (.bl i) H := h.here s (.bl i) rfl
theorem VP.str {i : Str} (h : VP C σ env r Z H f (.str i) Q) (s : StOk C Z H σ env r) : Q (.str i) H := h.here s (.str i) rfl
theorem VP.newT {xs : List V} {ds : List D} (h : VP C σ env r Z H f (.tup ds) Q) (s : StOk C Z H σ env r) (q : Reps C.K Z xs ds) : ∀ p, H p = none → Q (.ref p) (upd H p (.tup xs)) := fun p hp => by
  obtain ⟨s', x⟩ := s.allocF (.tup xs) hp
  exact h _ _ _ s' x (.inl ⟨.tup upd_same (q.mono (same_upd (s.zh.dom hp))), fun z => nomatch z.2⟩)
theorem VP.newL {xs : List V} {ds : List D} (h : VP C σ env r Z H f (.lst ds) Q) (s : StOk C Z H σ env r) (q : Reps C.K Z xs ds) : ∀ p, H p = none → Q (.ref p) (upd H p (.lst xs)) := fun p hp => by
  obtain ⟨s', x⟩ := s.alloc (.lst xs) hp
  exact h _ _ _ s' x (.inr ⟨p, rfl, hp, s.zh.dom hp, xs, upd_same, q⟩)
theorem VP.newD {kvs : List (List Key × V)} {es : List (List Int × D)} (h : VP C σ env r Z H f (.dic es) Q) (s : StOk C Z H σ env r) (q : RepD C.K Z kvs es) : ∀ p, H p = none → Q (.ref p) (upd H p (.dT kvs)) := fun p hp => by
  obtain ⟨s', x⟩ := s.alloc (.dT kvs) hp
  exact h _ _ _ s' x (.inr ⟨p, rfl, hp, s.zh.dom hp, kvs, upd_same, q⟩)
end

theorem lim_size {n : Nat} (h : n ≤ LIM) : n ≤ sizeLine := Nat.le_trans h (by rw [sizeLine_eq]; decide)
theorem lim_lt {n : Nat} (h : n ≤ LIM) : n < sizeLine := Nat.lt_of_le_of_lt h (by rw [sizeLine_eq]; decide)

/-! ### + - * // % ** -/
def rAdd (K : PySem.W.Frag) : R2 := fun x y H Q => rI0 (fun i j => .int (i + j)) x y H Q ∨ (fun x y H Q => ∃ i j, x = .str i ∧ y = .str j ∧ i.length + j.length ≤ sizeLine ∧ Q (.str (i ++ j)) H) x y H Q ∨ rCatA K x y H Q ∨ rCat x y H Q
section
variable {X : Cx}
theorem o_add : OpR X (binaryOp .Add) (rAdd X.K) := op_add.or (op_add_str.or (op_catA.or op_cat))
/-- // of any divisor below 2 ^ 9000 in size -/
theorem op_fdivG : OpR X (binaryOp .FloorDiv) (rI (fun _ j => j ≠ 0 ∧ j.natAbs.log2 < 9000) fun i j => .int (i.fdiv j)) := opI fun i j _ _ _ _ _ hc q =>
  floordiv_int hc.1 q (.inl (PyProof.noPylong_of_log2 hc.2))

set_option maxHeartbeats 400000 in
theorem tuple_mul1 (l : Addr) (items : Array Value) (n : Nat) (dd : Option Addr) (sl : Array (Option Value)) (x : Int) (u : Tok) (c0 : (decide (x < -(2 ^ 63)) || decide (x ≥ 2 ^ 63)) = false) (c1 : (items.isEmpty || x == 1) = true) :
    Meets (Builtin.«tuple.__mul__» ⟨[.ref l, .int x u], []⟩) (fun _ R s => s.heap.get? l = some { cls := .type "tuple", dict := dd, data := .seq items n, slots := sl } ∧ R (.ok (.ret (.ref l))) s) :=
  .of_wp fun prog w A R s h => by
    obtain ⟨hp, g, d, tk, os⟩ := s
    obtain ⟨hl, h⟩ := h
    have f1 := AutoSeq1.idx_int
    wp_walk using AutoSeq1.wpAny_loadPart' hl
    repeat (first
      | (refine wpAny_ite_false (decide_eq_false (by rw [c0]; exact Bool.false_ne_true)) ?_; wp_walk using AutoSeq1.wpAny_loadPart' hl)
      | (refine wpAny_ite_true (decide_eq_true c1) ?_; wp_walk using AutoSeq1.wpAny_loadPart' hl))
    exact ⟨_, rfl, h⟩
set_option maxHeartbeats 400000 in
theorem tuple_mul0 (l : Addr) (items : Array Value) (n : Nat) (dd : Option Addr) (sl : Array (Option Value)) (x : Int) (u : Tok) (c0 : (decide (x < -(2 ^ 63)) || decide (x ≥ 2 ^ 63)) = false) (c1 : (items.isEmpty || x == 1) = false) (c2 : (decide (x ≤ 0) || items.isEmpty) = true) :
    Meets (Builtin.«tuple.__mul__» ⟨[.ref l, .int x u], []⟩) (fun _ R s => s.heap.get? l = some { cls := .type "tuple", dict := dd, data := .seq items n, slots := sl } ∧
      R (.ok (.ret (Value.ref s.heap.objs.size))) { s with heap := s.heap.push { cls := Value.type "tuple", data := Data.seq #[] }, toks := s.toks }) :=
  .of_wp fun prog w A R s h => by
    obtain ⟨hp, g, d, tk, os⟩ := s
    obtain ⟨hl, h⟩ := h
    have f1 := AutoSeq1.idx_int
    wp_walk using AutoSeq1.wpAny_loadPart' hl
    repeat (first
      | (refine wpAny_ite_false (decide_eq_false (by rw [c0]; exact Bool.false_ne_true)) ?_; wp_walk using AutoSeq1.wpAny_loadPart' hl)
      | (refine wpAny_ite_false (decide_eq_false (by rw [c1]; exact Bool.false_ne_true)) ?_; wp_walk using AutoSeq1.wpAny_loadPart' hl)
      | (refine wpAny_ite_true (decide_eq_true c2) ?_; wp_walk using AutoSeq1.wpAny_loadPart' hl))
    exact ⟨_, rfl, h⟩
end
end PL

set_option Elab.async false
set_option linter.all false
set_option maxRecDepth 100000
set_option autoImplicit false
set_option maxHeartbeats 400000
namespace PL
open PySem PySem.Spec PyProof.Rows L2

/-- a tuple times an int where nothing is copied: the tuple itself, or the empty one -/
def rMulT1 (K : PySem.W.Frag) : R2 := fun x y H Q => ∃ (l : Addr) (k : Int) (xs : List V), x = .ref l ∧ y = .int k ∧ SqT K H l xs ∧ -(2 ^ 63) ≤ k ∧ k < 2 ^ 63 ∧
  ((xs = [] ∨ k = 1) → Q (.ref l) H) ∧ (xs ≠ [] → k ≤ 0 → ∀ p, H p = none → Q (.ref p) (upd H p (.tup []))) ∧ (xs = [] ∨ k ≤ 1)
section
variable {X : Cx}
theorem op_mulT1 : OpR X (binaryOp .Mult) (rMulT1 X.K) := by
  intro pins s σ H x y v u Q I rx ry h
  obtain ⟨l, k, xs, rfl, rfl, ht, b1, b2, q1, q2, q3⟩ := h
  obtain rfl : v = .ref l := rx
  obtain ⟨t, rfl⟩ : ∃ t, u = .int k t := ry
  obtain ⟨its, vi, ⟨⟨cl, dd, dat, sl⟩, ho, ec, n, ed⟩, hz⟩ := I.tuple ht
  have ec' : cl = .type "tuple" := ec
  have ed' : dat = .seq its.toArray n := ed
  subst ec'; subst ed'
  have hty : s.TypeIs (.ref l) "tuple" := ⟨_, ho, rfl⟩
  refine wpAny_binaryOp_repeat_ref (T := "tuple") (U := "int") (by decide) hty (fun s' => typeIs_int s' k t) noFill_tuple_mul F.fills_int_mul F.slot_int_rmul repeat_tuple int_index ?_
  refine call_meets F.slot_int_rmul (typeIs_int s k t) F.entry_int_rmul (F.args_int_rmul_2 _ _) (int_rmul_tuple k t l its.toArray n dd sl) ⟨ho, rfl, hty, ?_⟩
  have c0 : (decide (k < -(2 ^ 63)) || decide (k ≥ 2 ^ 63)) = false := by
    rw [Bool.or_eq_false_iff]
    exact ⟨decide_eq_false (by omega), decide_eq_false (by omega)⟩
  have em : its.toArray.isEmpty = xs.isEmpty := by
    have := vi.length
    cases xs <;> cases its <;> simp at this ⊢
  by_cases c1 : (its.toArray.isEmpty || k == 1) = true
  · refine call_meets F.slot_tuple_mul hty F.entry_tuple_mul (F.args_tuple_mul_2 _ _) (tuple_mul1 l its.toArray n dd sl k t c0 c1) ⟨ho, ?_⟩
    refine ⟨.ref l, H, I, rfl, q1 ?_⟩
    rw [em] at c1
    rcases Bool.or_eq_true_iff.mp c1 with c | c
    · exact .inl (List.isEmpty_iff.mp c)
    · exact .inr (by simpa using c)
  · have c1' : (its.toArray.isEmpty || k == 1) = false := by simpa using c1
    have ne : xs ≠ [] := fun e => by
      rw [em, e] at c1'
      exact nomatch c1'
    have k1 : k ≠ 1 := fun e => by
      rw [e] at c1'
      simp at c1'
    have k0 : k ≤ 0 := by
      rcases q3 with q3 | q3
      · exact absurd q3 ne
      · omega
    have c2 : (decide (k ≤ 0) || its.toArray.isEmpty) = true := by rw [decide_eq_true k0]; rfl
    refine call_meets F.slot_tuple_mul hty F.entry_tuple_mul (F.args_tuple_mul_2 _ _) (tuple_mul0 l its.toArray n dd sl k t c0 c1' c2) ⟨ho, ?_⟩
    have hf : H s.heap.objs.size = none := I.hok.fresh (Nat.le_refl _)
    refine ⟨.ref s.heap.objs.size, upd H s.heap.objs.size (.tup []), I.laid (t' := s.toks) (fun b u e => Heap.get?_push_of_some _ e) (Nat.le_refl _) ?_, rfl, q2 ne k0 _ hf⟩
    exact ⟨Nat.zero_le _, [], .nil, ⟨_, Heap.get?_push_size _ rfl, rfl, _, rfl⟩⟩

/-- the operators -/
def opP : Op2 → Operator
  | .add => .Add | .sub => .Sub | .mul => .Mult | .fdiv => .FloorDiv | .mod => .Mod | .pow => .Pow
def rOp (K : PySem.W.Frag) : Op2 → R2
  | .add => rAdd K
  | .sub => rI0 fun i j => .int (i - j)
  | .mul => fun x y H Q => rI CMulW (fun i j => .int (i * j)) x y H Q ∨ rRep x y H Q ∨ rMulT1 K x y H Q ∨ rRepT K x y H Q
  | .fdiv => rI (fun _ j => j ≠ 0 ∧ j.natAbs.log2 < 9000) fun i j => .int (i.fdiv j)
  | .mod => rI (fun _ j => j ≠ 0) fun i j => .int (i.fmod j)
  | .pow => rI CPow fun i j => .int (i ^ j.toNat)
theorem o_ok : ∀ o : Op2, OpR X (binaryOp (opP o)) (rOp X.K o)
  | .add => o_add
  | .sub => op_sub
  | .mul => op_mulW.or (op_rep.or (op_mulT1.or op_repT))
  | .fdiv => op_fdivG
  | .mod => op_modN
  | .pow => op_pow
end

section
variable {C : Ctx} {σ : VS} {env : Env'} {r : D} {Z H : Hp} {Q : VK}
theorem rep1 {α : Type} (a : List α) : (List.replicate 1 a).flatten = a := by simp
theorem rep0 {α : Type} (n : Nat) : (List.replicate n ([] : List α)).flatten = [] := by
  induction n with
  | zero => rfl
  | succ n ih => rw [List.replicate_succ, List.flatten_cons, ih]; rfl
theorem v_bin {o : Op2} {x y z : D} {v w : V} (s : StOk C Z H σ env r) (hv : RepH C.K Z H v x) (hw : RepH C.K Z H w y) (e : op2D o x y = .ok z) (h : VP C σ env r Z H true z Q) : rOp C.K o v w H Q := by
  unfold op2D at e
  split at e
  · cases e; rw [hv.int, hw.int]; exact .inl ⟨_, _, rfl, rfl, h.int s⟩
  · split at e
    · rename_i hl
      cases e; rw [hv.str, hw.str]; exact .inr (.inl ⟨_, _, rfl, rfl, lim_size hl, h.str s⟩)
    · cases e
  · split at e
    · rename_i hl
      cases e
      obtain ⟨a, xs, rfl, za, ha, ra⟩ := hv.tup s.zh
      obtain ⟨b, ys, rfl, zb, hb, rb⟩ := hw.tup s.zh
      have l1 := ra.length
      have l2 := rb.length
      refine .inr (.inr (.inl ⟨a, b, xs, ys, rfl, rfl, SqT.of ha, SqT.of hb, lim_size (by omega), fun e1 => ?_, fun _ e2 => ?_, fun _ _ => h.newT s (ra.append rb)⟩))
      · subst e1
        cases ra
        exact h.here s (.tup zb rb) rfl
      · subst e2
        cases rb
        rw [List.append_nil] at h
        exact h.here s (.tup za ra) rfl
    · cases e
  · split at e
    · rename_i hl
      cases e
      obtain ⟨a, xs, rfl, ha, ra⟩ := hv.lst s.zh
      obtain ⟨b, ys, rfl, hb, rb⟩ := hw.lst s.zh
      have l1 := ra.length
      have l2 := rb.length
      exact .inr (.inr (.inr ⟨a, b, xs, ys, rfl, rfl, ha, hb, lim_size (by omega), h.newL s (ra.append rb)⟩))
    · cases e
  · cases e; rw [hv.int, hw.int]; exact ⟨_, _, rfl, rfl, h.int s⟩
  · split at e
    · rename_i hl
      cases e; rw [hv.int, hw.int]; exact .inl ⟨_, _, rfl, rfl, hl, h.int s⟩
    · cases e
  · split at e
    · rename_i hl
      cases e
      obtain ⟨a, xs, rfl, za, ha, ra⟩ := hv.tup s.zh
      have l1 := ra.length
      rw [hw.int]
      rename_i ds b
      by_cases k : xs = [] ∨ b ≤ 1
      · refine .inr (.inr (.inl ⟨a, b, xs, rfl, rfl, SqT.of ha, by omega, by omega, fun q => ?_, fun ne b0 => ?_, k⟩))
        · have ee : (List.replicate b.toNat ds).flatten = ds := by
            rcases q with q | q
            · subst q; cases ra; exact rep0 _
            · subst q; exact rep1 _
          rw [ee] at h
          exact h.here s (.tup za ra) rfl
        · have : b.toNat = 0 := by omega
          rw [this] at h
          exact h.newT s .nil
      · have k1 : ¬ xs = [] := fun e => k (.inl e)
        have k2 : ¬ b ≤ 1 := fun e => k (.inr e)
        exact .inr (.inr (.inr ⟨a, b, xs, rfl, rfl, SqT.of ha, k1, by omega, by omega, by omega, h.newT s (ra.rep _)⟩))
    · cases e
  · split at e
    · rename_i hl
      cases e
      obtain ⟨a, xs, rfl, ha, ra⟩ := hv.lst s.zh
      have l1 := ra.length
      rw [hw.int]
      refine .inr (.inl ⟨a, _, xs, rfl, rfl, ha, by omega, by omega, lim_size (by rw [l1]; exact hl.1), h.newL s (ra.rep _)⟩)
    · cases e
  · split at e
    · rename_i hl
      cases e; rw [hv.int, hw.int]; exact ⟨_, _, rfl, rfl, hl, h.int s⟩
    · cases e
  · split at e
    · rename_i hl
      cases e; rw [hv.int, hw.int]; exact ⟨_, _, rfl, rfl, hl, h.int s⟩
    · cases e
  · split at e
    · rename_i hl
      cases e; rw [hv.int, hw.int]; exact ⟨_, _, rfl, rfl, ⟨hl.1, by omega, hl.2.2⟩, h.int s⟩
    · cases e
  · cases e
end
end PL

set_option Elab.async false
set_option linter.all false
set_option maxRecDepth 100000
set_option autoImplicit false
set_option maxHeartbeats 400000
namespace PL
open PySem PySem.Spec PyProof.Rows L2
theorem forIn0 {β : Type} (b : β) (f : Nat → β → Sem (ForInStep β)) : (forIn [:0] b f : Sem β) = pure b := by simp
/-- a dict of so many entries -/
def DSz (h : Heap) (a : Addr) (n : Nat) : Prop := ∃ o es ep, h.get? a = some o ∧ o.ExactDict ∧ o.data = .dict es ep ∧ es.size = n
theorem dict_eq_sz (a b : Addr) (ha : (a == sysModules) = false) (hb : (b == sysModules) = false) (n m : Nat) (z : n = 0 ∨ m = 0) :
    Meets (Builtin.«dict.__eq__» ⟨[.ref a, .ref b], []⟩) (fun _ R s => DSz s.heap a n ∧ DSz s.heap b m ∧ R (.ok (.ret (.bool (n == m)))) s) :=
  .of_wp fun prog w A R s h => by
    obtain ⟨hp, g, d, tk, os⟩ := s
    obtain ⟨⟨⟨cl, dd, dat, sl⟩, es, ep, e1, ⟨c1, c2, c3⟩, e3, e4⟩, ⟨⟨cl', dd', dat', sl'⟩, es', ep', f1, ⟨d1, d2, d3⟩, f3, f4⟩, h⟩ := h
    dsimp only at c1 c2 c3 e3 d1 d2 d3 f3
    subst c1 c2 c3 e3 d1 d2 d3 f3
    wp_walk
    refine wpAny_of_eq (isSubtype_type _ _) ?_
    wp_walk
    by_cases c : n = m
    · have hn : es.size = 0 := by omega
      have hm : es'.size = 0 := by omega
      have q : (es.size != es'.size) = false := by rw [hn, hm]; rfl
      rw [beq_iff_eq.mpr c] at h
      refine wpAny_ite_false (by rw [q]; rfl) ?_
      rw [hn]
      simp only [forIn0]
      wp_walk
      exact ⟨_, rfl, h⟩
    · have q : (es.size != es'.size) = true := by rw [bne_iff_ne, e4, f4]; exact c
      have q' : (n == m) = false := beq_eq_false_iff_ne.mpr c
      rw [q'] at h
      refine wpAny_ite_true (by rw [q]; rfl) ?_
      wp_walk
      exact ⟨_, rfl, h⟩
theorem dict_ne_sz (a b : Addr) (ha : (a == sysModules) = false) (hb : (b == sysModules) = false) (n m : Nat) (z : n = 0 ∨ m = 0) :
    Meets (Builtin.«dict.__ne__» ⟨[.ref a, .ref b], []⟩) (fun _ R s => DSz s.heap a n ∧ DSz s.heap b m ∧ R (.ok (.ret (.bool (!(n == m))))) s) :=
  .of_wp fun prog w A R s h => by
    obtain ⟨hp, g, d, tk, os⟩ := s
    obtain ⟨⟨⟨cl, dd, dat, sl⟩, es, ep, e1, ⟨c1, c2, c3⟩, e3, e4⟩, ⟨⟨cl', dd', dat', sl'⟩, es', ep', f1, ⟨d1, d2, d3⟩, f3, f4⟩, h⟩ := h
    dsimp only at c1 c2 c3 e3 d1 d2 d3 f3
    subst c1 c2 c3 e3 d1 d2 d3 f3
    wp_walk
    refine wpAny_of_eq (isSubtype_type _ _) ?_
    wp_walk
    by_cases c : n = m
    · have hn : es.size = 0 := by omega
      have hm : es'.size = 0 := by omega
      have q : (es.size != es'.size) = false := by rw [hn, hm]; rfl
      rw [beq_iff_eq.mpr c] at h
      refine wpAny_ite_false (by rw [q]; rfl) ?_
      rw [hn]
      simp only [forIn0]
      wp_walk
      exact ⟨_, rfl, h⟩
    · have q : (es.size != es'.size) = true := by rw [bne_iff_ne, e4, f4]; exact c
      have q' : (n == m) = false := beq_eq_false_iff_ne.mpr c
      rw [q'] at h
      refine wpAny_ite_true (by rw [q]; rfl) ?_
      wp_walk
      exact ⟨_, rfl, h⟩

/-- == and != of two dicts of which one is empty -/
def rDicE (g : Bool → Bool) : R2 := fun x y H Q => ∃ (a b : Addr) (ks ls : List (List Key × V)), x = .ref a ∧ y = .ref b ∧ Rd H a (.dT ks) ∧ Rd H b (.dT ls) ∧ (ks.length = 0 ∨ ls.length = 0) ∧ Q (.bl (g (ks.length == ls.length))) H
section
variable {X : Cx}
theorem objOk_sz {P : Program} {w : World} {H : Hp} {h : Heap} {a : Addr} {ks : List (List Key × V)} (x : ObjOk P w H h a (.dT ks)) : (a == sysModules) = false ∧ DSz h a ks.length := by
  obtain ⟨_, y, xs, pr, o, es, ep, e1, e2, e3, e4, _⟩ := x
  refine ⟨y, o, es, ep, e1, e2, e3, ?_⟩
  have := pr.length
  rw [← Array.length_toList, e4, List.length_map, this]
theorem rd_sz {pins : List (Addr × Obj)} {σ : L2.St} {H : Hp} {s : Shared} (I : Inv X pins σ H s) {a : Addr} {ks : List (List Key × V)} (h : Rd H a (.dT ks)) : (a == sysModules) = false ∧ DSz s.heap a ks.length := by
  rcases h with h | ⟨o, h⟩
  · exact objOk_sz (I.hok a _ h)
  · exact objOk_sz (I.hok a _ h).2
theorem DSz.ty {s : Shared} {a : Addr} {n : Nat} (h : DSz s.heap a n) : s.TypeIs (.ref a) "dict" := by
  obtain ⟨o, es, ep, e1, e2, e3, e4⟩ := h
  exact ⟨o, e1, e2.1⟩
theorem op_eqE (hu : X.A.units < cLine) : OpR X (compareOp .Eq) (rDicE id) := by
  intro pins s σ H x y v u Q I rx ry h
  obtain ⟨a, b, ks, ls, rfl, rfl, ha, hb, z, q⟩ := h
  obtain rfl : v = .ref a := rx
  obtain rfl : u = .ref b := ry
  obtain ⟨a1, a2⟩ := rd_sz I ha
  obtain ⟨b1, b2⟩ := rd_sz I hb
  have m := dict_eq_sz a b a1 b1 _ _ z
  show wpAny _ _ (richCompare .Eq (.ref a) (.ref b)) _ _ _
  refine richCompare_meets_room (op := .Eq) a2.ty b2.ty F.slot_dict_eq F.entry_dict_eq (F.args_dict_eq_2 _ _) m ?_ hu
  exact ⟨a2, b2, (fun e => nomatch e), .bl _, H, I, rfl, q⟩
theorem op_neE (hu : X.A.units < cLine) : OpR X (compareOp .NotEq) (rDicE not) := by
  intro pins s σ H x y v u Q I rx ry h
  obtain ⟨a, b, ks, ls, rfl, rfl, ha, hb, z, q⟩ := h
  obtain rfl : v = .ref a := rx
  obtain rfl : u = .ref b := ry
  obtain ⟨a1, a2⟩ := rd_sz I ha
  obtain ⟨b1, b2⟩ := rd_sz I hb
  have m := dict_ne_sz a b a1 b1 _ _ z
  show wpAny _ _ (richCompare .NotEq (.ref a) (.ref b)) _ _ _
  refine richCompare_meets_room (op := .NotEq) a2.ty b2.ty F.slot_dict_ne F.entry_dict_ne (F.args_dict_ne_2 _ _) m ?_ hu
  exact ⟨a2, b2, (fun e => nomatch e), .bl _, H, I, rfl, q⟩
end
end PL

set_option Elab.async false
set_option linter.all false
set_option maxRecDepth 100000
set_option autoImplicit false
set_option maxHeartbeats 400000
namespace PL
open PySem PySem.Spec PyProof.Rows L2

/-! ### data as the library's data -/
mutual
def toPy : D → PyData
  | .non => .none | .bl b => .bool b | .int i => .int i | .str x => .str x
  | .lst ds => .list (toPys ds) | .tup ds => .tuple (toPys ds) | .dic _ => .none | .scr _ => .none
def toPys : List D → List PyData
  | [] => []
  | d :: ds => toPy d :: toPys ds
end
mutual
theorem eqv_of : ∀ (n m : Nat) (x y : D), shD n x = true → shD m y = true → PyData.eqv (toPy x) (toPy y) = eqD x y
  | n, m, x, y, hx, hy => by
    cases x with
    | lst xs =>
      cases n with
      | zero => simp [shD] at hx
      | succ n =>
        cases y with
        | lst ys =>
          cases m with
          | zero => simp [shD] at hy
          | succ m =>
            simp only [shD] at hx hy
            simp only [toPy, PyData.eqv, eqD]
            exact eqvs_of n m xs ys hx hy
        | dic _ => cases m <;> simp [shD] at hy
        | scr _ => cases m <;> simp [shD] at hy
        | _ => simp only [toPy, PyData.eqv, eqD]
    | tup xs =>
      cases n with
      | zero => simp [shD] at hx
      | succ n =>
        cases y with
        | tup ys =>
          cases m with
          | zero => simp [shD] at hy
          | succ m =>
            simp only [shD] at hx hy
            simp only [toPy, PyData.eqv, eqD]
            exact eqvs_of n m xs ys hx hy
        | dic _ => cases m <;> simp [shD] at hy
        | scr _ => cases m <;> simp [shD] at hy
        | _ => simp only [toPy, PyData.eqv, eqD]
    | dic _ => cases n <;> simp [shD] at hx
    | scr _ => cases n <;> simp [shD] at hx
    | _ =>
      cases y with
      | dic _ => cases m <;> simp [shD] at hy
      | scr _ => cases m <;> simp [shD] at hy
      | _ => simp only [toPy, PyData.eqv, eqD]
theorem eqvs_of : ∀ (n m : Nat) (xs ys : List D), shDs n xs = true → shDs m ys = true → PyData.eqvAll (toPys xs) (toPys ys) = eqDs xs ys
  | _, _, [], [], _, _ => rfl
  | _, _, [], _ :: _, _, _ => rfl
  | _, _, _ :: _, [], _, _ => rfl
  | n, m, x :: xs, y :: ys, hx, hy => by
    simp only [shDs, Bool.and_eq_true] at hx hy
    simp only [toPys, PyData.eqvAll, eqDs]
    rw [eqv_of n m x y hx.1 hy.1, eqvs_of n m xs ys hx.2 hy.2]
end
mutual
theorem lay_of : ∀ (n : Nat) (x : D), shD n x = true → (toPy x).canLay0 = true ∧ (toPy x).depth ≤ n
  | n, .non, _ => ⟨rfl, Nat.zero_le _⟩
  | n, .bl _, _ => ⟨rfl, Nat.zero_le _⟩
  | n, .int _, _ => ⟨rfl, Nat.zero_le _⟩
  | n, .str x, h => by
    have h : PyData.strOk x = true := by cases n <;> simpa only [shD] using h
    exact ⟨by simpa only [toPy, PyData.canLay0] using h, Nat.zero_le _⟩
  | 0, .lst _, h => by simp [shD] at h
  | 0, .tup _, h => by simp [shD] at h
  | n + 1, .lst xs, h => by
    simp only [shD] at h
    have q := lays_of n xs h
    exact ⟨by simpa only [toPy, PyData.canLay0] using q.1, by simp only [toPy, PyData.depth]; have := q.2; omega⟩
  | n + 1, .tup xs, h => by
    simp only [shD] at h
    have q := lays_of n xs h
    exact ⟨by simpa only [toPy, PyData.canLay0] using q.1, by simp only [toPy, PyData.depth]; have := q.2; omega⟩
  | n, .dic _, h => by cases n <;> simp [shD] at h
  | n, .scr _, h => by cases n <;> simp [shD] at h
theorem lays_of : ∀ (n : Nat) (xs : List D), shDs n xs = true → PyData.canLayAll0 (toPys xs) = true ∧ PyData.depthAll (toPys xs) ≤ n
  | _, [], _ => ⟨rfl, Nat.zero_le _⟩
  | n, x :: xs, h => by
    simp only [shDs, Bool.and_eq_true] at h
    have a := lay_of n x h.1
    have b := lays_of n xs h.2
    refine ⟨by simp only [toPys, PyData.canLayAll0, a.1, b.1, Bool.and_self], ?_⟩
    simp only [toPys, PyData.depthAll]
    have := a.2; have := b.2; omega
end
theorem shaped_of {x : D} (h : shD 60 x = true) : SeqAt.shaped (toPy x) = true := by
  have q := lay_of 60 x h
  unfold SeqAt.shaped
  rw [q.1, decide_eq_true (by have := q.2; omega)]; rfl
section
variable {K : PySem.W.Frag} {Z H : Hp}
mutual
theorem rep_dp (z : SameF Z H) : ∀ (n : Nat) (x : D) (v : V), shD n x = true → Rep K Z v x → Dp K H v (toPy x)
  | _, .non, _, _, .non => .non
  | _, .bl b, _, _, .bl _ => .bl b
  | _, .int b, _, _, .int _ => .int b
  | _, .str b, _, _, .str _ => .str b
  | 0, .lst _, _, h, _ => by simp [shD] at h
  | 0, .tup _, _, h, _ => by simp [shD] at h
  | n + 1, .lst ds, _, h, .lst e r => .lst (SqL.of (z.lst e)) (reps_dp z n ds _ (by simpa only [shD] using h) r)
  | n + 1, .tup ds, _, h, .tup e r => .tup (SqT.of (z.tup e)) (reps_dp z n ds _ (by simpa only [shD] using h) r)
  | n, .dic _, _, h, _ => by cases n <;> simp [shD] at h
  | n, .scr _, _, h, _ => by cases n <;> simp [shD] at h
theorem reps_dp (z : SameF Z H) : ∀ (n : Nat) (xs : List D) (vs : List V), shDs n xs = true → Reps K Z vs xs → DpAll K H vs (toPys xs)
  | _, [], _, _, .nil => .nil
  | n, x :: xs, _, h, .cons a b => by
    simp only [shDs, Bool.and_eq_true] at h
    exact .cons (rep_dp z n x _ h.1 a) (reps_dp z n xs _ h.2 b)
end
theorem RepH.dp {v : V} {x : D} (h : RepH K Z H v x) (z : SameF Z H) (s : shD 60 x = true) : Dp K H v (toPy x) := by
  rcases h with h | ⟨p, rfl, o⟩
  · exact rep_dp z 60 x v s h
  · cases x with
    | lst ds =>
      obtain ⟨xs, e, r⟩ := o
      exact .lst (SqL.of e) (reps_dp z 59 ds xs (by simpa only [shD] using s) r)
    | dic _ => simp [shD] at s
    | _ => exact o.elim
end

/-! ### x in a tuple, counts -/
section
variable {X : Cx} {pins : List (Addr × Obj)} {σ : L2.St} {H : Hp} {s : Shared}
/-- is a value's datum equal to d -/
noncomputable def hitV (h : Heap) (d : PyData) (u : Value) : Bool := @decide (∃ z as, Reads h u z as ∧ PyData.eqv z d = true) (Classical.propDecidable _)
theorem hitV_eq {h : Heap} {d z : PyData} {u : Value} {as : List Addr} (r : Reads h u z as) : hitV h d u = PyData.eqv z d := by
  unfold hitV
  have q : (∃ z as, Reads h u z as ∧ PyData.eqv z d = true) ↔ PyData.eqv z d = true := by
    refine ⟨fun ⟨z', as', r', e'⟩ => ?_, fun e => ⟨z, as, r, e⟩⟩
    rw [(r.unique z' as' r').1]
    exact e'
  letI := Classical.propDecidable (∃ z as, Reads h u z as ∧ PyData.eqv z d = true)
  cases e : PyData.eqv z d with
  | true => exact decide_eq_true (q.mpr e)
  | false => exact decide_eq_false fun k => by rw [q.mp k] at e; cases e
theorem hits_any {h : Heap} {d : PyData} : ∀ {us : List Value} {ds : List PyData} {as : List Addr}, ReadsAll h us ds as → us.any (hitV h d) = ds.any fun z => PyData.eqv z d
  | _, _, _, .nil => rfl
  | _, _, _, .cons a b => by rw [List.any_cons, List.any_cons, hitV_eq a, hits_any b]
theorem hits_count {h : Heap} {d : PyData} : ∀ {us : List Value} {ds : List PyData} {as : List Addr}, ReadsAll h us ds as → us.countP (hitV h d) = ds.countP fun z => PyData.eqv z d
  | _, _, _, .nil => rfl
  | _, _, _, .cons a b => by rw [List.countP_cons, List.countP_cons, hitV_eq a, hits_count b]
theorem reads_mem {h : Heap} : ∀ {us : List Value} {ds : List PyData} {as : List Addr}, ReadsAll h us ds as → ∀ u ∈ us, ∃ z bs, z ∈ ds ∧ Reads h u z bs
  | _, _, _, .cons a b, u, hu => by
    rcases List.mem_cons.mp hu with rfl | hu
    · exact ⟨_, _, List.mem_cons_self, a⟩
    · obtain ⟨z, bs, h1, h2⟩ := reads_mem b u hu
      exact ⟨z, bs, List.mem_cons_of_mem _ h1, h2⟩
theorem lay_mem : ∀ {ds : List PyData} {z : PyData}, PyData.canLayAll0 ds = true → z ∈ ds → z.canLay0 = true ∧ z.depth ≤ PyData.depthAll ds
  | d :: ds, z, h, hz => by
    simp only [PyData.canLayAll0, Bool.and_eq_true] at h
    rcases List.mem_cons.mp hz with rfl | hz
    · exact ⟨h.1, by simp only [PyData.depthAll]; omega⟩
    · have := lay_mem h.2 hz
      exact ⟨this.1, by simp only [PyData.depthAll]; have := this.2; omega⟩
theorem hit_at {A : Around} (hu : A.units + 66 < cLine) {d : PyData} {u w : Value} {bs : List Addr} {us : List Value} {ds : List PyData} {as : List Addr} (rd : Reads s.heap w d bs) (sd : SeqAt.shaped d = true) (ra : ReadsAll s.heap us ds as)
    (lay : PyData.canLayAll0 ds = true) (hm : u ∈ us) : SeqAt.EqAt A.in1 s u w (hitV s.heap d u) := by
  obtain ⟨z, cs, hz, rz⟩ := reads_mem ra u hm
  rw [hitV_eq rz]
  refine SeqAt.eqAt_reads z d A.in1 s u w cs bs rz rd (lay_mem lay hz).1 (SeqAt.canLay_of_shaped sd) ?_
  have h1 := SeqAt.depth_of_shaped sd
  have h2 : min z.depth d.depth ≤ d.depth := Nat.min_le_right _ _
  show A.units + 1 + _ < _
  omega
def rInT (K : PySem.W.Frag) (g : Bool → Bool) : R2 := fun x y H Q => ∃ d ds, Dp K H x d ∧ Dp K H y (.tuple ds) ∧ SeqAt.shaped d = true ∧ SeqAt.shaped (.tuple ds) = true ∧ Q (.bl (g (ds.any fun z => PyData.eqv z d))) H
theorem lays_tuple {ds : List PyData} (h : SeqAt.shaped (.tuple ds) = true) : PyData.canLayAll0 ds = true := by
  have := SeqAt.canLay_of_shaped h
  simpa only [PyData.canLay0] using this
theorem in_tuple (hu : X.A.units + 66 < cLine) {g : Bool → Bool} {x y : V} {v u : Value} {Q : VK} (I : Inv X pins σ H s) (rx : RelV x v) (ry : RelV y u) (h : rInT X.K g x y H Q) :
    ∃ b, Q (.bl (g b)) H ∧ s.TypeIs u "tuple" ∧ ∀ (R : Value → Shared → Prop), R (.bool b) s → wpAny (model X.prog X.w) X.A (call (.builtin "tuple.__contains__") [u, v]) R X.xe s := by
  obtain ⟨d, ds, hd, ht, s1, s2, q⟩ := h
  obtain ⟨bs, rd⟩ := Dp.reads I d x v hd rx
  cases ht with
  | tup ha hall =>
    rename_i a xs
    obtain rfl : u = .ref a := ry
    obtain ⟨its, vi, ⟨⟨cl, dd, dat, sl⟩, ho, ec, n, ed⟩, hz⟩ := I.tuple ha
    have ec' : cl = .type "tuple" := ec
    have ed' : dat = .seq its.toArray n := ed
    subst ec'; subst ed'
    obtain ⟨as, ra⟩ := Dp.readsAll I ds xs its hall vi
    have hty : s.TypeIs (.ref a) "tuple" := ⟨_, ho, rfl⟩
    refine ⟨_, q, hty, fun R hR => ?_⟩
    refine call_meets F.slot_tuple_contains hty F.entry_tuple_contains (F.args_tuple_contains_2 _ _) (SeqAt.tuple_containsAt a its.toArray n dd sl v (hitV s.heap d)) ⟨ho, fun z hz => hit_at hu rd s1 ra (lays_tuple s2) (by simpa using hz), ?_⟩
    have : its.toArray.any (hitV s.heap d) = ds.any fun z => PyData.eqv z d := by rw [List.any_toArray]; exact hits_any ra
    rw [this]
    exact hR
theorem op_inT (hu : X.A.units + 66 < cLine) : OpR X (compareOp .In) (rInT X.K id) := by
  intro pins s σ H x y v u Q I rx ry h
  obtain ⟨b, q, ty, run⟩ := in_tuple hu I rx ry h
  exact In_slot ty F.slot_tuple_contains (run _ (wpAny_truthy_bool ⟨.bl b, H, I, rfl, q⟩))
theorem op_notInT (hu : X.A.units + 66 < cLine) : OpR X (compareOp .NotIn) (rInT X.K not) := by
  intro pins s σ H x y v u Q I rx ry h
  obtain ⟨b, q, ty, run⟩ := in_tuple hu I rx ry h
  exact NotIn_slot ty F.slot_tuple_contains (run _ (wpAny_truthy_bool ⟨.bl (!b), H, I, rfl, q⟩))
end
end PL

set_option Elab.async false
set_option linter.all false
set_option maxRecDepth 100000
set_option autoImplicit false
set_option maxHeartbeats 400000
namespace PL
open PySem PySem.Spec PyProof.Rows L2

/-! ### dicts by keys that are tuples of ints -/
theorem RepD.length {K : PySem.W.Frag} {Z : Hp} : ∀ {v : List (List Key × V)} {d : List (List Int × D)}, RepD K Z v d → v.length = d.length
  | _, _, .nil => rfl
  | _, _, .cons _ r => by rw [List.length_cons, List.length_cons, r.length]
theorem kI_inj : ∀ {j k : List Int}, kI j = kI k → j = k
  | [], [], _ => rfl
  | [], _ :: _, h => nomatch h
  | _ :: _, [], h => nomatch h
  | a :: r, b :: t, h => by
    have h' : (Sum.inl a : Key) :: kI r = Sum.inl b :: kI t := h
    injection h' with h1 h2
    rw [Sum.inl.inj h1, kI_inj h2]
theorem valV_look {K : PySem.W.Frag} {Z : Hp} (k : List Int) : ∀ {kvs : List (List Key × V)} {es : List (List Int × D)}, RepD K Z kvs es →
    (valV kvs (kI k) = none ∧ lookD k es = none) ∨ ∃ v d, valV kvs (kI k) = some v ∧ lookD k es = some d ∧ Rep K Z v d
  | _, _, .nil => .inl ⟨rfl, rfl⟩
  | _, _, .cons (k := j) (v := v) (d := d) h r => by
    by_cases e : j = k
    · refine .inr ⟨v, d, ?_, ?_, h⟩
      · subst e
        unfold valV; simp
      · unfold lookD; rw [if_pos e]
    · have e' : ¬ kI j = kI k := fun q => e (kI_inj q)
      have e1 : ∀ l, valV ((kI j, v) :: l) (kI k) = valV l (kI k) := fun l => by
        conv => lhs; unfold valV
        simp [e', valV]
      have e2 : ∀ l, lookD k ((j, d) :: l) = lookD k l := fun l => by
        conv => lhs; unfold lookD
        rw [if_neg e]
      rw [e1, e2]
      exact valV_look k r
theorem RepD.append {K : PySem.W.Frag} {Z : Hp} : ∀ {v w : List (List Key × V)} {d e : List (List Int × D)}, RepD K Z v d → RepD K Z w e → RepD K Z (v ++ w) (d ++ e)
  | _, _, _, _, .nil, q => q
  | _, _, _, _, .cons h r, q => .cons h (r.append q)
theorem any_key {K : PySem.W.Frag} {Z : Hp} (k : List Int) : ∀ {kvs : List (List Key × V)} {es : List (List Int × D)}, RepD K Z kvs es → (kvs.any fun kv => decide (kv.1 = kI k)) = es.any fun e => decide (e.1 = k)
  | _, _, .nil => rfl
  | _, _, .cons (k := j) h r => by
    rw [List.any_cons, List.any_cons, any_key k r]
    by_cases e : j = k
    · subst e; simp
    · have e' : ¬ kI j = kI k := fun q => e (kI_inj q)
      simp [e, e']
theorem map_key {K : PySem.W.Frag} {Z : Hp} (k : List Int) {v : V} {d : D} (q : Rep K Z v d) : ∀ {kvs : List (List Key × V)} {es : List (List Int × D)}, RepD K Z kvs es →
    RepD K Z (kvs.map fun kv => if kv.1 = kI k then (kv.1, v) else kv) (es.map fun e => if e.1 = k then (e.1, d) else e)
  | _, _, .nil => .nil
  | _, _, .cons (k := j) h r => by
    rw [List.map_cons, List.map_cons]
    by_cases e : j = k
    · subst e
      rw [if_pos rfl, if_pos rfl]
      exact .cons q (map_key j q r)
    · have e' : ¬ kI j = kI k := fun q => e (kI_inj q)
      rw [if_neg e', if_neg e]
      exact .cons h (map_key k q r)
theorem putK_put {K : PySem.W.Frag} {Z : Hp} (k : List Int) {v : V} {d : D} (q : Rep K Z v d) {kvs : List (List Key × V)} {es : List (List Int × D)} (r : RepD K Z kvs es) : RepD K Z (putK kvs (kI k) v) (putD k d es) := by
  unfold putK putD
  have e := any_key k r
  by_cases c : (es.any fun e => decide (e.1 = k)) = true
  · rw [if_pos c]
    rw [c] at e
    rw [if_pos (by first | exact e | simpa using e)]
    exact map_key k q r
  · rw [if_neg c]
    rw [← e] at c
    rw [if_neg (by first | exact c | simpa using c)]
    exact r.append (.cons q .nil)
theorem intsD_of : ∀ {ds : List D} {ns : List Int}, intsD ds = some ns → ds = ns.map D.int
  | [], ns, h => by unfold intsD at h; cases h; rfl
  | .int i :: r, ns, h => by
    unfold intsD at h
    cases e : intsD r with
    | none => rw [e] at h; cases h
    | some k => rw [e] at h; cases h; rw [intsD_of e]; rfl
  | .non :: _, ns, h => by unfold intsD at h; cases h
  | .bl _ :: _, ns, h => by unfold intsD at h; cases h
  | .str _ :: _, ns, h => by unfold intsD at h; cases h
  | .tup _ :: _, ns, h => by unfold intsD at h; cases h
  | .lst _ :: _, ns, h => by unfold intsD at h; cases h
  | .dic _ :: _, ns, h => by unfold intsD at h; cases h
  | .scr _ :: _, ns, h => by unfold intsD at h; cases h
theorem ofA_put {K : PySem.W.Frag} {Z H : Hp} (z : SameF Z H) {w : V} {y : D} {k : List Int} (h : RepH K Z H w y) (e : keyD y = some k) : ∃ b, w = .ref b ∧ H b = some (.tup ((kI k).map kV)) := by
  unfold keyD at e
  split at e
  · have := intsD_of e; subst this
    obtain ⟨b, xs, rfl, _, hb, r⟩ := h.tup z
    have := r.ints; subst this
    exact ⟨b, rfl, by rw [kV_kI]; exact hb⟩
  · cases e
theorem dget_of {K : PySem.W.Frag} {Z H : Hp} (z : SameF Z H) {a : Addr} {kvs : List (List Key × V)} {w : V} {y : D} {k : List Int} (ha : Rd H a (.dT kvs)) (h : RepH K Z H w y) (e : keyD y = some k) : DGet H a w (valV kvs (kI k)) := by
  obtain ⟨b, rfl, hb⟩ := ofA_put z h e
  exact .inr ⟨kvs, kI k, b, ha, rfl, hb, rfl⟩

/-! ### comparisons -/
def cmP : Cm → CmpOp
  | .eq => .Eq | .ne => .NotEq | .lt => .Lt | .le => .LtE | .gt => .Gt | .ge => .GtE | .isin => .In | .notin => .NotIn | .is_ => .Is | .isnot => .IsNot
def rDin (g : Bool → Bool) : R2 := fun x y H Q => ∃ a o, y = .ref a ∧ DGet H a x o ∧ Q (.bl (g o.isSome)) H
section
variable {X : Cx}
theorem op_din (hu : X.A.units + 1 < cLine) : OpR X (compareOp .In) (rDin id) := by
  intro pins s σ H x y v u Q I rx ry h
  obtain ⟨a, o, rfl, g, q⟩ := h
  cases ry
  exact d_in hu I g rx fun s3 I3 => ⟨.bl o.isSome, H, I3, rfl, q⟩
theorem op_dnotin (hu : X.A.units + 1 < cLine) : OpR X (compareOp .NotIn) (rDin not) := by
  intro pins s σ H x y v u Q I rx ry h
  obtain ⟨a, o, rfl, g, q⟩ := h
  cases ry
  exact d_notIn hu I g rx fun s3 I3 => ⟨.bl (!o.isSome), H, I3, rfl, q⟩
def rC (K : PySem.W.Frag) : Cm → R2
  | .eq => fun x y H Q => rEqD K x y H Q ∨ rDicE id x y H Q
  | .ne => fun x y H Q => rNeD K x y H Q ∨ rDicE not x y H Q
  | .lt => rI0 fun i j => .bl (decide (i < j))
  | .le => fun x y H Q => rI0 (fun i j => .bl (decide (i ≤ j))) x y H Q ∨ rLeT K x y H Q
  | .gt => rI0 fun i j => .bl (decide (j < i))
  | .ge => rI0 fun i j => .bl (decide (j ≤ i))
  | .isin => fun x y H Q => rInD K x y H Q ∨ rInT K id x y H Q ∨ rDin id x y H Q ∨ (fun x y H Q => ∃ i j, x = .str i ∧ y = .str j ∧ Q (.bl (!(Builtin.Str.occurrences j i 0 j.length 1).isEmpty)) H) x y H Q
  | .notin => fun x y H Q => rNotInD K x y H Q ∨ rInT K not x y H Q ∨ rDin not x y H Q ∨ (fun x y H Q => ∃ i j, x = .str i ∧ y = .str j ∧ Q (.bl (!(!(Builtin.Str.occurrences j i 0 j.length 1).isEmpty))) H) x y H Q
  | .is_ => fun x y H Q => (fun x y H Q => y = .non ∧ Q (.bl (decide (x = .non))) H) x y H Q ∨ rIsB x y H Q
  | .isnot => fun x y H Q => (fun x y H Q => y = .non ∧ Q (.bl (!decide (x = .non))) H) x y H Q ∨ rNotB x y H Q
theorem c_ok (hu : X.A.units + 66 < cLine) : ∀ o : Cm, OpR X (compareOp (cmP o)) (rC X.K o)
  | .eq => (op_eqD (by omega)).or (op_eqE (by omega))
  | .ne => (op_neD (by omega)).or (op_neE (by omega))
  | .lt => op_lt
  | .le => op_le.or (op_leT (by omega))
  | .gt => op_gt
  | .ge => op_ge
  | .isin => (op_inD (by omega)).or ((op_inT hu).or ((op_din (by omega)).or op_in_str))
  | .notin => (op_notInD (by omega)).or ((op_notInT hu).or ((op_dnotin (by omega)).or op_notin_str))
  | .is_ => op_isN.or op_isBl
  | .isnot => op_notN.or op_notBl
end
theorem inD_any (x : D) (hx : shD 60 x = true) : ∀ (ds : List D) (n : Nat), shDs n ds = true → ((toPys ds).any fun z => PyData.eqv z (toPy x)) = inD x ds
  | [], _, _ => rfl
  | y :: r, n, h => by
    simp only [shDs, Bool.and_eq_true] at h
    simp only [toPys, List.any_cons, inD]
    rw [eqv_of n 60 y x h.1 hx, inD_any x hx r n h.2]
theorem lexAt_shift (e r : Nat → Bool) (z : Bool) : ∀ (k i : Nat), Ob.lexAt (fun j => e (j + 1)) (fun j => r (j + 1)) z i k = Ob.lexAt e r z (i + 1) k
  | 0, _ => rfl
  | k + 1, i => by rw [Ob.lexAt_succ, Ob.lexAt_succ, lexAt_shift e r z k (i + 1)]
theorem lexAt_le : ∀ (ns ms : List Int), Ob.lexAt (fun j => decide (ns.getD j 0 = ms.getD j 0)) (fun j => decide (ns.getD j 0 ≤ ms.getD j 0)) (decide (ns.length ≤ ms.length)) 0 (min ns.length ms.length) = lexLe ns ms
  | [], ms => by
    rw [List.length_nil, Nat.zero_min]
    show decide _ = true
    exact decide_eq_true (Nat.zero_le _)
  | n :: ns, [] => by
    rw [List.length_nil, Nat.min_zero]
    show decide _ = false
    exact decide_eq_false (by simp)
  | n :: ns, m :: ms => by
    have ih := lexAt_le ns ms
    have e : min (n :: ns).length (m :: ms).length = min ns.length ms.length + 1 := by
      rw [List.length_cons, List.length_cons]; omega
    rw [e, Ob.lexAt_succ]
    rw [← lexAt_shift]
    have e2 : decide ((n :: ns).length ≤ (m :: ms).length) = decide (ns.length ≤ ms.length) := by
      rw [List.length_cons, List.length_cons]
      exact decide_eq_decide.mpr (by omega)
    rw [e2]
    show (if decide (n = m) = true then Ob.lexAt (fun j => decide (ns.getD j 0 = ms.getD j 0)) (fun j => decide (ns.getD j 0 ≤ ms.getD j 0)) (decide (ns.length ≤ ms.length)) 0 (min ns.length ms.length) else decide (n ≤ m)) = lexLe (n :: ns) (m :: ms)
    rw [ih]
    simp only [lexLe, decide_eq_true_eq]

section
variable {C : Ctx} {σ : VS} {env : Env'} {r : D} {Z H : Hp} {d : D} {Q : VK}
theorem any_in {d : D} {ds : List D} (sx : shD 60 d = true) (sy : shD 60 (.lst ds) = true) : ((toPys ds).any fun z => PyData.eqv z (toPy d)) = inD d ds := inD_any d sx ds 59 (by simpa only [shD] using sy)
theorem bl_eq {K : PySem.W.Frag} {Q : VK} {H : Hp} {a b : Bool} (h : Q (.bl a) H) (e : b = a) : Q (.bl b) H := by rw [e]; exact h
/-- what isinD asks -/
theorem v_in {x y : D} {v w : V} {c : Bool} (s : StOk C Z H σ env r) (hv : RepH C.K Z H v x) (hw : RepH C.K Z H w y) (e : isinD x y = .ok c) :
    (∀ Q : VK, Q (.bl c) H → rC C.K .isin v w H Q) ∧ (∀ Q : VK, Q (.bl (!c)) H → rC C.K .notin v w H Q) := by
  unfold isinD at e
  split at e
  · split at e
    · cases e
      rename_i hs
      rw [Bool.and_eq_true] at hs
      have d1 := hv.dp s.zh hs.1
      have d2 := hw.dp s.zh hs.2
      simp only [toPy] at d2
      have s2 := shaped_of hs.2
      simp only [toPy] at s2
      have ee := any_in hs.1 hs.2
      exact ⟨fun Q h => .inl ⟨_, _, d1, d2, shaped_of hs.1, s2, by rw [ee]; exact h⟩, fun Q h => .inl ⟨_, _, d1, d2, shaped_of hs.1, s2, by rw [ee]; exact h⟩⟩
    · cases e
  · split at e
    · cases e
      rename_i hs
      rw [Bool.and_eq_true] at hs
      have d1 := hv.dp s.zh hs.1
      have d2 := hw.dp s.zh hs.2
      simp only [toPy] at d2
      have s2 := shaped_of hs.2
      simp only [toPy] at s2
      have ee := inD_any _ hs.1 _ 59 (by simpa only [shD] using hs.2)
      exact ⟨fun Q h => .inr (.inl ⟨_, _, d1, d2, shaped_of hs.1, s2, by rw [ee]; exact h⟩), fun Q h => .inr (.inl ⟨_, _, d1, d2, shaped_of hs.1, s2, by rw [ee]; exact h⟩)⟩
    · cases e
  · rename_i es
    split at e
    · cases e
      rename_i k hk
      obtain ⟨a, kvs, rfl, ha, rd⟩ := hw.dic s.zh
      have g := dget_of s.zh ha hv hk
      have eo : (valV kvs (kI k)).isSome = (lookD k es).isSome := by
        rcases valV_look k rd with ⟨e1, e2⟩ | ⟨u, d, e1, e2, _⟩
        · rw [e1, e2]; rfl
        · rw [e1, e2]; rfl
      exact ⟨fun Q h => .inr (.inr (.inl ⟨a, _, rfl, g, by rw [eo]; exact h⟩)), fun Q h => .inr (.inr (.inl ⟨a, _, rfl, g, by rw [eo]; exact h⟩))⟩
    · cases e
  · cases e
    rw [hv.str, hw.str]
    exact ⟨fun Q h => .inr (.inr (.inr ⟨_, _, rfl, rfl, h⟩)), fun Q h => .inr (.inr (.inr ⟨_, _, rfl, rfl, h⟩))⟩
  · cases e
theorem v_eq {x y : D} {v w : V} {c : Bool} (s : StOk C Z H σ env r) (hv : RepH C.K Z H v x) (hw : RepH C.K Z H w y) (e : eqG x y = .ok c) :
    (∀ Q : VK, Q (.bl c) H → rC C.K .eq v w H Q) ∧ (∀ Q : VK, Q (.bl (!c)) H → rC C.K .ne v w H Q) := by
  unfold eqG at e
  split at e
  · rename_i es
    cases e
    obtain ⟨a, ks, rfl, ha, ra⟩ := hv.dic s.zh
    obtain ⟨b, ls, rfl, hb, rb⟩ := hw.dic s.zh
    have l1 : ks.length = 0 := ra.length
    have l2 := rb.length
    have ee : (ks.length == ls.length) = es.isEmpty := by
      rw [l1, l2]
      cases es <;> rfl
    exact ⟨fun Q h => .inr ⟨a, b, ks, ls, rfl, rfl, ha, hb, .inl l1, by rw [ee]; exact h⟩, fun Q h => .inr ⟨a, b, ks, ls, rfl, rfl, ha, hb, .inl l1, by rw [ee]; exact h⟩⟩
  · rename_i es _
    cases e
    obtain ⟨a, ks, rfl, ha, ra⟩ := hv.dic s.zh
    obtain ⟨b, ls, rfl, hb, rb⟩ := hw.dic s.zh
    have l1 := ra.length
    have l2 : ls.length = 0 := rb.length
    have ee : (ks.length == ls.length) = es.isEmpty := by
      rw [l1, l2]
      cases es <;> rfl
    exact ⟨fun Q h => .inr ⟨a, b, ks, ls, rfl, rfl, ha, hb, .inr l2, by rw [ee]; exact h⟩, fun Q h => .inr ⟨a, b, ks, ls, rfl, rfl, ha, hb, .inr l2, by rw [ee]; exact h⟩⟩
  · split at e
    · cases e
      rename_i hs
      rw [Bool.and_eq_true] at hs
      have ee := eqv_of 60 60 x y hs.1 hs.2
      exact ⟨fun Q h => .inl ⟨_, _, hv.dp s.zh hs.1, hw.dp s.zh hs.2, shaped_of hs.1, shaped_of hs.2, by rw [ee]; exact h⟩, fun Q h => .inl ⟨_, _, hv.dp s.zh hs.1, hw.dp s.zh hs.2, shaped_of hs.1, shaped_of hs.2, by rw [ee]; exact h⟩⟩
    · cases e
theorem RepH.isNon {K : PySem.W.Frag} {v : V} {x : D} (h : RepH K Z H v x) : decide (v = .non) = isNonD x := by
  rcases h with h | ⟨p, rfl, o⟩
  · cases h <;> rfl
  · cases x <;> first | rfl | exact o.elim
theorem v_cmp {o : Cm} {x y : D} {v w : V} {c : Bool} (s : StOk C Z H σ env r) (hv : RepH C.K Z H v x) (hw : RepH C.K Z H w y) (e : cmpD o x y = .ok c) (h : Q (.bl c) H) : rC C.K o v w H Q := by
  unfold cmpD at e
  split at e
  · exact (v_eq s hv hw e).1 Q h
  · split at e
    · cases e; rename_i hh; exact (v_eq s hv hw hh).2 Q h
    · rename_i hh; exact absurd e (hh _)
  · cases e; rw [hv.int, hw.int]; exact ⟨_, _, rfl, rfl, h⟩
  · cases e; rw [hv.int, hw.int]; exact .inl ⟨_, _, rfl, rfl, h⟩
  · cases e; rw [hv.int, hw.int]; exact ⟨_, _, rfl, rfl, h⟩
  · cases e; rw [hv.int, hw.int]; exact ⟨_, _, rfl, rfl, h⟩
  · split at e
    · cases e
      rename_i h1 h2
      have := intsD_of h1; subst this
      have := intsD_of h2; subst this
      obtain ⟨a, xs, rfl, _, ha, ra⟩ := hv.tup s.zh
      obtain ⟨b, ys, rfl, _, hb, rb⟩ := hw.tup s.zh
      have := ra.ints; subst this
      have := rb.ints; subst this
      exact .inr ⟨a, b, _, _, rfl, rfl, SqT.of ha, SqT.of hb, by rw [lexAt_le]; exact h⟩
    · cases e
  · exact (v_in s hv hw e).1 Q h
  · split at e
    · cases e; rename_i hh; exact (v_in s hv hw hh).2 Q h
    · rename_i hh; exact absurd e (hh _)
  · cases e; exact .inl ⟨hw.non, by rw [hv.isNon]; exact h⟩
  · cases e; exact .inl ⟨hw.non, by rw [hv.isNon]; exact h⟩
  · cases e; rw [hv.bl, hw.bl]; exact .inr ⟨_, _, rfl, rfl, bl_eq (K := C.K) h (by simp [Bool.beq_eq_decide_eq])⟩
  · cases e; rw [hv.bl, hw.bl]; exact .inr ⟨_, _, rfl, rfl, bl_eq (K := C.K) h (by simp [Bool.beq_eq_decide_eq])⟩
  · cases e
end
end PL

set_option Elab.async false
set_option linter.all false
set_option maxRecDepth 100000
set_option autoImplicit false
set_option maxHeartbeats 400000
namespace PL
open PySem PySem.Spec PyProof.Rows L2

/-! ### a[i] -/
def rIxD : R2 := fun x y H Q => ∃ a v, x = .ref a ∧ DGet H a y (some v) ∧ Q v H
theorem ix_dict {X : Cx} (hu : X.A.units + 1 < cLine) : IxR X rIxD := by
  intro value slice pins s σ H x y v u Q I rx ry h hs
  obtain ⟨a, w, rfl, g, q⟩ := h
  cases rx
  exact tail_any (dict_typeIs I g) PySem.F.slot_dict_getitem.lookup (d_getItem hu I g ry fun w' s3 I3 rw' => ⟨w, H, I3, rw', q⟩) hs
def rIxA (K : PySem.W.Frag) : R2 := fun x y H Q => rIxL K x y H Q ∨ rIxT K x y H Q ∨ rIxD x y H Q
theorem ix_all {X : Cx} (hu : X.A.units + 1 < cLine) : IxR X (rIxA X.K) := ix_list.or (ix_tup.or (ix_dict hu))
section
variable {C : Ctx} {σ : VS} {env : Env'} {r : D} {Z H : Hp} {d : D} {Q : VK}
theorem idx_at {K : PySem.W.Frag} {xs : List V} {ds : List D} {i : Int} {j : Nat} {x : D} (q : Reps K Z xs ds) (e : idxN ds.length i = some j) (g : ds[j]? = some x) : ∃ v, atI xs i = some v ∧ Rep K Z v x := by
  obtain ⟨v, hv, hr⟩ := q.get g
  refine ⟨v, ?_, hr⟩
  unfold atI
  have e' : ixN xs.length i = some j := by rw [q.length]; exact e
  rw [e']
  exact hv
theorem ofO_ok {α : Type} {o : Option α} {a : α} (h : R.ofO o = .ok a) : o = some a := by
  cases o with
  | none => cases h
  | some b => cases h; rfl
theorem v_ix {x y z : D} {v w : V} (s : StOk C Z H σ env r) (hv : RepH C.K Z H v x) (hw : RepH C.K Z H w y) (e : ixD x y = .ok z) (h : VP C σ env r Z H false z Q) : rIxA C.K v w H Q := by
  unfold ixD at e
  split at e
  · split at e
    · rename_i j hj
      have g := ofO_ok e
      obtain ⟨a, xs, rfl, ha, ra⟩ := hv.lst s.zh
      rw [hw.int]
      obtain ⟨u, h1, h2⟩ := idx_at ra hj g
      exact .inl ⟨a, xs, _, u, rfl, rfl, SqL.of ha, h1, h.hereF s h2⟩
    · cases e
  · split at e
    · rename_i j hj
      have g := ofO_ok e
      obtain ⟨a, xs, rfl, _, ha, ra⟩ := hv.tup s.zh
      rw [hw.int]
      obtain ⟨u, h1, h2⟩ := idx_at ra hj g
      exact .inr (.inl ⟨a, xs, _, u, rfl, rfl, SqT.of ha, h1, h.hereF s h2⟩)
    · cases e
  · rename_i ns i
    split at e
    · rename_i j hj
      have g := ofO_ok e
      obtain ⟨a, rfl, ha⟩ := hv.scr s.zh
      rw [hw.int]
      have ra : Reps C.K Z (ns.map V.int) (ns.map D.int) := Reps.of_ints ns
      obtain ⟨u, h1, h2⟩ := idx_at ra (by rw [List.length_map]; exact hj) (by rw [List.getElem?_map]; exact g)
      exact .inl ⟨a, _, _, u, rfl, rfl, ha, h1, h.hereF s h2⟩
    · cases e
  · split at e
    · rename_i k hk
      have g := ofO_ok e
      obtain ⟨a, kvs, rfl, ha, rd⟩ := hv.dic s.zh
      have gg := dget_of s.zh ha hw hk
      rcases valV_look k rd with ⟨e1, e2⟩ | ⟨u, d, e1, e2, e3⟩
      · rw [e2] at g; cases g
      · rw [e2] at g; cases g
        rw [e1] at gg
        exact .inr (.inr ⟨a, u, rfl, gg, h.hereF s e3⟩)
    · cases e
  · cases e
/-! ### a[lo:hi] -/
def rSl (K : PySem.W.Frag) : V → Option Int → Option Int → Hp → VK → Prop := fun x lo hi H Q => rSlL K x lo hi H Q ∨ rSlA K x lo hi H Q ∨ rSlS x lo hi H Q
theorem sl_all {X : Cx} : SlR X (rSl X.K) := sl_list.or (sl_tupA.or sl_str)
theorem cut_eq {α : Type} (xs : List α) (lo hi : Option Int) : cutD xs lo hi = (xs.drop (HT.sIx xs.length 0 lo)).take (HT.sIx xs.length xs.length hi - HT.sIx xs.length 0 lo) := rfl
theorem Reps.cut {K : PySem.W.Frag} {xs : List V} {ds : List D} (q : Reps K Z xs ds) (lo hi : Option Int) : Reps K Z (cutV xs lo hi) (cutD ds lo hi) := by
  unfold cutV
  rw [cut_eq, q.length]
  exact (q.drop _).take _
theorem v_sl {x z : D} {v : V} {lo hi : Option Int} (s : StOk C Z H σ env r) (hv : RepH C.K Z H v x) (e : slD x lo hi = .ok z) (h : VP C σ env r Z H false z Q) : rSl C.K v lo hi H Q := by
  unfold slD at e
  split at e
  · cases e
    obtain ⟨a, xs, rfl, ha, ra⟩ := hv.lst s.zh
    exact .inl ⟨a, xs, rfl, SqL.of ha, h.newL s (ra.cut _ _)⟩
  · cases e
    obtain ⟨a, xs, rfl, za, ha, ra⟩ := hv.tup s.zh
    refine .inr (.inl ⟨a, xs, rfl, SqT.of ha, fun q => ?_, fun _ => h.newT s (ra.cut _ _)⟩)
    rw [cut_eq, ← ra.length, q.1, q.2, List.drop_zero, Nat.sub_zero, ra.length, List.take_length] at h
    exact h.hereF s (.tup za ra)
  · split at e
    · cases e
      rename_i hl
      rw [hv.str]
      exact .inr (.inr ⟨_, rfl, lim_size hl, h.str s⟩)
    · cases e
  · cases e
end
end PL

set_option Elab.async false
set_option linter.all false
set_option maxRecDepth 100000
set_option autoImplicit false
set_option maxHeartbeats 400000
namespace PL
open PySem PySem.Spec PyProof.Rows L2
theorem fm_eq {α β : Type} {f : α → Option β} {g : α → β} : ∀ {l : List α}, (∀ k ∈ l, f k = some (g k)) → l.filterMap f = l.map g
  | [], _ => rfl
  | a :: l, h => by rw [List.filterMap_cons, h a List.mem_cons_self, List.map_cons, fm_eq fun k hk => h k (List.mem_cons_of_mem _ hk)]
theorem rev_pick (items : Array Value) : (List.range items.size).filterMap (fun (k : Nat) => items[(((items.size : Nat) : Int) - 1 + (k : Int) * (-1)).toNat]?) = items.toList.reverse := by
  apply List.ext_getElem?
  intro i
  have hk : ∀ k, k < items.size → items[(((items.size : Nat) : Int) - 1 + (k : Int) * (-1)).toNat]? = some (items.toList.reverse.getD k .none) := by
    intro k hk
    have e : (((items.size : Nat) : Int) - 1 + (k : Int) * (-1)).toNat = items.size - 1 - k := by omega
    rw [e, List.getD_eq_getElem?_getD, List.getElem?_reverse (by simpa using hk)]
    rw [Array.getElem?_eq_getElem (by omega)]
    simp
    rw [Array.getElem?_eq_getElem (by omega)]
    rfl
  have h2 : (List.range items.size).filterMap (fun (k : Nat) => items[(((items.size : Nat) : Int) - 1 + (k : Int) * (-1)).toNat]?) = (List.range items.size).map fun k => items.toList.reverse.getD k .none := by
    exact fm_eq fun k hm => hk k (by simpa using hm)
  rw [h2, List.getElem?_map]
  by_cases hi : i < items.size
  · rw [List.getElem?_range hi, Option.map_some, List.getD_eq_getElem?_getD]
    have hl : i < items.toList.reverse.length := by simpa using hi
    rw [List.getElem?_eq_getElem hl]; rfl
  · rw [List.getElem?_eq_none (by simpa using hi), List.getElem?_eq_none (by simpa using hi)]; rfl
theorem rev_adj (n : Nat) : Builtin.Slice.sliceAdjust none none (-1) (n : Int) = ((n : Int) - 1, -1) := by
  unfold Builtin.Slice.sliceAdjust
  simp
theorem rev_places (n : Nat) : Builtin.Slice.slicePlaces ((n : Int) - 1) (-1) (-1) = n := by
  unfold Builtin.Slice.slicePlaces
  simp
  split <;> omega
theorem tuple_rev (t sl : Addr) (items : Array Value) (n : Nat) (dd : Option Addr) (st : Array (Option Value)) (tk : Tok) (hz : items.size ≤ sizeLine) :
    Meets (Builtin.«tuple.__getitem__» ⟨[.ref t, .ref sl], []⟩) (fun _ R s => s.heap.get? t = some { cls := .type "tuple", dict := dd, data := .seq items n, slots := st } ∧
      s.heap.get? sl = some { cls := .type "slice", data := .fields #[.none, .none, .int (-1) tk] } ∧
      R (.ok (.ret (.ref s.heap.objs.size))) { s with heap := s.heap.push { cls := .type "tuple", data := .seq items.toList.reverse.toArray } }) :=
  .of_wp fun prog w A R s h => by
    obtain ⟨hp, g, d, tks, os⟩ := s
    obtain ⟨hl, hs, h⟩ := h
    wp_walk using AutoSeq1.wpAny_loadPart' hl
    wp_walk using AutoSeq1.wpAny_loadPart' hs
    refine wpAny_of_eq int_index ?_
    have f1 := AutoSeq1.idx_int
    wp_walk
    simp only [Option.getD_some, rev_adj, rev_places, rev_pick]
    refine wpAny_ite_false (decide_eq_false (by simpa using hz)) ?_
    wp_walk
    exact ⟨_, rfl, h⟩
end PL

set_option Elab.async false
set_option linter.all false
set_option maxRecDepth 100000
set_option autoImplicit false
set_option maxHeartbeats 400000
namespace PL
open PySem PySem.Spec PyProof.Rows L2
theorem vals_rev : ∀ {xs : List V} {us : List Value}, Vals xs us → Vals xs.reverse us.reverse
  | _, _, .nil => .nil
  | _, _, .cons a b => by rw [List.reverse_cons, List.reverse_cons]; exact (vals_rev b).append (.cons a .nil)
theorem new_slice {prog : Program} {w : World} {A : Around} {E : Value → Shared → Prop} {hp : Heap} {g : Array GenState} {d : Drawn} {tks : Nat} {os : OsState} {a b c : Value} {Q : Value → Shared → Prop}
    (h : Q (.ref hp.objs.size) ⟨hp.push { cls := .type "slice", data := .fields #[a, b, c] }, g, d, tks, os⟩) : wpAny (model prog w) A (newFields "slice" [a, b, c]) Q E ⟨hp, g, d, tks, os⟩ := by
  unfold newFields
  wp_walk
  exact h
/-- t[::-1] -/
def tRevT (K : PySem.W.Frag) (te : TE) : TE := fun σ H Q => te σ H fun x H1 => ∃ a xs, x = .ref a ∧ SqT K H1 a xs ∧ ∀ p, H1 p = none → Q (.ref p) (upd H1 p (.tup xs.reverse))
section
variable {X : Cx}
theorem pe_revT {e : Expr} {te : TE} {k : Nat} {p1 p2 p3 pos : Pos} (he : PE X e te) : PE X (.Subscript e (.Slice none none (some (.UnaryOp .USub (.Constant (.int 1) k p1) p2)) p3) pos) (tRevT X.K te) := by
  refine ⟨fun pins s σ H Q I h => Subscript_ (thn (he.run pins s σ H _ I h) fun u s1 ⟨x, H1, I1, r1, a, xs, ex, ht, q⟩ => ?_)⟩
  subst ex
  obtain rfl : u = .ref a := r1
  rw [PySem.arm_eval_Slice]
  refine wpAny_bind (wpAny_pure (a := Value.none) ?_)
  refine wpAny_bind (wpAny_holding (wpAny_pure (a := Value.none) ?_))
  refine wpAny_bind (wpAny_holding ?_)
  show wpAny _ _ (eval (.UnaryOp .USub (.Constant (.int 1) k p1) p2) X.env) _ _ _
  refine thn ((pe_un (X := X) (pos := p2) un_neg pe_int).run pins s1 σ H1 (fun v H' => v = .int (-1) ∧ H' = H1) I1 ?_) ?_
  · exact ⟨1, rfl, rfl, rfl⟩
  rintro u s2 ⟨v, H2, I2, r2, rfl, rfl⟩
  obtain ⟨tk, rfl⟩ : ∃ t, u = .int (-1) t := r2
  obtain ⟨its, vi, ⟨⟨cl, dd, dat, sl⟩, ho, ec, n, ed⟩, hz⟩ := I2.tuple ht
  have ec' : cl = .type "tuple" := ec
  have ed' : dat = .seq its.toArray n := ed
  subst ec'; subst ed'
  obtain ⟨hp, g, d, tks, os⟩ := s2
  refine new_slice ?_
  have I3 : Inv X pins σ H2 ⟨hp.push { cls := .type "slice", data := .fields #[.none, .none, .int (-1) tk] }, g, d, tks, os⟩ := I2.kept (t' := tks) fun b u e => Heap.get?_push_of_some _ e
  have ho' : (hp.push { cls := .type "slice", data := .fields #[.none, .none, .int (-1) tk] }).get? a = some { cls := .type "tuple", dict := dd, data := .seq its.toArray n, slots := sl } := Heap.get?_push_of_some _ ho
  have hty : (⟨hp.push { cls := .type "slice", data := .fields #[.none, .none, .int (-1) tk] }, g, d, tks, os⟩ : Shared).TypeIs (.ref a) "tuple" := ⟨_, ho', rfl⟩
  refine tail_any (T := "tuple") (ops := [.ref a, .ref hp.objs.size]) hty F.slot_tuple_getitem.lookup ?_ ?_
  rotate_left
  · rfl
  have hs : (hp.push { cls := .type "slice", data := .fields #[.none, .none, .int (-1) tk] }).get? hp.objs.size = some { cls := .type "slice", data := .fields #[.none, .none, .int (-1) tk] } := Heap.get?_push_size _ rfl
  have hz' : its.toArray.size ≤ sizeLine := by have := vi.length; simp; omega
  have m := tuple_rev a hp.objs.size its.toArray n dd sl tk hz'
  show wpAny _ _ (getItem (.ref a) (.ref hp.objs.size)) _ _ _
  refine getItem_meets hty (by decide) F.slot_tuple_getitem F.entry_tuple_getitem (F.args_tuple_getitem_2 _ _) m ⟨ho', hs, ?_⟩
  have hf := I3.hok.fresh (Nat.le_refl _)
  refine ⟨.ref _, upd H2 _ (.tup xs.reverse), I3.laid (t' := tks) (fun b u e => Heap.get?_push_of_some _ e) (Nat.le_refl _) ?_, rfl, q _ hf⟩
  refine ⟨by rw [List.length_reverse]; exact hz, its.reverse, vals_rev vi, ⟨_, Heap.get?_push_size _ rfl, rfl, _, rfl⟩⟩
end
end PL

set_option Elab.async false
set_option linter.all false
set_option maxRecDepth 100000
set_option autoImplicit false
set_option maxHeartbeats 400000
namespace PL
open PySem PySem.Spec PyProof.Rows L2
open PySem.W (EachIs AllAlike Sortable dataLe)
/-- a value and what it is sorted by -/
abbrev KV' := V × List Int
structure KeyOk (K : PySem.W.Frag) (H : Hp) (enc : KV' → PyData) (bs : List KV') : Prop where
  dp : ∀ b ∈ bs, Dp K H b.1 (enc b)
  pl : ∀ b ∈ bs, (enc b).depth ≤ 1
  al : AllAlike (bs.map enc)
  so : Sortable (bs.map enc)
  le : bs.length ≤ sizeLine
def rSortA (K : PySem.W.Frag) : List V → Hp → VK → Prop := fun vs H Q => ∃ (a : Addr) (bs : List KV') (enc : KV' → PyData), vs = [.ref a] ∧ SqL K H a (bs.map (·.1)) ∧ KeyOk K H enc bs ∧
  ∀ p, H p = none → Q (.ref p) (upd H p (.lst ((bs.mergeSort (dataLe false enc)).map (·.1))))
theorem each_of {X : Cx} {pins : List (Addr × Obj)} {σ : L2.St} {H : Hp} {s : Shared} (I : Inv X pins σ H s) (enc : KV' → PyData) : ∀ {bs : List KV'} {us : List Value}, Vals (bs.map (·.1)) us → (∀ b ∈ bs, Dp X.K H b.1 (enc b)) →
    EachIs (fun (v : Value) (b : KV') => RelV b.1 v) us bs ∧ EachIs (fun v (b : KV') => ∃ as, Reads s.heap v (enc b) as) us bs
  | [], _, .nil, _ => ⟨.nil, .nil⟩
  | b :: bs, _, .cons r t, h => by
    have q := each_of I enc t fun c hc => h c (List.mem_cons_of_mem _ hc)
    exact ⟨.cons r q.1, .cons (Dp.reads I _ _ _ (h b List.mem_cons_self) r) q.2⟩
theorem vals_each : ∀ {bs : List KV'} {us : List Value}, EachIs (fun (v : Value) (b : KV') => RelV b.1 v) us bs → Vals (bs.map (·.1)) us
  | _, _, .nil => .nil
  | _, _, .cons r t => .cons r (vals_each t)
theorem cr_sortA {X : Cx} (hu : X.A.units + 10 < cLine) : CallR X (.builtin "sorted") (rSortA X.K) := by
  intro pins s σ H xs us Q I rv h
  obtain ⟨a, bs, enc, rfl, ha, ok, q⟩ := h
  cases rv with
  | cons r t =>
    cases t
    cases r
    obtain ⟨its, vi, hl, hz⟩ := I.list ha
    obtain ⟨e1, e2⟩ := each_of I enc vi ok.dp
    refine PySem.W.sorted_data hl.isList e1 e2 ok.al ok.so ok.le (fun b hb => by have := ok.pl b hb; omega) fun out hlen e3 => ?_
    obtain ⟨c, hc⟩ := sortedAll_at s.heap its out.toArray
    have hf : H (s.heap.objs.size + 1) = none := I.hok.fresh (Nat.le_succ _)
    refine ⟨.ref _, upd H (s.heap.objs.size + 1) (.lst ((bs.mergeSort (dataLe false enc)).map (·.1))), I.laid (t' := s.toks) (fun b u e => sortedAll_old e) (Nat.le_succ _) ?_, rfl, q _ hf⟩
    refine ⟨?_, out, c, vals_each e3, hc⟩
    rw [List.length_map, List.length_mergeSort]
    exact ok.le
end PL

set_option Elab.async false
set_option linter.all false
set_option maxRecDepth 100000
set_option autoImplicit false
set_option maxHeartbeats 400000
namespace PL
open PySem PySem.Spec PyProof.Rows L2
open PySem.W (EachIs AllAlike Sortable dataLe)

/-! ### the order -/
theorem lexLe_refl : ∀ x : List Int, lexLe x x = true
  | [] => rfl
  | a :: r => by unfold lexLe; rw [if_pos rfl]; exact lexLe_refl r
theorem lexLe_total : ∀ x y : List Int, lexLe x y = true ∨ lexLe y x = true
  | [], _ => .inl rfl
  | _ :: _, [] => .inr rfl
  | a :: r, b :: t => by
    unfold lexLe
    by_cases e : a = b
    · subst e; rw [if_pos rfl, if_pos rfl]; exact lexLe_total r t
    · rw [if_neg e, if_neg (Ne.symm e)]
      simp only [decide_eq_true_eq]; omega
theorem lexLe_anti : ∀ {x y : List Int}, lexLe x y = true → lexLe y x = true → x = y
  | [], [], _, _ => rfl
  | [], _ :: _, _, h => nomatch h
  | _ :: _, [], h, _ => nomatch h
  | a :: r, b :: t, h1, h2 => by
    unfold lexLe at h1 h2
    by_cases e : a = b
    · subst e
      rw [if_pos rfl] at h1 h2
      rw [lexLe_anti h1 h2]
    · rw [if_neg e] at h1
      rw [if_neg (Ne.symm e)] at h2
      simp only [decide_eq_true_eq] at h1 h2
      omega
theorem lexLe_trans : ∀ {x y z : List Int}, lexLe x y = true → lexLe y z = true → lexLe x z = true
  | [], _, _, _, _ => rfl
  | _ :: _, [], _, h, _ => nomatch h
  | _ :: _, _ :: _, [], _, h => nomatch h
  | a :: r, b :: t, c :: u, h1, h2 => by
    unfold lexLe at h1 h2 ⊢
    by_cases e : a = b
    · subst e
      rw [if_pos rfl] at h1
      by_cases e2 : a = c
      · subst e2
        rw [if_pos rfl] at h2
        rw [if_pos rfl]
        exact lexLe_trans h1 h2
      · rw [if_neg e2] at h2 ⊢
        exact h2
    · rw [if_neg e] at h1
      simp only [decide_eq_true_eq] at h1
      by_cases e2 : b = c
      · subst e2
        rw [if_neg e]
        simp only [decide_eq_true_eq]; exact h1
      · rw [if_neg e2] at h2
        simp only [decide_eq_true_eq] at h2
        rw [if_neg (by omega)]
        simp only [decide_eq_true_eq]; omega
theorem srt_unique {α : Type} {le : α → α → Bool} (anti : ∀ {x y}, le x y = true → le y x = true → x = y) : ∀ {l m : List α}, l.Perm m → l.Pairwise (fun a b => le a b = true) → m.Pairwise (fun a b => le a b = true) → l = m
  | [], m, p, _, _ => by have := p.length_eq; cases m with
    | nil => rfl
    | cons _ _ => simp at this
  | a :: l, [], p, _, _ => by have := p.length_eq; simp at this
  | a :: l, b :: m, p, h1, h2 => by
    have e : a = b := by
      have ha : a ∈ b :: m := p.mem_iff.mp List.mem_cons_self
      have hb : b ∈ a :: l := p.mem_iff.mpr List.mem_cons_self
      rcases List.mem_cons.mp ha with e | ha
      · exact e
      · rcases List.mem_cons.mp hb with e | hb
        · exact e.symm
        · exact anti ((List.pairwise_cons.mp h1).1 b hb) ((List.pairwise_cons.mp h2).1 a ha)
    subst e
    rw [srt_unique anti ((List.perm_cons a).mp p) (List.pairwise_cons.mp h1).2 (List.pairwise_cons.mp h2).2]
theorem insT_perm (x : List Int) : ∀ l, (insT x l).Perm (x :: l)
  | [] => .refl _
  | y :: r => by
    unfold insT
    split
    · exact .refl _
    · exact ((insT_perm x r).cons y).trans (.swap x y r)
theorem sortT_perm : ∀ l, (sortT l).Perm l
  | [] => .refl _
  | x :: r => (insT_perm x (sortT r)).trans ((sortT_perm r).cons x)
theorem insT_sorted (x : List Int) : ∀ {l : List (List Int)}, l.Pairwise (fun a b => lexLe a b = true) → (insT x l).Pairwise (fun a b => lexLe a b = true)
  | [], _ => List.pairwise_singleton _ _
  | y :: r, h => by
    obtain ⟨h1, h2⟩ := List.pairwise_cons.mp h
    unfold insT
    split
    · rename_i c
      exact List.pairwise_cons.mpr ⟨fun z hz => (List.mem_cons.mp hz).elim (fun e => e ▸ c) fun hz => lexLe_trans c (h1 z hz), h⟩
    · rename_i c
      refine List.pairwise_cons.mpr ⟨fun z hz => ?_, insT_sorted x h2⟩
      rcases List.mem_cons.mp ((insT_perm x r).mem_iff.mp hz) with e | hz
      · subst e
        exact (lexLe_total z y).resolve_left c
      · exact h1 z hz
theorem sortT_sorted : ∀ l, (sortT l).Pairwise (fun a b => lexLe a b = true)
  | [] => .nil
  | x :: r => insT_sorted x (sortT_sorted r)
theorem insI_perm (x : Int) : ∀ l, (insI x l).Perm (x :: l)
  | [] => .refl _
  | y :: r => by
    unfold insI
    split
    · exact .refl _
    · exact ((insI_perm x r).cons y).trans (.swap x y r)
theorem sortI_perm : ∀ l, (sortI l).Perm l
  | [] => .refl _
  | x :: r => (insI_perm x (sortI r)).trans ((sortI_perm r).cons x)
theorem insI_sorted (x : Int) : ∀ {l : List Int}, l.Pairwise (fun a b => decide (a ≤ b) = true) → (insI x l).Pairwise (fun a b => decide (a ≤ b) = true)
  | [], _ => List.pairwise_singleton _ _
  | y :: r, h => by
    obtain ⟨h1, h2⟩ := List.pairwise_cons.mp h
    unfold insI
    split
    · rename_i c
      refine List.pairwise_cons.mpr ⟨fun z hz => (List.mem_cons.mp hz).elim (fun e => by subst e; exact decide_eq_true c) fun hz => ?_, h⟩
      have := h1 z hz
      simp only [decide_eq_true_eq] at this ⊢
      omega
    · rename_i c
      refine List.pairwise_cons.mpr ⟨fun z hz => ?_, insI_sorted x h2⟩
      rcases List.mem_cons.mp ((insI_perm x r).mem_iff.mp hz) with e | hz
      · subst e
        simp only [decide_eq_true_eq]; omega
      · exact h1 z hz
theorem sortI_sorted : ∀ l, (sortI l).Pairwise (fun a b => decide (a ≤ b) = true)
  | [] => .nil
  | x :: r => insI_sorted x (sortI_sorted r)
/-! the machine's order is ours -/
def encI (b : KV') : PyData := .int (b.2.headD 0)
def encT (b : KV') : PyData := .tuple (b.2.map .int)
theorem le_int : dataLe false encI = fun a b => decide (a.2.headD 0 ≤ b.2.headD 0) := PySem.W.dataLe_int (fun b : KV' => b.2.headD 0)
theorem row_lt : ∀ x y : List Int, (!PyProof.Rows.lexLt PyProof.Rows.itemOrd (PySem.W.keyToksAll (x.map .int)) (PySem.W.keyToksAll (y.map .int))) = lexLe y x
  | [], [] => rfl
  | [], b :: t => by
    rw [List.map_nil, List.map_cons, PySem.W.toks_all_cons]
    rfl
  | a :: r, [] => by
    rw [List.map_nil, List.map_cons, PySem.W.toks_all_cons]
    rfl
  | a :: r, b :: t => by
    rw [List.map_cons, List.map_cons, PySem.W.dataLt_cons (by simp [PySem.W.alike])]
    unfold lexLe
    by_cases e : b = a
    · subst e
      rw [if_pos (by simp [PyData.eqv]), if_pos rfl]
      exact row_lt r t
    · rw [if_neg (by simp only [PyData.eqv, beq_iff_eq]; exact Ne.symm e), if_neg e, PySem.W.dataLt_int]
      exact PySem.W.not_lt_int _ _
theorem le_tup : dataLe false encT = fun a b => lexLe a.2 b.2 := by
  funext a b
  show (!PySem.W.dataLt (.tuple (b.2.map .int)) (.tuple (a.2.map .int))) = _
  rw [PySem.W.dataLt_tuple]
  exact row_lt _ _
theorem merge_T (bs : List KV') : (bs.mergeSort (dataLe false encT)).map (·.2) = sortT (bs.map (·.2)) := by
  rw [le_tup]
  have h := List.pairwise_mergeSort (le := fun a b : KV' => lexLe a.2 b.2) (fun a b c h1 h2 => lexLe_trans h1 h2) (fun a b => by
    rcases lexLe_total a.2 b.2 with h | h <;> simp [h]) bs
  refine srt_unique (le := lexLe) (fun h1 h2 => lexLe_anti h1 h2) ?_ ?_ (sortT_sorted _)
  · exact ((List.mergeSort_perm _ _).map _).trans (sortT_perm _).symm
  · rw [List.pairwise_map]; exact h
theorem merge_I (bs : List KV') : (bs.mergeSort (dataLe false encI)).map (fun b => b.2.headD 0) = sortI (bs.map (fun b => b.2.headD 0)) := by
  rw [le_int]
  have h := List.pairwise_mergeSort (le := fun a b : KV' => decide (a.2.headD 0 ≤ b.2.headD 0)) (fun a b c h1 h2 => by simp only [decide_eq_true_eq] at *; omega) (fun a b => by
    simp only [Bool.or_eq_true, decide_eq_true_eq]; omega) bs
  refine srt_unique (le := fun a b : Int => decide (a ≤ b)) (fun h1 h2 => by simp only [decide_eq_true_eq] at *; omega) ?_ ?_ (sortI_sorted _)
  · exact ((List.mergeSort_perm _ _).map _).trans (sortI_perm _).symm
  · rw [List.pairwise_map]; exact h
/-! items that read as ints, as tuples of ints -/
section
variable {K : PySem.W.Frag} {Z H : Hp}
def bsI (ns : List Int) : List KV' := ns.map fun n => (V.int n, [n])
theorem bsI_fst (ns : List Int) : (bsI ns).map (·.1) = ns.map V.int := by unfold bsI; rw [List.map_map]; rfl
theorem keyI_ok (ns : List Int) (h : ns.length ≤ sizeLine) : KeyOk K H encI (bsI ns) where
  dp := fun b hb => by
    obtain ⟨n, _, rfl⟩ := List.mem_map.mp hb
    exact .int n
  pl := fun b hb => Nat.zero_le _
  al := PySem.W.AllAlike.of fun b b' => by simp [encI, PySem.W.alike]
  so := PySem.W.Sortable.others fun b => ⟨(fun e => nomatch e), (fun xs e => nomatch e)⟩
  le := by unfold bsI; rw [List.length_map]; exact h
theorem sort_I (ns : List Int) : ((bsI ns).mergeSort (dataLe false encI)).map (·.1) = (sortI ns).map V.int := by
  have h := merge_I (bsI ns)
  have e : (bsI ns).map (fun b => b.2.headD 0) = ns := by unfold bsI; rw [List.map_map]; exact List.map_id' _
  rw [e] at h
  rw [← h, List.map_map]
  refine List.map_congr_left fun b hb => ?_
  have hb' : b ∈ bsI ns := (List.mergeSort_perm _ _).mem_iff.mp hb
  obtain ⟨n, _, rfl⟩ := List.mem_map.mp hb'
  rfl
theorem tupsD_of : ∀ {ds : List D} {ks : List (List Int)}, tupsD ds = some ks → ds = ks.map tI
  | [], ns, h => by unfold tupsD at h; cases h; rfl
  | .tup x :: r, ns, h => by
    unfold tupsD at h
    split at h
    · rename_i k ks e1 e2
      cases h
      rw [tupsD_of e2, intsD_of e1]; rfl
    · cases h
  | .int _ :: _, ns, h => by unfold tupsD at h; cases h
  | .non :: _, ns, h => by unfold tupsD at h; cases h
  | .bl _ :: _, ns, h => by unfold tupsD at h; cases h
  | .str _ :: _, ns, h => by unfold tupsD at h; cases h
  | .lst _ :: _, ns, h => by unfold tupsD at h; cases h
  | .dic _ :: _, ns, h => by unfold tupsD at h; cases h
  | .scr _ :: _, ns, h => by unfold tupsD at h; cases h
/-- values with their keys -/
inductive TupL (Z : Hp) : List KV' → Prop
  | nil : TupL Z []
  | cons {a : Addr} {k : List Int} {bs : List KV'} : Z a = some (.tup (k.map V.int)) → TupL Z bs → TupL Z ((.ref a, k) :: bs)
theorem TupL.mem : ∀ {bs : List KV'}, TupL Z bs → ∀ b ∈ bs, ∃ a, b.1 = .ref a ∧ Z a = some (.tup (b.2.map V.int))
  | _, .nil, b, h => by cases h
  | _, .cons e t, b, h => by
    rcases List.mem_cons.mp h with rfl | h
    · exact ⟨_, rfl, e⟩
    · exact t.mem b h
theorem TupL.of_mem : ∀ {bs : List KV'}, (∀ b ∈ bs, ∃ a, b.1 = .ref a ∧ Z a = some (.tup (b.2.map V.int))) → Reps K Z (bs.map (·.1)) ((bs.map (·.2)).map tI)
  | [], _ => .nil
  | (v, k) :: bs, h => by
    obtain ⟨a, e, q⟩ := h (v, k) List.mem_cons_self
    have e' : v = .ref a := e
    subst e'
    exact .cons (.tup q (Reps.of_ints k)) (TupL.of_mem fun b hb => h b (List.mem_cons_of_mem _ hb))
theorem tupL_of : ∀ {ks : List (List Int)} {xs : List V}, Reps K Z xs (ks.map tI) → ∃ bs : List KV', bs.map (·.1) = xs ∧ bs.map (·.2) = ks ∧ TupL Z bs
  | [], _, h => by cases h; exact ⟨[], rfl, rfl, .nil⟩
  | k :: ks, _, h => by
    rw [List.map_cons] at h
    cases h with
    | cons h r =>
      obtain ⟨bs, e1, e2, e3⟩ := tupL_of r
      cases h with
      | tup e q =>
        have := q.ints; subst this
        exact ⟨(.ref _, k) :: bs, by rw [List.map_cons, e1], by rw [List.map_cons, e2], .cons e e3⟩
theorem dpInts : ∀ k : List Int, DpAll K H (k.map V.int) (k.map PyData.int)
  | [] => .nil
  | n :: r => .cons (.int n) (dpInts r)
theorem keyT_ok (z : SameF Z H) {bs : List KV'} (t : TupL Z bs) (ne : ∀ b ∈ bs, b.2 ≠ []) (h : bs.length ≤ sizeLine) : KeyOk K H encT bs where
  dp := fun b hb => by
    obtain ⟨a, e, q⟩ := t.mem b hb
    rw [e]
    exact .tup (SqT.of (z.tup q)) (dpInts b.2)
  pl := fun b hb => by
    show PyData.depth (.tuple (b.2.map .int)) ≤ 1
    simp only [PyData.depth]
    have := PySem.W.depth_ints b.2
    omega
  al := PySem.W.AllAlike.of fun b b' => by simp [encT, PySem.W.alike, PySem.W.alike_ints]
  so := .inl fun d hd => by
    obtain ⟨b, hb, rfl⟩ := List.mem_map.mp hd
    have := ne b hb
    cases e : b.2 with
    | nil => exact absurd e this
    | cons x r => exact ⟨.int x, r.map .int, by show PyData.tuple (b.2.map .int) = _; rw [e]; rfl⟩
  le := h
theorem sort_T {bs : List KV'} (t : TupL Z bs) : Reps K Z ((bs.mergeSort (dataLe false encT)).map (·.1)) ((sortT (bs.map (·.2))).map tI) := by
  rw [← merge_T]
  exact TupL.of_mem fun b hb => t.mem b ((List.mergeSort_perm _ _).mem_iff.mp hb)
end
end PL

set_option Elab.async false
set_option linter.all false
set_option maxRecDepth 100000
set_option autoImplicit false
set_option maxHeartbeats 400000
namespace PL
open PySem PySem.Spec PyProof.Rows L2

/-! ### a text is what a term says -/
/-- where a term stands: the slots' names, the scope's names, the row's slot, the constants, the defs by their numbers -/
structure Ck where
  N : List Str
  nm : List (Str × NameKind)
  rs : Option Nat
  co : List (Str × Int)
  fs : List ((Nat × Str) × Nat × Bool)
  ra : Bool
def Ck.sc (k : Ck) : Scope := ⟨.function, k.nm, false, false, []⟩
def Ck.vis (k : Ck) (x : Str) : Bool := (k.nm.lookup x == some .local || k.nm.lookup x == some .cell || k.nm.lookup x == some .free) && !(x == ("__debug__" : Str)) && !(x == ("__classdict__" : Str))
def Ck.loc (k : Ck) (x : Str) : Bool := k.nm.lookup x == some .local || k.nm.lookup x == some .cell
def Ck.gl (k : Ck) (x : Str) : Bool := k.nm.lookup x == some .globalImplicit
def Ck.slot (k : Ck) (i : Nat) (x : Str) : Bool := k.N[i]? == some x && k.vis x
/-- a name that is stored -/
def Ck.store (k : Ck) (i : Nat) (x : Str) : Bool := k.N[i]? == some x && k.loc x
def plainAnd : Expr → Bool
  | .Starred _ _ => false
  | _ => true
def isSlice : Expr → Bool
  | .Slice _ _ _ _ => true
  | _ => false
def isComp : Expr → Bool
  | .ListComp _ _ _ _ => true | .SetComp _ _ _ _ => true | .DictComp _ _ _ _ _ => true
  | _ => false
def cmP' : Cm → CmpOp := cmP
def tyName : Ty → Str
  | .int => "int" | .bool => "bool" | .tuple => "tuple" | .list => "list" | .str => "str" | .dict => "dict" | .ntyp => "NoneType"
/-- a written class, or a tuple of such -/
def chkTy (k : Ck) : List Ty → Expr → Bool
  | [t], .Name x _ => x == tyName t && k.gl x
  | ts, .Tuple es _ _ => chkTys k ts es
  | _, _ => false
where chkTys (k : Ck) : List Ty → List Expr → Bool
  | [], [] => true
  | t :: ts, .Name x _ :: es => x == tyName t && k.gl x && chkTys k ts es
  | _, _ => false
def chkTg (k : Ck) : Tg → Expr → Bool
  | .nm i, .Name x _ => k.store i x
  | .tp ts, .Tuple es _ _ => chkTgs k ts es && decide (ts.length ≤ 8)
  | _, _ => false
where chkTgs (k : Ck) : List Tg → List Expr → Bool
  | [], [] => true
  | t :: ts, e :: es => chkTg k t e && chkTgs k ts es
  | _, _ => false
def ownOf (k : Ck) (own : List Nat) : List (Str × Nat) := own.map fun i => ((k.N[i]?).getD "", i)
def Ck.inner (k : Ck) (sc : Scope) : Ck := { k with nm := sc.names }
end PL

set_option Elab.async false
set_option linter.all false
set_option maxRecDepth 100000
set_option autoImplicit false
set_option maxHeartbeats 400000
namespace PL
open PySem PySem.Spec PyProof.Rows L2

/-! ### the row stays where nothing changes it -/
theorem ok2 {α β : Type} {a b : α} {r s : β} (h : (R.ok (a, r) : R (α × β)) = .ok (b, s)) : a = b ∧ r = s := by cases h; exact ⟨rfl, rfl⟩
mutual
theorem rowE (cl : Cl) : ∀ (e : E) (env : Env') (r : D) (d r' : D), noR e = true → evE cl e env r = .ok (d, r') → r' = r
  | .loc i, env, r, d, r', _, h => by
    unfold evE at h
    split at h
    · exact (ok2 h).2.symm
    · cases h
  | .bor i, env, r, d, r', _, h => by
    unfold evE at h
    split at h
    · exact (ok2 h).2.symm
    · exact (ok2 h).2.symm
    · cases h
  | .rw, env, r, d, r', _, h => by
    unfold evE at h
    split at h
    · exact (ok2 h).2.symm
    · cases h
  | .cst _, env, r, d, r', _, h => by unfold evE at h; exact (ok2 h).2.symm
  | .tup es, env, r, d, r', n, h => by
    unfold evE at h
    obtain ⟨⟨ds, r1⟩, h1, h2⟩ := bind_ok h
    rw [← (ok2 h2).2]; exact rowEs cl es env r ds r1 n h1
  | .lst es, env, r, d, r', n, h => by
    unfold evE at h
    obtain ⟨⟨ds, r1⟩, h1, h2⟩ := bind_ok h
    rw [← (ok2 h2).2]; exact rowEs cl es env r ds r1 n h1
  | .emp, env, r, d, r', _, h => by unfold evE at h; exact (ok2 h).2.symm
  | .bin o a b, env, r, d, r', n, h => by
    unfold evE at h
    simp only [noR, Bool.and_eq_true] at n
    obtain ⟨⟨x, r1⟩, h1, h2⟩ := bind_ok h
    obtain ⟨⟨y, r2⟩, h3, h4⟩ := bind_ok h2
    obtain ⟨z, h5, h6⟩ := bind_ok h4
    rw [← (ok2 h6).2, rowE cl b env r1 y r2 n.2 h3, rowE cl a env r x r1 n.1 h1]
  | .neg a, env, r, d, r', n, h => by
    unfold evE at h
    obtain ⟨⟨x, r1⟩, h1, h2⟩ := bind_ok h
    dsimp only at h2
    split at h2
    · rw [← (ok2 h2).2]; exact rowE cl a env r _ r1 n h1
    · cases h2
  | .not a, env, r, d, r', n, h => by
    unfold evE at h
    obtain ⟨⟨x, r1⟩, h1, h2⟩ := bind_ok h
    obtain ⟨b, h3, h4⟩ := bind_ok h2
    rw [← (ok2 h4).2]; exact rowE cl a env r _ r1 n h1
  | .and a b, env, r, d, r', n, h => by
    unfold evE at h
    simp only [noR, Bool.and_eq_true] at n
    obtain ⟨⟨x, r1⟩, h1, h2⟩ := bind_ok h
    obtain ⟨c, h3, h4⟩ := bind_ok h2
    have e1 := rowE cl a env r _ r1 n.1 h1
    cases c
    · rw [← (ok2 h4).2]; exact e1
    · obtain ⟨⟨y, r2⟩, h5, h6⟩ := bind_ok h4
      obtain ⟨c', h7, h8⟩ := bind_ok h6
      rw [← (ok2 h8).2, rowE cl b env r1 y r2 n.2 h5, e1]
  | .or a b, env, r, d, r', n, h => by
    unfold evE at h
    simp only [noR, Bool.and_eq_true] at n
    obtain ⟨⟨x, r1⟩, h1, h2⟩ := bind_ok h
    obtain ⟨c, h3, h4⟩ := bind_ok h2
    have e1 := rowE cl a env r _ r1 n.1 h1
    cases c
    · obtain ⟨⟨y, r2⟩, h5, h6⟩ := bind_ok h4
      obtain ⟨c', h7, h8⟩ := bind_ok h6
      rw [← (ok2 h8).2, rowE cl b env r1 y r2 n.2 h5, e1]
    · rw [← (ok2 h4).2]; exact e1
  | .cmp o a b, env, r, d, r', n, h => by
    unfold evE at h
    simp only [noR, Bool.and_eq_true] at n
    obtain ⟨⟨x, r1⟩, h1, h2⟩ := bind_ok h
    obtain ⟨⟨y, r2⟩, h3, h4⟩ := bind_ok h2
    obtain ⟨z, h5, h6⟩ := bind_ok h4
    rw [← (ok2 h6).2, rowE cl b env r1 y r2 n.2 h3, rowE cl a env r x r1 n.1 h1]
  | .chain o p a b c, env, r, d, r', n, h => by
    unfold evE at h
    simp only [noR, Bool.and_eq_true] at n
    obtain ⟨⟨x, r1⟩, h1, h2⟩ := bind_ok h
    obtain ⟨⟨y, r2⟩, h3, h4⟩ := bind_ok h2
    obtain ⟨z, h5, h6⟩ := bind_ok h4
    have e2 : r2 = r := by rw [rowE cl b env r1 y r2 n.1.2 h3, rowE cl a env r x r1 n.1.1 h1]
    cases z
    · rw [← (ok2 h6).2]; exact e2
    · obtain ⟨⟨u, r3⟩, h7, h8⟩ := bind_ok h6
      obtain ⟨z', h9, h10⟩ := bind_ok h8
      rw [← (ok2 h10).2, rowE cl c env r2 u r3 n.2 h7, e2]
  | .ite c a b, env, r, d, r', n, h => by
    unfold evE at h
    simp only [noR, Bool.and_eq_true] at n
    obtain ⟨⟨x, r1⟩, h1, h2⟩ := bind_ok h
    obtain ⟨k, h3, h4⟩ := bind_ok h2
    have e1 := rowE cl c env r _ r1 n.1.1 h1
    cases k
    · rw [rowE cl b env r1 d r' n.2 h4, e1]
    · rw [rowE cl a env r1 d r' n.1.2 h4, e1]
  | .ix a b, env, r, d, r', n, h => by
    unfold evE at h
    simp only [noR, Bool.and_eq_true] at n
    obtain ⟨⟨x, r1⟩, h1, h2⟩ := bind_ok h
    obtain ⟨⟨y, r2⟩, h3, h4⟩ := bind_ok h2
    obtain ⟨z, h5, h6⟩ := bind_ok h4
    rw [← (ok2 h6).2, rowE cl b env r1 y r2 n.2 h3, rowE cl a env r x r1 n.1 h1]
  | .sl a hl l hh u, env, r, d, r', n, h => by
    unfold evE at h
    simp only [noR, Bool.and_eq_true] at n
    obtain ⟨⟨x, r1⟩, h1, h2⟩ := bind_ok h
    obtain ⟨⟨y, r2⟩, h3, h4⟩ := bind_ok h2
    obtain ⟨⟨z, r3⟩, h5, h6⟩ := bind_ok h4
    obtain ⟨w, h7, h8⟩ := bind_ok h6
    have e1 := rowE cl a env r _ r1 n.1.1 h1
    have e2 : r2 = r1 := by
      cases hl
      · exact (ok2 h3).2.symm
      · obtain ⟨⟨y', r2'⟩, h9, h10⟩ := bind_ok h3
        dsimp only at h10
        unfold asI at h10
        split at h10
        · rw [← (ok2 h10).2]; exact rowE cl l env r1 _ _ n.1.2 h9
        · cases h10
    have e3 : r3 = r2 := by
      cases hh
      · exact (ok2 h5).2.symm
      · obtain ⟨⟨y', r2'⟩, h9, h10⟩ := bind_ok h5
        dsimp only at h10
        unfold asI at h10
        split at h10
        · rw [← (ok2 h10).2]; exact rowE cl u env r2 _ _ n.2 h9
        · cases h10
    rw [← (ok2 h8).2, e3, e2, e1]
  | .rev a, env, r, d, r', n, h => by
    unfold evE at h
    obtain ⟨⟨x, r1⟩, h1, h2⟩ := bind_ok h
    obtain ⟨z, h3, h4⟩ := bind_ok h2
    rw [← (ok2 h4).2]; exact rowE cl a env r _ r1 n h1
  | .bi f es, env, r, d, r', n, h => by
    unfold evE at h
    obtain ⟨⟨ds, r1⟩, h1, h2⟩ := bind_ok h
    obtain ⟨z, h3, h4⟩ := bind_ok h2
    rw [← (ok2 h4).2]; exact rowEs cl es env r ds r1 n h1
  | .call f es, env, r, d, r', n, h => by
    unfold evE at h
    obtain ⟨⟨ds, r1⟩, h1, h2⟩ := bind_ok h
    obtain ⟨⟨z, _⟩, h3, h4⟩ := bind_ok h2
    rw [← (ok2 h4).2]; exact rowEs cl es env r ds r1 n h1
  | .callr f es, env, r, d, r', n, h => by simp [noR] at n
  | .lc elt tg it ifs own, env, r, d, r', n, h => by
    unfold evE at h
    simp only [noR, Bool.and_eq_true] at n
    obtain ⟨⟨ds, r1⟩, h1, h2⟩ := bind_ok h
    have e1 := rowIt cl it env r ds r1 n.1.2 h1
    dsimp only at h2
    split at h2
    · obtain ⟨⟨out, r2⟩, h3, h4⟩ := bind_ok h2
      rw [← (ok2 h4).2, ← e1]
      refine lcD_row (fun d r o r' q => ?_) ds r1 out r2 (calm_ok h3)
      obtain ⟨env2, q1, q2⟩ := bind_ok q
      obtain ⟨⟨b, r3⟩, q3, q4⟩ := bind_ok q2
      have e3 := rowC cl ifs env2 r b r3 n.2 q3
      cases b
      · rw [← (ok2 q4).2]; exact e3
      · obtain ⟨⟨x, r4⟩, q5, q6⟩ := bind_ok q4
        rw [← (ok2 q6).2, rowE cl elt env2 r3 x r4 n.1.1 q5, e3]
    · cases h2
theorem rowEs (cl : Cl) : ∀ (es : Es) (env : Env') (r : D) (ds : List D) (r' : D), noRs es = true → evEs cl es env r = .ok (ds, r') → r' = r
  | .nil, env, r, ds, r', _, h => by unfold evEs at h; exact (ok2 h).2.symm
  | .cons e es, env, r, ds, r', n, h => by
    unfold evEs at h
    simp only [noRs, Bool.and_eq_true] at n
    obtain ⟨⟨x, r1⟩, h1, h2⟩ := bind_ok h
    obtain ⟨⟨xs, r2⟩, h3, h4⟩ := bind_ok h2
    rw [← (ok2 h4).2, rowEs cl es env r1 xs r2 n.2 h3, rowE cl e env r x r1 n.1 h1]
theorem rowC (cl : Cl) : ∀ (es : Es) (env : Env') (r : D) (b : Bool) (r' : D), noRs es = true → evC cl es env r = .ok (b, r') → r' = r
  | .nil, env, r, b, r', _, h => by unfold evC at h; exact (ok2 h).2.symm
  | .cons e es, env, r, b, r', n, h => by
    unfold evC at h
    simp only [noRs, Bool.and_eq_true] at n
    obtain ⟨⟨x, r1⟩, h1, h2⟩ := bind_ok h
    obtain ⟨c, h3, h4⟩ := bind_ok h2
    have e1 := rowE cl e env r x r1 n.1 h1
    cases c
    · rw [← (ok2 h4).2]; exact e1
    · rw [rowC cl es env r1 b r' n.2 h4, e1]
theorem rowIt (cl : Cl) : ∀ (it : It) (env : Env') (r : D) (ds : List D) (r' : D), noRi it = true → evIt cl it env r = .ok (ds, r') → r' = r
  | .seq e, env, r, ds, r', n, h => by
    unfold evIt at h
    obtain ⟨⟨x, r1⟩, h1, h2⟩ := bind_ok h
    dsimp only at h2
    split at h2
    · rw [← (ok2 h2).2]; exact rowE cl e env r x r1 n h1
    · cases h2
  | .rng1 e, env, r, ds, r', n, h => by
    unfold evIt at h
    obtain ⟨⟨x, r1⟩, h1, h2⟩ := bind_ok h
    dsimp only at h2
    split at h2
    · split at h2
      · rw [← (ok2 h2).2]; exact rowE cl e env r _ r1 n h1
      · cases h2
    · cases h2
  | .rng2 a b, env, r, ds, r', n, h => by
    unfold evIt at h
    simp only [noRi, Bool.and_eq_true] at n
    obtain ⟨⟨x, r1⟩, h1, h2⟩ := bind_ok h
    obtain ⟨⟨y, r2⟩, h3, h4⟩ := bind_ok h2
    dsimp only at h4
    split at h4
    · split at h4
      · rw [← (ok2 h4).2, rowE cl b env r1 _ r2 n.2 h3, rowE cl a env r _ r1 n.1 h1]
      · cases h4
    · cases h4
  | .rng3 a b c, env, r, ds, r', n, h => by
    unfold evIt at h
    simp only [noRi, Bool.and_eq_true] at n
    obtain ⟨⟨x, r1⟩, h1, h2⟩ := bind_ok h
    obtain ⟨⟨y, r2⟩, h3, h4⟩ := bind_ok h2
    obtain ⟨⟨z, r3⟩, h5, h6⟩ := bind_ok h4
    dsimp only at h6
    split at h6
    · obtain ⟨ds', h7, h8⟩ := bind_ok h6
      rw [← (ok2 h8).2, rowE cl c env r2 _ r3 n.2 h5, rowE cl b env r1 _ r2 n.1.2 h3, rowE cl a env r _ r1 n.1.1 h1]
    · cases h6
  | .enum e, env, r, ds, r', n, h => by
    unfold evIt at h
    obtain ⟨⟨x, r1⟩, h1, h2⟩ := bind_ok h
    dsimp only at h2
    split at h2
    · rw [← (ok2 h2).2]; exact rowE cl e env r x r1 n h1
    · cases h2
  | .zip a b, env, r, ds, r', n, h => by
    unfold evIt at h
    simp only [noRi, Bool.and_eq_true] at n
    obtain ⟨⟨x, r1⟩, h1, h2⟩ := bind_ok h
    obtain ⟨⟨y, r2⟩, h3, h4⟩ := bind_ok h2
    dsimp only at h4
    split at h4
    · rw [← (ok2 h4).2, rowE cl b env r1 _ r2 n.2 h3, rowE cl a env r _ r1 n.1 h1]
    · rw [← (ok2 h4).2, rowE cl b env r1 _ r2 n.2 h3, rowE cl a env r _ r1 n.1 h1]
    · rw [← (ok2 h4).2, rowE cl b env r1 _ r2 n.2 h3, rowE cl a env r _ r1 n.1 h1]
    · cases h4
  | .keys e, env, r, ds, r', n, h => by
    unfold evIt at h
    obtain ⟨⟨x, r1⟩, h1, h2⟩ := bind_ok h
    dsimp only at h2
    split at h2
    · rw [← (ok2 h2).2]; exact rowE cl e env r _ r1 n h1
    · cases h2
end
end PL

set_option Elab.async false
set_option linter.all false
set_option maxRecDepth 100000
set_option autoImplicit false
set_option maxHeartbeats 400000
namespace PL
open PySem PySem.Spec PyProof.Rows L2

def isRw : E → Bool
  | .rw => true
  | _ => false
section
variable {C : Ctx} {σ : VS} {env : Env'} {r : D} {Z H : Hp} {Q : VK}

/-- an operand, read later -/
theorem Res.later {a : E} {v : V} {d r1 r2 : D} {Z1 H1 Z2 H2 : Hp} (s0 : StOk C Z H σ env r) (e : evE C.cl a env r = .ok (d, r1)) (res : Res C σ H Z1 H1 a v d)
    (s2 : StOk C Z2 H2 σ env r2) (x2 : Ext (Own C σ env) Z1 H1 (Own C σ env) Z2 H2) (hr : isRw a = true → r2 = r1) : RepH C.K Z2 H2 v d := by
  have gen : isB a = false → RepH C.K Z2 H2 v d := fun b => by
    rcases res.strong b with ⟨q, _⟩ | ⟨p, rfl, hp, zp, o⟩
    · exact .inl (q.mono x2.z)
    · refine .inr ⟨p, rfl, ?_⟩
      obtain ⟨u, hu⟩ := o.isS
      have no : ¬ Own C σ env p := fun q => by
        obtain ⟨u', e'⟩ := s0.ownH q
        rw [hp] at e'; cases e'
      exact o.mono x2.z ((x2.h p u hu no).trans hu.symm)
  cases a with
  | bor i =>
    have q : σ[i]? = some (some v) := res
    unfold evE at e
    split at e
    · rename_i d' hd
      cases e
      obtain ⟨a', h1, h2, h3⟩ := s2.ow i _ hd
      rw [q] at h1; cases h1
      exact .inr ⟨a', rfl, h3⟩
    · rename_i d' hd
      cases e
      obtain ⟨v', h1, h2⟩ := s2.fr i _ hd
      rw [q] at h1; cases h1
      exact .inl h2
    · cases e
  | rw =>
    obtain ⟨i, h1, h2⟩ := res
    have hr := hr rfl
    unfold evE at e
    split at e
    · rename_i ok
      cases e
      subst hr
      obtain ⟨_, h3⟩ := s2.row i h1
      rcases h3 with ⟨_, h4, _⟩ | ⟨a', _, h4, _, h5, _⟩
      · rw [h2] at h4; cases h4
      · rw [h2] at h4; cases h4
        exact .inr ⟨a', rfl, h5⟩
    · cases e
  | _ => exact gen rfl
/-- .. at once -/
theorem Res.now {a : E} {v : V} {d r1 : D} {Z1 H1 : Hp} (s0 : StOk C Z H σ env r) (e : evE C.cl a env r = .ok (d, r1)) (res : Res C σ H Z1 H1 a v d) (s1 : StOk C Z1 H1 σ env r1) : RepH C.K Z1 H1 v d :=
  res.later s0 e s1 .refl fun _ => rfl

/-- what stands at the end of an expression -/
def EndQ (C : Ctx) (σ : VS) (env : Env') (Z H : Hp) (e : E) (Q : VK) : D × D → Prop := fun (d, r') => ∀ v Z' H', StOk C Z' H' σ env r' → Ext (Own C σ env) Z H (Own C σ env) Z' H' → Res C σ H Z' H' e v d → Q v H'
theorem rdE_mk {e : E} (s : StOk C Z H σ env r) (h : Post C (evE C.cl e env r) (EndQ C σ env Z H e Q)) : rdE C e σ H Q := ⟨Z, env, r, s, h⟩
theorem vend {e : E} {d r2 : D} {Z2 H2 : Hp} (x : Ext (Own C σ env) Z H (Own C σ env) Z2 H2) (b : isB e = false) (h : EndQ C σ env Z H e Q (d, r2)) : VP C σ env r2 Z2 H2 (isF e) d Q := fun v Z' H' s' x' q => by
  refine h v Z' H' s' (x.trans x') (Res.of b (q.imp_right ?_))
  rintro ⟨p, h1, h2, h3, h4⟩
  exact ⟨p, h1, x.free h2, h3, h4⟩

/-- one operand -/
theorem rd1 {α : Type} {a : E} {k : D → D → R α} {K' : α → Prop} {G : V → Hp → Prop} (s : StOk C Z H σ env r) (h : Post C ((evE C.cl a env r).bind fun p => k p.1 p.2) K')
    (g : ∀ (x r1 : D) (Z1 H1 : Hp) (v : V), evE C.cl a env r = .ok (x, r1) → StOk C Z1 H1 σ env r1 → Ext (Own C σ env) Z H (Own C σ env) Z1 H1 → RepH C.K Z1 H1 v x → Post C (k x r1) K' → G v H1) : rdE C a σ H G := by
  refine ⟨Z, env, r, s, (Post.bind h).mono fun p e q => ?_⟩
  obtain ⟨x, r1⟩ := p
  intro v Z1 H1 s1 x1 res
  exact g x r1 Z1 H1 v e s1 x1 (res.now s e s1) q
/-- two operands -/
theorem rd2 {α : Type} {a b : E} {k : D → D → D → R α} {K' : α → Prop} {G : V → V → Hp → Prop} (s : StOk C Z H σ env r) (hrw : isRw a = true → noR b = true)
    (h : Post C ((evE C.cl a env r).bind fun p => (evE C.cl b env p.2).bind fun q => k p.1 q.1 q.2) K')
    (g : ∀ (x y r2 : D) (Z2 H2 : Hp) (v w : V), StOk C Z2 H2 σ env r2 → Ext (Own C σ env) Z H (Own C σ env) Z2 H2 → RepH C.K Z2 H2 v x → RepH C.K Z2 H2 w y → Post C (k x y r2) K' → G v w H2) :
    rdE C a σ H fun v H1 => rdE C b σ H1 fun w H2 => G v w H2 := by
  refine ⟨Z, env, r, s, (Post.bind h).mono fun p e q => ?_⟩
  obtain ⟨x, r1⟩ := p
  intro v Z1 H1 s1 x1 res
  refine ⟨Z1, env, r1, s1, (Post.bind q).mono fun p e2 q => ?_⟩
  obtain ⟨y, r2⟩ := p
  intro w Z2 H2 s2 x2 res2
  exact g x y r2 Z2 H2 v w s2 (x1.trans x2) (res.later s e s2 x2 fun z => rowE C.cl b env r1 y r2 (hrw z) e2) (res2.now s1 e2 s2) q

theorem Post.ok {α : Type} {x : α} {k : α → Prop} (h : Post C (.ok x) k) : k x := h
theorem Post.no {α β : Type} {k : α → Prop} {p : Prop} (h : Post C (R.no : R α) k) : p := h.elim
/-- ofO, ops: nothing is raised -/
def Quiet {α : Type} (x : R α) : Prop := ∀ c d, x ≠ .ex c d
theorem Post.quiet {α β : Type} {x : R α} {f : α → R β} {k : β → Prop} (q : Quiet x) (h : Post C (x.bind f) k) : ∃ a, x = .ok a ∧ Post C (f a) k := by
  cases x with
  | ok a => exact ⟨a, rfl, h⟩
  | ex c d => exact absurd rfl (q c d)
  | no => exact h.elim
theorem q_op (o : Op2) (x y : D) : Quiet (op2D o x y) := fun c d e => by
  unfold op2D at e
  repeat' split at e
  all_goals cases e
theorem q_asB (x : D) : Quiet (asB x) := fun c d e => by
  unfold asB at e
  split at e <;> cases e
theorem asB_ok {x : D} {b : Bool} (h : asB x = .ok b) : x = .bl b := by
  unfold asB at h
  split at h
  · cases h; rfl
  · cases h
theorem q_in (x y : D) : Quiet (isinD x y) := fun c d e => by
  unfold isinD at e
  repeat' split at e
  all_goals cases e
theorem q_eq (x y : D) : Quiet (eqG x y) := fun c d e => by
  unfold eqG at e
  repeat' split at e
  all_goals cases e
theorem q_cmp (o : Cm) (x y : D) : Quiet (cmpD o x y) := fun c d e => by
  unfold cmpD at e
  split at e
  · exact q_eq _ _ _ _ e
  · split at e
    · cases e
    · exact q_eq _ _ _ _ e
  all_goals first
    | (cases e; done)
    | (split at e <;> cases e; done)
    | exact q_in _ _ _ _ e
    | (split at e
       · cases e
       · exact q_in _ _ _ _ e)
theorem q_ofO {α : Type} (o : Option α) : Quiet (R.ofO o) := fun c d e => by
  cases o <;> cases e
theorem q_ix (x y : D) : Quiet (ixD x y) := fun c d e => by
  unfold ixD at e
  repeat' split at e
  all_goals first
    | (cases e; done)
    | exact q_ofO _ _ _ e
theorem q_sl (x : D) (a b : Option Int) : Quiet (slD x a b) := fun c d e => by
  unfold slD at e
  repeat' split at e
  all_goals cases e
theorem q_rev (x : D) : Quiet (revD x) := fun c d e => by
  unfold revD at e
  split at e <;> cases e
theorem q_set (x y z : D) : Quiet (setD x y z) := fun c d e => by
  unfold setD at e
  repeat' split at e
  all_goals cases e

/-! ### readings -/
theorem rd_bin {o : Op2} {a b : E} (hrw : isRw a = true → noR b = true) (h : rdE C (.bin o a b) σ H Q) : tOp (rOp C.K o) (rdE C a) (rdE C b) σ H Q := by
  obtain ⟨Z, env, r, s, h⟩ := h
  unfold evE at h
  refine rd2 (k := fun x y r => (op2D o x y).bind fun z => R.ok (z, r)) s hrw h fun x y r2 Z2 H2 v w s2 x2 hv hw q => ?_
  obtain ⟨z, e, q⟩ := q.quiet (q_op _ _ _)
  exact v_bin s2 hv hw e (vend (e := .bin o a b) x2 rfl q)
theorem rd_cmp {o : Cm} {a b : E} (hrw : isRw a = true → noR b = true) (h : rdE C (.cmp o a b) σ H Q) : tOp (rC C.K o) (rdE C a) (rdE C b) σ H Q := by
  obtain ⟨Z, env, r, s, h⟩ := h
  unfold evE at h
  refine rd2 (k := fun x y r => (cmpD o x y).bind fun c => R.ok (D.bl c, r)) s hrw h fun x y r2 Z2 H2 v w s2 x2 hv hw q => ?_
  obtain ⟨z, e, q⟩ := q.quiet (q_cmp _ _ _)
  exact v_cmp s2 hv hw e ((vend (e := .cmp o a b) x2 rfl q).bl s2)
theorem rd_ix {a b : E} (hrw : isRw a = true → noR b = true) (h : rdE C (.ix a b) σ H Q) : tOp (rIxA C.K) (rdE C a) (rdE C b) σ H Q := by
  obtain ⟨Z, env, r, s, h⟩ := h
  unfold evE at h
  refine rd2 (k := fun x y r => (ixD x y).bind fun z => R.ok (z, r)) s hrw h fun x y r2 Z2 H2 v w s2 x2 hv hw q => ?_
  obtain ⟨z, e, q⟩ := q.quiet (q_ix _ _)
  exact v_ix s2 hv hw e (vend (e := .ix a b) x2 rfl q)
theorem rd_neg {a : E} (h : rdE C (.neg a) σ H Q) : tUn (rU fun i => .int (-i)) (rdE C a) σ H Q := by
  obtain ⟨Z, env, r, s, h⟩ := h
  unfold evE at h
  refine rd1 (k := fun x r => match x with | .int i => R.ok (D.int (-i), r) | _ => .no) s h fun x r1 Z1 H1 v e s1 x1 hv q => ?_
  dsimp only at q
  split at q
  · exact ⟨_, hv.int, (vend (e := .neg a) x1 rfl q).int s1⟩
  · exact q.elim
theorem rd_not {a : E} (h : rdE C (.not a) σ H Q) : tNotV (rdE C a) σ H Q := by
  obtain ⟨Z, env, r, s, h⟩ := h
  unfold evE at h
  refine rd1 (k := fun x r => (asB x).bind fun b => R.ok (D.bl (!b), r)) s h fun x r1 Z1 H1 v e s1 x1 hv q => ?_
  obtain ⟨b, e, q⟩ := q.quiet (q_asB _)
  have := asB_ok e; subst this
  exact ⟨b, hv.bl, (vend (e := .not a) x1 rfl q).bl s1⟩
theorem rd_and {a b : E} (h : rdE C (.and a b) σ H Q) : tAndV (rdE C a) (rdE C b) σ H Q := by
  obtain ⟨Z, env, r, s, h⟩ := h
  unfold evE at h
  refine rd1 (k := fun x r => (asB x).bind fun c => if c then (evE C.cl b env r).bind fun (y, r) => (asB y).bind fun c => R.ok (D.bl c, r) else R.ok (D.bl false, r)) s h fun x r1 Z1 H1 v e s1 x1 hv q => ?_
  obtain ⟨c, e, q⟩ := q.quiet (q_asB _)
  have := asB_ok e; subst this
  refine ⟨c, hv.bl, ?_⟩
  cases c
  · exact (vend (e := .and a b) x1 rfl q).bl s1
  · refine rd1 (k := fun y r => (asB y).bind fun c => R.ok (D.bl c, r)) s1 q fun y r2 Z2 H2 w e s2 x2 hw q => ?_
    obtain ⟨c, e, q⟩ := q.quiet (q_asB _)
    have := asB_ok e; subst this
    rw [hw.bl]
    exact (vend (e := .and a b) (x1.trans x2) rfl q).bl s2
theorem rd_or {a b : E} (h : rdE C (.or a b) σ H Q) : tOrV (rdE C a) (rdE C b) σ H Q := by
  obtain ⟨Z, env, r, s, h⟩ := h
  unfold evE at h
  refine rd1 (k := fun x r => (asB x).bind fun c => if c then R.ok (D.bl true, r) else (evE C.cl b env r).bind fun (y, r) => (asB y).bind fun c => R.ok (D.bl c, r)) s h fun x r1 Z1 H1 v e s1 x1 hv q => ?_
  obtain ⟨c, e, q⟩ := q.quiet (q_asB _)
  have := asB_ok e; subst this
  refine ⟨c, hv.bl, ?_⟩
  cases c
  · refine rd1 (k := fun y r => (asB y).bind fun c => R.ok (D.bl c, r)) s1 q fun y r2 Z2 H2 w e s2 x2 hw q => ?_
    obtain ⟨c, e, q⟩ := q.quiet (q_asB _)
    have := asB_ok e; subst this
    rw [hw.bl]
    exact (vend (e := .or a b) (x1.trans x2) rfl q).bl s2
  · exact (vend (e := .or a b) x1 rfl q).bl s1
theorem rd_chain {o p : Cm} {a b c : E} (n : noR b = true ∧ noR c = true) (ba : isRw a = false) (bb : isRw b = false) (h : rdE C (.chain o p a b c) σ H Q) : tChain (rC C.K o) (rC C.K p) (rdE C a) (rdE C b) (rdE C c) σ H Q := by
  obtain ⟨Z, env, r, s, h⟩ := h
  unfold evE at h
  refine ⟨Z, env, r, s, (Post.bind h).mono fun t e q => ?_⟩
  obtain ⟨x, r1⟩ := t
  intro v Z1 H1 s1 x1 res
  refine ⟨Z1, env, r1, s1, (Post.bind q).mono fun t e2 q => ?_⟩
  obtain ⟨y, r2⟩ := t
  intro w Z2 H2 s2 x2 res2
  dsimp only at q
  obtain ⟨k, e3, q⟩ := q.quiet (q_cmp _ _ _)
  refine v_cmp s2 (res.later s e s2 x2 fun z => by rw [ba] at z; cases z) (res2.now s1 e2 s2) e3 ⟨k, rfl, ?_⟩
  cases k
  · exact (vend (e := .chain o p a b c) (x1.trans x2) rfl q).bl s2
  · show rdE C c σ H2 _
    refine ⟨Z2, env, r2, s2, (Post.bind q).mono fun t e4 q => ?_⟩
    obtain ⟨z, r3⟩ := t
    intro u Z3 H3 s3 x3 res3
    dsimp only at q
    obtain ⟨k, e5, q⟩ := q.quiet (q_cmp _ _ _)
    exact v_cmp s3 (res2.later s1 e2 s3 x3 fun z => by rw [bb] at z; cases z) (res3.now s2 e4 s3) e5 ((vend (e := .chain o p a b c) ((x1.trans x2).trans x3) rfl q).bl s3)
end
end PL

set_option Elab.async false
set_option linter.all false
set_option maxRecDepth 100000
set_option autoImplicit false
set_option maxHeartbeats 400000
namespace PL
open PySem PySem.Spec PyProof.Rows L2

section
variable {C : Ctx} {σ : VS} {env : Env'} {r : D} {Z H : Hp} {Q : VK}
/-! ### names, constants -/
theorem rd_loc {i : Nat} (h : rdE C (.loc i) σ H Q) : tVar i σ H Q := by
  obtain ⟨Z, env, r, s, h⟩ := h
  unfold evE at h
  split at h
  · rename_i d hd
    obtain ⟨v, h1, h2⟩ := s.fr i d hd
    exact ⟨v, h1, h v Z H s .refl (Res.rep rfl (.inl rfl) h2)⟩
  · exact h.elim
theorem rd_bor {i : Nat} (h : rdE C (.bor i) σ H Q) : tVar i σ H Q := by
  obtain ⟨Z, env, r, s, h⟩ := h
  unfold evE at h
  split at h
  · rename_i d hd
    obtain ⟨a, h1, _⟩ := s.ow i d hd
    exact ⟨_, h1, h _ Z H s .refl h1⟩
  · rename_i d hd
    obtain ⟨v, h1, _⟩ := s.fr i d hd
    exact ⟨v, h1, h v Z H s .refl h1⟩
  · exact h.elim
theorem rd_rw {i : Nat} (ei : C.rs = some i) (h : rdE C .rw σ H Q) : tVar i σ H Q := by
  obtain ⟨Z, env, r, s, h⟩ := h
  unfold evE at h
  split at h
  · rename_i ok
    obtain ⟨_, h2⟩ := s.row i ei
    rcases h2 with ⟨e, _⟩ | ⟨a, _, h3, _⟩
    · subst e; cases ok
    · exact ⟨_, h3, h _ Z H s .refl ⟨i, ei, h3⟩⟩
  · exact h.elim
theorem rd_cst {d : D} {v : V} (hv : ∀ Z, Rep C.K Z v d) (o : objD d = false) (h : rdE C (.cst d) σ H Q) : tC v σ H Q := by
  obtain ⟨Z, env, r, s, h⟩ := h
  unfold evE at h
  exact h v Z H s .refl (Res.rep rfl (.inr o) (hv Z))
theorem rd_emp (h : rdE C .emp σ H Q) : tDNewT σ H Q := by
  obtain ⟨Z, env, r, s, h⟩ := h
  unfold evE at h
  exact (vend (e := .emp) .refl rfl h).newD s .nil

/-! ### lists of values that are kept -/
theorem rd_nil {Q : List V → Hp → Prop} (h : rdEs C .nil σ H Q) : tNil σ H Q := by
  obtain ⟨Z, env, r, s, h⟩ := h
  unfold evEs at h
  exact h [] Z H s .refl .nil
theorem rd_cons {e : E} {es : Es} {Q : List V → Hp → Prop} (b : isB e = false) (h : rdEs C (.cons e es) σ H Q) : tCons (rdE C e) (rdEs C es) σ H Q := by
  obtain ⟨Z, env, r, s, h⟩ := h
  unfold evEs at h
  refine ⟨Z, env, r, s, (Post.bind h).mono fun p ep q => ?_⟩
  obtain ⟨x, r1⟩ := p
  intro v Z1 H1 s1 x1 res
  obtain ⟨Z2, s2, x2, rep, _⟩ := res.keep b s s1 x1
  refine ⟨Z2, env, r1, s2, (Post.bind q).mono fun p ep q => ?_⟩
  obtain ⟨xs, r2⟩ := p
  intro vs Z3 H3 s3 x3 reps
  exact q (v :: vs) Z3 H3 s3 (x2.trans x3) (.cons (rep.mono x3.z) reps)
/-! ### lists of operands -/
theorem rda_nil {Q : List V → Hp → Prop} (h : rdAs C .nil σ H Q) : tNil σ H Q := by
  obtain ⟨Z, env, r, s, h⟩ := h
  unfold evEs at h
  exact h [] Z H s .refl .nil
theorem rda_cons {e : E} {es : Es} {Q : List V → Hp → Prop} (b : isRw e = true → noRs es = true) (h : rdAs C (.cons e es) σ H Q) : tCons (rdE C e) (rdAs C es) σ H Q := by
  obtain ⟨Z, env, r, s, h⟩ := h
  unfold evEs at h
  refine ⟨Z, env, r, s, (Post.bind h).mono fun p ep q => ?_⟩
  obtain ⟨x, r1⟩ := p
  intro v Z1 H1 s1 x1 res
  refine ⟨Z1, env, r1, s1, (Post.bind q).mono fun p ep2 q => ?_⟩
  obtain ⟨xs, r2⟩ := p
  intro vs Z3 H3 s3 x3 reps
  exact q (v :: vs) Z3 H3 s3 (x1.trans x3) (.cons (res.later s ep s3 x3 fun z => rowEs C.cl es env r1 xs r2 (b z) ep2) reps)

/-! ### displays -/
theorem Es_len (cl : Cl) : ∀ (es : Es) (env : Env') (r : D) (ds : List D) (r' : D), evEs cl es env r = .ok (ds, r') → ds.length = es.len
  | .nil, env, r, ds, r', h => by unfold evEs at h; cases h; rfl
  | .cons e es, env, r, ds, r', h => by
    unfold evEs at h
    obtain ⟨⟨x, r1⟩, h1, h2⟩ := bind_ok h
    obtain ⟨⟨xs, r2⟩, h3, h4⟩ := bind_ok h2
    cases h4
    rw [List.length_cons, Es_len cl es env r1 xs _ h3]; rfl
theorem rd_tup {es : Es} (l : es.len ≤ 1000000) (h : rdE C (.tup es) σ H Q) : tTup (rdEs C es) σ H Q := by
  obtain ⟨Z, env, r, s, h⟩ := h
  unfold evE at h
  refine ⟨Z, env, r, s, (Post.bind h).mono fun p ep q => ?_⟩
  obtain ⟨ds, r1⟩ := p
  intro vs Z1 H1 s1 x1 reps
  have n := Es_len _ _ _ _ _ _ ep
  exact ⟨by rw [reps.length, n]; exact lim_size l, (vend (e := .tup es) x1 rfl q).newT s1 reps⟩
theorem rd_lst {es : Es} (l : es.len ≤ 1000000) (h : rdE C (.lst es) σ H Q) : tLst (rdEs C es) σ H Q := by
  obtain ⟨Z, env, r, s, h⟩ := h
  unfold evE at h
  refine ⟨Z, env, r, s, (Post.bind h).mono fun p ep q => ?_⟩
  obtain ⟨ds, r1⟩ := p
  intro vs Z1 H1 s1 x1 reps
  have n := Es_len _ _ _ _ _ _ ep
  exact ⟨by rw [reps.length, n]; exact lim_size l, (vend (e := .lst es) x1 rfl q).newL s1 reps⟩
/-- a tuple is the same for every reader of its reps -/
theorem rd_rev {a : E} (h : rdE C (.rev a) σ H Q) : tRevT C.K (rdE C a) σ H Q := by
  obtain ⟨Z, env, r, s, h⟩ := h
  unfold evE at h
  refine rd1 (k := fun x r => (revD x).bind fun z => R.ok (z, r)) s h fun x r1 Z1 H1 v e s1 x1 hv q => ?_
  obtain ⟨z, e2, q⟩ := q.quiet (q_rev _)
  cases x with
  | tup ds =>
    cases e2
    obtain ⟨a', xs, rfl, _, ha, ra⟩ := hv.tup s1.zh
    exact ⟨a', xs, rfl, SqT.of ha, (vend (e := .rev a) x1 rfl q).newT s1 ra.reverse⟩
  | _ => cases e2

/-! ### slices -/
/-- a slice's part -/
def rdO (C : Ctx) (hl : Bool) (e : E) : TO := fun σ H Q => ∃ Z env r, StOk C Z H σ env r ∧ Post C (if hl then (evE C.cl e env r).bind fun p => asI p.1 p.2 else .ok (none, r)) fun (o, r') =>
  ∀ Z' H', StOk C Z' H' σ env r' → Ext (Own C σ env) Z H (Own C σ env) Z' H' → Q o H'
theorem rd_sl {a l u : E} {hl hh : Bool} (n : isRw a = false) (h : rdE C (.sl a hl l hh u) σ H Q) : tSl (rSl C.K) (rdE C a) (rdO C hl l) (rdO C hh u) σ H Q := by
  obtain ⟨Z, env, r, s, h⟩ := h
  unfold evE at h
  refine ⟨Z, env, r, s, (Post.bind h).mono fun t e q => ?_⟩
  obtain ⟨x, r1⟩ := t
  intro v Z1 H1 s1 x1 res
  refine ⟨Z1, env, r1, s1, (Post.bind q).mono fun t e2 q => ?_⟩
  obtain ⟨y, r2⟩ := t
  intro Z2 H2 s2 x2
  refine ⟨Z2, env, r2, s2, (Post.bind q).mono fun t e3 q => ?_⟩
  obtain ⟨z, r3⟩ := t
  intro Z3 H3 s3 x3
  dsimp only at q
  obtain ⟨w, e4, q⟩ := q.quiet (q_sl _ _ _)
  exact v_sl s3 (res.later s e s3 (x2.trans x3) fun z => by rw [n] at z; cases z) e4 (vend (e := .sl a hl l hh u) ((x1.trans x2).trans x3) rfl q)
theorem rdO_none {e : E} {Q : Option Int → Hp → Prop} (h : rdO C false e σ H Q) : Q none H := by
  obtain ⟨Z, env, r, s, h⟩ := h
  exact h Z H s .refl
theorem rdO_some {e : E} {Q : Option Int → Hp → Prop} (h : rdO C true e σ H Q) : rdE C e σ H fun v H1 => ∃ i, v = .int i ∧ Q (some i) H1 := by
  obtain ⟨Z, env, r, s, h⟩ := h
  refine ⟨Z, env, r, s, (Post.bind (show Post C ((evE C.cl e env r).bind _) _ from h)).mono fun t et q => ?_⟩
  obtain ⟨x, r1⟩ := t
  intro v Z1 H1 s1 x1 res
  dsimp only at q
  unfold asI at q
  split at q
  · rename_i i
    exact ⟨i, (res.now s et s1).int, q Z1 H1 s1 x1⟩
  · exact q.elim

/-! ### tests -/
/-- the reading of a test -/
def rdT (C : Ctx) (e : E) : TT := fun σ H Q => ∃ Z env r, StOk C Z H σ env r ∧ Post C ((evE C.cl e env r).bind fun p => (asB p.1).bind fun b => .ok (b, p.2)) fun (b, r') =>
  ∀ Z' H', StOk C Z' H' σ env r' → Ext (Own C σ env) Z H (Own C σ env) Z' H' → Q b H'
theorem rt_val {e : E} {Q : Bool → Hp → Prop} (h : rdT C e σ H Q) : tB (rdE C e) σ H Q := by
  obtain ⟨Z, env, r, s, h⟩ := h
  refine rd1 (k := fun x r => (asB x).bind fun b => R.ok (b, r)) s h fun x r1 Z1 H1 v e s1 x1 hv q => ?_
  obtain ⟨b, e, q⟩ := q.quiet (q_asB _)
  have := asB_ok e; subst this
  exact ⟨b, hv.bl, q Z1 H1 s1 x1⟩
theorem rt_not {a : E} {Q : Bool → Hp → Prop} (h : rdT C (.not a) σ H Q) : tNot (rdT C a) σ H Q := by
  obtain ⟨Z, env, r, s, h⟩ := h
  unfold evE at h
  refine ⟨Z, env, r, s, ?_⟩
  cases e : evE C.cl a env r with
  | no => rw [e] at h; exact h.elim
  | ex c d => rw [e] at h; exact h
  | ok p =>
    obtain ⟨x, r1⟩ := p
    rw [e] at h
    cases e2 : asB x with
    | no => simp only [R.bind, e2] at h; exact h.elim
    | ex c d => exact absurd e2 (q_asB x c d)
    | ok b =>
      have := asB_ok e2
      subst this
      exact h
theorem rt_and {a b : E} {Q : Bool → Hp → Prop} (h : rdT C (.and a b) σ H Q) : tAnd (rdT C a) (rdT C b) σ H Q := by
  obtain ⟨Z, env, r, s, h⟩ := h
  unfold evE at h
  refine ⟨Z, env, r, s, ?_⟩
  cases e : evE C.cl a env r with
  | no => rw [e] at h; exact h.elim
  | ex c d => rw [e] at h; exact h
  | ok p =>
    obtain ⟨x, r1⟩ := p
    rw [e] at h
    cases e2 : asB x with
    | no => simp only [R.bind, e2] at h; exact h.elim
    | ex c d => exact absurd e2 (q_asB x c d)
    | ok c =>
      simp only [R.bind, e2] at h ⊢
      intro Z1 H1 s1 x1
      cases c
      · simp only [asB] at h
        exact iteF (h Z1 H1 s1 x1)
      · refine iteT ⟨Z1, env, r1, s1, ?_⟩
        simp only [if_true] at h
        cases e3 : evE C.cl b env r1 with
        | no => rw [e3] at h; exact h.elim
        | ex c d => rw [e3] at h; exact h
        | ok p =>
          obtain ⟨y, r2⟩ := p
          rw [e3] at h
          cases e4 : asB y with
          | no => simp only [e4] at h; exact h.elim
          | ex c d => exact absurd e4 (q_asB y c d)
          | ok c =>
            have := asB_ok e4
            subst this
            exact fun Z2 H2 s2 x2 => h Z2 H2 s2 (x1.trans x2)
theorem rt_or {a b : E} {Q : Bool → Hp → Prop} (h : rdT C (.or a b) σ H Q) : tOr (rdT C a) (rdT C b) σ H Q := by
  obtain ⟨Z, env, r, s, h⟩ := h
  unfold evE at h
  refine ⟨Z, env, r, s, ?_⟩
  cases e : evE C.cl a env r with
  | no => rw [e] at h; exact h.elim
  | ex c d => rw [e] at h; exact h
  | ok p =>
    obtain ⟨x, r1⟩ := p
    rw [e] at h
    cases e2 : asB x with
    | no => simp only [R.bind, e2] at h; exact h.elim
    | ex c d => exact absurd e2 (q_asB x c d)
    | ok c =>
      simp only [R.bind, e2] at h ⊢
      intro Z1 H1 s1 x1
      cases c
      · refine iteF ⟨Z1, env, r1, s1, ?_⟩
        simp only [Bool.false_eq_true, if_false] at h
        cases e3 : evE C.cl b env r1 with
        | no => rw [e3] at h; exact h.elim
        | ex c d => rw [e3] at h; exact h
        | ok p =>
          obtain ⟨y, r2⟩ := p
          rw [e3] at h
          cases e4 : asB y with
          | no => simp only [e4] at h; exact h.elim
          | ex c d => exact absurd e4 (q_asB y c d)
          | ok c =>
            have := asB_ok e4
            subst this
            exact fun Z2 H2 s2 x2 => h Z2 H2 s2 (x1.trans x2)
      · simp only [if_true, asB] at h
        exact iteT (h Z1 H1 s1 x1)
/-- from a test to the value's reading -/
theorem rt_E {e : E} {Q : Bool → Hp → Prop} (h : rdT C e σ H Q) : rdE C e σ H fun v H1 => ∃ b, v = .bl b ∧ Q b H1 := rt_val h
/-- a if c else b -/
theorem rd_ite {c a b : E} (ba : isB a = false) (bb : isB b = false) (h : rdE C (.ite c a b) σ H Q) : tIf (rdT C c) (rdE C a) (rdE C b) σ H Q := by
  obtain ⟨Z, env, r, s, h⟩ := h
  unfold evE at h
  refine ⟨Z, env, r, s, ?_⟩
  cases e : evE C.cl c env r with
  | no => rw [e] at h; exact h.elim
  | ex c d => rw [e] at h; exact h
  | ok p =>
    obtain ⟨x, r1⟩ := p
    rw [e] at h
    cases e2 : asB x with
    | no => simp only [R.bind, e2] at h; exact h.elim
    | ex c d => exact absurd e2 (q_asB x c d)
    | ok k =>
      simp only [R.bind, e2] at h ⊢
      intro Z1 H1 s1 x1
      have fin : ∀ {e' : E} {p : D × D}, isB e' = false → EndQ C σ env Z H (.ite c a b) Q p → EndQ C σ env Z1 H1 e' Q p := fun {e' p} b' q => by
        obtain ⟨d, r'⟩ := p
        intro v Z' H' s' x' res
        refine q v Z' H' s' (x1.trans x') (Res.of rfl ?_)
        rcases res.strong b' with ⟨q1, _⟩ | ⟨p, q1, q2, q3⟩
        · exact .inl ⟨q1, fun z => nomatch z.1⟩
        · exact .inr ⟨p, q1, x1.free q2, q3⟩
      cases k
      · exact iteF ⟨Z1, env, r1, s1, Post.mono h fun p _ q => fin bb q⟩
      · exact iteT ⟨Z1, env, r1, s1, Post.mono h fun p _ q => fin ba q⟩
end
end PL

set_option Elab.async false
set_option linter.all false
set_option maxRecDepth 100000
set_option autoImplicit false
set_option maxHeartbeats 400000
namespace PL
open PySem PySem.Spec PyProof.Rows L2

/-! ### what a def promises: what the evaluator says -/
def RA (ra : Option Addr) : Addr → Prop := fun a => ra = some a
/-- the row that is handed over: none, or at a -/
def RowIn (K : PySem.W.Frag) (Z H : Hp) (row : Bool) (r : D) (vs : List V) (ds : List D) : Option Addr → Prop
  | none => row = false ∧ r = .non ∧ Reps K Z vs ds
  | some a => row = true ∧ rowOk r = true ∧ Z a = none ∧ Ob K Z H a r ∧ ∃ ws, vs = .ref a :: ws ∧ Reps K Z ws ds
def spD (K : PySem.W.Frag) (EW : XK → Nat → D → Hp → Prop) (cl : Cl) (f : Nat) (row : Bool) (np : Nat) : Sp := fun vs H Q E => vs.length = np ∧ ∃ (Z : Hp) (ds : List D) (r : D) (ra : Option Addr), SameF Z H ∧ RowIn K Z H row r vs ds ra ∧
  match cl f r ds with
  | .ok (d, r') => ∀ v Z' H', SameF Z' H' → Ext (RA ra) Z H (RA ra) Z' H' → Rep K Z' v d → (∀ a, ra = some a → rowOk r' = true ∧ Z' a = none ∧ Ob K Z' H' a r') → Q v H'
  | .ex c x => EW E c x H
  | .no => False
section
variable {C : Ctx} {σ : VS} {env : Env'} {r : D} {Z H : Hp} {Q : VK} {EW : XK → Nat → D → Hp → Prop} {E' : XK}
/-- what is raised in a call is what is wished -/
def Lets (C : Ctx) (EW : XK → Nat → D → Hp → Prop) (E' : XK) : Prop := ∀ (c : Nat) (x : D) (O : Addr → Prop) (Z H : Hp), Ext C.O0 C.Z0 C.H0 O Z H → C.ew c x → EW E' c x H

theorem rd_call {f np : Nat} {es : Es} (l : es.len = np) (hx : Lets C EW E') (h : rdE C (.call f es) σ H Q) : tCall (spD C.K EW C.cl f false np) [] E' (rdEs C es) σ H Q := by
  obtain ⟨Z, env, r, s, h⟩ := h
  unfold evE at h
  refine ⟨Z, env, r, s, (Post.bind h).mono fun p ep q => ?_⟩
  obtain ⟨ds, r1⟩ := p
  intro vs Z1 H1 s1 x1 reps
  have n := Es_len _ _ _ _ _ _ ep
  dsimp only at q
  refine ⟨by rw [List.append_nil, reps.length, n, l], Z1, ds, .non, none, s1.zh, ⟨rfl, rfl, by rw [List.append_nil]; exact reps⟩, ?_⟩
  cases e : C.cl f .non ds with
  | no => rw [e] at q; exact q.elim
  | ex c d => rw [e] at q; exact hx c d _ Z1 H1 s1.ent q
  | ok p =>
    obtain ⟨z, rz⟩ := p
    rw [e] at q
    intro v Z' H' zh x' rep _
    obtain ⟨s2, x2⟩ := s1.step zh x'.z (fun b o e => x'.h b o e (fun z => nomatch z)) fun b o e t => x'.n b o e t (fun z => nomatch z)
    exact q v Z' H' s2 (x1.trans x2) (Res.rep rfl (.inl rfl) rep)

/-- the row has changed -/
theorem StOk.row_on {Z' H' : Hp} {r' : D} (s : StOk C Z H σ env r) {i : Nat} {a : Addr} (ei : C.rs = some i) (ea : σ[i]? = some (some (.ref a))) (zh : SameF Z' H') (x : Ext (RA (some a)) Z H (RA (some a)) Z' H')
    (ok : rowOk r' = true) (za : Z' a = none) (o : Ob C.K Z' H' a r') : StOk C Z' H' σ env r' ∧ Ext (Own C σ env) Z H (Own C σ env) Z' H' := by
  have oa : Own C σ env a := .inr ⟨i, ei, ea⟩
  have x' : Ext (Own C σ env) Z H (Own C σ env) Z' H' := ⟨x.z, fun b o e q => x.h b o e fun z => q (by cases z; exact oa), fun b o e t q => x.n b o e t fun z => q (by cases z; exact oa), x.d, fun b q => .inl q⟩
  have hrow := s.row i ei
  obtain ⟨e0, hr⟩ := hrow
  have hr' : ∀ a0, C.ra = some a0 → a = a0 := by
    rcases hr with ⟨_, q, _⟩ | ⟨a', _, q, _, _, q2, _⟩
    · rw [ea] at q; cases q
    · rw [ea] at q; cases q; exact q2
  have hne : ∀ (j : Nat) (d : D), env[j]? = some (.ow d) → σ[j]? ≠ some (some (.ref a)) := by
    rcases hr with ⟨_, q, _⟩ | ⟨a', _, q, _, _, _, q2⟩
    · rw [ea] at q; cases q
    · rw [ea] at q; cases q; exact q2
  refine ⟨⟨zh, s.len, fun j d q => ?_, fun j d q => ?_, s.sep, fun j q => ?_, (fun q => by rw [ei] at q; cases q), s.ent.trans x'⟩, x'⟩
  · obtain ⟨v, e1, e2⟩ := s.fr j d q
    exact ⟨v, e1, e2.mono x.z⟩
  · obtain ⟨b, e1, e2, e3⟩ := s.ow j d q
    have nb : ¬ RA (some a) b := fun z => by cases z; exact hne j d q e1
    obtain ⟨u, hu⟩ := e3.isS
    exact ⟨b, e1, (x.n b u hu (e3.nt hu) nb).trans e2, e3.mono x.z ((x.h b u hu nb).trans hu.symm)⟩
  · rw [ei] at q; cases q
    exact ⟨e0, .inr ⟨a, ok, ea, za, o, hr', hne⟩⟩
theorem rd_callr {f np i : Nat} {es : Es} (ei : C.rs = some i) (l : es.len + 1 = np) (hx : Lets C EW E') (h : rdE C (.callr f es) σ H Q) : tCall (spD C.K EW C.cl f true np) [] E' (tCons (tVar i) (rdEs C es)) σ H Q := by
  obtain ⟨Z, env, r, s, h⟩ := h
  unfold evE at h
  -- the row stands there already
  have key : ∀ (ds : List D) (r1 : D) (vs : List V) (Z1 H1 : Hp), StOk C Z1 H1 σ env r1 → rowOk r1 = true → ∃ a, σ[i]? = some (some (.ref a)) ∧ Z1 a = none ∧ Ob C.K Z1 H1 a r1 := fun ds r1 vs Z1 H1 s1 ok => by
    obtain ⟨_, hr⟩ := s1.row i ei
    rcases hr with ⟨q, _⟩ | ⟨a, _, q1, q2, q3, _⟩
    · subst q; cases ok
    · exact ⟨a, q1, q2, q3⟩
  -- what follows the arguments
  have run : ∀ (ds : List D) (r1 : D) (vs : List V) (Z1 H1 : Hp), evEs C.cl es env r = .ok (ds, r1) → StOk C Z1 H1 σ env r1 → Ext (Own C σ env) Z H (Own C σ env) Z1 H1 → Reps C.K Z1 vs ds →
      Post C (if rowOk r1 then C.cl f r1 ds else .no) (EndQ C σ env Z H (.callr f es) Q) → ∀ a, σ[i]? = some (some (.ref a)) → spD C.K EW C.cl f true np ((V.ref a :: vs) ++ []) H1 Q E' := fun ds r1 vs Z1 H1 ep s1 x1 reps q a ha => by
    have n := Es_len _ _ _ _ _ _ ep
    split at q
    · rename_i ok
      obtain ⟨a', h1, h2, h3⟩ := key ds r1 vs Z1 H1 s1 ok
      rw [ha] at h1; cases h1
      rw [List.append_nil]
      refine ⟨by rw [List.length_cons, reps.length, n, l], Z1, ds, r1, some a, s1.zh, ⟨rfl, ok, h2, h3, vs, rfl, reps⟩, ?_⟩
      cases e : C.cl f r1 ds with
      | no => rw [e] at q; exact q.elim
      | ex c d => rw [e] at q; exact hx c d _ Z1 H1 s1.ent q
      | ok p =>
        obtain ⟨z, rz⟩ := p
        rw [e] at q
        intro v Z' H' zh x' rep hrow
        obtain ⟨k1, k2, k3⟩ := hrow a rfl
        obtain ⟨s2, x2⟩ := s1.row_on ei ha zh x' k1 k2 k3
        exact q v Z' H' s2 (x1.trans x2) (Res.rep rfl (.inl rfl) rep)
    · exact q.elim
  split at h
  · rename_i ok
    obtain ⟨a, ha, _⟩ := key [] r [] Z H s ok
    refine ⟨_, ha, ⟨Z, env, r, s, (Post.bind h).mono fun p ep q => ?_⟩⟩
    obtain ⟨ds, r1⟩ := p
    intro vs Z1 H1 s1 x1 reps
    exact run ds r1 vs Z1 H1 ep s1 x1 reps q a ha
  · exact h.elim
end
end PL

set_option Elab.async false
set_option linter.all false
set_option maxRecDepth 100000
set_option autoImplicit false
set_option maxHeartbeats 400000
namespace PL
open PySem PySem.Spec PyProof.Rows L2
open PySem.W (EachIs AllAlike Sortable dataLe)

/-! ### built-ins -/
theorem q_sort (ds : List D) : Quiet (sortD ds) := fun c d e => by
  unfold sortD at e
  repeat' split at e
  all_goals cases e
theorem q_sset (ds : List D) : Quiet (ssetD ds) := fun c d e => by
  unfold ssetD at e
  repeat' split at e
  all_goals cases e
theorem Quiet.bind {α β : Type} {x : R α} {f : α → R β} (h : Quiet x) (g : ∀ a, Quiet (f a)) : Quiet (x.bind f) := fun c d e => by
  cases x with
  | ok a => exact g a c d e
  | ex c' d' => exact h c' d' rfl
  | no => cases e
theorem Quiet.ok {α : Type} {a : α} : Quiet (R.ok a) := fun _ _ e => by cases e
theorem q_bi (f : Bi) (ds : List D) : Quiet (biD f ds) := fun c d e => by
  cases f
  case sorted =>
    have e : biSorted ds = .ex c d := e
    unfold biSorted at e
    repeat' split at e
    all_goals first
      | (cases e; done)
      | exact (q_sort _).bind (fun _ => .ok) _ _ e
  case sset =>
    have e : biSset ds = .ex c d := e
    unfold biSset at e
    repeat' split at e
    all_goals first
      | (cases e; done)
      | exact (q_sset _).bind (fun _ => .ok) _ _ e
  all_goals
    simp only [biD, biLen, biInt, biAbs, biMax2, biMin2, biMaxl, biMinl, biSum, biList, biTuple, biDictp, biDictc, biRgl1, biRgt1, biRgl2, biIsi, biSkeys, biLkeys, biIndex, biCount, biGet2, biStr, biJoin, biSumvals] at e
    repeat' split at e
    all_goals cases e
/-- what a built-in asks of the values follows from what the evaluator says -/
def BiR (C : Ctx) (σ : VS) (f : Bi) (R : List V → Hp → VK → Prop) : Prop := ∀ (Z H : Hp) (env : Env') (r : D) (vs : List V) (ds : List D) (z : D) (Q : VK), StOk C Z H σ env r → RepHs C.K Z H vs ds → biD f ds = .ok z → VP C σ env r Z H (freshB f) z Q → R vs H Q
section
variable {C : Ctx} {σ : VS} {env : Env'} {r : D} {Z H : Hp} {Q : VK}
theorem rd_bi {f : Bi} {es : Es} {R : List V → Hp → VK → Prop} (hv : BiR C σ f R) (h : rdE C (.bi f es) σ H Q) : tCB R (rdAs C es) σ H Q := by
  obtain ⟨Z, env, r, s, h⟩ := h
  unfold evE at h
  refine ⟨Z, env, r, s, (Post.bind h).mono fun p ep q => ?_⟩
  obtain ⟨ds, r1⟩ := p
  intro vs Z1 H1 s1 x1 reps
  dsimp only at q
  obtain ⟨z, e, q⟩ := q.quiet (q_bi _ _)
  exact hv Z1 H1 env r1 vs ds z Q s1 reps e (vend (e := .bi f es) x1 rfl q)
/-- a list or a tuple -/
theorem RepH.seq {K : PySem.W.Frag} {v : V} {x : D} {ds : List D} (h : RepH K Z H v x) (e : seqD x = some ds) (z : SameF Z H) :
    ∃ a xs, v = .ref a ∧ Reps K Z xs ds ∧ ((∃ _ : x = .lst ds, H a = some (.lst xs)) ∨ (∃ _ : x = .tup ds, H a = some (.tup xs) ∧ Z a = some (.tup xs))) := by
  unfold seqD at e
  split at e
  · cases e
    obtain ⟨a, xs, rfl, ha, ra⟩ := h.lst z
    exact ⟨a, xs, rfl, ra, .inl ⟨rfl, ha⟩⟩
  · cases e
    obtain ⟨a, xs, rfl, za, ha, ra⟩ := h.tup z
    exact ⟨a, xs, rfl, ra, .inr ⟨rfl, ha, za⟩⟩
  · cases e
theorem bi_abs : BiR C σ .abs (fun xs H Q => ∃ i, xs = [.int i] ∧ Q (.int (if i < 0 then -i else i)) H) := fun Z H env r vs ds z Q s rep e h => by
  have e : biAbs ds = .ok z := e
  unfold biAbs at e
  split at e
  · cases e
    obtain ⟨v, rfl, q⟩ := rep.one
    exact ⟨_, by rw [q.int], h.int s⟩
  · cases e
theorem bi_max2 : BiR C σ .max2 (fun xs H Q => ∃ i j, xs = [.int i, .int j] ∧ Q (.int (if j > i then j else i)) H) := fun Z H env r vs ds z Q s rep e h => by
  have e : biMax2 ds = .ok z := e
  unfold biMax2 at e
  split at e
  · cases e
    obtain ⟨v, w, rfl, q, q2⟩ := rep.two
    exact ⟨_, _, by rw [q.int, q2.int], h.int s⟩
  · cases e
theorem bi_min2 : BiR C σ .min2 (fun xs H Q => ∃ i j, xs = [.int i, .int j] ∧ Q (.int (if j < i then j else i)) H) := fun Z H env r vs ds z Q s rep e h => by
  have e : biMin2 ds = .ok z := e
  unfold biMin2 at e
  split at e
  · cases e
    obtain ⟨v, w, rfl, q, q2⟩ := rep.two
    exact ⟨_, _, by rw [q.int, q2.int], h.int s⟩
  · cases e
def rInt3 : List V → Hp → VK → Prop := fun xs H Q => ((∃ i, xs = [.int i] ∧ Q (.int i) H) ∨ ∃ k, xs = [.bl k] ∧ Q (.int (if k then 1 else 0)) H) ∨ (∃ a n, xs = [.str a] ∧ PySem.intText? a = some n ∧ a.length ≤ 640 ∧ Q (.int n) H)
theorem call_int3 {X : Cx} : CallR X (.type "int") rInt3 := call_int1.or call_int_str
theorem bi_int : BiR C σ .int rInt3 := fun Z H env r vs ds z Q s rep e h => by
  have e : biInt ds = .ok z := e
  unfold biInt at e
  split at e
  · cases e
    obtain ⟨v, rfl, q⟩ := rep.one
    exact .inl (.inl ⟨_, by rw [q.int], h.int s⟩)
  · cases e
    obtain ⟨v, rfl, q⟩ := rep.one
    exact .inl (.inr ⟨_, by rw [q.bl], h.int s⟩)
  · obtain ⟨v, rfl, q⟩ := rep.one
    split at e
    · rename_i n hn
      split at e
      · rename_i hl
        cases e
        exact .inr ⟨_, _, by rw [q.str], hn, hl, h.int s⟩
      · cases e
    · cases e
  · cases e
/-- len -/
def rLen1 (K : PySem.W.Frag) : List V → Hp → VK → Prop := fun xs H Q => (∃ x n, xs = [x] ∧ LenV K x H n ∧ Q (.int n) H) ∨ ∃ (p : Addr) (kvs : List (List Key × V)), xs = [.ref p] ∧ Rd H p (.dT kvs) ∧ Q (.int ((kvs.length : Nat) : Int)) H
theorem dict_len (a : Addr) (ha : (a == sysModules) = false) (n : Nat) : Meets (Builtin.«dict.__len__» ⟨[.ref a], []⟩) (fun _ R s => DSz s.heap a n ∧ R (.ok (.ret (.int n s.toks))) { s with toks := s.toks + 1 }) :=
  .of_wp fun prog w A R s h => by
    obtain ⟨hp, g, d, tk, os⟩ := s
    obtain ⟨⟨⟨cl, dd, dat, sl⟩, es, ep, e1, ⟨c1, c2, c3⟩, e3, e4⟩, h⟩ := h
    dsimp only at c1 c2 c3 e3
    subst c1 c2 c3 e3 e4
    wp_walk
    exact ⟨_, rfl, h⟩
theorem call_len1 {X : Cx} : CallR X (.builtin "len") (rLen1 X.K) := by
  refine call_len.or ?_
  intro pins s σ H xs us Q I rv h
  obtain ⟨p, kvs, rfl, hp, q⟩ := h
  cases rv with
  | cons r t =>
    cases t
    cases r
    obtain ⟨a1, a2⟩ := rd_sz I hp
    have hz : kvs.length ≤ sizeLine := by
      rcases hp with hp | ⟨o, hp⟩
      · exact (I.hok p _ hp).1
      · exact (I.hok p _ hp).2.1
    rw [sizeLine_eq] at hz
    refine call_len_slot (n := (kvs.length : Int)) a2.ty F.slot_dict_len (fun Q' hq => call_meets F.slot_dict_len a2.ty F.entry_dict_len (F.args_dict_len_1 _) (dict_len p a1 kvs.length) ⟨a2, hq⟩) (by omega) (by omega) ⟨.int (kvs.length : Int), H, I.tok _, ⟨_, rfl⟩, q⟩
theorem bi_len : BiR C σ .len (rLen1 C.K) := fun Z H env r vs ds z Q s rep e h => by
  have e : biLen ds = .ok z := e
  unfold biLen at e
  split at e
  · cases e
    obtain ⟨v, rfl, q⟩ := rep.one
    obtain ⟨a, xs, rfl, ha, ra⟩ := q.lst s.zh
    exact .inl ⟨_, xs.length, rfl, .inl ⟨xs, SqL.of ha, rfl⟩, by rw [ra.length]; exact h.int s⟩
  · cases e
    obtain ⟨v, rfl, q⟩ := rep.one
    obtain ⟨a, xs, rfl, _, ha, ra⟩ := q.tup s.zh
    exact .inl ⟨_, xs.length, rfl, .inr ⟨xs, SqT.of ha, rfl⟩, by rw [ra.length]; exact h.int s⟩
  · cases e
    obtain ⟨v, rfl, q⟩ := rep.one
    obtain ⟨a, kvs, rfl, ha, ra⟩ := q.dic s.zh
    exact .inr ⟨a, kvs, rfl, ha, by rw [ra.length]; exact h.int s⟩
  · cases e
    obtain ⟨v, rfl, q⟩ := rep.one
    obtain ⟨a, rfl, ha⟩ := q.scr s.zh
    exact .inl ⟨_, _, rfl, .inl ⟨_, ha, rfl⟩, by rw [List.length_map]; exact h.int s⟩
  · split at e
    · rename_i hl
      cases e
      obtain ⟨v, rfl, q⟩ := rep.one
      rw [q.str]
      exact .inl ⟨_, _, rfl, ⟨lim_size hl, rfl⟩, h.int s⟩
    · cases e
  · cases e
theorem bi_list : BiR C σ .list (fun xs H Q => ∃ p ys, xs = [.ref p] ∧ (SqL C.K H p ys ∨ SqT C.K H p ys) ∧ ∀ l, H l = none → Q (.ref l) (upd H l (.lst ys))) := fun Z H env r vs ds z Q s rep e h => by
  have e : biList ds = .ok z := e
  unfold biList at e
  split at e
  · obtain ⟨v, rfl, q⟩ := rep.one
    split at e
    · rename_i hs
      cases e
      obtain ⟨a, xs, rfl, ra, k⟩ := q.seq hs s.zh
      refine ⟨a, xs, rfl, ?_, h.newL s ra⟩
      rcases k with ⟨_, k⟩ | ⟨_, k, _⟩
      · exact .inl (SqL.of k)
      · exact .inr (SqT.of k)
    · cases e
  · cases e
theorem bi_tuple : BiR C σ .tuple (fun xs H Q => ∃ p ys, xs = [.ref p] ∧ ((SqL C.K H p ys ∧ ∀ l, H l = none → Q (.ref l) (upd H l (.tup ys))) ∨ (SqT C.K H p ys ∧ Q (.ref p) H))) := fun Z H env r vs ds z Q s rep e h => by
  have e : biTuple ds = .ok z := e
  unfold biTuple at e
  split at e
  · obtain ⟨v, rfl, q⟩ := rep.one
    split at e
    · rename_i hs
      cases e
      obtain ⟨a, xs, rfl, ra, k⟩ := q.seq hs s.zh
      refine ⟨a, xs, rfl, ?_⟩
      rcases k with ⟨_, k⟩ | ⟨_, k, z⟩
      · exact .inl ⟨SqL.of k, h.newT s ra⟩
      · exact .inr ⟨SqT.of k, h.here s (.tup z ra) rfl⟩
    · cases e
  · cases e
end
end PL

set_option Elab.async false
set_option linter.all false
set_option maxRecDepth 100000
set_option autoImplicit false
set_option maxHeartbeats 400000
namespace PL
open PySem PySem.Spec PyProof.Rows L2
open PySem.W (EachIs AllAlike Sortable dataLe)
section
variable {C : Ctx} {σ : VS} {env : Env'} {r : D} {Z H : Hp} {Q : VK}
/-! ### isinstance -/
def tyS : Ty → String
  | .int => "int" | .bool => "bool" | .tuple => "tuple" | .list => "list" | .str => "str" | .dict => "dict" | .ntyp => "NoneType"
theorem kit_all : ∀ a b : Ty, kitB (tyS a) (tyS b) = some (isiT a b) := by
  intro a b
  cases a <;> cases b <;> decide +kernel
theorem tyx_of {K : PySem.W.Frag} {v : V} {x : D} (h : RepH K Z H v x) (z : SameF Z H) (nd : ∀ es, x ≠ .dic es) (ns : ∀ es, x ≠ .scr es) : TyX K H v (.type (tyS (tyD x))) := by
  cases x with
  | non => rw [h.non]; exact .base .non
  | bl b => rw [h.bl]; exact .base (.bl b)
  | int i => rw [h.int]; exact .base (.int i)
  | str i => rw [h.str]; exact .base (.str i)
  | tup ds =>
    obtain ⟨a, xs, rfl, _, ha, _⟩ := h.tup z
    exact .base (.tup ha)
  | lst ds =>
    obtain ⟨a, xs, rfl, ha, _⟩ := h.lst z
    exact .base (.lst ha)
  | dic es => exact absurd rfl (nd es)
  | scr es => exact absurd rfl (ns es)
theorem isi_ok {ts : List Ty} {x z : D} (e : biIsi ts [x] = .ok z) : (∀ es, x ≠ .scr es) ∧ z = .bl (ts.any fun t => isiT (tyD x) t) := by
  cases x with
  | scr _ => cases e
  | _ => cases e; exact ⟨(fun _ q => nomatch q), rfl⟩
/-! a dict, be it locked -/
def DicAt (H : Hp) (x : V) : Prop := ∃ (a : Addr) (kvs : List (List Key × V)), x = .ref a ∧ Rd H a (.dT kvs)
def rIsiY (K : PySem.W.Frag) : List V → Hp → VK → Prop := fun vs H Q => rIsi K vs H Q ∨ ∃ (x : V) (n : String) (b : Bool), vs = [x, .ty n] ∧ DicAt H x ∧ PySem.W.kitOne K (.type "dict") (.type n) = some b ∧ Q (.bl b) H
def rIsiTY (K : PySem.W.Frag) : List V → Hp → VK → Prop := fun vs H Q => rIsiT K vs H Q ∨ ∃ (x : V) (tp : Addr) (cs : List V) (ts : List Value) (b : Bool), vs = [x, .ref tp] ∧ DicAt H x ∧ H tp = some (.tup cs) ∧ Paired ClsV cs ts ∧ PySem.W.kitAny K (.type "dict") ts = some b ∧ Q (.bl b) H
theorem dic_at {X : Cx} {pins : List (Addr × Obj)} {τ : L2.St} {G : Hp} {s : Shared} (I : Inv X pins τ G s) {x : V} {u : Value} (d : DicAt G x) (ru : RelV x u) : (∃ a, u = .ref a ∧ ∃ o, s.heap.get? a = some o ∧ o.cls = .type "dict") := by
  obtain ⟨a, kvs, rfl, h⟩ := d
  have k : ObjOk X.prog X.w G s.heap a (.dT kvs) := by
    rcases h with h | ⟨o, h⟩
    · exact I.hok a _ h
    · exact (I.hok a _ h).2
  obtain ⟨_, _, _, _, o, _, _, e1, e2, _⟩ := k
  exact ⟨a, ru, o, e1, e2.1⟩
theorem call_isiY {X : Cx} : CallR X (.builtin "isinstance") (rIsiY X.K) := by
  refine CallR.or call_isi fun pins s τ G xs us Q I r h => ?_
  obtain ⟨x, n, b, rfl, d, e, q⟩ := h
  cases r with
  | cons r1 r =>
    cases r with
    | cons r2 r =>
      cases r
      obtain ⟨a, rfl, o, h1, h2⟩ := dic_at I d r1
      have r2 : _ = Value.type n := r2
      subst r2
      exact PySem.W.kia_one PySem.W.kitx_dict I.kIn ⟨o, h1, h2⟩ e (fun z => nomatch z) fun tk => ⟨.bl b, G, I.tok tk, rfl, q⟩
theorem call_isiTY {X : Cx} : CallR X (.builtin "isinstance") (rIsiTY X.K) := by
  refine CallR.or call_isiT fun pins s τ G xs us Q I r h => ?_
  obtain ⟨x, tp, cs, ts, b, rfl, d, ht, k, e, q⟩ := h
  cases r with
  | cons r1 r =>
    cases r with
    | cons r2 r =>
      cases r
      obtain ⟨a, rfl, o, h1, h2⟩ := dic_at I d r1
      have r2 : _ = Value.ref tp := r2
      subst r2
      obtain ⟨_, its, rv, ⟨oc, od, dt, sl⟩, g1, g2, n, g3⟩ := (show ObjOk X.prog X.w G s.heap tp (.tup cs) from I.hok tp _ ht)
      have g2 : oc = .type "tuple" := g2
      have g3 : dt = .seq its.toArray n := g3
      have g4 := ClsV.all k rv
      subst g2 g3 g4
      exact PySem.W.kia_tup PySem.W.kitx_dict I.kIn ⟨o, h1, h2⟩ g1 e (fun z => nomatch z) fun tk => ⟨.bl b, G, I.tok tk, rfl, q⟩
theorem dic_of {K : PySem.W.Frag} {v : V} {es : List (List Int × D)} (h : RepH K Z H v (.dic es)) (z : SameF Z H) : DicAt H v := by
  obtain ⟨a, kvs, rfl, r, _⟩ := h.dic z
  exact ⟨a, kvs, rfl, r⟩
theorem rd_isi1 {t : Ty} {a : E} (h : rdE C (.bi (.isi [t]) (.cons a .nil)) σ H Q) : tCB (rIsiY C.K) (tCons (rdE C a) (tCons (tC (.ty (tyS t))) tNil)) σ H Q := by
  obtain ⟨Z, env, r, s, h⟩ := h
  unfold evE evEs evEs at h
  refine ⟨Z, env, r, s, (Post.bind (Post.bind h)).mono fun p ep q => ?_⟩
  obtain ⟨x, r1⟩ := p
  intro v Z1 H1 s1 x1 res
  have q : Post C ((biD (.isi [t]) [x]).bind fun z => .ok (z, r1)) (EndQ C σ env Z H (.bi (.isi [t]) (.cons a .nil)) Q) := q
  obtain ⟨z, e, q⟩ := q.quiet (q_bi _ _)
  obtain ⟨k2, k3⟩ := isi_ok e
  subst k3
  have fin := (vend x1 rfl q).bl s1
  by_cases hd : ∃ es, x = .dic es
  · obtain ⟨es, rfl⟩ := hd
    refine .inr ⟨v, _, _, rfl, dic_of (res.now s ep s1) s1.zh, kit_ty (kit_all .dict t), ?_⟩
    have : tyD (.dic es) = .dict := rfl
    rw [this] at fin
    simpa using fin
  · refine .inl ⟨v, _, _, _, _, rfl, .ty _, tyx_of (res.now s ep s1) s1.zh (fun es q => hd ⟨es, q⟩) k2, kit_ty (kit_all _ t), ?_⟩
    simpa using fin
theorem kitAny_all {K : PySem.W.Frag} (a : Ty) : ∀ ts : List Ty, PySem.W.kitAny K (.type (tyS a)) (ts.map fun t => Value.type (tyS t)) = some (ts.any fun t => isiT a t)
  | [] => kitAny_nil
  | t :: ts => by
    have ih := kitAny_all (K := K) a ts
    rw [List.map_cons, List.any_cons]
    refine kitAny_cons (b := isiT a t) (kit_ty (kit_all a t)) (fun e => by rw [e, ih]; rfl) (fun e => by rw [e]; rfl)
theorem cls_all : ∀ ts : List Ty, Paired ClsV (ts.map fun t => V.ty (tyS t)) (ts.map fun t => Value.type (tyS t))
  | [] => .nil
  | t :: ts => .cons (.ty _) (cls_all ts)
def tTys : List Ty → TA
  | [] => tNil
  | t :: ts => tCons (tC (.ty (tyS t))) (tTys ts)
theorem tTys_run : ∀ (ts : List Ty) {Q : List V → Hp → Prop}, Q (ts.map fun t => V.ty (tyS t)) H → tTys ts σ H Q
  | [], Q, h => h
  | t :: ts, Q, h => by
    show tTys ts σ H _
    exact tTys_run ts h
theorem rd_isiT {ts : List Ty} {a : E} (l : ts.length ≤ 8) (h : rdE C (.bi (.isi ts) (.cons a .nil)) σ H Q) : tCB (rIsiTY C.K) (tCons (rdE C a) (tCons (tTup (tTys ts)) tNil)) σ H Q := by
  obtain ⟨Z, env, r, s, h⟩ := h
  unfold evE evEs evEs at h
  refine ⟨Z, env, r, s, (Post.bind (Post.bind h)).mono fun p ep q => ?_⟩
  obtain ⟨x, r1⟩ := p
  intro v Z1 H1 s1 x1 res
  have q : Post C ((biD (.isi ts) [x]).bind fun z => .ok (z, r1)) (EndQ C σ env Z H (.bi (.isi ts) (.cons a .nil)) Q) := q
  obtain ⟨z, e, q⟩ := q.quiet (q_bi _ _)
  obtain ⟨k2, k3⟩ := isi_ok e
  subst k3
  refine tTys_run ts ⟨by rw [List.length_map]; exact lim_size (Nat.le_trans l (by decide)), fun p hp => ?_⟩
  obtain ⟨s2, x2⟩ := s1.alloc (.tup (ts.map fun t => V.ty (tyS t))) hp
  have hv := res.later s ep s2 x2 fun _ => rfl
  have fin := (vend (x1.trans x2) rfl q).bl s2
  by_cases hd : ∃ es, x = .dic es
  · obtain ⟨es, rfl⟩ := hd
    exact .inr ⟨v, p, _, _, _, rfl, dic_of hv s2.zh, upd_same, cls_all ts, kitAny_all .dict ts, fin⟩
  · exact .inl ⟨v, p, _, _, _, _, rfl, upd_same, cls_all ts, tyx_of hv s2.zh (fun es q => hd ⟨es, q⟩) k2, kitAny_all _ ts, fin⟩

/-! ### ranges -/
theorem rgV_rep {K : PySem.W.Frag} (a b : Int) : Reps K Z (rgV a b) (rgD a b) := by
  unfold rgV rgD
  generalize List.range (b - a).toNat = l
  induction l with
  | nil => exact .nil
  | cons n l ih => exact .cons (.int _) ih
theorem rd_rgl1 {a : E} (h : rdE C (.bi .rgl1 (.cons a .nil)) σ H Q) : tLstRg (tRg1 (rdE C a)) σ H Q := by
  obtain ⟨Z, env, r, s, h⟩ := h
  unfold evE evEs evEs at h
  refine ⟨Z, env, r, s, (Post.bind (Post.bind h)).mono fun p ep q => ?_⟩
  obtain ⟨x, r1⟩ := p
  intro v Z1 H1 s1 x1 res
  have q : Post C ((biD .rgl1 [x]).bind fun z => .ok (z, r1)) (EndQ C σ env Z H (.bi .rgl1 (.cons a .nil)) Q) := q
  obtain ⟨z, e, q⟩ := q.quiet (q_bi _ _)
  have e : biRgl1 [x] = .ok z := e
  cases x with
  | int n =>
    unfold biRgl1 at e
    dsimp only at e
    split at e
    · rename_i hn
      cases e
      have : LIM = 1000000 := rfl
      exact ⟨n, (res.now s ep s1).int, ⟨by omega, by omega, by omega, by omega, by omega⟩, (vend x1 rfl q).newL s1 (rgV_rep 0 n)⟩
    · cases e
  | _ => cases e
theorem rd_rgt1 {a : E} (h : rdE C (.bi .rgt1 (.cons a .nil)) σ H Q) : tTupRg (tRg1 (rdE C a)) σ H Q := by
  obtain ⟨Z, env, r, s, h⟩ := h
  unfold evE evEs evEs at h
  refine ⟨Z, env, r, s, (Post.bind (Post.bind h)).mono fun p ep q => ?_⟩
  obtain ⟨x, r1⟩ := p
  intro v Z1 H1 s1 x1 res
  have q : Post C ((biD .rgt1 [x]).bind fun z => .ok (z, r1)) (EndQ C σ env Z H (.bi .rgt1 (.cons a .nil)) Q) := q
  obtain ⟨z, e, q⟩ := q.quiet (q_bi _ _)
  have e : biRgt1 [x] = .ok z := e
  cases x with
  | int n =>
    unfold biRgt1 at e
    dsimp only at e
    split at e
    · rename_i hn
      cases e
      have : LIM = 1000000 := rfl
      exact ⟨n, (res.now s ep s1).int, ⟨by omega, by omega, by omega, by omega, by omega⟩, (vend x1 rfl q).newT s1 (rgV_rep 0 n)⟩
    · cases e
  | _ => cases e

/-! ### max, min, sum -/
theorem maxI_mem : ∀ (r : List Int) (m : Int), maxI m r ∈ m :: r
  | [], m => List.mem_cons_self
  | x :: r, m => by
    unfold maxI
    have h := maxI_mem r (if m < x then x else m)
    rcases List.mem_cons.mp h with e | h
    · rw [e]
      split
      · exact List.mem_cons_of_mem _ List.mem_cons_self
      · exact List.mem_cons_self
    · exact List.mem_cons_of_mem _ (List.mem_cons_of_mem _ h)
theorem maxI_ge : ∀ (r : List Int) (m : Int), ∀ y ∈ m :: r, y ≤ maxI m r
  | [], m, y, h => by
    rcases List.mem_cons.mp h with e | h
    · rw [e]; exact Int.le_refl _
    · cases h
  | x :: r, m, y, h => by
    unfold maxI
    by_cases c : m < x
    · rw [if_pos c]
      have hm := maxI_ge r x x List.mem_cons_self
      rcases List.mem_cons.mp h with e | h
      · subst e; omega
      · rcases List.mem_cons.mp h with e | h
        · subst e; omega
        · exact maxI_ge r x y (List.mem_cons_of_mem _ h)
    · rw [if_neg c]
      have hm := maxI_ge r m m List.mem_cons_self
      rcases List.mem_cons.mp h with e | h
      · subst e; omega
      · rcases List.mem_cons.mp h with e | h
        · subst e; omega
        · exact maxI_ge r m y (List.mem_cons_of_mem _ h)
theorem minI_mem : ∀ (r : List Int) (m : Int), minI m r ∈ m :: r
  | [], m => List.mem_cons_self
  | x :: r, m => by
    unfold minI
    have h := minI_mem r (if x < m then x else m)
    rcases List.mem_cons.mp h with e | h
    · rw [e]
      split
      · exact List.mem_cons_of_mem _ List.mem_cons_self
      · exact List.mem_cons_self
    · exact List.mem_cons_of_mem _ (List.mem_cons_of_mem _ h)
theorem minI_le : ∀ (r : List Int) (m : Int), ∀ y ∈ m :: r, minI m r ≤ y
  | [], m, y, h => by
    rcases List.mem_cons.mp h with e | h
    · rw [e]; exact Int.le_refl _
    · cases h
  | x :: r, m, y, h => by
    unfold minI
    by_cases c : x < m
    · rw [if_pos c]
      have hm := minI_le r x x List.mem_cons_self
      rcases List.mem_cons.mp h with e | h
      · subst e; omega
      · rcases List.mem_cons.mp h with e | h
        · subst e; omega
        · exact minI_le r x y (List.mem_cons_of_mem _ h)
    · rw [if_neg c]
      have hm := minI_le r m m List.mem_cons_self
      rcases List.mem_cons.mp h with e | h
      · subst e; omega
      · rcases List.mem_cons.mp h with e | h
        · subst e; omega
        · exact minI_le r m y (List.mem_cons_of_mem _ h)
end
end PL

set_option Elab.async false
set_option linter.all false
set_option maxRecDepth 100000
set_option autoImplicit false
set_option maxHeartbeats 400000
namespace PL
open PySem PySem.Spec PyProof.Rows L2
/-! ### sum, max, min of tuples of ints -/
theorem preSum_eq (ns : List Int) : ∀ k, k ≤ ns.length → preSum (fun i => ns.getD i 0) k = (ns.take k).sum
  | 0, _ => rfl
  | k + 1, h => by
    show preSum _ k + _ = _
    have e : ns.take (k + 1) = ns.take k ++ [ns[k]] := (List.take_append_getElem (by omega)).symm
    dsimp only
    rw [preSum_eq ns k (by omega), e, List.sum_append, List.getD_eq_getElem?_getD, List.getElem?_eq_getElem (by omega)]
    simp
section
variable {X : Cx}
theorem inv_moved {pins : List (Addr × Obj)} {σ : L2.St} {H : Hp} {s s' : Shared} (I : Inv X pins σ H s) (h : ∀ b o, s.heap.get? b = some o → s'.heap.get? b = some o) (g : s'.gens = s.gens) (d : s'.drawn = s.drawn) (o : s'.os = s.os) : Inv X pins σ H s' := by
  obtain ⟨hp, g', d', t', os'⟩ := s'
  dsimp only at h g d o
  subst g d o
  exact I.kept h
def rSumT (K : PySem.W.Frag) : List V → Hp → VK → Prop := fun vs H Q => ∃ (a : Addr) (ns : List Int), vs = [V.ref a] ∧ SqT K H a (ns.map V.int) ∧ Q (.int ns.sum) H
theorem cr_sumT (hc : X.calm = true) : CallR X (.builtin "sum") (rSumT X.K) := by
  intro pins s σ H xs us Q I rv h
  obtain ⟨a, ns, rfl, ha, q⟩ := h
  cases rv with
  | cons r t =>
    cases t
    cases r
    obtain ⟨its, vi, ht, hz⟩ := I.tuple ha
    have hh : X.A.in1.handled = none := I.ok.hd hc
    have ht' : s.heap.IsTuple a its.toArray := ht
    have hn : ns.length = its.length := by have := vi.length; simpa using this
    refine call_sum_walkAnyS (wpAny_pyIter_tuple ht' ?_)
    have hne : a ≠ s.heap.objs.size := Nat.ne_of_lt ht.lt
    refine ⟨s.heap.objs.size, [s.heap.objs.size, a], [s.heap.objs.size], _, its.toArray.size, _, _, fun i => ns.getD i 0, rfl, (Walks.tuple hh s.heap.objs.size a hne its.toArray).toS, ⟨⟨_, Heap.get?_push_size _ rfl, rfl, rfl⟩, ?_⟩, fun b hb => ?_, fun i v hv => ?_, fun s' t' mv => ?_⟩
    · obtain ⟨o, h1, h2⟩ := ht'
      exact ⟨o, Heap.get?_push_of_some _ h1, h2⟩
    · have := ht.lt
      rw [Heap.size_push]
      rcases List.mem_cons.mp hb with rfl | hb
      · exact Nat.lt_succ_self _
      · rcases List.mem_cons.mp hb with rfl | hb
        · exact Nat.lt_succ_of_lt this
        · cases hb
    · have hv : its[i]? = some v := by simpa using hv
      have hi : i < ns.length := by
        have := (List.getElem?_eq_some_iff.mp hv).1
        omega
      have e1 : (ns.map V.int)[i]? = some (V.int (ns.getD i 0)) := by
        rw [List.getElem?_map, List.getElem?_eq_getElem hi, List.getD_eq_getElem?_getD, List.getElem?_eq_getElem hi]; rfl
      obtain ⟨u, h1, h2⟩ := vi.get e1
      rw [hv] at h1; cases h1
      exact h2
    · have e : preSum (fun i => ns.getD i 0) its.toArray.size = ns.sum := by
        rw [preSum_eq ns _ (by simp; omega), List.take_of_length_le (by simp; omega)]
      refine ⟨.int ns.sum, H, inv_moved I (fun b o hb => ?_) mv.gens mv.drawn mv.os, ⟨t', by rw [e]⟩, q⟩
      refine mv.heap b o (fun z => ?_) (Heap.get?_push_of_some _ hb)
      rcases List.mem_cons.mp z with rfl | z
      · exact absurd (Heap.lt_size hb) (Nat.lt_irrefl _)
      · cases z
theorem arg_ge (ns : List Int) : ∀ k, k < ns.length → (argBest (fun i j => decide (ns.getD j 0 < ns.getD i 0)) k) ≤ k ∧ ∀ j, j ≤ k → ns.getD j 0 ≤ ns.getD (argBest (fun i j => decide (ns.getD j 0 < ns.getD i 0)) k) 0
  | 0, _ => ⟨Nat.le_refl _, fun j hj => by
      have : j = 0 := by omega
      subst this; exact Int.le_refl _⟩
  | k + 1, h => by
    have ih := arg_ge ns k (by omega)
    unfold argBest
    by_cases c : ns.getD (argBest (fun i j => decide (ns.getD j 0 < ns.getD i 0)) k) 0 < ns.getD (k + 1) 0
    · rw [if_pos (decide_eq_true c)]
      refine ⟨Nat.le_refl _, fun j hj => ?_⟩
      by_cases e : j = k + 1
      · subst e; exact Int.le_refl _
      · have := ih.2 j (by omega); omega
    · rw [if_neg (by simpa using c)]
      refine ⟨by have := ih.1; omega, fun j hj => ?_⟩
      by_cases e : j = k + 1
      · subst e; omega
      · exact ih.2 j (by omega)
theorem arg_le (ns : List Int) : ∀ k, k < ns.length → (argBest (fun i j => decide (ns.getD i 0 < ns.getD j 0)) k) ≤ k ∧ ∀ j, j ≤ k → ns.getD (argBest (fun i j => decide (ns.getD i 0 < ns.getD j 0)) k) 0 ≤ ns.getD j 0
  | 0, _ => ⟨Nat.le_refl _, fun j hj => by
      have : j = 0 := by omega
      subst this; exact Int.le_refl _⟩
  | k + 1, h => by
    have ih := arg_le ns k (by omega)
    unfold argBest
    by_cases c : ns.getD (k + 1) 0 < ns.getD (argBest (fun i j => decide (ns.getD i 0 < ns.getD j 0)) k) 0
    · rw [if_pos (decide_eq_true c)]
      refine ⟨Nat.le_refl _, fun j hj => ?_⟩
      by_cases e : j = k + 1
      · subst e; exact Int.le_refl _
      · have := ih.2 j (by omega); omega
    · rw [if_neg (by simpa using c)]
      refine ⟨by have := ih.1; omega, fun j hj => ?_⟩
      by_cases e : j = k + 1
      · subst e; omega
      · exact ih.2 j (by omega)
def rMaxT (K : PySem.W.Frag) : List V → Hp → VK → Prop := fun vs H Q => ∃ (a : Addr) (ns : List Int), vs = [V.ref a] ∧ SqT K H a (ns.map V.int) ∧ 0 < ns.length ∧ ∀ m, m ∈ ns → (∀ y, y ∈ ns → y ≤ m) → Q (.int m) H
def rMinT (K : PySem.W.Frag) : List V → Hp → VK → Prop := fun vs H Q => ∃ (a : Addr) (ns : List Int), vs = [V.ref a] ∧ SqT K H a (ns.map V.int) ∧ 0 < ns.length ∧ ∀ m, m ∈ ns → (∀ y, y ∈ ns → m ≤ y) → Q (.int m) H
theorem getD_mem {ns : List Int} {i : Nat} (h : i < ns.length) : ns.getD i 0 ∈ ns := by
  rw [List.getD_eq_getElem?_getD, List.getElem?_eq_getElem h]
  exact List.getElem_mem h
theorem mem_getD {ns : List Int} {y : Int} (h : y ∈ ns) : ∃ j, j < ns.length ∧ ns.getD j 0 = y := by
  obtain ⟨j, hj, e⟩ := List.getElem_of_mem h
  exact ⟨j, hj, by rw [List.getD_eq_getElem?_getD, List.getElem?_eq_getElem hj]; exact e⟩
theorem cr_maxT (hc : X.calm = true) : CallR X (.builtin "max") (rMaxT X.K) := by
  intro pins s σ H xs us Q I rv h
  obtain ⟨a, ns, rfl, ha, hpos, q⟩ := h
  cases rv with
  | cons r t =>
    cases t
    cases r
    obtain ⟨its, vi, ht, hz⟩ := I.tuple ha
    have hh : X.A.in1.handled = none := I.ok.hd hc
    have ht' : s.heap.IsTuple a its.toArray := ht
    have hn : ns.length = its.length := by have := vi.length; simpa using this
    have hne : a ≠ s.heap.objs.size := Nat.ne_of_lt ht.lt
    have val : ∀ i v, its.toArray[i]? = some v → i < ns.length ∧ ∃ t, v = .int (ns.getD i 0) t := fun i v hv => by
      have hv : its[i]? = some v := by simpa using hv
      have hi : i < ns.length := by
        have := (List.getElem?_eq_some_iff.mp hv).1
        omega
      have e1 : (ns.map V.int)[i]? = some (V.int (ns.getD i 0)) := by
        rw [List.getElem?_map, List.getElem?_eq_getElem hi, List.getD_eq_getElem?_getD, List.getElem?_eq_getElem hi]; rfl
      obtain ⟨u, h1, h2⟩ := vi.get e1
      rw [hv] at h1; cases h1
      exact ⟨hi, h2⟩
    refine call_max_walk (wpAny_pyIter_tuple ht' ?_)
    refine ⟨s.heap.objs.size, [s.heap.objs.size, a], [s.heap.objs.size], its.toArray.size, _, _, fun i j => decide (ns.getD j 0 < ns.getD i 0), rfl, Walks.tuple hh s.heap.objs.size a hne its.toArray, ⟨⟨_, Heap.get?_push_size _ rfl, rfl, rfl⟩, ?_⟩, fun b hb => ?_, by simp; omega, fun i j vi vj s2 Q2 E2 hi hj hq => ?_, fun v h' tk hv hk => ?_⟩
    · obtain ⟨o, h1, h2⟩ := ht'
      exact ⟨o, Heap.get?_push_of_some _ h1, h2⟩
    · have := ht.lt
      rw [Heap.size_push]
      rcases List.mem_cons.mp hb with rfl | hb
      · exact Nat.lt_succ_self _
      · rcases List.mem_cons.mp hb with rfl | hb
        · exact Nat.lt_succ_of_lt this
        · cases hb
    · obtain ⟨_, t1, rfl⟩ := val i vi hi
      obtain ⟨_, t2, rfl⟩ := val j vj hj
      exact gt_int hq
    · obtain ⟨h1, t, rfl⟩ := val _ v hv
      have hm := arg_ge ns (its.toArray.size - 1) (by simp; omega)
      refine ⟨.int _, H, I.kept (t' := tk) (fun b o hb => hk b o (fun z => ?_) (Heap.get?_push_of_some _ hb)), ⟨t, rfl⟩, q _ (getD_mem h1) fun y hy => ?_⟩
      · rcases List.mem_cons.mp z with rfl | z
        · exact absurd (Heap.lt_size hb) (Nat.lt_irrefl _)
        · cases z
      · obtain ⟨j, hj, rfl⟩ := mem_getD hy
        exact hm.2 j (by simp; omega)
theorem cr_minT (hc : X.calm = true) : CallR X (.builtin "min") (rMinT X.K) := by
  intro pins s σ H xs us Q I rv h
  obtain ⟨a, ns, rfl, ha, hpos, q⟩ := h
  cases rv with
  | cons r t =>
    cases t
    cases r
    obtain ⟨its, vi, ht, hz⟩ := I.tuple ha
    have hh : X.A.in1.handled = none := I.ok.hd hc
    have ht' : s.heap.IsTuple a its.toArray := ht
    have hn : ns.length = its.length := by have := vi.length; simpa using this
    have hne : a ≠ s.heap.objs.size := Nat.ne_of_lt ht.lt
    have val : ∀ i v, its.toArray[i]? = some v → i < ns.length ∧ ∃ t, v = .int (ns.getD i 0) t := fun i v hv => by
      have hv : its[i]? = some v := by simpa using hv
      have hi : i < ns.length := by
        have := (List.getElem?_eq_some_iff.mp hv).1
        omega
      have e1 : (ns.map V.int)[i]? = some (V.int (ns.getD i 0)) := by
        rw [List.getElem?_map, List.getElem?_eq_getElem hi, List.getD_eq_getElem?_getD, List.getElem?_eq_getElem hi]; rfl
      obtain ⟨u, h1, h2⟩ := vi.get e1
      rw [hv] at h1; cases h1
      exact ⟨hi, h2⟩
    refine call_min_walk (wpAny_pyIter_tuple ht' ?_)
    refine ⟨s.heap.objs.size, [s.heap.objs.size, a], [s.heap.objs.size], its.toArray.size, _, _, fun i j => decide (ns.getD i 0 < ns.getD j 0), rfl, Walks.tuple hh s.heap.objs.size a hne its.toArray, ⟨⟨_, Heap.get?_push_size _ rfl, rfl, rfl⟩, ?_⟩, fun b hb => ?_, by simp; omega, fun i j vi vj s2 Q2 E2 hi hj hq => ?_, fun v h' tk hv hk => ?_⟩
    · obtain ⟨o, h1, h2⟩ := ht'
      exact ⟨o, Heap.get?_push_of_some _ h1, h2⟩
    · have := ht.lt
      rw [Heap.size_push]
      rcases List.mem_cons.mp hb with rfl | hb
      · exact Nat.lt_succ_self _
      · rcases List.mem_cons.mp hb with rfl | hb
        · exact Nat.lt_succ_of_lt this
        · cases hb
    · obtain ⟨_, t1, rfl⟩ := val i vi hi
      obtain ⟨_, t2, rfl⟩ := val j vj hj
      exact lt_int hq
    · obtain ⟨h1, t, rfl⟩ := val _ v hv
      have hm := arg_le ns (its.toArray.size - 1) (by simp; omega)
      refine ⟨.int _, H, I.kept (t' := tk) (fun b o hb => hk b o (fun z => ?_) (Heap.get?_push_of_some _ hb)), ⟨t, rfl⟩, q _ (getD_mem h1) fun y hy => ?_⟩
      · rcases List.mem_cons.mp z with rfl | z
        · exact absurd (Heap.lt_size hb) (Nat.lt_irrefl _)
        · cases z
      · obtain ⟨j, hj, rfl⟩ := mem_getD hy
        exact hm.2 j (by simp; omega)
end
section
variable {C : Ctx} {σ : VS}
theorem max_unique {ns : List Int} {m m' : Int} (h1 : m ∈ ns) (h2 : ∀ y, y ∈ ns → y ≤ m) (h3 : m' ∈ ns) (h4 : ∀ y, y ∈ ns → y ≤ m') : m = m' := by
  have a := h2 m' h3
  have b := h4 m h1
  omega
theorem min_unique {ns : List Int} {m m' : Int} (h1 : m ∈ ns) (h2 : ∀ y, y ∈ ns → m ≤ y) (h3 : m' ∈ ns) (h4 : ∀ y, y ∈ ns → m' ≤ y) : m = m' := by
  have a := h2 m' h3
  have b := h4 m h1
  omega
theorem bi_maxl : BiR C σ .maxl (fun vs H Q => rMax C.K vs H Q ∨ rMaxT C.K vs H Q) := fun Z H env r vs ds z Q s rep e h => by
  have e : biMaxl ds = .ok z := e
  unfold biMaxl at e
  split at e
  · obtain ⟨v, rfl, q⟩ := rep.one
    split at e
    · rename_i hs
      split at e
      · rename_i x r0 hi
        cases e
        obtain ⟨a, xs, rfl, ra, k⟩ := q.seq hs s.zh
        have := intsD_of hi; subst this
        have := ra.ints; subst this
        have fin : ∀ m, m ∈ x :: r0 → (∀ y, y ∈ x :: r0 → y ≤ m) → Q (.int m) H := fun m h1 h2 => by
          rw [max_unique h1 h2 (maxI_mem r0 x) (maxI_ge r0 x)]
          exact h.int s
        rcases k with ⟨_, k⟩ | ⟨_, k, _⟩
        · exact .inl ⟨a, _, rfl, SqL.of k, Nat.succ_pos _, fin⟩
        · exact .inr ⟨a, _, rfl, SqT.of k, Nat.succ_pos _, fin⟩
      · cases e
    · cases e
  · cases e
theorem bi_minl : BiR C σ .minl (fun vs H Q => rMin C.K vs H Q ∨ rMinT C.K vs H Q) := fun Z H env r vs ds z Q s rep e h => by
  have e : biMinl ds = .ok z := e
  unfold biMinl at e
  split at e
  · obtain ⟨v, rfl, q⟩ := rep.one
    split at e
    · rename_i hs
      split at e
      · rename_i x r0 hi
        cases e
        obtain ⟨a, xs, rfl, ra, k⟩ := q.seq hs s.zh
        have := intsD_of hi; subst this
        have := ra.ints; subst this
        have fin : ∀ m, m ∈ x :: r0 → (∀ y, y ∈ x :: r0 → m ≤ y) → Q (.int m) H := fun m h1 h2 => by
          rw [min_unique h1 h2 (minI_mem r0 x) (minI_le r0 x)]
          exact h.int s
        rcases k with ⟨_, k⟩ | ⟨_, k, _⟩
        · exact .inl ⟨a, _, rfl, SqL.of k, Nat.succ_pos _, fin⟩
        · exact .inr ⟨a, _, rfl, SqT.of k, Nat.succ_pos _, fin⟩
      · cases e
    · cases e
  · cases e
theorem bi_sum : BiR C σ .sum (fun vs H Q => rSum C.K vs H Q ∨ rSumT C.K vs H Q) := fun Z H env r vs ds z Q s rep e h => by
  have e : biSum ds = .ok z := e
  unfold biSum at e
  split at e
  · cases e
    obtain ⟨v, rfl, q⟩ := rep.one
    obtain ⟨a, rfl, ha⟩ := q.scr s.zh
    exact .inl ⟨a, _, rfl, ha, h.int s⟩
  · obtain ⟨v, rfl, q⟩ := rep.one
    split at e
    · rename_i hs
      split at e
      · rename_i ns hi
        cases e
        obtain ⟨a, xs, rfl, ra, k⟩ := q.seq hs s.zh
        have := intsD_of hi; subst this
        have := ra.ints; subst this
        rcases k with ⟨_, k⟩ | ⟨_, k, _⟩
        · exact .inl ⟨a, _, rfl, SqL.of k, h.int s⟩
        · exact .inr ⟨a, _, rfl, SqT.of k, h.int s⟩
      · cases e
    · cases e
  · cases e
end
end PL

set_option Elab.async false
set_option linter.all false
set_option maxRecDepth 100000
set_option autoImplicit false
set_option maxHeartbeats 400000
namespace PL
open PySem PySem.Spec PyProof.Rows L2
open PySem.W (EachIs AllAlike Sortable dataLe)
theorem sorted_col {X : Cx} {pins : List (Addr × Obj)} {σ : L2.St} {H : Hp} {s : Shared} (I : Inv X pins σ H s) {x : Value} {bs : List KV'} {enc : KV' → PyData} (ok : KeyOk X.K H enc bs) (hu : X.A.units + 10 < cLine)
    (flat : ∀ b ∈ bs, ∀ (h : Heap) (v : Value) (as : List Addr), Reads h v (enc b) as → as = [])
    (col : ∀ (R : List Value → Shared → Prop), (∀ us s', Inv X pins σ H s' → Vals (bs.map (·.1)) us → R us s') → wpAny (model X.prog X.w) X.A.in1 (collect x) R X.xe s)
    {Q : VK} (q : ∀ p, H p = none → Q (.ref p) (upd H p (.lst ((bs.mergeSort (dataLe false enc)).map (·.1))))) :
    wpAny (model X.prog X.w) X.A (call (.builtin "sorted") [x]) (EP X pins σ Q) X.xe s := by
  refine call_function_tree kind_sorted plain_sorted entry_sorted (args_sorted1 _) ?_
  unfold Builtin.«sorted»
  have cc : checkCount "sorted" 1 1 ((⟨[x], []⟩ : Args).pos.length) = pure () := rfl
  refine wpAny_bind (wpAny_of_eq cc ?_)
  refine wpAny_bind (col _ fun us s' I' vu => ?_)
  have hl : us.length = bs.length := by have := vu.length; rw [List.length_map] at this; exact this.symm
  refine wpAny_bind (wpAny_newList ?_ (by rw [hl]; exact ok.le))
  obtain ⟨hp, g, d, tk, os⟩ := s'
  obtain ⟨e1, e2⟩ := each_of I' enc vu ok.dp
  have kp : ∀ b u, hp.get? b = some u → (hp.push { cls := Value.type "list", data := Data.seq us.toArray }).get? b = some u := fun b u e => Heap.get?_push_of_some _ e
  have e3 : EachIs (fun v (b : KV') => ∃ as, Reads (hp.push { cls := Value.type "list", data := Data.seq us.toArray }) v (enc b) as ∧ hp.objs.size ∉ as) us bs := by
    have gen : ∀ {us' : List Value} {cs : List KV'}, (∀ b ∈ cs, b ∈ bs) → EachIs (fun v (b : KV') => ∃ as, Reads hp v (enc b) as) us' cs → EachIs (fun v (b : KV') => ∃ as, Reads (hp.push { cls := Value.type "list", data := Data.seq us.toArray }) v (enc b) as ∧ hp.objs.size ∉ as) us' cs := by
      intro us' cs hm e
      induction e with
      | nil => exact .nil
      | cons r t ih =>
        obtain ⟨as, r⟩ := r
        have := flat _ (hm _ List.mem_cons_self) _ _ _ r
        subst this
        exact .cons ⟨[], PyProof.Rows.Reads.keeps kp r, fun z => nomatch z⟩ (ih fun b hb => hm b (List.mem_cons_of_mem _ hb))
    exact gen (fun _ h => h) e2
  refine wpAny_bind (wpAny_holding ?_)
  refine PySem.W.list_sort_data (n := 0) (Heap.get?_push_size _ rfl) e1 e3 ok.al ok.so ok.le (fun b hb => by have := ok.pl b hb; show X.A.units + 1 + 1 + _ < _; omega) fun out hlen e4 => ?_
  wp_walk
  have at_ : (hp.push { cls := Value.type "list", data := Data.seq us.toArray }).get? hp.objs.size = some (seqObj "list" us.toArray 0) := Heap.get?_push_size _ rfl
  obtain ⟨c, hc⟩ := sortedHeap_at (out := out.toArray) at_
  have hf : H hp.objs.size = none := I'.hok.fresh (Nat.le_refl _)
  refine ⟨.ref _, upd H hp.objs.size (.lst ((bs.mergeSort (dataLe false enc)).map (·.1))), I'.laid (t' := tk) (fun b u e => ?_) (Nat.le_refl _) ?_, rfl, q _ hf⟩
  · have hlt : b < hp.objs.size := Heap.lt_size e
    rw [sortedHeap_old (Nat.ne_of_lt hlt) (by rw [Heap.size_push]; exact Nat.lt_succ_of_lt hlt)]
    exact kp b u e
  · refine ⟨?_, out, c, vals_each e4, hc⟩
    rw [List.length_map, List.length_mergeSort]
    exact ok.le
/-- ints, tuples of ints read no list -/
theorem flat_int {h : Heap} {v : Value} {i : Int} {as : List Addr} (r : Reads h v (.int i) as) : as = [] := by cases r; rfl
theorem flat_ints {h : Heap} : ∀ {us : List Value} {ns : List Int} {as : List Addr}, ReadsAll h us (ns.map .int) as → as = []
  | _, [], _, .nil => rfl
  | _, n :: ns, _, .cons a b => by rw [flat_int a, flat_ints b]; rfl
theorem flat_tup {h : Heap} {v : Value} {k : List Int} {as : List Addr} (r : Reads h v (.tuple (k.map .int)) as) : as = [] := by
  cases r with
  | tuple _ _ _ r => exact flat_ints r

/-! ### what is collected -/
section
variable {X : Cx} {pins : List (Addr × Obj)} {σ : L2.St} {H : Hp} {s : Shared}
theorem col_tup {a : Addr} {xs : List V} (I : Inv X pins σ H s) (ha : SqT X.K H a xs) (R : List Value → Shared → Prop) (h : ∀ us s', Inv X pins σ H s' → Vals xs us → R us s') : wpAny (model X.prog X.w) X.A.in1 (collect (.ref a)) R X.xe s := by
  obtain ⟨its, vi, ⟨o, ho, hc, n, hd⟩, hz⟩ := I.tuple ha
  have hz' : its.toArray.size ≤ sizeLine := by have := vi.length; simp; omega
  exact wpAny_collect_seq a (.inr rfl) ho hc hd (fun h' k => h _ _ (I.kept (t' := s.toks) k) vi) hz'
theorem col_lst {a : Addr} {xs : List V} (I : Inv X pins σ H s) (ha : H a = some (.lst xs)) (R : List Value → Shared → Prop) (h : ∀ us s', Inv X pins σ H s' → Vals xs us → R us s') : wpAny (model X.prog X.w) X.A.in1 (collect (.ref a)) R X.xe s := by
  obtain ⟨hz, its, n, vi, ho⟩ := I.hok a _ ha
  have hz' : its.toArray.size ≤ sizeLine := by have := vi.length; simp; omega
  exact wpAny_collect_seq a (.inl rfl) ho rfl rfl (fun h' k => h _ _ (I.kept (t' := s.toks) k) vi) hz'
/-- a dict's keys, as they are seen -/
def KV (r d : Addr) : HO := .ext fun h => PySem.W.KdlKeysView h r d
theorem kv_ok {P : Program} {w : World} {r d : Addr} {h : Heap} (k : PySem.W.KdlKeysView h r d) : ObjOk P w H h r (KV r d) := by
  refine ⟨k, ?_, fun h1 h2 ⟨o, ho, x⟩ st => ⟨o, st o ho, x⟩⟩
  obtain ⟨o, ho, _⟩ := k
  exact ⟨o, ho⟩
/-- the entries of a dict of tuples -/
theorem rd_raw (I : Inv X pins σ H s) {d : Addr} {kvs : List (List Key × V)} (h : Rd H d (.dT kvs)) : kvs.length ≤ sizeLine ∧ (d == sysModules) = false ∧ ∃ es ep, s.heap.DictRaw d es ep ∧ es.size = kvs.length ∧
    ∀ i (hi : i < es.size), ∃ (k : List Key) (v : V) (q : Addr), kvs[i]? = some (k, v) ∧ es[i].key = .ref q ∧ H q = some (.tup (k.map kV)) ∧ RelV v es[i].val := by
  have x : ObjOk X.prog X.w H s.heap d (.dT kvs) := by
    rcases h with h | ⟨o, h⟩
    · exact I.hok d _ h
    · exact (I.hok d _ h).2
  obtain ⟨z, y, xs, pr, o, es, ep, e1, e2, e3, e4, _⟩ := x
  have hl := pr.length
  have hz : es.size = kvs.length := by rw [← Array.length_toList, e4, List.length_map, hl]
  refine ⟨z, y, es, ep, ⟨o, e1, e2, e3⟩, hz, fun i hi => ?_⟩
  have get : ∀ {kvs : List (List Key × V)} {xs : List (List Key × Addr × Value)} {i : Nat}, Paired (fun (p : List Key × V) (q : List Key × Addr × Value) => p.1 = q.1 ∧ H q.2.1 = some (.tup (p.1.map kV)) ∧ RelV p.2 q.2.2) kvs xs → i < kvs.length →
      ∃ p q, kvs[i]? = some p ∧ xs[i]? = some q ∧ p.1 = q.1 ∧ H q.2.1 = some (.tup (p.1.map kV)) ∧ RelV p.2 q.2.2 := by
    intro kvs xs i pr
    induction pr generalizing i with
    | nil => intro h; exact absurd h (Nat.not_lt_zero _)
    | cons r t ih =>
      intro h
      cases i with
      | zero => exact ⟨_, _, rfl, rfl, r⟩
      | succ i =>
        obtain ⟨p, q, h1, h2, h3⟩ := ih (i := i) (by simpa using h)
        exact ⟨p, q, by simpa using h1, by simpa using h2, h3⟩
  obtain ⟨⟨k, v⟩, ⟨k', q, u⟩, h1, h2, h3, h4, h5⟩ := get pr (i := i) (by rw [← hz]; exact hi)
  have ee : es[i] = entryOfKey (tupleKind (mixKind X.prog X.w)) (k', q, u) := by
    have : es.toList[i]? = some (entryOfKey (tupleKind (mixKind X.prog X.w)) (k', q, u)) := by rw [e4, List.getElem?_map, h2]; rfl
    rw [Array.getElem?_toList, Array.getElem?_eq_getElem hi] at this
    exact Option.some.inj this
  exact ⟨k, v, q, h1, by rw [ee]; rfl, h4, by rw [ee]; exact h5⟩
end
end PL

set_option Elab.async false
set_option linter.all false
set_option maxRecDepth 100000
set_option autoImplicit false
set_option maxHeartbeats 400000
namespace PL
open PySem PySem.Spec PyProof.Rows L2
open PySem.W (EachIs AllAlike Sortable dataLe)
section
variable {X : Cx}
/-! ### d.keys() -/
def tyDic : V → Hp → Prop := fun x H => ∃ (d : Addr) (kvs : List (List Key × V)), x = .ref d ∧ Rd H d (.dT kvs)
theorem ty_dic : TyOk X "dict" tyDic := fun pins σ H s x v I r h => by
  obtain ⟨d, kvs, rfl, hd⟩ := h
  obtain rfl : v = .ref d := r
  obtain ⟨_, o, es, ep, e1, e2, e3, e4⟩ := rd_sz I hd
  refine ⟨⟨o, e1, e2.1⟩, fun a e => ?_⟩
  cases e
  exact ⟨o, e1, e2.2.1⟩
def rKeys : V → List V → Hp → VK → Prop := fun x xs H Q => ∃ (d : Addr) (kvs : List (List Key × V)), x = .ref d ∧ xs = [] ∧ Rd H d (.dT kvs) ∧ ∀ p, H p = none → Q (.ref p) (upd H p (KV p d))
theorem mt_keys : MtR X "dict.keys" rKeys := by
  intro pins s σ H x xs v us Q I r rv h
  obtain ⟨d, kvs, rfl, rfl, hd, q⟩ := h
  cases rv
  obtain rfl : v = .ref d := r
  obtain ⟨_, lo, es, ep, hr, _, _⟩ := rd_raw I hd
  obtain ⟨_, a2⟩ := rd_sz I hd
  refine call_meetsIn F.slot_dict_keys a2.ty F.entry_dict_keys (F.args_dict_keys_1 _) (meets_dict_keys_raw d lo) ⟨⟨es, ep, hr⟩, ?_⟩
  have hf : H s.heap.objs.size = none := I.hok.fresh (Nat.le_refl _)
  exact ⟨.ref _, upd H s.heap.objs.size (KV s.heap.objs.size d), I.laid (t' := s.toks) (fun b u e => Heap.get?_push_of_some _ e) (Nat.le_refl _) (kv_ok ⟨_, Heap.get?_push_size _ rfl, rfl, rfl⟩), rfl, q _ hf⟩
/-- the view of a dict that stands -/
def rView (H : Hp) (p d : Addr) : Prop := H p = some (KV p d)
theorem view_at {pins : List (Addr × Obj)} {σ : L2.St} {H : Hp} {s : Shared} (I : Inv X pins σ H s) {p d : Addr} (h : rView H p d) : PySem.W.KdlKeysView s.heap p d := (I.hok p _ h).1

/-- the keys, by their tuples -/
def keyV (H : Hp) (kvs : List (List Key × V)) (vs : List V) : Prop := Paired (fun (p : List Key × V) (x : V) => ∃ q, x = .ref q ∧ H q = some (.tup (p.1.map kV))) kvs vs
theorem keyV_get {H : Hp} : ∀ {kvs : List (List Key × V)}, (∀ i, i < kvs.length → ∃ (k : List Key) (v : V) (q : Addr), kvs[i]? = some (k, v) ∧ H q = some (.tup (k.map kV))) → ∃ vs, keyV H kvs vs
  | [], _ => ⟨[], .nil⟩
  | p :: kvs, h => by
    obtain ⟨k, v, q, h1, h2⟩ := h 0 (Nat.succ_pos _)
    obtain ⟨vs, hv⟩ := keyV_get (kvs := kvs) fun i hi => by
      obtain ⟨k, v, q, h1, h2⟩ := h (i + 1) (Nat.succ_lt_succ hi)
      exact ⟨k, v, q, by simpa using h1, h2⟩
    have e : p = (k, v) := by simpa using h1
    subst e
    exact ⟨.ref q :: vs, .cons ⟨q, rfl, h2⟩ hv⟩
theorem vals_keys {H : Hp} : ∀ {kvs : List (List Key × V)} {us : List Value}, us.length = kvs.length → (∀ (i : Nat) (u : Value), us[i]? = some u → ∃ (k : List Key) (v : V) (q : Addr), kvs[i]? = some (k, v) ∧ u = Value.ref q ∧ H q = some (.tup (k.map kV))) →
    ∃ vs, keyV H kvs vs ∧ Vals vs us
  | [], [], _, _ => ⟨[], .nil, .nil⟩
  | p :: kvs, u :: us, hl, h => by
    obtain ⟨k, v, q, h1, h2, h3⟩ := h 0 u rfl
    obtain ⟨vs, hv, hr⟩ := vals_keys (kvs := kvs) (us := us) (by simpa using hl) fun i u hu => by
      obtain ⟨k, v, q, h1, h2⟩ := h (i + 1) u (by simpa using hu)
      exact ⟨k, v, q, by simpa using h1, h2⟩
    have e : p = (k, v) := by simpa using h1
    subst e
    exact ⟨.ref q :: vs, .cons ⟨q, rfl, h3⟩ hv, .cons h2 hr⟩
  | [], _ :: _, hl, _ => by cases hl
  | _ :: _, [], hl, _ => by cases hl
theorem col_keys {pins : List (Addr × Obj)} {σ : L2.St} {H : Hp} {s : Shared} (hc : X.calm = true) (I : Inv X pins σ H s) {p d : Addr} {kvs : List (List Key × V)} (hd : Rd H d (.dT kvs)) (hv : rView H p d) :
    ∃ vs, keyV H kvs vs ∧ ∀ R : List Value → Shared → Prop, (∀ us s', Inv X pins σ H s' → Vals vs us → R us s') → wpAny (model X.prog X.w) X.A.in1 (collect (.ref p)) R X.xe s := by
  obtain ⟨z, lo, es, ep, hr, hn, hg⟩ := rd_raw I hd
  have hh : X.A.in1.handled = none := I.ok.hd hc
  obtain ⟨vs, k1, k2⟩ := vals_keys (H := H) (kvs := kvs) (us := es.toList.map (·.key)) (by rw [List.length_map, Array.length_toList, hn]) fun i u hu => by
    rw [List.getElem?_map] at hu
    obtain ⟨en, he, rfl⟩ := Option.map_eq_some_iff.mp hu
    rw [Array.getElem?_toList] at he
    obtain ⟨hi, he⟩ := Array.getElem?_eq_some_iff.mp he
    obtain ⟨k, v, q, g1, g2, g3, g4⟩ := hg i hi
    exact ⟨k, v, q, g1, by rw [← he]; exact g2, g3⟩
  refine ⟨vs, k1, fun R h => PySem.W.kdu_collect (PySem.KdlSrc.rawKeys (ep := ep)) hh ⟨view_at I hv, hr⟩ (by rw [hn]; exact z) fun h' tk acc k items => ?_⟩
  have e : acc.toList = es.toList.map (·.key) := by
    apply List.ext_getElem?
    intro i
    rw [List.getElem?_map, Array.getElem?_toList, Array.getElem?_toList]
    by_cases hi : i < acc.size
    · obtain ⟨hi', e⟩ := items.2 i acc[i] (Array.getElem?_eq_getElem hi)
      rw [Array.getElem?_eq_getElem hi, Array.getElem?_eq_getElem hi', e]; rfl
    · have : ¬ i < es.size := by rw [← items.1]; exact hi
      rw [Array.getElem?_eq_none (by omega), Array.getElem?_eq_none (by omega)]; rfl
  exact h _ _ (I.kept (t' := tk) k) (by rw [e]; exact k2)
/-- sorted(d.keys()), d's keys being tuples of ints -/
def rSortK (K : PySem.W.Frag) : List V → Hp → VK → Prop := fun vs H Q => ∃ (p d : Addr) (kvs : List (List Key × V)) (ks : List (List Int)), vs = [.ref p] ∧ Rd H d (.dT kvs) ∧ rView H p d ∧ kvs.map (·.1) = ks.map kI ∧ (∀ k ∈ ks, k ≠ []) ∧
  ∀ (bs : List KV') q, bs.map (·.2) = ks → (∀ b ∈ bs, ∃ a, b.1 = .ref a ∧ H a = some (.tup (b.2.map V.int))) → H q = none → Q (.ref q) (upd H q (.lst ((bs.mergeSort (dataLe false encT)).map (·.1))))
theorem keyV_bs {H : Hp} : ∀ {kvs : List (List Key × V)} {ks : List (List Int)} {vs : List V}, keyV H kvs vs → kvs.map (·.1) = ks.map kI → ∃ bs : List KV', bs.map (·.1) = vs ∧ bs.map (·.2) = ks ∧ ∀ b ∈ bs, ∃ a, b.1 = .ref a ∧ H a = some (.tup (b.2.map V.int))
  | _, ks, _, .nil, e => by
    cases ks with
    | nil => exact ⟨[], rfl, rfl, fun _ h => nomatch h⟩
    | cons k ks => cases e
  | _, ks, _, .cons r t, e => by
    cases ks with
    | nil => cases e
    | cons k ks =>
      rw [List.map_cons, List.map_cons] at e
      obtain ⟨e1, e2⟩ := List.cons.inj e
      obtain ⟨bs, h1, h2, h3⟩ := keyV_bs t e2
      obtain ⟨q, rfl, hq⟩ := r
      rw [e1, kV_kI] at hq
      refine ⟨(.ref q, k) :: bs, by rw [List.map_cons, h1], by rw [List.map_cons, h2], fun b hb => ?_⟩
      rcases List.mem_cons.mp hb with rfl | hb
      · exact ⟨q, rfl, hq⟩
      · exact h3 b hb
theorem keyT_ok' {K : PySem.W.Frag} {H : Hp} {bs : List KV'} (t : ∀ b ∈ bs, ∃ a, b.1 = .ref a ∧ H a = some (.tup (b.2.map V.int))) (ne : ∀ b ∈ bs, b.2 ≠ []) (h : bs.length ≤ sizeLine) : KeyOk K H encT bs where
  dp := fun b hb => by
    obtain ⟨a, e, q⟩ := t b hb
    rw [e]
    exact .tup (SqT.of q) (dpInts b.2)
  pl := fun b hb => by
    show PyData.depth (.tuple (b.2.map .int)) ≤ 1
    simp only [PyData.depth]
    have := PySem.W.depth_ints b.2
    omega
  al := PySem.W.AllAlike.of fun b b' => by simp [encT, PySem.W.alike, PySem.W.alike_ints]
  so := .inl fun d hd => by
    obtain ⟨b, hb, rfl⟩ := List.mem_map.mp hd
    have := ne b hb
    cases e : b.2 with
    | nil => exact absurd e this
    | cons x r => exact ⟨.int x, r.map .int, by show PyData.tuple (b.2.map .int) = _; rw [e]; rfl⟩
  le := h
theorem cr_sortK (hc : X.calm = true) (hu : X.A.units + 10 < cLine) : CallR X (.builtin "sorted") (rSortK X.K) := by
  intro pins s σ H xs us Q I rv h
  obtain ⟨p, d, kvs, ks, rfl, hd, hv, ek, ne, q⟩ := h
  cases rv with
  | cons r t =>
    cases t
    cases r
    obtain ⟨vs, k1, col⟩ := col_keys hc I hd hv
    obtain ⟨bs, b1, b2, b3⟩ := keyV_bs k1 ek
    have bl : bs.length ≤ sizeLine := by
      have h1 : bs.length = ks.length := by rw [← b2, List.length_map]
      have h2 : kvs.length = ks.length := by have := congrArg List.length ek; simpa using this
      have := (rd_raw I hd).1
      omega
    have ok : KeyOk X.K H encT bs := keyT_ok' b3 (fun b hb => ne b.2 (by rw [← b2]; exact List.mem_map_of_mem hb)) bl
    exact sorted_col I ok hu (fun b _ h v as r => flat_tup r) (fun R h => col R fun us s' I' vu => h us s' I' (by rw [b1]; exact vu)) fun p hp => q bs p b2 b3 hp
/-- sorted of a list or a tuple -/
def rSortS (K : PySem.W.Frag) : List V → Hp → VK → Prop := fun vs H Q => ∃ (a : Addr) (bs : List KV') (enc : KV' → PyData), vs = [.ref a] ∧ (H a = some (.lst (bs.map (·.1))) ∨ SqT K H a (bs.map (·.1))) ∧ KeyOk K H enc bs ∧
  (∀ b ∈ bs, ∀ (h : Heap) (v : Value) (as : List Addr), Reads h v (enc b) as → as = []) ∧ ∀ p, H p = none → Q (.ref p) (upd H p (.lst ((bs.mergeSort (dataLe false enc)).map (·.1))))
theorem cr_sortS (hu : X.A.units + 10 < cLine) : CallR X (.builtin "sorted") (rSortS X.K) := by
  intro pins s σ H xs us Q I rv h
  obtain ⟨a, bs, enc, rfl, ha, ok, flat, q⟩ := h
  cases rv with
  | cons r t =>
    cases t
    cases r
    rcases ha with ha | ha
    · exact sorted_col I ok hu flat (fun R h => col_lst I ha R h) q
    · exact sorted_col I ok hu flat (fun R h => col_tup I ha R h) q
end
section
variable {C : Ctx} {σ : VS}
theorem bi_sorted : BiR C σ .sorted (rSortS C.K) := fun Z H env r vs ds z Q s rep e h => by
  have e : biSorted ds = .ok z := e
  unfold biSorted at e
  split at e
  · obtain ⟨v, rfl, q⟩ := rep.one
    split at e
    · rename_i xs hs
      split at e
      · rename_i hl
        obtain ⟨rs, e1, e2⟩ := bind_ok e
        cases e2
        obtain ⟨a, ys, rfl, ra, k⟩ := q.seq hs s.zh
        have k' : H a = some (.lst ys) ∨ SqT C.K H a ys := k.imp (fun ⟨_, k⟩ => k) fun ⟨_, k, _⟩ => SqT.of k
        have yl := ra.length
        unfold sortD at e1
        split at e1
        · rename_i ns hi
          cases e1
          have := intsD_of hi; subst this
          have := ra.ints; subst this
          refine ⟨a, bsI ns, encI, rfl, by rw [bsI_fst]; exact k', keyI_ok ns (lim_size (by simpa using hl)), fun b _ h v as r => flat_int r, ?_⟩
          rw [sort_I]
          exact h.newL s (Reps.of_ints _)
        · split at e1
          · rename_i ks ht
            split at e1
            · rename_i hne
              cases e1
              have := tupsD_of ht; subst this
              obtain ⟨bs, b1, b2, b3⟩ := tupL_of ra
              have ne : ∀ b ∈ bs, b.2 ≠ [] := fun b hb z => by
                have hm : b.2 ∈ ks := by rw [← b2]; exact List.mem_map_of_mem hb
                have := List.all_eq_true.mp hne b.2 hm
                rw [z] at this
                cases this
              have bl : bs.length ≤ sizeLine := lim_size (by have := congrArg List.length b2; simp at this hl; omega)
              refine ⟨a, bs, encT, rfl, by rw [b1]; exact k', keyT_ok s.zh b3 ne bl, fun b _ h v as r => flat_tup r, ?_⟩
              have := sort_T (K := C.K) b3
              rw [b2] at this
              exact h.newL s this
            · cases e1
          · cases e1
      · cases e
    · cases e
  · cases e
/-- the keys of a dict are tuples of ints -/
theorem repD_keys {K : PySem.W.Frag} {Z : Hp} : ∀ {kvs : List (List Key × V)} {es : List (List Int × D)}, RepD K Z kvs es → kvs.map (·.1) = (es.map (·.1)).map kI
  | _, _, .nil => rfl
  | _, _, .cons _ r => by rw [List.map_cons, List.map_cons, List.map_cons, repD_keys r]
def tKeysOf (r : List V → Hp → VK → Prop) (te : TE) : TE := fun σ H Q => tMG0 tyDic rKeys te σ H fun v H1 => r [v] H1 Q
theorem RepH.tups {K : PySem.W.Frag} {Z H : Hp} (z : SameF Z H) : ∀ {bs : List KV'}, (∀ b ∈ bs, ∃ a, b.1 = .ref a ∧ H a = some (.tup (b.2.map V.int))) → ∀ b ∈ bs, ∃ a, b.1 = .ref a ∧ H a = some (.tup (b.2.map V.int)) := fun h => h
end
end PL

set_option Elab.async false
set_option linter.all false
set_option maxRecDepth 100000
set_option autoImplicit false
set_option maxHeartbeats 400000
namespace PL
open PySem PySem.Spec PyProof.Rows L2
open PySem.W (EachIs AllAlike Sortable dataLe)
section
variable {C : Ctx} {σ : VS} {env : Env'} {r : D} {Z H : Hp} {Q : VK}
theorem rd_upd {H : Hp} {p d : Addr} {o : HO} {u : HO} (h : Rd H d o) (n : H p = none) : Rd (upd H p u) d o := by
  rcases h with h | ⟨ob, h⟩
  · exact .inl (by rw [upd_ne (ne_of_none h n)]; exact h)
  · exact .inr ⟨ob, by rw [upd_ne (ne_of_none h n)]; exact h⟩
theorem tupl_of {Z : Hp} : ∀ {bs : List KV'}, (∀ b ∈ bs, ∃ a, b.1 = .ref a ∧ Z a = some (.tup (b.2.map V.int))) → TupL Z bs
  | [], _ => .nil
  | (v, k) :: bs, h => by
    obtain ⟨a, e, q⟩ := h (v, k) List.mem_cons_self
    have e' : v = .ref a := e
    subst e'
    exact .cons q (tupl_of fun b hb => h b (List.mem_cons_of_mem _ hb))
/-- keys that stand are frozen -/
theorem keys_frozen (s : StOk C Z H σ env r) {bs : List KV'} (h : ∀ b ∈ bs, ∃ a, b.1 = .ref a ∧ H a = some (.tup (b.2.map V.int))) :
    ∃ Z', StOk C Z' H σ env r ∧ Ext (Own C σ env) Z H (Own C σ env) Z' H ∧ Same Z Z' ∧ ∀ b ∈ bs, ∃ a, b.1 = .ref a ∧ Z' a = some (.tup (b.2.map V.int)) := by
  obtain ⟨Z', s', x, z, q⟩ := s.tupsF (fun a => ∃ b ∈ bs, b.1 = .ref a) fun a ⟨b, hb, e⟩ => by
    obtain ⟨a', e', q⟩ := h b hb
    rw [e] at e'; cases e'
    exact ⟨_, q⟩
  refine ⟨Z', s', x, z, fun b hb => ?_⟩
  obtain ⟨a, e, k⟩ := h b hb
  exact ⟨a, e, q a _ ⟨b, hb, e⟩ k⟩
def tOne (r : List V → Hp → VK → Prop) (te : TE) : TE := tCB r (tCons te tNil)
theorem rd_skeys {a : E} (h : rdE C (.bi .skeys (.cons a .nil)) σ H Q) : tOne (rSortK C.K) (tMG0 tyDic rKeys (rdE C a)) σ H Q := by
  obtain ⟨Z, env, r, s, h⟩ := h
  unfold evE evEs evEs at h
  refine ⟨Z, env, r, s, (Post.bind (Post.bind h)).mono fun p ep q => ?_⟩
  obtain ⟨x, r1⟩ := p
  intro v Z1 H1 s1 x1 res
  have q : Post C ((biD .skeys [x]).bind fun z => .ok (z, r1)) (EndQ C σ env Z H (.bi .skeys (.cons a .nil)) Q) := q
  obtain ⟨z, e, q⟩ := q.quiet (q_bi _ _)
  have e : biSkeys [x] = .ok z := e
  cases x with
  | dic es =>
    unfold biSkeys at e
    dsimp only at e
    split at e
    · rename_i hn
      cases e
      obtain ⟨d, kvs, rfl, hd, rd⟩ := (res.now s ep s1).dic s1.zh
      refine ⟨⟨d, kvs, rfl, hd⟩, d, kvs, rfl, rfl, hd, fun p hp => ?_⟩
      obtain ⟨s2, x2⟩ := s1.alloc (KV p d) hp
      have ne : ∀ k ∈ es.map (·.1), k ≠ [] := fun k hk z => by
        obtain ⟨e, he, rfl⟩ := List.mem_map.mp hk
        have := List.all_eq_true.mp hn.2 e he
        rw [z] at this; cases this
      refine ⟨p, d, kvs, es.map (·.1), rfl, rd_upd hd hp, upd_same, repD_keys rd, ne, fun bs q' b2 b3 hq' => ?_⟩
      obtain ⟨Z3, s3, x3, z3, b4⟩ := keys_frozen s2 b3
      have := sort_T (K := C.K) (tupl_of b4)
      rw [b2] at this
      exact (vend ((x1.trans x2).trans x3) rfl q).newL s3 this q' hq'
    · cases e
  | _ => cases e
/-- list(d.keys()) -/
def rListK : List V → Hp → VK → Prop := fun vs H Q => ∃ (p d : Addr) (kvs : List (List Key × V)), vs = [.ref p] ∧ Rd H d (.dT kvs) ∧ rView H p d ∧
  ∀ (xs : List V) q, keyV H kvs xs → H q = none → Q (.ref q) (upd H q (.lst xs))
end
end PL

set_option Elab.async false
set_option linter.all false
set_option maxRecDepth 100000
set_option autoImplicit false
set_option maxHeartbeats 400000
namespace PL
open PySem PySem.Spec PyProof.Rows L2

/-- a walk of values: J hands out what ds says, from any state that comes of (Z, H) -/
structure Wk (K : PySem.W.Frag) (O : Addr → Prop) (Z H : Hp) (J : L2.It) (ds : List D) : Prop where
  go : ∀ (i : Nat) (d : D) (O1 : Addr → Prop) (Z1 H1 : Hp), ds[i]? = some d → Ext O Z H O1 Z1 H1 → SameF Z1 H1 → J.go i H1 ∧ ∀ x H2, J.yld i H1 x H2 →
    (H2 = H1 ∧ Rep K Z1 x d) ∨ (∃ p u, H1 p = none ∧ H2 = upd H1 p u ∧ Rep K (upd Z1 p u) x d) ∨ (H2 = H1 ∧ ∃ p ns, x = .ref p ∧ d = tI ns ∧ H1 p = some (.tup (ns.map V.int)))
  stop : ∀ (i : Nat) (O1 : Addr → Prop) (Z1 H1 : Hp), ds.length ≤ i → Ext O Z H O1 Z1 H1 → SameF Z1 H1 → J.stop i H1
/-- the reading of what is walked -/
def rdI (C : Ctx) (it : It) : TI := fun σ H R => ∃ Z env r, StOk C Z H σ env r ∧ Post C (evIt C.cl it env r) fun (ds, r') =>
  ∀ J Z' H', StOk C Z' H' σ env r' → Ext (Own C σ env) Z H (Own C σ env) Z' H' → Wk C.K (Own C σ env) Z' H' J ds → R J H'
section
variable {C : Ctx} {σ : VS} {env : Env'} {r : D} {Z H : Hp} {R : L2.It → Hp → Prop}
theorem notOwn (s : StOk C Z H σ env r) {a : Addr} {o : HO} (h : Z a = some o) : ¬ Own C σ env a := fun q => by
  rw [(s.ownZ q).1] at h; cases h
theorem wk_rng (a b : Int) : Wk C.K (Own C σ env) Z H (Itr a (b - a).toNat) (rgD a b) where
  go := fun i d O1 Z1 H1 h x zh => by
    unfold rgD at h
    rw [List.getElem?_map] at h
    obtain ⟨j, hj, rfl⟩ := Option.map_eq_some_iff.mp h
    obtain ⟨h1, h2⟩ := List.getElem?_eq_some_iff.mp hj
    rw [List.getElem_range] at h2
    subst h2
    rw [List.length_range] at h1
    refine ⟨h1, fun x H2 q => ?_⟩
    obtain ⟨q1, q2⟩ := q
    subst q2
    exact .inl ⟨q1, .int _⟩
  stop := fun i O1 Z1 H1 h x zh => by
    unfold rgD at h
    rw [List.length_map, List.length_range] at h
    exact h
theorem wk_lst (s : StOk C Z H σ env r) {a : Addr} {xs : List V} {ds : List D} (h : Z a = some (.lst xs)) (q : Reps C.K Z xs ds) : Wk C.K (Own C σ env) Z H (Itl C.K a) ds where
  go := fun i d O1 Z1 H1 hd x zh => by
    obtain ⟨v, hv, rv⟩ := q.get hd
    have h1 : H1 a = some (.lst xs) := zh.lst (x.z _ _ h)
    refine ⟨⟨xs, v, SqL.of h1, hv⟩, fun y H2 q2 => ?_⟩
    obtain ⟨q3, q4⟩ := q2
    have := q4 xs (SqL.of h1)
    rw [hv] at this; cases this
    exact .inl ⟨q3, rv.mono x.z⟩
  stop := fun i O1 Z1 H1 hi x zh => ⟨xs, SqL.of (zh.lst (x.z _ _ h)), by rw [q.length]; exact hi⟩
theorem wk_tup (s : StOk C Z H σ env r) {a : Addr} {xs : List V} {ds : List D} (h : Z a = some (.tup xs)) (q : Reps C.K Z xs ds) : Wk C.K (Own C σ env) Z H (Itt C.K a) ds where
  go := fun i d O1 Z1 H1 hd x zh => by
    obtain ⟨v, hv, rv⟩ := q.get hd
    have h1 : H1 a = some (.tup xs) := zh.tup (x.z _ _ h)
    refine ⟨⟨xs, v, SqT.of h1, hv⟩, fun y H2 q2 => ?_⟩
    obtain ⟨q3, q4⟩ := q2
    have := q4 xs (SqT.of h1)
    rw [hv] at this; cases this
    exact .inl ⟨q3, rv.mono x.z⟩
  stop := fun i O1 Z1 H1 hi x zh => ⟨xs, SqT.of (zh.tup (x.z _ _ h)), by rw [q.length]; exact hi⟩
/-- a list or a tuple that is kept -/
theorem rep_seq {K : PySem.W.Frag} {v : V} {x : D} {ds : List D} (h : Rep K Z v x) (e : seqD x = some ds) : ∃ a xs, v = .ref a ∧ Reps K Z xs ds ∧ (Z a = some (.lst xs) ∨ Z a = some (.tup xs)) := by
  unfold seqD at e
  split at e
  · cases e
    cases h with
    | lst e r => exact ⟨_, _, rfl, r, .inl e⟩
  · cases e
    cases h with
    | tup e r => exact ⟨_, _, rfl, r, .inr e⟩
  · cases e
theorem ri_seq {e : E} (b : isB e = false) (h : rdI C (.seq e) σ H R) : rdE C e σ H fun x H1 => (∃ a, x = .ref a ∧ (∃ xs, SqL C.K H1 a xs) ∧ R (Itl C.K a) H1) ∨ (∃ a, x = .ref a ∧ (∃ xs, SqT C.K H1 a xs) ∧ R (Itt C.K a) H1) := by
  obtain ⟨Z, env, r, s, h⟩ := h
  unfold evIt at h
  refine ⟨Z, env, r, s, (Post.bind h).mono fun p ep q => ?_⟩
  obtain ⟨x, r1⟩ := p
  intro v Z1 H1 s1 x1 res
  obtain ⟨Z2, s2, x2, rep, _⟩ := res.keep b s s1 x1
  dsimp only at q
  split at q
  · rename_i ds hs
    obtain ⟨a, xs, rfl, ra, k⟩ := rep_seq rep hs
    rcases k with k | k
    · exact .inl ⟨a, rfl, ⟨xs, SqL.of (s2.zh.lst k)⟩, q _ Z2 H1 s2 x2 (wk_lst s2 k ra)⟩
    · exact .inr ⟨a, rfl, ⟨xs, SqT.of (s2.zh.tup k)⟩, q _ Z2 H1 s2 x2 (wk_tup s2 k ra)⟩
  · exact q.elim
theorem lim_eq : LIM = 1000000 := rfl
theorem ri_rng1 {e : E} (h : rdI C (.rng1 e) σ H R) : iRng1 (tCons (rdE C e) tNil) σ H R := by
  obtain ⟨Z, env, r, s, h⟩ := h
  unfold evIt at h
  refine ⟨Z, env, r, s, (Post.bind h).mono fun p ep q => ?_⟩
  obtain ⟨x, r1⟩ := p
  intro v Z1 H1 s1 x1 res
  cases x with
  | int n =>
    dsimp only at q
    split at q
    · rename_i hn
      have e0 : n.toNat = (n - 0).toNat := by omega
      have := lim_eq
      refine ⟨n, by rw [(res.now s ep s1).int], by omega, by omega, ?_⟩
      rw [e0]
      exact q _ Z1 H1 s1 x1 (wk_rng 0 n)
    · exact q.elim
  | _ => exact Post.no (β := Nat) q
theorem ri_rng2 {a b : E} (h : rdI C (.rng2 a b) σ H R) (na : isRw a = false) : iRng2 (tCons (rdE C a) (tCons (rdE C b) tNil)) σ H R := by
  obtain ⟨Z, env, r, s, h⟩ := h
  unfold evIt at h
  refine ⟨Z, env, r, s, (Post.bind h).mono fun p ep q => ?_⟩
  obtain ⟨x, r1⟩ := p
  intro v Z1 H1 s1 x1 res
  refine ⟨Z1, env, r1, s1, (Post.bind q).mono fun p ep2 q => ?_⟩
  obtain ⟨y, r2⟩ := p
  intro w Z2 H2 s2 x2 res2
  have hv := res.later s ep s2 x2 fun z => by rw [na] at z; cases z
  have hw := res2.now s1 ep2 s2
  cases x with
  | int m =>
    cases y with
    | int n =>
      dsimp only at q
      split at q
      · rename_i hn
        have := lim_eq
        exact ⟨m, n, by rw [hv.int, hw.int], ⟨by omega, by omega, by omega, by omega⟩, q _ Z2 H2 s2 (x1.trans x2) (wk_rng m n)⟩
      · exact q.elim
    | _ => exact Post.no (β := Nat) q
  | _ => exact Post.no (β := Nat) q
theorem wk_rngC (a b : Int) : Wk C.K (Own C σ env) Z H (Itc a (-1) (a - b).toNat) ((List.range (a - b).toNat).map fun i => D.int (a - (i : Nat))) where
  go := fun i d O1 Z1 H1 h x zh => by
    rw [List.getElem?_map] at h
    obtain ⟨j, hj, rfl⟩ := Option.map_eq_some_iff.mp h
    obtain ⟨h1, h2⟩ := List.getElem?_eq_some_iff.mp hj
    rw [List.getElem_range] at h2
    subst h2
    rw [List.length_range] at h1
    refine ⟨h1, fun x H2 q => ?_⟩
    obtain ⟨q1, q2⟩ := q
    have e : a + (i : Int) * (-1) = a - (i : Nat) := by omega
    rw [e] at q2
    subst q2
    exact .inl ⟨q1, .int _⟩
  stop := fun i O1 Z1 H1 h x zh => by
    rw [List.length_map, List.length_range] at h
    exact h
theorem ri_rng3 {a b c : E} (h : rdI C (.rng3 a b c) σ H R) (na : isRw a = false) (nb : isRw b = false) : iRng3 (tCons (rdE C a) (tCons (rdE C b) (tCons (rdE C c) tNil))) σ H R := by
  obtain ⟨Z, env, r, s, h⟩ := h
  unfold evIt at h
  refine ⟨Z, env, r, s, (Post.bind h).mono fun p ep q => ?_⟩
  obtain ⟨x, r1⟩ := p
  intro v Z1 H1 s1 x1 res
  refine ⟨Z1, env, r1, s1, (Post.bind q).mono fun p ep2 q => ?_⟩
  obtain ⟨y, r2⟩ := p
  intro w Z2 H2 s2 x2 res2
  refine ⟨Z2, env, r2, s2, (Post.bind q).mono fun p ep3 q => ?_⟩
  obtain ⟨z, r3⟩ := p
  intro u Z3 H3 s3 x3 res3
  have hv := res.later s ep s3 (x2.trans x3) fun z => by rw [na] at z; cases z
  have hw := res2.later s1 ep2 s3 x3 fun z => by rw [nb] at z; cases z
  have hu := res3.now s2 ep3 s3
  cases x with
  | int m =>
    cases y with
    | int n =>
      cases z with
      | int k =>
        dsimp only at q
        unfold rg3D at q
        split at q
        · rename_i hn
          obtain ⟨hk, _⟩ := hn
          subst hk
          have := lim_eq
          exact ⟨m, n, -1, _, by rw [hv.int, hw.int, hu.int], RgC.neg (by omega) (by omega) (by omega) (by omega), q _ Z3 H3 s3 ((x1.trans x2).trans x3) (wk_rngC m n)⟩
        · exact q.elim
      | _ => exact Post.no (β := Nat) q
    | _ => exact Post.no (β := Nat) q
  | _ => exact Post.no (β := Nat) q
end
end PL

set_option Elab.async false
set_option linter.all false
set_option maxRecDepth 100000
set_option autoImplicit false
set_option maxHeartbeats 400000
namespace PL
open PySem PySem.Spec PyProof.Rows L2
section
variable {prog : Program} {w : World} {A : Around} {E : Value → Shared → Prop}
theorem tupnext_item (it t : Addr) (i : Nat) (items : Array Value) (x : Value) (hx : items[i]? = some x) :
    Meets (Builtin.«tuple_iterator.__next__» ⟨[.ref it], []⟩) (fun _ R s => s.heap.IsTupleIter it t i ∧ s.heap.IsTuple t items ∧ ∀ h', h'.IsTupleIter it t (i + 1) → Heap.SameBut it s.heap h' → R (.ok (.ret x)) { s with heap := h' }) :=
  .of_wp fun prog w A R s h => by
    obtain ⟨hp, g, d, tk, os⟩ := s
    obtain ⟨⟨⟨cl, dd, dat, sl⟩, h1, h2, h3⟩, ⟨⟨cl', dd', dat', sl'⟩, h4, h5, n, h6⟩, h⟩ := h
    dsimp only at h2 h3 h5 h6
    subst h2 h3 h5 h6
    wp_walk
    have e : items[((i : Nat) : Int).toNat]? = some x := by rw [Int.toNat_natCast]; exact hx
    rw [e]
    wp_walk
    refine ⟨_, rfl, h _ ⟨_, Heap.get?_update_self _ h1 rfl, rfl, rfl⟩ (Heap.SameBut.update _ _ _)⟩
theorem tupnext_end (it t : Addr) (i : Nat) (items : Array Value) (hx : items[i]? = none) :
    Meets (Builtin.«tuple_iterator.__next__» ⟨[.ref it], []⟩) (fun A R s => A.handled = none ∧ s.heap.IsTupleIter it t i ∧ s.heap.IsTuple t items ∧ ∀ h' e, Heap.ExtBut it s.heap h' → (∃ o, h'.get? e = some o ∧ o.cls = .type "StopIteration") → R (.error (.ref e)) { s with heap := h' }) :=
  .of_wp fun prog w A R s h => by
    obtain ⟨hp, g, d, tk, os⟩ := s
    obtain ⟨hh, ⟨⟨cl, dd, dat, sl⟩, h1, h2, h3⟩, ⟨⟨cl', dd', dat', sl'⟩, h4, h5, n, h6⟩, h⟩ := h
    dsimp only at h2 h3 h5 h6
    subst h2 h3 h5 h6
    wp_walk
    have e : items[((i : Nat) : Int).toNat]? = none := by rw [Int.toNat_natCast]; exact hx
    rw [e]
    wp_walk
    refine wpAny_raiseNew_none hh (h _ _ (fun b o hb eb => ?_) ⟨_, Heap.get?_push_size _ rfl, rfl⟩)
    exact Heap.get?_push_of_some _ (Heap.get?_push_of_some _ (by rw [Heap.get?_update_ne _ _ _ _ hb]; exact eb))
theorem nextOf_tup_item {s : Shared} {it t : Addr} {i : Nat} {items : Array Value} {x : Value} {Q : Value → Shared → Prop} (h1 : s.heap.IsTupleIter it t i) (h2 : s.heap.IsTuple t items) (hx : items[i]? = some x)
    (hQ : ∀ h', h'.IsTupleIter it t (i + 1) → Heap.SameBut it s.heap h' → Q x { s with heap := h' }) : wpAny (model prog w) A (Builtin.SmallTypes.nextOf (.ref it)) Q E s := by
  unfold Builtin.SmallTypes.nextOf
  exact wpAny_bind (wpAny_callSpecial?_slot h1.typeIs F.slot_tuple_iterator_next (call_meets F.slot_tuple_iterator_next h1.typeIs F.entry_tuple_iterator_next (F.args_tuple_iterator_next_1 _) (tupnext_item it t i items x hx) ⟨h1, h2, fun h' a b => wpAny_pure (hQ h' a b)⟩))
theorem nextOf_tup_end {s : Shared} {it t : Addr} {i : Nat} {items : Array Value} {Q : Value → Shared → Prop} (hh : A.handled = none) (h1 : s.heap.IsTupleIter it t i) (h2 : s.heap.IsTuple t items) (hx : items[i]? = none)
    (hQ : ∀ h' e, Heap.ExtBut it s.heap h' → (∃ o, h'.get? e = some o ∧ o.cls = .type "StopIteration") → E (.ref e) { s with heap := h' }) : wpAny (model prog w) A (Builtin.SmallTypes.nextOf (.ref it)) Q E s := by
  unfold Builtin.SmallTypes.nextOf
  exact wpAny_bind (wpAny_callSpecial?_slot h1.typeIs F.slot_tuple_iterator_next (call_meets F.slot_tuple_iterator_next h1.typeIs F.entry_tuple_iterator_next (F.args_tuple_iterator_next_1 _) (tupnext_end it t i items hx) ⟨hh, h1, h2, fun h' e a b => hQ h' e a b⟩))
theorem Draws.tuple (hh : A.handled = none) (it a : Addr) (hne : a ≠ it) (items : Array Value) :
    Draws prog w A it [it, a] items.size (fun i v => items[i]? = some v) (fun i h => h.IsTupleIter it a i ∧ h.IsTuple a items) where
  live := fun i h ⟨⟨o, ho, _⟩, _⟩ => ⟨o, ho⟩
  frame := fun i h h' ⟨x, o, ho, y⟩ hk => ⟨x.at fun o e => hk it (by simp) o e, ⟨o, hk a (by simp) o ho, y⟩⟩
  item := fun i s Q E hi ⟨h1, h2⟩ hq => by
    obtain ⟨x, hx⟩ : ∃ x, items[i]? = some x := ⟨items[i], Array.getElem?_eq_getElem hi⟩
    refine nextOf_tup_item h1 h2 hx fun h' a1 b1 => hq x h' s.toks hx ⟨a1, ?_⟩ b1
    obtain ⟨o, ho, y⟩ := h2
    exact ⟨o, (b1.2 a hne).trans ho, y⟩
  done := fun s Q E ⟨h1, h2⟩ hq => nextOf_tup_end hh h1 h2 (Array.getElem?_eq_none (Nat.le_refl _)) hq
end
end PL

set_option Elab.async false
set_option linter.all false
set_option maxRecDepth 100000
set_option autoImplicit false
set_option maxHeartbeats 400000
namespace PL
open PySem PySem.Spec PyProof.Rows L2
theorem wpAny_iteB {α : Type} {M : Model} {A : Around} {E : Value → Shared → Prop} {s : Shared} {c : Prop} [Decidable c] {t u : Sem α} {Q : α → Shared → Prop} (h1 : wpAny M A t Q E s) (h2 : wpAny M A u Q E s) : wpAny M A (if c then t else u) Q E s := by
  by_cases h : c
  · rw [if_pos h]; exact h1
  · rw [if_neg h]; exact h2
theorem enum_new_tup (l : Addr) (items : Array Value) :
    Meets (Builtin.«enumerate.__new__» ⟨[.type "enumerate", .ref l], []⟩) (fun _ R s => s.heap.IsTuple l items ∧
      R (.ok (.ret (.ref (s.heap.push { cls := .type "tuple_iterator", data := .fields #[.ref l, .int 0 0] }).objs.size)))
        { s with heap := (s.heap.push { cls := .type "tuple_iterator", data := .fields #[.ref l, .int 0 0] }).push { cls := .type "enumerate", data := .fields #[.none, .bool false, .ref s.heap.objs.size, rawInt 0, .none, .none] } }) :=
  .of_wp fun prog w A R s h => by
    obtain ⟨hp, g, d, tk, os⟩ := s
    obtain ⟨ht, h⟩ := h
    wp_walk
    refine wpAny_of_eq (show isSubtype (.type "enumerate") (.type "enumerate") = pure true by rw [isSubtype_type]; kernel_rfl) ?_
    wp_walk
    refine wpAny_stack_any fun st => ?_
    refine wpAny_pure ?_
    refine wpAny_iteB ?_ ?_
    · wp_walk using wpAny_pyIter_tuple ht
      exact ⟨_, rfl, h⟩
    · wp_walk using wpAny_pyIter_tuple ht
      exact ⟨_, rfl, h⟩
end PL

set_option Elab.async false
set_option linter.all false
set_option maxRecDepth 100000
set_option autoImplicit false
set_option maxHeartbeats 400000
namespace PL
open PySem PySem.Spec PyProof.Rows L2
theorem call_enum_tup {prog : Program} {w : World} {A : Around} {E : Value → Shared → Prop} {s : Shared} {l : Addr} {items : Array Value} {Q : Value → Shared → Prop} (ht : s.heap.IsTuple l items)
    (h : ∀ h', IsEnum h' (s.heap.objs.size + 1) s.heap.objs.size 0 .none → h'.IsTupleIter s.heap.objs.size l 0 → h'.objs.size = s.heap.objs.size + 2 → (∀ b o, s.heap.get? b = some o → h'.get? b = some o) → Q (.ref (s.heap.objs.size + 1)) { s with heap := h' }) :
    wpAny (model prog w) A (call (.type "enumerate") [.ref l]) Q E s := by
  have e1 : ((s.heap.push { cls := .type "tuple_iterator", data := .fields #[.ref l, .int 0 0] }).objs.size) = s.heap.objs.size + 1 := Heap.size_push _ _
  refine callType_new F.called_enumerate (by decide) (by rfl) (by kernel_rfl) (fun obj => F.args_object_init_2 _ _) F.entry_enumerate_new (enum_new_tup l items) ⟨ht, ?_⟩
  rw [e1]
  refine ⟨⟨_, by rw [← e1]; exact Heap.get?_push_size _ rfl, rfl⟩, h _ ?_ ?_ ?_ fun b o e => Heap.get?_push_of_some _ (Heap.get?_push_of_some _ e)⟩
  · rw [← e1]; exact Heap.get?_push_size _ rfl
  · exact ⟨_, Heap.get?_push_of_some _ (Heap.get?_push_size _ rfl), rfl, rfl⟩
  · rw [Heap.size_push, e1]
/-- tracked things forgotten -/
theorem Inv.forget {X : Cx} {pins : List (Addr × Obj)} {σ : L2.St} {H : Hp} {s : Shared} {p : Addr} {φ : Heap → Prop} (I : Inv X pins σ (upd H p (.ext φ)) s) (n : H p = none) : Inv X pins σ H s := by
  have up : ∀ b o, (∀ f, o ≠ .ext f) → upd H p (.ext φ) b = some o → H b = some o := fun b o ne e => by
    by_cases hb : b = p
    · subst hb; rw [upd_same] at e; cases e; exact absurd rfl (ne φ)
    · rw [upd_ne hb] at e; exact e
  have dn : ∀ b, upd H p (.ext φ) b = none → H b = none := fun b e => by
    by_cases hb : b = p
    · subst hb; exact n
    · rw [upd_ne hb] at e; exact e
  have th : ∀ b o, H b = some o → upd H p (.ext φ) b = some o := fun b o e => by rw [upd_ne (ne_of_none e n)]; exact e
  refine ⟨I.ok, I.os, I.bare, ⟨I.base.keep, I.base.slot, fun b o a c d => dn b (I.base.free b o a c d), I.base.there, fun b xs e => up _ _ (fun _ z => nomatch z) (I.base.tups b xs e), fun b o u e => up _ _ (fun _ z => nomatch z) (I.base.frzs b o u e), fun b ps e => ?_⟩, I.loc, I.cell, dn _ I.free, fun x c e => dn _ (I.freeC x c e), fun q hq => ?_, fun a o e => ?_, I.len⟩
  · obtain ⟨m, h⟩ := I.base.tbls b ps e
    exact ⟨m, up _ _ (fun _ z => nomatch z) h⟩
  · obtain ⟨a, b, c⟩ := I.pin q hq
    exact ⟨a, dn _ b, c⟩
  · exact (I.hok a o (th a o e)).stay (fun b u _ q => q) (fun b q => up _ _ (fun _ z => nomatch z) q) fun b xs q => up _ _ (fun _ z => nomatch z) q
end PL

set_option Elab.async false
set_option linter.all false
set_option maxRecDepth 100000
set_option autoImplicit false
set_option maxHeartbeats 400000
namespace PL
open PySem PySem.Spec PyProof.Rows L2
/-- enumerate of a tuple -/
def IteT (K : PySem.W.Frag) (a : Addr) : L2.It := ⟨fun i H => ∃ (xs : List V) (x : V), SqT K H a xs ∧ xs[i]? = some x,
  fun i H v H' => ∃ T x, v = .ref T ∧ H T = none ∧ H' = upd H T (.tup [.int (i : Nat), x]) ∧ ∀ xs, SqT K H a xs → xs[i]? = some x, fun i H => ∃ xs : List V, SqT K H a xs ∧ xs.length ≤ i⟩
theorem turn_enumT {P : Program} {w : World} {K : PySem.W.Frag} {elts : List Expr} {kk : Nat} {tpos : Pos} (a e it : Addr) : Turn P w K (.Tuple elts kk tpos) (IteT K a) [e, it] e (fun i h => (∃ old, IsEnum h e it ((i : Nat) : Int) old) ∧ h.IsTupleIter it a i ∧ e ≠ it) where
  mem := List.mem_cons_self
  obj := fun i h ⟨⟨old, h1⟩, ⟨o, h2, h3, h4⟩, ne⟩ b hb => by
    rcases List.mem_cons.mp hb with rfl | hb
    · exact ⟨_, h1, fun v z => nomatch z⟩
    · rcases List.mem_cons.mp hb with rfl | hb
      · exact ⟨o, h2, fun v z => by rw [h4] at z; cases z⟩
      · cases hb
  keep := fun i h h' ⟨⟨old, h1⟩, ⟨o, h2, h3⟩, ne⟩ hk => ⟨⟨old, hk e (by simp) _ h1⟩, ⟨o, hk it (by simp) _ h2, h3⟩, ne⟩
  self := fun A i s Q E ⟨⟨old, h1⟩, _, _⟩ hq => wpAny_pyIter_enum h1 hq
  done := fun X hP hw hK hc i pins s σ H E I fo ⟨⟨old, h1⟩, h2, ne⟩ hs => by
    subst hP hw hK
    obtain ⟨xs, ha, hl⟩ := hs
    obtain ⟨its, vi, ht, hz⟩ := I.tuple ha
    have hh : X.A.in1.handled = none := I.ok.hd hc
    have hne : a ≠ it := fun z => by
      subst z
      obtain ⟨o, g1, g2, _⟩ := ht
      obtain ⟨o', g3, g4, _⟩ := h2
      rw [g1] at g3; cases g3
      rw [g2] at g4
      exact absurd (Value.type.inj g4) (by decide)
    have hi : its.toArray.size ≤ i := by have := vi.length; simp; omega
    obtain ⟨f1, f2, f3, f4, f5, f6⟩ := fo it (by simp)
    have D : Draws X.prog X.w X.A.in1 it [it, a] 0 (fun _ _ => False) (fun j h => h.IsTupleIter it a (i + j) ∧ h.IsTuple a its.toArray) := {
      live := fun i h ⟨⟨o, ho, _⟩, _⟩ => ⟨o, ho⟩
      frame := fun i h h' ⟨x, o, ho, y⟩ hk => ⟨x.at fun o e => hk it (by simp) o e, ⟨o, hk a (by simp) o ho, y⟩⟩
      item := fun i s Q E hi => absurd hi (Nat.not_lt_zero _)
      done := fun s Q E ⟨g1, g2⟩ hq => nextOf_tup_end hh g1 g2 (Array.getElem?_eq_none hi) hq }
    refine wpAny_pyNext_enum_endD (i := ((i : Nat) : Int)) D h1 ⟨h2, ht⟩ fun h' ex => ⟨rfl, ?_⟩
    exact I.turned (t' := s.toks) (fun b o nb hb => ex b o nb hb) f1 f2 f4 f5 f6
  item := fun X hP hw hK hc i pins s σ H E I fo ⟨⟨old, h1⟩, h2, ne⟩ hg => by
    subst hP hw hK
    obtain ⟨xs, x, ha, hx⟩ := hg
    obtain ⟨its, vi, ht, hz⟩ := I.tuple ha
    have hh : X.A.in1.handled = none := I.ok.hd hc
    have hne : a ≠ it := fun z => by
      subst z
      obtain ⟨o, g1, g2, _⟩ := ht
      obtain ⟨o', g3, g4, _⟩ := h2
      rw [g1] at g3; cases g3
      rw [g2] at g4
      exact absurd (Value.type.inj g4) (by decide)
    have hea : e ∉ [it, a] := fun z => by
      rcases List.mem_cons.mp z with z | z
      · exact ne z
      · rcases List.mem_cons.mp z with z | z
        · subst z
          obtain ⟨o, g1, g2, _⟩ := ht
          rw [h1] at g1; cases g1
          exact absurd (Value.type.inj g2) (by decide)
        · cases z
    obtain ⟨u, hu, ru⟩ := vi.get hx
    have hi : i < its.toArray.size := by have := (List.getElem?_eq_some_iff.mp hu).1; simpa using this
    refine wpAny_pyNext_enum_itemD (Draws.tuple hh it a hne its.toArray) h1 ⟨h2, ht⟩ hi ne hea fun y h' tk hy e1 e2 e3 e4 e5 => ?_
    have hy' : y = u := by
      have : its.toArray[i]? = some u := by simpa using hu
      rw [this] at hy; cases hy; rfl
    subst hy'
    refine ⟨_, rfl, wpAny_letOwnedTupleGo_enum e1 fun h'' e6 sb => ?_⟩
    obtain ⟨hp, g, d, tks, os⟩ := s
    obtain ⟨f1, f2, f3, f4, f5, f6⟩ := fo it (by simp)
    obtain ⟨k1, k2, k3, k4, k5, k6⟩ := fo e (by simp)
    have hlt : e < hp.objs.size := Heap.lt_size h1
    obtain ⟨oi, hoi, _⟩ := id h2
    have hlti : it < hp.objs.size := Heap.lt_size hoi
    have hT : H hp.objs.size = none := I.hok.fresh (Nat.le_refl _)
    have nT : hp.objs.size ≠ e := Nat.ne_of_gt hlt
    have nTi : hp.objs.size ≠ it := Nat.ne_of_gt hlti
    have tT : h''.get? hp.objs.size = some { cls := .type "tuple", data := .seq #[.int i tk, y] } := (sb.2 _ nT).trans e3
    obtain ⟨o2, ho2, _⟩ := id e2.1
    have ho2' : h''.get? it = some o2 := (sb.2 it (fun z => ne z.symm)).trans ho2
    -- the tuple laid, e and it as they were
    let h3 : Heap := (h''.update e fun _ => { cls := .type "enumerate", dict := none, data := .fields #[.none, .bool false, .ref it, rawInt ((i : Nat) : Int), .none, old], slots := #[] }).update it fun _ => oi
    have g3 : ∀ b, b ≠ e → b ≠ it → h3.get? b = h''.get? b := fun b n1 n2 => by
      show (Heap.update _ it _).get? b = _
      rw [Heap.get?_update_ne _ _ _ _ n2, Heap.get?_update_ne _ _ _ _ n1]
    have fi : oi.isFreed = false := (Heap.get?_some_iff.mp hoi).2
    have g3e : h3.get? e = some { cls := .type "enumerate", dict := none, data := .fields #[.none, .bool false, .ref it, rawInt ((i : Nat) : Int), .none, old], slots := #[] } := by
      show (Heap.update _ it _).get? e = _
      rw [Heap.get?_update_ne _ _ _ _ ne]
      exact Heap.get?_update_self _ e6 rfl
    have g3i : h3.get? it = some oi := by
      refine Heap.get?_update_self _ (o := o2) ?_ fi
      rw [Heap.get?_update_ne _ _ _ _ (fun z => ne z.symm)]
      exact ho2'
    have I1 : Inv X pins σ (upd H hp.objs.size (.tup [.int (i : Nat), x])) ⟨h3, g, d, tk + 1, os⟩ := by
      refine I.laid (t' := tk + 1) (fun b o hb => ?_) (Nat.le_refl _) ?_
      · by_cases b1 : b = e
        · subst b1; rw [h1] at hb; rw [g3e]; exact hb
        · by_cases b2 : b = it
          · subst b2; rw [hoi] at hb; rw [g3i]; exact hb
          · rw [g3 b b1 b2, sb.2 b b1]; exact e5 b o b1 b2 hb
      · exact ⟨(by show (2 : Nat) ≤ sizeLine; rw [sizeLine_eq]; decide), [.int i tk, y], .cons ⟨tk, rfl⟩ (.cons ru .nil), ⟨_, (g3 _ nT nTi).trans tT, rfl, _, rfl⟩⟩
    have hn1 : upd H hp.objs.size (.tup [.int (i : Nat), x]) it = none := by rw [upd_ne nTi.symm]; exact f1
    have hn2 : upd H hp.objs.size (.tup [.int (i : Nat), x]) e = none := by rw [upd_ne nT.symm]; exact k1
    have I2 : Inv X pins σ (upd H hp.objs.size (.tup [.int (i : Nat), x])) ⟨h''.update e fun _ => { cls := .type "enumerate", dict := none, data := .fields #[.none, .bool false, .ref it, rawInt ((i : Nat) : Int), .none, old], slots := #[] }, g, d, tk + 1, os⟩ :=
      I1.turned (t' := tk + 1) (fun b o nb hb => by
        have : h3.get? b = _ := Heap.get?_update_ne _ _ _ _ nb
        rw [this] at hb; exact hb) hn1 f2 f4 f5 f6
    have I3 : Inv X pins σ (upd H hp.objs.size (.tup [.int (i : Nat), x])) ⟨h'', g, d, tk + 1, os⟩ :=
      I2.turned (t' := tk + 1) (fun b o nb hb => by rw [Heap.get?_update_ne _ _ _ _ nb] at hb; exact hb) hn2 k2 k4 k5 k6
    refine ⟨.ref hp.objs.size, _, I3, rfl, ⟨_, x, rfl, hT, rfl, fun xs' hx' => ?_⟩, ⟨⟨_, e6⟩, ?_, ne⟩, fun b hb => ?_⟩
    · rw [I.tuple_inj hx' ha]; exact hx
    · obtain ⟨o, ho, r⟩ := e2.1
      exact ⟨o, (sb.2 it (fun z => ne z.symm)).trans ho, r⟩
    · rcases List.mem_cons.mp hb with rfl | hb
      · exact hn2
      · rcases List.mem_cons.mp hb with rfl | hb
        · exact hn1
        · cases hb
end PL

set_option Elab.async false
set_option linter.all false
set_option maxRecDepth 100000
set_option autoImplicit false
set_option maxHeartbeats 400000
namespace PL
open PySem PySem.Spec PyProof.Rows L2
def iEnumT (K : PySem.W.Frag) (ta : TA) : TI := fun σ H R => ta σ H fun vs H1 => ∃ a xs, vs = [.ref a] ∧ SqT K H1 a xs ∧ R (IteT K a) H1
theorem eval_call (id : Str) (p : Pos) (args : List Expr) (pos : Pos) (env : PySem.Env) : eval (.Call (.Name id p) args [] pos) env = (do
    callWith pos (← eval (.Name id p) env) [] (backTo pos (starEach args env)) []) := rfl
theorem pi_enumT {X : Cx} {e : Expr} {ta : TA} {p pos tpos : Pos} {elts : List Expr} {kk : Nat} (hg : Gl X "enumerate") (hm : X.mg "enumerate" = none) (ha : PA X [e] ta) (hs : starEach [e] X.env = [(false, eval e X.env)] := by rfl) :
    PI X (.Tuple elts kk tpos) (.Call (.Name "enumerate" p) [e] [] pos) (iEnumT X.K ta) where
  run := fun pins s σ H R I h => by
    rw [eval_call]
    refine wpAny_bind (ld_blt I hg hm (u := .type "enumerate") rfl ?_)
    have hs' : starEach [e] X.env = (false, eval e X.env) :: starEach [] X.env := by rw [hs]; rfl
    refine callWith_type1 (thn (ha.run pos pins s σ H _ I h) fun us s1 ⟨vs, H1, I1, hv, a, xs, e1, sq, hR⟩ => ?_) hs'
    subst e1
    cases hv with
    | cons r1 r2 =>
    cases r2
    skip
    have r1 : _ = Value.ref a := r1
    subst r1
    obtain ⟨its, vi, ht, hz⟩ := I1.tuple sq
    refine call_enum_tup ht fun h' g1 g2 g3 g4 => ?_
    refine wpAny_pyIter_enum g1 ?_
    have f1 := I1.fpOk (H' := H1) (b := s1.heap.objs.size) (Nat.le_refl _) (I1.hok.fresh (Nat.le_refl _))
    have f2 := I1.fpOk (H' := H1) (b := s1.heap.objs.size + 1) (Nat.le_succ _) (I1.hok.fresh (Nat.le_succ _))
    obtain ⟨k1, k2, k3, k4, k5, k6⟩ := id f1
    refine ⟨s1.heap.objs.size + 1, [s1.heap.objs.size + 1, s1.heap.objs.size], _, IteT X.K a, H1, rfl, I1.turned (t' := s1.toks) (fun b o _ e => g4 b o e) k1 k2 k4 k5 k6, turn_enumT a _ s1.heap.objs.size, ⟨⟨_, g1⟩, g2, Nat.succ_ne_self _⟩, fun b hb => ?_, hR⟩
    rcases List.mem_cons.mp hb with rfl | hb
    · exact f2
    · rcases List.mem_cons.mp hb with rfl | hb
      · exact f1
      · cases hb
end PL

set_option Elab.async false
set_option linter.all false
set_option maxRecDepth 100000
set_option autoImplicit false
set_option maxHeartbeats 400000
namespace PL
open PySem PySem.Spec PyProof.Rows L2
abbrev zmH1 (h : Heap) (a : Addr) : Heap := h.push { cls := .type "tuple_iterator", data := .fields #[.ref a, .int 0 0] }
abbrev zmH2 (h : Heap) (a b : Addr) : Heap := (zmH1 h a).push { cls := .type "list_iterator", data := .fields #[.ref b, .int 0 0] }
abbrev zmH3 (h : Heap) (a b : Addr) : Heap := (zmH2 h a b).push { cls := .type "tuple", data := .seq #[.ref h.objs.size, .ref (zmH1 h a).objs.size] }
abbrev zmH4 (h : Heap) (a b : Addr) : Heap := (zmH3 h a b).push { cls := .type "tuple", data := .seq #[.none, .none] }
abbrev zmH5 (h : Heap) (a b : Addr) : Heap := (zmH4 h a b).push { cls := .type "zip", data := .fields #[.none, .bool false, .bool false, .ref (zmH2 h a b).objs.size, .ref (zmH3 h a b).objs.size] }
theorem zip_new_tl (a b : Addr) (xs ys : Array Value) :
    Meets (Builtin.«zip.__new__» ⟨[.type "zip", .ref a, .ref b], []⟩) (fun _ R s => s.heap.IsTuple a xs ∧ s.heap.IsList b ys ∧
      R (.ok (.ret (.ref (zmH4 s.heap a b).objs.size))) { s with heap := zmH5 s.heap a b }) :=
  .of_wp fun prog w A R s h => by
    obtain ⟨hp, g, d, tk, os⟩ := s
    obtain ⟨ht, hl, h⟩ := h
    have hl1 : (zmH1 hp a).IsList b ys := by
      obtain ⟨o, ho, q⟩ := hl
      exact ⟨o, Heap.get?_push_of_some _ ho, q⟩
    wp_walk
    refine wpAny_of_eq (show isSubtype (.type "zip") (.type "zip") = pure true by rw [isSubtype_type]; kernel_rfl) ?_
    wp_walk using wpAny_pyIter_tuple ht, wpAny_pyIter_list hl1
    exact ⟨_, rfl, h⟩
end PL

set_option Elab.async false
set_option linter.all false
set_option maxRecDepth 100000
set_option autoImplicit false
set_option maxHeartbeats 400000
namespace PL
open PySem PySem.Spec PyProof.Rows L2
theorem call_zip_tl {prog : Program} {w : World} {A : Around} {E : Value → Shared → Prop} {s : Shared} {a b : Addr} {xs ys : Array Value} {Q : Value → Shared → Prop} (ht : s.heap.IsTuple a xs) (hl : s.heap.IsList b ys)
    (h : ∀ h', IsZip h' (s.heap.objs.size + 4) (s.heap.objs.size + 2) (s.heap.objs.size + 3) .none → IsTupOf2 h' (s.heap.objs.size + 2) (.ref s.heap.objs.size) (.ref (s.heap.objs.size + 1)) → IsTupOf2 h' (s.heap.objs.size + 3) .none .none → h'.IsTupleIter s.heap.objs.size a 0 → h'.IsListIter (s.heap.objs.size + 1) b 0 → (∀ c o, s.heap.get? c = some o → h'.get? c = some o) → Q (.ref (s.heap.objs.size + 4)) { s with heap := h' }) :
    wpAny (model prog w) A (call (.type "zip") [.ref a, .ref b]) Q E s := by
  have e1 : (zmH1 s.heap a).objs.size = s.heap.objs.size + 1 := Heap.size_push _ _
  have e2 : (zmH2 s.heap a b).objs.size = s.heap.objs.size + 2 := by rw [Heap.size_push, e1]
  have e3 : (zmH3 s.heap a b).objs.size = s.heap.objs.size + 3 := by rw [Heap.size_push, e2]
  have e4 : (zmH4 s.heap a b).objs.size = s.heap.objs.size + 4 := by rw [Heap.size_push, e3]
  have gz : (zmH5 s.heap a b).get? (s.heap.objs.size + 4) = some { cls := .type "zip", data := .fields #[.none, .bool false, .bool false, .ref (zmH2 s.heap a b).objs.size, .ref (zmH3 s.heap a b).objs.size] } := by
    rw [← e4]; exact Heap.get?_push_size _ rfl
  refine callType_new F.called_zip (by decide) (F.typeCall_zip_2 _ _) (F.newCall_zip_2 _ _) (fun obj => F.args_object_init_3 _ _ _) F.entry_zip_new (zip_new_tl a b xs ys) ⟨ht, hl, ?_⟩
  rw [e4]
  refine ⟨⟨_, gz, rfl⟩, h _ ?_ ?_ ?_ ?_ ?_ fun c o e => ?_⟩
  · rw [e2, e3] at gz; exact gz
  · have : (zmH3 s.heap a b).get? (s.heap.objs.size + 2) = some { cls := .type "tuple", data := .seq #[.ref s.heap.objs.size, .ref (zmH1 s.heap a).objs.size] } := by rw [← e2]; exact Heap.get?_push_size _ rfl
    rw [e1] at this
    exact Heap.get?_push_of_some _ (Heap.get?_push_of_some _ this)
  · have : (zmH4 s.heap a b).get? (s.heap.objs.size + 3) = some { cls := .type "tuple", data := .seq #[.none, .none] } := by rw [← e3]; exact Heap.get?_push_size _ rfl
    exact Heap.get?_push_of_some _ this
  · exact ⟨_, Heap.get?_push_of_some _ (Heap.get?_push_of_some _ (Heap.get?_push_of_some _ (Heap.get?_push_of_some _ (Heap.get?_push_size _ rfl)))), rfl, rfl⟩
  · have : (zmH2 s.heap a b).get? (s.heap.objs.size + 1) = some { cls := .type "list_iterator", data := .fields #[.ref b, .int 0 0] } := by rw [← e1]; exact Heap.get?_push_size _ rfl
    exact ⟨_, Heap.get?_push_of_some _ (Heap.get?_push_of_some _ (Heap.get?_push_of_some _ this)), rfl, rfl⟩
  · exact Heap.get?_push_of_some _ (Heap.get?_push_of_some _ (Heap.get?_push_of_some _ (Heap.get?_push_of_some _ (Heap.get?_push_of_some _ e))))
/-- zip of a tuple and a list -/
def ItzM (K : PySem.W.Frag) (a b : Addr) : L2.It := ⟨fun i H => ∃ (xs ys : List V) (x y : V), SqT K H a xs ∧ SqL K H b ys ∧ xs[i]? = some x ∧ ys[i]? = some y,
  fun i H v H' => ∃ T x y, v = .ref T ∧ H T = none ∧ H' = upd H T (.tup [x, y]) ∧ (∀ xs, SqT K H a xs → xs[i]? = some x) ∧ ∀ ys, SqL K H b ys → ys[i]? = some y,
  fun i H => ∃ xs ys : List V, SqT K H a xs ∧ SqL K H b ys ∧ (xs.length ≤ i ∨ ys.length ≤ i)⟩
theorem Draws.tupleFrom {prog : Program} {w : World} {A : Around} (hh : A.handled = none) (it a : Addr) (hne : a ≠ it) (items : Array Value) (k : Nat) :
    Draws prog w A it [it, a] (items.size - k) (fun j v => items[k + j]? = some v) (fun j h => h.IsTupleIter it a (k + j) ∧ h.IsTuple a items) where
  live := fun i h ⟨⟨o, ho, _⟩, _⟩ => ⟨o, ho⟩
  frame := fun i h h' ⟨x, o, ho, y⟩ hk => ⟨x.at fun o e => hk it (by simp) o e, ⟨o, hk a (by simp) o ho, y⟩⟩
  item := fun i s Q E hi ⟨h1, h2⟩ hq => by
    obtain ⟨x, hx⟩ : ∃ x, items[k + i]? = some x := ⟨items[k + i]'(by omega), Array.getElem?_eq_getElem (by omega)⟩
    refine nextOf_tup_item h1 h2 hx fun h' a1 b1 => hq x h' s.toks hx ⟨a1, ?_⟩ b1
    obtain ⟨o, ho, y⟩ := h2
    exact ⟨o, (b1.2 a hne).trans ho, y⟩
  done := fun s Q E ⟨h1, h2⟩ hq => nextOf_tup_end hh h1 h2 (Array.getElem?_eq_none (by omega)) hq
theorem Draws.listFrom {prog : Program} {w : World} {A : Around} (hh : A.handled = none) (it a : Addr) (hne : a ≠ it) (items : Array Value) (k : Nat) :
    Draws prog w A it [it, a] (items.size - k) (fun j v => items[k + j]? = some v) (fun j h => h.IsListIter it a (k + j) ∧ h.IsList a items) where
  live := fun i h ⟨⟨o, ho, _⟩, _⟩ => ⟨o, ho⟩
  frame := fun i h h' ⟨⟨o1, g1, y1⟩, o, ho, y⟩ hk => ⟨⟨o1, hk it (by simp) o1 g1, y1⟩, ⟨o, hk a (by simp) o ho, y⟩⟩
  item := fun i s Q E hi ⟨h1, h2⟩ hq => by
    obtain ⟨x, hx⟩ : ∃ x, items[k + i]? = some x := ⟨items[k + i]'(by omega), Array.getElem?_eq_getElem (by omega)⟩
    refine wpAny_nextOf_list_item h1 h2 hx fun h' a1 b1 => hq x h' s.toks hx ⟨a1, ?_⟩ b1
    obtain ⟨o, ho, y⟩ := h2
    exact ⟨o, (b1.2 a hne).trans ho, y⟩
  done := fun s Q E ⟨h1, h2⟩ hq => wpAny_nextOf_list_end hh h1 h2 (Array.getElem?_eq_none (by omega)) hq
theorem turn_zipM {P : Program} {w : World} {K : PySem.W.Frag} {elts : List Expr} {kk : Nat} {tpos : Pos} {a b z TI TO i1 i2 : Addr} (D : ZipSep2 z TI TO i1 i2 [i1, a] [i2, b]) (n1 : a ≠ i1) (n2 : b ≠ i2) : Turn P w K (.Tuple elts kk tpos) (ItzM K a b) [z, TI, TO, i1, i2] z (fun i h => IsZip h z TI TO .none ∧ IsTupOf2 h TI (.ref i1) (.ref i2) ∧ (∃ x y, IsTupOf2 h TO x y) ∧ h.IsTupleIter i1 a i ∧ h.IsListIter i2 b i) where
  mem := List.mem_cons_self
  obj := fun i h ⟨h1, h2, ⟨x, y, h3⟩, ⟨o4, q4, _, r4⟩, ⟨o5, q5, _, r5⟩⟩ c hc => by
    simp only [List.mem_cons, List.not_mem_nil, or_false] at hc
    rcases hc with rfl | rfl | rfl | rfl | rfl
    · exact ⟨_, h1, fun v z => nomatch z⟩
    · exact ⟨_, h2, fun v z => nomatch z⟩
    · exact ⟨_, h3, fun v z => nomatch z⟩
    · exact ⟨o4, q4, fun v z => by rw [r4] at z; cases z⟩
    · exact ⟨o5, q5, fun v z => by rw [r5] at z; cases z⟩
  keep := fun i h h' ⟨h1, h2, ⟨x, y, h3⟩, ⟨o4, q4, r4⟩, ⟨o5, q5, r5⟩⟩ hk => ⟨hk z (by simp) _ h1, hk TI (by simp) _ h2, ⟨x, y, hk TO (by simp) _ h3⟩, ⟨o4, hk i1 (by simp) _ q4, r4⟩, ⟨o5, hk i2 (by simp) _ q5, r5⟩⟩
  self := fun A i s Q E ⟨h1, _⟩ hq => wpAny_pyIter_zip h1 hq
  done := fun X hP hw hK hc i pins s σ H E I fo ⟨h1, h2, ⟨p, q, h3⟩, h4, h5⟩ hs => by
    subst hP hw hK
    obtain ⟨xs, ys, ha, hb, hl⟩ := hs
    obtain ⟨its, vi, ht, hz⟩ := I.tuple ha
    obtain ⟨jts, vj, hl2, hz2⟩ := I.list hb
    have hh : X.A.in1.handled = none := I.ok.hd hc
    have hb2 : s.heap.IsList b jts.toArray := hl2.isList
    have l1 := vi.length
    have l2 := vj.length
    have z1 : its.toArray.size = xs.length := by simp [l1]
    have z2 : jts.toArray.size = ys.length := by simp [l2]
    refine wpAny_pyNext_zipD2_end (i := 0) D (Draws.tupleFrom hh i1 a n1 its.toArray i) (Draws.listFrom hh i2 b n2 jts.toArray i) h1 h2 h3 ⟨h4, ht⟩ ⟨h5, hb2⟩ (Nat.zero_le _) (Nat.zero_le _) (by omega) fun h' tk e9 => ⟨rfl, ?_⟩
    exact I.turnedL (ch := [z, TO, i1, i2]) (fun c o hc e => by
      simp only [List.mem_cons, List.not_mem_nil, or_false, not_or] at hc
      obtain ⟨c1, c2, c3, c4⟩ := hc
      exact e9 c o c1 c2 c3 c4 e) (fun c hc => fo c (by
      simp only [List.mem_cons, List.not_mem_nil, or_false] at hc ⊢
      rcases hc with rfl | rfl | rfl | rfl
      · exact .inl rfl
      · exact .inr (.inr (.inl rfl))
      · exact .inr (.inr (.inr (.inl rfl)))
      · exact .inr (.inr (.inr (.inr rfl)))))
  item := fun X hP hw hK hc i pins s σ H E I fo ⟨h1, h2, ⟨p, q, h3⟩, h4, h5⟩ hg => by
    subst hP hw hK
    obtain ⟨xs, ys, x, y, ha, hb, hx, hy⟩ := hg
    obtain ⟨its, vi, ht, hz⟩ := I.tuple ha
    obtain ⟨jts, vj, hl2, hz2⟩ := I.list hb
    have hh : X.A.in1.handled = none := I.ok.hd hc
    have hb2 : s.heap.IsList b jts.toArray := hl2.isList
    obtain ⟨u1, hu1, ru1⟩ := vi.get hx
    obtain ⟨u2, hu2, ru2⟩ := vj.get hy
    have hi1 : i < its.toArray.size := by have := (List.getElem?_eq_some_iff.mp hu1).1; simpa using this
    have hi2 : i < jts.toArray.size := by have := (List.getElem?_eq_some_iff.mp hu2).1; simpa using this
    refine wpAny_pyNext_zipD2_item D (Draws.tuple hh i1 a n1 its.toArray) (Draws.list hh i2 b n2 jts.toArray) h1 h2 h3 ⟨h4, ht⟩ ⟨h5, hb2⟩ hi1 hi2 fun x1 x2 h' tk e1 e2 e3 e4 e5 e6 e7 e8 e9 => ?_
    have q1 : x1 = u1 := by
      have : its.toArray[i]? = some u1 := by simpa using hu1
      rw [this] at e1; cases e1; rfl
    have q2 : x2 = u2 := by
      have : jts.toArray[i]? = some u2 := by simpa using hu2
      rw [this] at e2; cases e2; rfl
    subst q1 q2
    refine ⟨_, rfl, wpAny_letOwnedTupleGo_zip e3 fun h'' e10 sb => ?_⟩
    have hT : H s.heap.objs.size = none := I.hok.fresh (Nat.le_refl _)
    have lt : ∀ c ∈ [z, TI, TO, i1, i2], c < s.heap.objs.size := fun c hc => by
      simp only [List.mem_cons, List.not_mem_nil, or_false] at hc
      rcases hc with rfl | rfl | rfl | rfl | rfl
      · exact Heap.lt_size h1
      · exact Heap.lt_size h2
      · exact Heap.lt_size h3
      · obtain ⟨o, ho, _⟩ := h4; exact Heap.lt_size ho
      · obtain ⟨o, ho, _⟩ := h5; exact Heap.lt_size ho
    have nz : s.heap.objs.size ≠ z := Nat.ne_of_gt (lt z (by simp))
    have tT : h''.get? s.heap.objs.size = some { cls := .type "tuple", data := .seq #[x1, x2] } := (sb.2 _ nz).trans e7
    have I1 : L2.Inv X pins σ (upd H s.heap.objs.size (.tup [x, y])) { s with heap := h'', toks := tk } :=
      I.turnedNew (ch := [z, TO, i1, i2]) (fun c o hc e => by
        simp only [List.mem_cons, List.not_mem_nil, or_false, not_or] at hc
        obtain ⟨c1, c2, c3, c4⟩ := hc
        exact (sb.2 c c1).trans (e9 c o c1 c2 c3 c4 e)) (fun c hc => fo c (by
        simp only [List.mem_cons, List.not_mem_nil, or_false] at hc ⊢
        rcases hc with rfl | rfl | rfl | rfl
        · exact .inl rfl
        · exact .inr (.inr (.inl rfl))
        · exact .inr (.inr (.inr (.inl rfl)))
        · exact .inr (.inr (.inr (.inr rfl))))) (Nat.le_refl _) ⟨(by show (2 : Nat) ≤ sizeLine; rw [sizeLine_eq]; decide), [x1, x2], .cons ru1 (.cons ru2 .nil), ⟨_, tT, rfl, _, rfl⟩⟩
    refine ⟨.ref s.heap.objs.size, _, I1, rfl, ⟨_, x, y, rfl, hT, rfl, fun xs' hx' => ?_, fun ys' hy' => ?_⟩, ⟨e10, ?_, ⟨x1, x2, ?_⟩, ?_, ?_⟩, fun c hc => ?_⟩
    · rw [I.tuple_inj hx' ha]; exact hx
    · rw [I.list_inj hy' hb]; exact hy
    · exact (sb.2 TI D.TIz).trans (e9 TI _ D.TIz D.TITO D.TIi1 D.TIi2 h2)
    · exact (sb.2 TO D.TOz).trans e4
    · obtain ⟨o, ho, r⟩ := e5.1
      exact ⟨o, (sb.2 i1 D.zi1.symm).trans ho, r⟩
    · obtain ⟨o, ho, r⟩ := e6.1
      exact ⟨o, (sb.2 i2 D.zi2.symm).trans ho, r⟩
    · rw [upd_ne (Nat.ne_of_lt (lt c hc))]
      exact (fo c hc).1
theorem nm2 {c d e : Nat} (h1 : c ≠ d) (h2 : c ≠ e) : c ∉ [d, e] := by
  intro h
  simp at h
  omega
theorem sep5 {N a b : Nat} (la : a < N) (lb : b < N) : ZipSep2 (N + 4) (N + 2) (N + 3) N (N + 1) [N, a] [N + 1, b] where
  TIz := show (N + 2 : Nat) ≠ N + 4 by omega
  TOz := show (N + 3 : Nat) ≠ N + 4 by omega
  TITO := show (N + 2 : Nat) ≠ N + 3 by omega
  TIi1 := show (N + 2 : Nat) ≠ N by omega
  mem1 := List.mem_cons_self
  zf1 := nm2 (show (N + 4 : Nat) ≠ N by omega) (show (N + 4 : Nat) ≠ a by omega)
  Tf1 := nm2 (show (N + 3 : Nat) ≠ N by omega) (show (N + 3 : Nat) ≠ a by omega)
  TIi2 := show (N + 2 : Nat) ≠ N + 1 by omega
  mem2 := List.mem_cons_self
  zf2 := nm2 (show (N + 4 : Nat) ≠ N + 1 by omega) (show (N + 4 : Nat) ≠ b by omega)
  Tf2 := nm2 (show (N + 3 : Nat) ≠ N + 1 by omega) (show (N + 3 : Nat) ≠ b by omega)
  sep1_2 := nm2 (show (N : Nat) ≠ N + 1 by omega) (show (N : Nat) ≠ b by omega)
  sep2_1 := nm2 (show (N + 1 : Nat) ≠ N by omega) (show (N + 1 : Nat) ≠ a by omega)
theorem five {N c : Nat} (h : c ∈ [N + 4, N + 2, N + 3, N, N + 1]) : N ≤ c := by
  simp at h
  omega
/-- zip of two lists, two tuples, a tuple and a list -/
def iZipM (K : PySem.W.Frag) (ta : TA) : TI := fun σ H R => ta σ H fun vs H1 => ∃ a b xs ys, vs = [.ref a, .ref b] ∧ SqT K H1 a xs ∧ SqL K H1 b ys ∧ R (ItzM K a b) H1
theorem pi_zipM {X : Cx} {e e2 : Expr} {ta : TA} {p pos tpos : Pos} {elts : List Expr} {kk : Nat} (hg : Gl X "zip") (hm : X.mg "zip" = none) (ha : PA X [e, e2] ta) (hs : starEach [e, e2] X.env = (false, eval e X.env) :: starEach [e2] X.env := by rfl) (hpl : (backTo pos (starEach [e2] X.env)).any (·.1) = false := by rfl) :
    PI X (.Tuple elts kk tpos) (.Call (.Name "zip" p) [e, e2] [] pos) (iZipM X.K ta) where
  run := fun pins s σ H R I h => by
    rw [eval_call]
    refine wpAny_bind (ld_blt I hg hm (u := .type "zip") rfl ?_)
    refine callWith_type1 (thn (ha.run pos pins s σ H _ I h) fun us s1 ⟨vs, H1, I1, hv, a, b, xs, ys, e1, sq, sq2, hR⟩ => ?_) hs hpl
    subst e1
    cases hv with
    | cons r1 r2 =>
    cases r2 with
    | cons r2 r3 =>
    cases r3
    skip
    have r1 : _ = Value.ref a := r1
    have r2 : _ = Value.ref b := r2
    subst r1 r2
    obtain ⟨its, vi, ht, hz⟩ := I1.tuple sq
    obtain ⟨jts, vj, hl, hz2⟩ := I1.list sq2
    have hb : s1.heap.IsList b jts.toArray := hl.isList
    have la : a < s1.heap.objs.size := by obtain ⟨o, ho, _⟩ := ht; exact Heap.lt_size ho
    have lb : b < s1.heap.objs.size := by obtain ⟨o, ho, _⟩ := hb; exact Heap.lt_size ho
    refine call_zip_tl ht hb fun h' g1 g2 g3 g4 g5 g6 => ?_
    refine wpAny_pyIter_zip g1 ?_
    have fp : ∀ c, s1.heap.objs.size ≤ c → FpOk X pins H1 c := fun c hc => I1.fpOk (H' := H1) hc (I1.hok.fresh hc)
    have I2 : L2.Inv X pins σ H1 { s1 with heap := h' } := I1.turnedL (t' := s1.toks) (ch := []) (fun c o _ e => g6 c o e) (fun c hc => by cases hc)
    generalize s1.heap.objs.size = N at g1 g2 g3 g4 g5 la lb fp
    exact ⟨N + 4, [N + 4, N + 2, N + 3, N, N + 1], _, ItzM X.K a b, H1, rfl, I2, turn_zipM (sep5 la lb) (Nat.ne_of_lt la) (Nat.ne_of_lt (Nat.lt_succ_of_lt lb)), ⟨g1, g2, ⟨_, _, g3⟩, g4, g5⟩, fun c hc => fp c (five hc), hR⟩
end PL

set_option Elab.async false
set_option linter.all false
set_option maxRecDepth 100000
set_option autoImplicit false
set_option maxHeartbeats 400000
namespace PL
open PySem PySem.Spec PyProof.Rows L2
/-! ### over d.keys() -/
def iKeysT (td : TE) : TI := fun σ H R => tMG0 tyDic rKeys td σ H fun v H1 => ∃ p d o kvs H2, v = .ref p ∧ H2 p = none ∧ H1 = upd H2 p (KV p d) ∧ H2 d = some (.frz o (.dT kvs)) ∧ R (Itkt d o kvs) H2
theorem pi_keysT {X : Cx} {tg e : Expr} {td : TE} {apos cpos : Pos} (he : PE X e td) (hbase : attributeBase e "keys" X.env (eval e X.env) = eval e X.env := by rfl) (hline : (apos.endLine == cpos.line) = true := by rfl) :
    PI X tg (.Call (.Attribute e "keys" apos) [] [] cpos) (iKeysT td) where
  run := fun pins s σ H R I h => by
    refine thn ((pe_mG0 (ty := tyDic) (r := rKeys) ty_dic F.plainAttrs_dict F.slot_dict_keys F.type_dict_keys mt_keys he hbase hline).run pins s σ H _ I h) fun u s1 ⟨x, H1, I1, r1, p, d, o, kvs, H2, e1, n, e2, hd, q⟩ => ?_
    subst e1 e2
    cases r1
    have hv := view_at I1 (p := p) (d := d) upd_same
    have I2 := Inv.forget I1 n
    obtain ⟨z, e1, ex, es, ep, e2, e3, e4⟩ := I2.frzT hd
    refine wpAny_pyIter_keys_raw hv ⟨o, e1, ex, e2⟩ (pi_one (tk := s1.toks) I2 _ (turn_keysT _ e2) ⟨_, Heap.get?_push_size _ rfl, rfl, ?_⟩ q)
    rw [e3]; rfl
section
variable {C : Ctx} {σ : VS} {env : Env'} {r : D} {Z H : Hp} {R : L2.It → Hp → Prop}
theorem pi_or {X : Cx} {tg iter : Expr} {t u : TI} (h : PI X tg iter t) (k : PI X tg iter u) : PI X tg iter (fun σ H R => t σ H R ∨ u σ H R) where
  run := fun pins s σ H R I q => q.elim (h.run pins s σ H R I) (k.run pins s σ H R I)
theorem wk_keys (s : StOk C Z H σ env r) {d : Addr} {o : Obj} {kvs : List (List Key × V)} {ks : List (List Int)} (hd : H d = some (.frz o (.dT kvs))) (no : ¬ Own C σ env d) (ek : kvs.map (·.1) = ks.map kI) :
    Wk C.K (Own C σ env) Z H (Itkt d o kvs) (ks.map tI) where
  go := fun i d' O1 Z1 H1 h x zh => by
    have h1 : H1 d = some (.frz o (.dT kvs)) := x.h _ _ hd no
    rw [List.getElem?_map] at h
    obtain ⟨k, hk, rfl⟩ := Option.map_eq_some_iff.mp h
    have hl : i < kvs.length := by
      have e := congrArg List.length ek
      rw [List.length_map, List.length_map] at e
      rw [e]; exact (List.getElem?_eq_some_iff.mp hk).1
    refine ⟨⟨h1, hl⟩, fun y H2 q => ?_⟩
    obtain ⟨q1, k', v, p, q2, q3, q4⟩ := q
    have e1 : (kvs.map (·.1))[i]? = some k' := by rw [List.getElem?_map, q2]; rfl
    rw [ek, List.getElem?_map, hk] at e1
    have e1 : kI k = k' := by simpa using e1
    subst e1
    rw [kV_kI] at q4
    exact .inr (.inr ⟨q1, p, k, q3, rfl, q4⟩)
  stop := fun i O1 Z1 H1 h x zh => by
    refine ⟨x.h _ _ hd no, ?_⟩
    have e := congrArg List.length ek
    rw [List.length_map, List.length_map] at e
    rw [List.length_map] at h
    omega
theorem ri_keys {i : Nat} (h : rdI C (.keys (.loc i)) σ H R) (hl : ∃ d o kvs, σ[i]? = some (some (.ref d)) ∧ H d = some (.frz o (.dT kvs))) : iKeysT (tVar i) σ H R := by
  obtain ⟨Z, env, r, s, h⟩ := h
  unfold evIt evE at h
  obtain ⟨d, o, kvs, e1, e2⟩ := hl
  cases e : env[i]? with
  | none => rw [e] at h; exact h.elim
  | some sl =>
    rw [e] at h
    cases sl with
    | fr x =>
      obtain ⟨v, k1, k2⟩ := s.fr i x e
      rw [e1] at k1
      cases k1
      cases x with
      | dic es =>
        obtain ⟨d', kvs', g1, g2, g3⟩ := (RepH.dic (.inl k2 : RepH C.K Z H _ _)) s.zh
        cases g1
        have g4 : kvs' = kvs := by
          rcases g2 with g2 | ⟨o', g2⟩
          · rw [e2] at g2; cases g2
          · rw [e2] at g2; cases g2; rfl
        subst g4
        have no : ¬ Own C σ env d := fun q => by
          obtain ⟨zn, _⟩ := s.ownZ q
          cases k2 with
          | dic z _ => rw [zn] at z; cases z
        refine ⟨_, e1, ⟨d, kvs', rfl, .inr ⟨o, e2⟩⟩, d, kvs', rfl, rfl, .inr ⟨o, e2⟩, fun p hp => ⟨p, d, o, kvs', H, rfl, hp, rfl, e2, ?_⟩⟩
        exact h _ Z H s Ext.refl (wk_keys s e2 no (repD_keys g3))
      | _ => exact h.elim
    | _ => exact h.elim
end
end PL

set_option Elab.async false
set_option linter.all false
set_option maxRecDepth 100000
set_option autoImplicit false
set_option maxHeartbeats 400000
namespace PL
open PySem PySem.Spec PyProof.Rows L2
theorem enumD_get : ∀ (ds : List D) (n i : Nat), (enumD n ds)[i]? = ds[i]?.map fun d => .tup [.int ((n + i : Nat) : Int), d]
  | [], n, i => by unfold enumD; rfl
  | d :: ds, n, 0 => by unfold enumD; rfl
  | d :: ds, n, i + 1 => by
    unfold enumD
    rw [List.getElem?_cons_succ, List.getElem?_cons_succ, enumD_get ds (n + 1) i]
    have e : n + 1 + i = n + (i + 1) := by omega
    rw [e]
theorem enumD_len : ∀ (ds : List D) (n : Nat), (enumD n ds).length = ds.length
  | [], n => by unfold enumD; rfl
  | d :: ds, n => by unfold enumD; rw [List.length_cons, List.length_cons, enumD_len ds]
theorem zipD_get : ∀ (ds es : List D) (i : Nat) (z : D), (zipD ds es)[i]? = some z → ∃ d e, ds[i]? = some d ∧ es[i]? = some e ∧ z = .tup [d, e]
  | [], es, i, z, h => by unfold zipD at h; cases h
  | d :: ds, [], i, z, h => by unfold zipD at h; cases h
  | d :: ds, e :: es, 0, z, h => by
    unfold zipD at h
    have h : D.tup [d, e] = z := by simpa using h
    exact ⟨d, e, rfl, rfl, h.symm⟩
  | d :: ds, e :: es, i + 1, z, h => by
    unfold zipD at h
    rw [List.getElem?_cons_succ] at h
    exact zipD_get ds es i z h
theorem zipD_len : ∀ (ds es : List D), (zipD ds es).length = min ds.length es.length
  | [], es => by unfold zipD; simp
  | d :: ds, [] => by unfold zipD; simp
  | d :: ds, e :: es => by
    unfold zipD
    rw [List.length_cons, List.length_cons, List.length_cons, zipD_len ds es]; omega
section
variable {C : Ctx} {σ : VS} {env : Env'} {r : D} {Z H : Hp} {R : L2.It → Hp → Prop}
theorem rep_pair {K : PySem.W.Frag} {Z H : Hp} (zh : SameF Z H) {T : Addr} {x y : V} {d e : D} (n : H T = none) (hx : Rep K Z x d) (hy : Rep K Z y e) : Rep K (upd Z T (.tup [x, y])) (.ref T) (.tup [d, e]) :=
  have m : Same Z (upd Z T (.tup [x, y])) := same_upd (zh.dom n)
  .tup upd_same (.cons (hx.mono m) (.cons (hy.mono m) .nil))
theorem wk_enumL {a : Addr} {xs : List V} {ds : List D} (h : Z a = some (.lst xs)) (q : Reps C.K Z xs ds) : Wk C.K (Own C σ env) Z H (Ite C.K a) (enumD 0 ds) where
  go := fun i d O1 Z1 H1 hd x zh => by
    rw [enumD_get, Nat.zero_add] at hd
    obtain ⟨d', hd', rfl⟩ := Option.map_eq_some_iff.mp hd
    obtain ⟨v, hv, rv⟩ := q.get hd'
    have h1 : H1 a = some (.lst xs) := zh.lst (x.z _ _ h)
    refine ⟨⟨xs, v, SqL.of h1, hv⟩, fun y H2 q2 => ?_⟩
    obtain ⟨T, w, q3, q4, q5, q6⟩ := q2
    have := q6 xs (SqL.of h1)
    rw [hv] at this; cases this
    subst q3
    exact .inr (.inl ⟨T, _, q4, q5, rep_pair zh q4 (.int _) (rv.mono x.z)⟩)
  stop := fun i O1 Z1 H1 hi x zh => ⟨xs, SqL.of (zh.lst (x.z _ _ h)), by rw [q.length]; rw [enumD_len] at hi; exact hi⟩
theorem wk_enumT {a : Addr} {xs : List V} {ds : List D} (h : Z a = some (.tup xs)) (q : Reps C.K Z xs ds) : Wk C.K (Own C σ env) Z H (IteT C.K a) (enumD 0 ds) where
  go := fun i d O1 Z1 H1 hd x zh => by
    rw [enumD_get, Nat.zero_add] at hd
    obtain ⟨d', hd', rfl⟩ := Option.map_eq_some_iff.mp hd
    obtain ⟨v, hv, rv⟩ := q.get hd'
    have h1 : H1 a = some (.tup xs) := zh.tup (x.z _ _ h)
    refine ⟨⟨xs, v, SqT.of h1, hv⟩, fun y H2 q2 => ?_⟩
    obtain ⟨T, w, q3, q4, q5, q6⟩ := q2
    have := q6 xs (SqT.of h1)
    rw [hv] at this; cases this
    subst q3
    exact .inr (.inl ⟨T, _, q4, q5, rep_pair zh q4 (.int _) (rv.mono x.z)⟩)
  stop := fun i O1 Z1 H1 hi x zh => ⟨xs, SqT.of (zh.tup (x.z _ _ h)), by rw [q.length]; rw [enumD_len] at hi; exact hi⟩
theorem wk_zipL {a b : Addr} {xs ys : List V} {ds es : List D} (h : Z a = some (.lst xs)) (h' : Z b = some (.lst ys)) (q : Reps C.K Z xs ds) (q' : Reps C.K Z ys es) : Wk C.K (Own C σ env) Z H (Itz C.K a b) (zipD ds es) where
  go := fun i d O1 Z1 H1 hd x zh => by
    obtain ⟨d1, d2, g1, g2, rfl⟩ := zipD_get _ _ _ _ hd
    obtain ⟨v, hv, rv⟩ := q.get g1
    obtain ⟨v', hv', rv'⟩ := q'.get g2
    have h1 : H1 a = some (.lst xs) := zh.lst (x.z _ _ h)
    have h2 : H1 b = some (.lst ys) := zh.lst (x.z _ _ h')
    refine ⟨⟨xs, ys, v, v', SqL.of h1, SqL.of h2, hv, hv'⟩, fun y H2 q2 => ?_⟩
    obtain ⟨T, w, w', q3, q4, q5, q6, q7⟩ := q2
    have e1 := q6 xs (SqL.of h1)
    rw [hv] at e1; cases e1
    have e2 := q7 ys (SqL.of h2)
    rw [hv'] at e2; cases e2
    subst q3
    exact .inr (.inl ⟨T, _, q4, q5, rep_pair zh q4 (rv.mono x.z) (rv'.mono x.z)⟩)
  stop := fun i O1 Z1 H1 hi x zh => ⟨xs, ys, SqL.of (zh.lst (x.z _ _ h)), SqL.of (zh.lst (x.z _ _ h')), by rw [q.length, q'.length]; rw [zipD_len] at hi; omega⟩
theorem wk_zipT {a b : Addr} {xs ys : List V} {ds es : List D} (h : Z a = some (.tup xs)) (h' : Z b = some (.tup ys)) (q : Reps C.K Z xs ds) (q' : Reps C.K Z ys es) : Wk C.K (Own C σ env) Z H (RZ.ItzT C.K a b) (zipD ds es) where
  go := fun i d O1 Z1 H1 hd x zh => by
    obtain ⟨d1, d2, g1, g2, rfl⟩ := zipD_get _ _ _ _ hd
    obtain ⟨v, hv, rv⟩ := q.get g1
    obtain ⟨v', hv', rv'⟩ := q'.get g2
    have h1 : H1 a = some (.tup xs) := zh.tup (x.z _ _ h)
    have h2 : H1 b = some (.tup ys) := zh.tup (x.z _ _ h')
    refine ⟨⟨xs, ys, v, v', SqT.of h1, SqT.of h2, hv, hv'⟩, fun y H2 q2 => ?_⟩
    obtain ⟨T, w, w', q3, q4, q5, q6, q7⟩ := q2
    have e1 := q6 xs (SqT.of h1)
    rw [hv] at e1; cases e1
    have e2 := q7 ys (SqT.of h2)
    rw [hv'] at e2; cases e2
    subst q3
    exact .inr (.inl ⟨T, _, q4, q5, rep_pair zh q4 (rv.mono x.z) (rv'.mono x.z)⟩)
  stop := fun i O1 Z1 H1 hi x zh => ⟨xs, ys, SqT.of (zh.tup (x.z _ _ h)), SqT.of (zh.tup (x.z _ _ h')), by rw [q.length, q'.length]; rw [zipD_len] at hi; omega⟩
theorem ri_enum {e : E} (b : isB e = false) (h : rdI C (.enum e) σ H R) : iEnum C.K (tCons (rdE C e) tNil) σ H R ∨ iEnumT C.K (tCons (rdE C e) tNil) σ H R := by
  obtain ⟨Z, env, r, s, h⟩ := h
  unfold evIt at h
  cases ee : evE C.cl e env r with
  | no => rw [ee] at h; exact h.elim
  | ex c d =>
    rw [ee] at h
    exact .inl ⟨Z, env, r, s, by rw [ee]; exact h⟩
  | ok p =>
    obtain ⟨x, r1⟩ := p
    rw [ee] at h
    cases x with
    | lst ds =>
      refine .inl ⟨Z, env, r, s, ?_⟩
      rw [ee]
      intro v Z1 H1 s1 x1 res
      obtain ⟨Z2, s2, x2, rep, _⟩ := res.keep b s s1 x1
      cases rep with
      | lst k ra => exact ⟨_, _, rfl, SqL.of (s2.zh.lst k), h _ Z2 H1 s2 x2 (wk_enumL k ra)⟩
    | tup ds =>
      refine .inr ⟨Z, env, r, s, ?_⟩
      rw [ee]
      intro v Z1 H1 s1 x1 res
      obtain ⟨Z2, s2, x2, rep, _⟩ := res.keep b s s1 x1
      cases rep with
      | tup k ra => exact ⟨_, _, rfl, SqT.of (s2.zh.tup k), h _ Z2 H1 s2 x2 (wk_enumT k ra)⟩
    | _ => exact h.elim
theorem wk_zipM {a b : Addr} {xs ys : List V} {ds es : List D} (h : Z a = some (.tup xs)) (h' : Z b = some (.lst ys)) (q : Reps C.K Z xs ds) (q' : Reps C.K Z ys es) : Wk C.K (Own C σ env) Z H (ItzM C.K a b) (zipD ds es) where
  go := fun i d O1 Z1 H1 hd x zh => by
    obtain ⟨d1, d2, g1, g2, rfl⟩ := zipD_get _ _ _ _ hd
    obtain ⟨v, hv, rv⟩ := q.get g1
    obtain ⟨v', hv', rv'⟩ := q'.get g2
    have h1 : H1 a = some (.tup xs) := zh.tup (x.z _ _ h)
    have h2 : H1 b = some (.lst ys) := zh.lst (x.z _ _ h')
    refine ⟨⟨xs, ys, v, v', SqT.of h1, SqL.of h2, hv, hv'⟩, fun y H2 q2 => ?_⟩
    obtain ⟨T, w, w', q3, q4, q5, q6, q7⟩ := q2
    have e1 := q6 xs (SqT.of h1)
    rw [hv] at e1; cases e1
    have e2 := q7 ys (SqL.of h2)
    rw [hv'] at e2; cases e2
    subst q3
    exact .inr (.inl ⟨T, _, q4, q5, rep_pair zh q4 (rv.mono x.z) (rv'.mono x.z)⟩)
  stop := fun i O1 Z1 H1 hi x zh => ⟨xs, ys, SqT.of (zh.tup (x.z _ _ h)), SqL.of (zh.lst (x.z _ _ h')), by rw [q.length, q'.length]; rw [zipD_len] at hi; omega⟩
theorem ri_zip {a b : E} (ba : isB a = false) (bb : isB b = false) (h : rdI C (.zip a b) σ H R) : RZ.iZipA C.K (tCons (rdE C a) (tCons (rdE C b) tNil)) σ H R ∨ iZipM C.K (tCons (rdE C a) (tCons (rdE C b) tNil)) σ H R := by
  obtain ⟨Z, env, r, s, h⟩ := h
  unfold evIt at h
  by_cases hM : ∃ ds r1 es r2, evE C.cl a env r = .ok (.tup ds, r1) ∧ evE C.cl b env r1 = .ok (.lst es, r2)
  · obtain ⟨ds, r1, es, r2, ea, eb⟩ := hM
    refine .inr ⟨Z, env, r, s, (Post.bind h).mono fun p ep q => ?_⟩
    rw [ea] at ep; cases ep
    intro v Z1 H1 s1 x1 res
    obtain ⟨Z2, s2, x2, rep, _⟩ := res.keep ba s s1 x1
    refine ⟨Z2, env, r1, s2, (Post.bind q).mono fun p ep2 q => ?_⟩
    rw [eb] at ep2; cases ep2
    intro w Z3 H3 s3 x3 res2
    obtain ⟨Z4, s4, x4, rep2, z4⟩ := res2.keep bb s2 s3 x3
    have rep := rep.mono x4.z
    cases rep with
    | tup k ra =>
      cases rep2 with
      | lst k2 ra2 => exact ⟨_, _, _, _, rfl, SqT.of (s4.zh.tup k), SqL.of (s4.zh.lst k2), q _ Z4 H3 s4 (x2.trans x4) (wk_zipM k k2 ra ra2)⟩
  · refine .inl ⟨Z, env, r, s, (Post.bind h).mono fun p ep q => ?_⟩
    obtain ⟨x, r1⟩ := p
    intro v Z1 H1 s1 x1 res
    obtain ⟨Z2, s2, x2, rep, _⟩ := res.keep ba s s1 x1
    refine ⟨Z2, env, r1, s2, (Post.bind q).mono fun p ep2 q => ?_⟩
    obtain ⟨y, r2⟩ := p
    intro w Z3 H3 s3 x3 res2
    obtain ⟨Z4, s4, x4, rep2, z4⟩ := res2.keep bb s2 s3 x3
    have rep := rep.mono x4.z
    dsimp only at q
    split at q
    · cases rep with
      | lst k ra =>
        cases rep2 with
        | lst k2 ra2 => exact ⟨_, _, _, _, rfl, .inl ⟨SqL.of (s4.zh.lst k), SqL.of (s4.zh.lst k2), q _ Z4 H3 s4 (x2.trans x4) (wk_zipL k k2 ra ra2)⟩⟩
    · cases rep with
      | tup k ra =>
        cases rep2 with
        | tup k2 ra2 => exact ⟨_, _, _, _, rfl, .inr ⟨SqT.of (s4.zh.tup k), SqT.of (s4.zh.tup k2), q _ Z4 H3 s4 (x2.trans x4) (wk_zipT k k2 ra ra2)⟩⟩
    · exact absurd ⟨_, _, _, _, ep, ep2⟩ hM
    · exact q.elim
/-- what is drawn is kept -/
theorem Wk.draw {J : L2.It} {ds : List D} {Z0 H0 : Hp} {O0 : Addr → Prop} (w : Wk C.K O0 Z0 H0 J ds) (s : StOk C Z H σ env r) (x : Ext O0 Z0 H0 (Own C σ env) Z H) {i : Nat} {d : D} (hd : ds[i]? = some d) :
    J.go i H ∧ ∀ v H2, J.yld i H v H2 → ∃ Z2, StOk C Z2 H2 σ env r ∧ Ext (Own C σ env) Z H (Own C σ env) Z2 H2 ∧ Rep C.K Z2 v d := by
  obtain ⟨h1, h2⟩ := w.go i d _ Z H hd x s.zh
  refine ⟨h1, fun v H2 q => ?_⟩
  rcases h2 v H2 q with ⟨rfl, rep⟩ | ⟨p, u, n, rfl, rep⟩ | ⟨rfl, p, ns, rfl, rfl, e⟩
  · exact ⟨Z, s, Ext.refl, rep⟩
  · obtain ⟨s2, x2⟩ := s.allocF u n
    exact ⟨_, s2, x2, rep⟩
  · obtain ⟨Z2, s2, x2, _, k⟩ := s.tupsF (fun a => a = p) fun a z => by subst z; exact ⟨_, e⟩
    exact ⟨Z2, s2, x2, .tup (k p _ rfl e) (.of_ints _)⟩
end
end PL

set_option Elab.async false
set_option linter.all false
set_option maxRecDepth 100000
set_option autoImplicit false
set_option maxHeartbeats 400000
namespace PL
open PySem PySem.Spec PyProof.Rows L2
section
variable {C : Ctx} {σ σ2 : VS} {env env2 : Env'} {r r' : D} {Z H Z' H' : Hp}
theorem get_set {α : Type} (l : List α) (i j : Nat) (x : α) : (l.set i x)[j]? = if i = j then (if i < l.length then some x else none) else l[j]? := List.getElem?_set
theorem getE_set {l : Env'} {i j : Nat} {x y : Sl} (h : (l.set i x)[j]? = some y) : (i = j ∧ y = x ∧ i < l.length) ∨ (i ≠ j ∧ l[j]? = some y) := by
  rw [get_set] at h
  by_cases e : i = j
  · rw [if_pos e] at h
    by_cases hl : i < l.length
    · rw [if_pos hl] at h; cases h; exact .inl ⟨e, rfl, hl⟩
    · rw [if_neg hl] at h; cases h
  · rw [if_neg e] at h; exact .inr ⟨e, h⟩
/-- a slot takes a kept value -/
theorem StOk.setF (s : StOk C Z H σ env r) {i : Nat} {v : V} {d : D} (rep : Rep C.K Z v d) (nr : C.rs ≠ some i) :
    StOk C Z H (σ.set i (some v)) (env.set i (.fr d)) r ∧ Ext (Own C σ env) Z H (Own C (σ.set i (some v)) (env.set i (.fr d))) Z H := by
  have own : ∀ b, Own C (σ.set i (some v)) (env.set i (.fr d)) b → Own C σ env b := fun b h => by
    rcases h with ⟨j, x, h1, h2⟩ | ⟨j, h1, h2⟩
    · rcases getE_set h1 with ⟨_, q, _⟩ | ⟨ne, q⟩
      · cases q
      · rw [get_set, if_neg ne] at h2
        exact .inl ⟨j, x, q, h2⟩
    · have ne : i ≠ j := fun z => nr (by rw [z]; exact h1)
      rw [get_set, if_neg ne] at h2
      exact .inr ⟨j, h1, h2⟩
  have x : Ext (Own C σ env) Z H (Own C (σ.set i (some v)) (env.set i (.fr d))) Z H := ⟨Same.refl _, fun _ _ e _ => e, fun _ _ _ _ _ => rfl, fun _ _ e => ⟨_, e⟩, fun b h => .inl (own b h)⟩
  refine ⟨⟨s.zh, by rw [List.length_set, List.length_set]; exact s.len, fun j e q => ?_, fun j e q => ?_, fun j k e e' a q1 q2 q3 q4 => ?_, fun j q => ?_, s.norow, s.ent.trans x⟩, x⟩
  · rcases getE_set q with ⟨z, q1, hl⟩ | ⟨ne, q⟩
    · cases q1
      rw [get_set, if_pos z, if_pos (by rw [← s.len]; exact hl)]
      exact ⟨v, rfl, rep⟩
    · rw [get_set, if_neg ne]; exact s.fr j e q
  · rcases getE_set q with ⟨_, q1, _⟩ | ⟨ne, q⟩
    · cases q1
    · rw [get_set, if_neg ne]; exact s.ow j e q
  · rcases getE_set q1 with ⟨_, q1, _⟩ | ⟨ne, q1⟩
    · cases q1
    rcases getE_set q2 with ⟨_, q2, _⟩ | ⟨ne', q2⟩
    · cases q2
    rw [get_set, if_neg ne] at q3
    rw [get_set, if_neg ne'] at q4
    exact s.sep j k e e' a q1 q2 q3 q4
  · have ne : i ≠ j := fun z => nr (by rw [z]; exact q)
    rw [get_set, if_neg ne, get_set, if_neg ne]
    obtain ⟨k1, k2⟩ := s.row j q
    refine ⟨k1, k2.imp_right ?_⟩
    rintro ⟨a, h1, h2, h3, h4, h5, h6⟩
    refine ⟨a, h1, h2, h3, h4, h5, fun k e q1 => ?_⟩
    rcases getE_set q1 with ⟨_, q1, _⟩ | ⟨ne', q1⟩
    · cases q1
    · rw [get_set, if_neg ne']; exact h6 k e q1
/-- a slot takes an object of its own -/
theorem StOk.setO (s : StOk C Z H σ env r) {i : Nat} {p : Addr} {d : D} (n : Z p = none) (o : Ob C.K Z H p d) (no : ¬ Own C σ env p) (n0 : C.H0 p = none) (nr : C.rs ≠ some i) :
    StOk C Z H (σ.set i (some (.ref p))) (env.set i (.ow d)) r := by
  have own : ∀ b, Own C (σ.set i (some (.ref p))) (env.set i (.ow d)) b → Own C σ env b ∨ b = p := fun b h => by
    rcases h with ⟨j, x, h1, h2⟩ | ⟨j, h1, h2⟩
    · rcases getE_set h1 with ⟨z, q, hl⟩ | ⟨ne, q⟩
      · subst z
        rw [get_set, if_pos rfl, if_pos (by rw [← s.len]; exact hl)] at h2
        cases h2; exact .inr rfl
      · rw [get_set, if_neg ne] at h2
        exact .inl (.inl ⟨j, x, q, h2⟩)
    · have ne : i ≠ j := fun z => nr (by rw [z]; exact h1)
      rw [get_set, if_neg ne] at h2
      exact .inl (.inr ⟨j, h1, h2⟩)
  refine ⟨s.zh, by rw [List.length_set, List.length_set]; exact s.len, fun j e q => ?_, fun j e q => ?_, fun j k e e' a q1 q2 q3 q4 => ?_, fun j q => ?_, s.norow, ⟨s.ent.z, s.ent.h, s.ent.n, s.ent.d, fun b h => ?_⟩⟩
  · rcases getE_set q with ⟨_, q1, _⟩ | ⟨ne, q⟩
    · cases q1
    · rw [get_set, if_neg ne]; exact s.fr j e q
  · rcases getE_set q with ⟨z, q1, hl⟩ | ⟨ne, q⟩
    · cases q1
      rw [get_set, if_pos z, if_pos (by rw [← s.len]; exact hl)]
      exact ⟨p, rfl, n, o⟩
    · rw [get_set, if_neg ne]; exact s.ow j e q
  · rcases getE_set q1 with ⟨z, q1, hl⟩ | ⟨ne, q1⟩
    · subst z
      rw [get_set, if_pos rfl, if_pos (by rw [← s.len]; exact hl)] at q3
      cases q3
      rcases getE_set q2 with ⟨z, _, _⟩ | ⟨ne', q2⟩
      · exact z
      · rw [get_set, if_neg ne'] at q4
        exact absurd (.inl ⟨k, e', q2, q4⟩) no
    · rw [get_set, if_neg ne] at q3
      rcases getE_set q2 with ⟨z, q2, hl⟩ | ⟨ne', q2⟩
      · subst z
        rw [get_set, if_pos rfl, if_pos (by rw [← s.len]; exact hl)] at q4
        cases q4
        exact absurd (.inl ⟨j, e, q1, q3⟩) no
      · rw [get_set, if_neg ne'] at q4
        exact s.sep j k e e' a q1 q2 q3 q4
  · have ne : i ≠ j := fun z => nr (by rw [z]; exact q)
    rw [get_set, if_neg ne, get_set, if_neg ne]
    obtain ⟨k1, k2⟩ := s.row j q
    refine ⟨k1, k2.imp_right ?_⟩
    rintro ⟨a, h1, h2, h3, h4, h5, h6⟩
    refine ⟨a, h1, h2, h3, h4, h5, fun k e q1 => ?_⟩
    rcases getE_set q1 with ⟨z, _, hl⟩ | ⟨ne', q1⟩
    · subst z
      rw [get_set, if_pos rfl, if_pos (by rw [← s.len]; exact hl)]
      intro z; cases z
      exact no (.inr ⟨j, q, h2⟩)
    · rw [get_set, if_neg ne']; exact h6 k e q1
  · rcases own b h with h | rfl
    · exact s.ent.o b h
    · exact .inr n0
/-- an object that no slot owns is written -/
theorem StOk.poke (s : StOk C Z H σ env r) {p : Addr} {u : HO} (n : Z p = none) (no : ¬ Own C σ env p) (n0 : C.H0 p = none) : StOk C Z (upd H p u) σ env r := by
  have ne : ∀ a, Own C σ env a → a ≠ p := fun a h z => no (by rw [← z]; exact h)
  refine ⟨fun b o e => ?_, s.len, s.fr, fun j e q => ?_, s.sep, fun j q => ?_, s.norow, ⟨s.ent.z, fun b o e q => ?_, s.ent.n, fun b o e => ?_, s.ent.o⟩⟩
  · have : b ≠ p := fun z => by rw [z, n] at e; cases e
    rw [upd_ne this]; exact s.zh b o e
  · obtain ⟨a, e1, e2, e3⟩ := s.ow j e q
    exact ⟨a, e1, e2, e3.mono (Same.refl _) (upd_ne (ne a (.inl ⟨j, e, q, e1⟩)))⟩
  · obtain ⟨k1, k2⟩ := s.row j q
    refine ⟨k1, k2.imp_right ?_⟩
    rintro ⟨a, h1, h2, h3, h4, h5, h6⟩
    exact ⟨a, h1, h2, h3, h4.mono (Same.refl _) (upd_ne (ne a (.inr ⟨j, q, h2⟩))), h5, h6⟩
  · have : b ≠ p := fun z => by rw [z, n0] at e; cases e
    rw [upd_ne this]; exact s.ent.h b o e q
  · have : b ≠ p := fun z => by rw [z, n0] at e; cases e
    rw [upd_ne this]; exact s.ent.d b o e
theorem Ext.poke {O O' : Addr → Prop} {Z H Z' H' : Hp} (x : Ext O Z H O' Z' H') {p : Addr} {u : HO} (n : H p = none) : Ext O Z H O' Z' (upd H' p u) :=
  ⟨x.z, fun b o e q => by rw [upd_ne (ne_of_none e n)]; exact x.h b o e q, x.n, fun b o e => by rw [upd_ne (ne_of_none e n)]; exact x.d b o e, x.o⟩

/-! ### a comprehension's own slots -/
theorem wipeE_get : ∀ (vs : List Nat) (i : Nat), (i ∉ vs → (wipeE env vs)[i]? = env[i]?) ∧ (i ∈ vs → ∀ x, (wipeE env vs)[i]? = some x → x = .no)
  | [], i => ⟨fun _ => rfl, fun h => nomatch h⟩
  | v :: vs, i => by
    obtain ⟨h1, h2⟩ := wipeE_get vs i
    unfold wipeE
    refine ⟨fun h => ?_, fun h x e => ?_⟩
    · have ne : v ≠ i := fun z => h (by rw [z]; exact List.mem_cons_self)
      rw [get_set, if_neg ne]
      exact h1 fun z => h (List.mem_cons_of_mem _ z)
    · by_cases z : v = i
      · rw [get_set, if_pos z] at e
        split at e
        · cases e; rfl
        · cases e
      · rw [get_set, if_neg z] at e
        rcases List.mem_cons.mp h with k | k
        · exact absurd k.symm z
        · exact h2 k x e
theorem wipeE_len : ∀ (vs : List Nat), (wipeE env vs).length = env.length
  | [] => rfl
  | v :: vs => by unfold wipeE; rw [List.length_set, wipeE_len vs]
theorem wipe_in {σ : VS} : ∀ {vs : List Nat} {i : Nat}, i ∈ vs → ∀ x, (wipe σ vs)[i]? = some x → x = none
  | v :: vs, i, h, x, e => by
    unfold wipe at e
    by_cases z : v = i
    · rw [get_set, if_pos z] at e
      split at e
      · cases e; rfl
      · cases e
    · rw [get_set, if_neg z] at e
      rcases List.mem_cons.mp h with k | k
      · exact absurd k.symm z
      · exact wipe_in k x e
theorem own_wipe {vs : List Nat} {b : Addr} (h : Own C (wipe σ vs) (wipeE env vs) b) : Own C σ env b := by
  rcases h with ⟨j, x, h1, h2⟩ | ⟨j, h1, h2⟩
  · by_cases hj : j ∈ vs
    · cases (wipeE_get (env := env) vs j).2 hj _ h1
    · rw [(wipeE_get vs j).1 hj] at h1
      rw [wipe_out hj] at h2
      exact .inl ⟨j, x, h1, h2⟩
  · by_cases hj : j ∈ vs
    · cases wipe_in hj _ h2
    · rw [wipe_out hj] at h2
      exact .inr ⟨j, h1, h2⟩
/-- slots forgotten -/
theorem StOk.wiped (s : StOk C Z H σ env r) {vs : List Nat} (nr : ∀ i, C.rs = some i → i ∉ vs) : StOk C Z H (wipe σ vs) (wipeE env vs) r := by
  refine ⟨s.zh, by rw [wipeE_len, wipe_length]; exact s.len, fun j e q => ?_, fun j e q => ?_, fun j k e e' a q1 q2 q3 q4 => ?_, fun j q => ?_, s.norow, ⟨s.ent.z, s.ent.h, s.ent.n, s.ent.d, fun b h => s.ent.o b (own_wipe h)⟩⟩
  · by_cases hj : j ∈ vs
    · cases (wipeE_get (env := env) vs j).2 hj _ q
    · rw [(wipeE_get vs j).1 hj] at q
      rw [wipe_out hj]; exact s.fr j e q
  · by_cases hj : j ∈ vs
    · cases (wipeE_get (env := env) vs j).2 hj _ q
    · rw [(wipeE_get vs j).1 hj] at q
      rw [wipe_out hj]; exact s.ow j e q
  · by_cases hj : j ∈ vs
    · cases (wipeE_get (env := env) vs j).2 hj _ q1
    by_cases hk : k ∈ vs
    · cases (wipeE_get (env := env) vs k).2 hk _ q2
    rw [(wipeE_get vs j).1 hj] at q1
    rw [(wipeE_get vs k).1 hk] at q2
    rw [wipe_out hj] at q3
    rw [wipe_out hk] at q4
    exact s.sep j k e e' a q1 q2 q3 q4
  · have hj := nr j q
    rw [(wipeE_get vs j).1 hj, wipe_out hj]
    obtain ⟨k1, k2⟩ := s.row j q
    refine ⟨k1, k2.imp_right ?_⟩
    rintro ⟨a, h1, h2, h3, h4, h5, h6⟩
    refine ⟨a, h1, h2, h3, h4, h5, fun k e q1 => ?_⟩
    by_cases hk : k ∈ vs
    · cases (wipeE_get (env := env) vs k).2 hk _ q1
    · rw [(wipeE_get vs k).1 hk] at q1
      rw [wipe_out hk]; exact h6 k e q1
/-- back in the frame -/
theorem StOk.unwipe (s : StOk C Z H σ env r) {vs : List Nat} (nr : ∀ i, C.rs = some i → i ∉ vs) (s2 : StOk C Z' H' (wipe σ vs) (wipeE env vs) r') (x : Ext (Own C (wipe σ vs) (wipeE env vs)) Z H (Own C (wipe σ vs) (wipeE env vs)) Z' H') :
    StOk C Z' H' σ env r' ∧ Ext (Own C σ env) Z H (Own C σ env) Z' H' := by
  have x' : Ext (Own C σ env) Z H (Own C σ env) Z' H' := ⟨x.z, fun b o e q => x.h b o e fun z => q (own_wipe z), fun b o e t q => x.n b o e t fun z => q (own_wipe z), x.d, fun b h => .inl h⟩
  refine ⟨⟨s2.zh, s.len, fun j e q => ?_, fun j e q => ?_, s.sep, fun j q => ?_, s2.norow, s.ent.trans x'⟩, x'⟩
  · obtain ⟨v, e1, e2⟩ := s.fr j e q
    exact ⟨v, e1, e2.mono x.z⟩
  · by_cases hj : j ∈ vs
    · obtain ⟨a, e1, e2, e3⟩ := s.ow j e q
      have no : ¬ Own C (wipe σ vs) (wipeE env vs) a := fun h => by
        rcases h with ⟨k, y, h1, h2⟩ | ⟨k, h1, h2⟩
        · by_cases hk : k ∈ vs
          · cases (wipeE_get (env := env) vs k).2 hk _ h1
          · rw [(wipeE_get vs k).1 hk] at h1
            rw [wipe_out hk] at h2
            exact hk (s.sep j k e y a q h1 e1 h2 ▸ hj)
        · rw [wipe_out (nr k h1)] at h2
          obtain ⟨_, k2⟩ := s.row k h1
          rcases k2 with ⟨_, z, _⟩ | ⟨a', g1, g2, g3, g4, g5, g6⟩
          · rw [h2] at z; cases z
          · rw [h2] at g2; cases g2
            exact g6 j e q e1
      obtain ⟨u, hu⟩ := e3.isS
      exact ⟨a, e1, (x.n a u hu (e3.nt hu) no).trans e2, e3.mono x.z ((x.h a u hu no).trans hu.symm)⟩
    · have h1 := s2.ow j e (by rw [(wipeE_get vs j).1 hj]; exact q)
      rw [wipe_out hj] at h1
      exact h1
  · have hj := nr j q
    have h1 := s2.row j q
    rw [(wipeE_get vs j).1 hj, wipe_out hj] at h1
    obtain ⟨k1, k2⟩ := h1
    refine ⟨k1, k2.imp_right ?_⟩
    rintro ⟨a, h1, h2, h3, h4, h5, h6⟩
    refine ⟨a, h1, h2, h3, h4, h5, fun k e q1 q2 => ?_⟩
    obtain ⟨_, g⟩ := s.row j q
    rcases g with ⟨_, z, _⟩ | ⟨a', g1, g2, g3, g4, g5, g6⟩
    · rw [h2] at z; cases z
    · rw [h2] at g2; cases g2
      exact g6 k e q1 q2
end
end PL

set_option Elab.async false
set_option linter.all false
set_option maxRecDepth 100000
set_option autoImplicit false
set_option maxHeartbeats 400000
namespace PL
open PySem PySem.Spec PyProof.Rows L2
/-! ### targets -/
mutual
def gT (K : PySem.W.Frag) : Tg → TG
  | .nm i => gName i
  | .tp ts => gTup K ts.length (gTs K ts)
def gTs (K : PySem.W.Frag) : List Tg → TGs
  | [] => gNil
  | t :: ts => gCons (gT K t) (gTs K ts)
end
mutual
def slT : Tg → List Nat
  | .nm i => [i]
  | .tp ts => slTs ts
def slTs : List Tg → List Nat
  | [] => []
  | t :: ts => slT t ++ slTs ts
end
/-- only the slots vs have changed, and no object of its own stands there now -/
structure Bnd (vs : List Nat) (σ : VS) (env : Env') (σ2 : VS) (env2 : Env') : Prop where
  l1 : σ2.length = σ.length
  l2 : env2.length = env.length
  out : ∀ i, i ∉ vs → σ2[i]? = σ[i]? ∧ env2[i]? = env[i]?
  no : ∀ i, i ∈ vs → ∀ d, env2[i]? ≠ some (.ow d)
theorem Bnd.refl {σ : VS} {env : Env'} : Bnd [] σ env σ env := ⟨rfl, rfl, fun _ _ => ⟨rfl, rfl⟩, fun _ h => nomatch h⟩
theorem Bnd.app {vs ws : List Nat} {σ σ1 σ2 : VS} {env env1 env2 : Env'} (a : Bnd vs σ env σ1 env1) (b : Bnd ws σ1 env1 σ2 env2) : Bnd (vs ++ ws) σ env σ2 env2 := by
  refine ⟨b.l1.trans a.l1, b.l2.trans a.l2, fun i h => ?_, fun i h d e => ?_⟩
  · have h1 : i ∉ vs := fun z => h (List.mem_append_left _ z)
    have h2 : i ∉ ws := fun z => h (List.mem_append_right _ z)
    exact ⟨(b.out i h2).1.trans (a.out i h1).1, (b.out i h2).2.trans (a.out i h1).2⟩
  · by_cases h2 : i ∈ ws
    · exact b.no i h2 d e
    · rw [(b.out i h2).2] at e
      rcases List.mem_append.mp h with h | h
      · exact a.no i h d e
      · exact h2 h
section
variable {C : Ctx} {r : D} {Z H : Hp}
mutual
theorem q_bind : ∀ (t : Tg) (d : D) (env : Env'), Quiet (bindT t d env)
  | .nm i, d, env => fun c x e => by unfold bindT at e; cases e
  | .tp ts, d, env => fun c x e => by
    unfold bindT at e
    cases d <;> first | exact q_binds ts _ env c x e | cases e
theorem q_binds : ∀ (ts : List Tg) (ds : List D) (env : Env'), Quiet (bindTs ts ds env)
  | [], [], env => fun c x e => by unfold bindTs at e; cases e
  | [], _ :: _, env => fun c x e => by unfold bindTs at e; cases e
  | _ :: _, [], env => fun c x e => by unfold bindTs at e; cases e
  | t :: ts, d :: ds, env => fun c x e => by
    unfold bindTs at e
    cases q : bindT t d env with
    | ok env1 => rw [q] at e; exact q_binds ts ds env1 c x e
    | ex c' d' => exact q_bind t d env c' d' q
    | no => rw [q] at e; cases e
end
mutual
theorem rg : ∀ (t : Tg) (d : D) (v : V) (σ : VS) (env env2 : Env'), StOk C Z H σ env r → Rep C.K Z v d → bindT t d env = .ok env2 → (∀ i, C.rs = some i → i ∉ slT t) →
    ∃ σ2, StOk C Z H σ2 env2 r ∧ Ext (Own C σ env) Z H (Own C σ2 env2) Z H ∧ Bnd (slT t) σ env σ2 env2 ∧ ∀ Q : VS → Hp → Prop, Q σ2 H → gT C.K t v σ H Q
  | .nm i, d, v, σ, env, env2, s, rep, e, nr => by
    unfold bindT at e
    cases e
    obtain ⟨s2, x2⟩ := s.setF rep (i := i) fun z => nr i z List.mem_cons_self
    refine ⟨_, s2, x2, ⟨List.length_set .., List.length_set .., fun j h => ?_, fun j h d' q => ?_⟩, fun Q q => q⟩
    · have ne : i ≠ j := fun z => h (by rw [z]; exact List.mem_cons_self)
      rw [get_set, if_neg ne, get_set, if_neg ne]; exact ⟨rfl, rfl⟩
    · rcases List.mem_cons.mp h with rfl | h
      · rcases getE_set q with ⟨_, q1, _⟩ | ⟨ne, _⟩
        · cases q1
        · exact ne rfl
      · cases h
  | .tp ts, d, v, σ, env, env2, s, rep, e, nr => by
    unfold bindT at e
    cases d with
    | tup ds =>
      cases rep with
      | tup k ra =>
        obtain ⟨σ2, s2, x2, b2, hl, q2⟩ := rgs ts ds _ σ env env2 s ra e nr
        exact ⟨σ2, s2, x2, b2, fun Q q => ⟨_, _, rfl, SqT.of (s.zh.tup k), hl, q2 Q q⟩⟩
    | _ => cases e
theorem rgs : ∀ (ts : List Tg) (ds : List D) (vs : List V) (σ : VS) (env env2 : Env'), StOk C Z H σ env r → Reps C.K Z vs ds → bindTs ts ds env = .ok env2 → (∀ i, C.rs = some i → i ∉ slTs ts) →
    ∃ σ2, StOk C Z H σ2 env2 r ∧ Ext (Own C σ env) Z H (Own C σ2 env2) Z H ∧ Bnd (slTs ts) σ env σ2 env2 ∧ vs.length = ts.length ∧ ∀ Q : VS → Hp → Prop, Q σ2 H → gTs C.K ts vs σ H Q
  | [], ds, vs, σ, env, env2, s, rep, e, nr => by
    cases ds with
    | nil =>
      unfold bindTs at e
      cases e
      cases rep
      exact ⟨σ, s, Ext.refl, Bnd.refl, rfl, fun Q q => ⟨rfl, q⟩⟩
    | cons d ds => unfold bindTs at e; cases e
  | t :: ts, ds, vs, σ, env, env2, s, rep, e, nr => by
    cases ds with
    | nil => unfold bindTs at e; cases e
    | cons d ds =>
      unfold bindTs at e
      obtain ⟨env1, e1, e2⟩ := bind_ok e
      cases rep with
      | cons r1 r2 =>
        obtain ⟨σ1, s1, x1, b1, q1⟩ := rg t d _ σ env env1 s r1 e1 fun i z h => nr i z (List.mem_append_left _ h)
        obtain ⟨σ2, s2, x2, b2, hl, q2⟩ := rgs ts ds _ σ1 env1 env2 s1 r2 e2 fun i z h => nr i z (List.mem_append_right _ h)
        exact ⟨σ2, s2, x1.trans x2, b1.app b2, by rw [List.length_cons, List.length_cons, hl], fun Q q => ⟨_, _, rfl, q1 _ (q2 Q q)⟩⟩
end
end
/-! ### comprehensions -/
def Ctx.mute (C : Ctx) : Ctx := { C with ew := fun _ _ => False }
section
variable {C : Ctx} {σ σ2 : VS} {env env2 : Env'} {r r' : D} {Z H Z' H' : Hp}
theorem StOk.mute (s : StOk C Z H σ env r) : StOk C.mute Z H σ env r := ⟨s.zh, s.len, s.fr, s.ow, s.sep, s.row, s.norow, s.ent⟩
theorem StOk.loud (s : StOk C.mute Z H σ env r) : StOk C Z H σ env r := ⟨s.zh, s.len, s.fr, s.ow, s.sep, s.row, s.norow, s.ent⟩
theorem Bnd.wipe {vs own : List Nat} (b : Bnd vs (wipe σ own) (wipeE env own) σ2 env2) (sub : ∀ i ∈ vs, i ∈ own) : L2.wipe σ2 own = L2.wipe σ own ∧ wipeE env2 own = wipeE env own := by
  constructor
  · refine List.ext_getElem? fun i => ?_
    by_cases h : i ∈ own
    · have l : (L2.wipe σ2 own).length = (L2.wipe σ own).length := by rw [wipe_length, b.l1, wipe_length]; first | done | rw [wipe_length]
      by_cases hi : i < (L2.wipe σ2 own).length
      · have e1 := List.getElem?_eq_getElem hi
        have e2 := List.getElem?_eq_getElem (l ▸ hi)
        rw [e1, e2, wipe_in h _ e1, wipe_in h _ e2]
      · rw [List.getElem?_eq_none (by omega), List.getElem?_eq_none (by omega)]
    · rw [wipe_out h, (b.out i fun z => h (sub i z)).1]
  · refine List.ext_getElem? fun i => ?_
    by_cases h : i ∈ own
    · have l : (wipeE env2 own).length = (wipeE env own).length := by rw [wipeE_len, b.l2, wipeE_len]; first | done | rw [wipeE_len]
      by_cases hi : i < (wipeE env2 own).length
      · have e1 := List.getElem?_eq_getElem hi
        have e2 := List.getElem?_eq_getElem (l ▸ hi)
        rw [e1, e2, (wipeE_get own i).2 h _ e1, (wipeE_get own i).2 h _ e2]
      · rw [List.getElem?_eq_none (by omega), List.getElem?_eq_none (by omega)]
    · rw [(wipeE_get own i).1 h, (b.out i fun z => h (sub i z)).2]
theorem Bnd.own {vs own : List Nat} (b : Bnd vs (L2.wipe σ own) (wipeE env own) σ2 env2) (sub : ∀ i ∈ vs, i ∈ own) (nr : ∀ i, C.rs = some i → i ∉ own) : Own C σ2 env2 = Own C (L2.wipe σ own) (wipeE env own) := by
  funext a
  refine propext ⟨fun h => ?_, fun h => ?_⟩
  · rcases h with ⟨j, x, h1, h2⟩ | ⟨j, h1, h2⟩
    · by_cases hj : j ∈ vs
      · exact absurd h1 (b.no j hj x)
      · rw [(b.out j hj).2] at h1
        rw [(b.out j hj).1] at h2
        exact .inl ⟨j, x, h1, h2⟩
    · rw [(b.out j fun z => nr j h1 (sub j z)).1] at h2
      exact .inr ⟨j, h1, h2⟩
  · rcases h with ⟨j, x, h1, h2⟩ | ⟨j, h1, h2⟩
    · by_cases hj : j ∈ own
      · cases (wipeE_get (env := env) own j).2 hj _ h1
      · have hv : j ∉ vs := fun z => hj (sub j z)
        rw [← (b.out j hv).2] at h1
        rw [← (b.out j hv).1] at h2
        exact .inl ⟨j, x, h1, h2⟩
    · rw [← (b.out j fun z => nr j h1 (sub j z)).1] at h2
      exact .inr ⟨j, h1, h2⟩
end
end PL

set_option Elab.async false
set_option linter.all false
set_option maxRecDepth 100000
set_option autoImplicit false
set_option maxHeartbeats 400000
namespace PL
open PySem PySem.Spec PyProof.Rows L2
def lcF (cl : Cl) (elt : E) (tg : Tg) (ifs : Es) (env : Env') : D → D → R (Option D × D) := fun d r => (bindT tg d env).bind fun env => (evC cl ifs env r).bind fun (b, r) => if b then (evE cl elt env r).bind fun (x, r) => .ok (some x, r) else .ok (none, r)
/-- the same reading, from another entry; nothing is raised -/
structure Sib (C C2 : Ctx) : Prop where
  K : C2.K = C.K
  cl : C2.cl = C.cl
  rs : C2.rs = C.rs
  ew : ∀ c d, ¬ C2.ew c d
theorem Sib.mute (C : Ctx) : Sib C C.mute := ⟨rfl, rfl, rfl, fun _ _ h => h⟩
def rdX (C : Ctx) (e : E) : TE := fun σ H Q => ∃ C2, Sib C C2 ∧ rdE C2 e σ H Q
def rdXT (C : Ctx) (e : E) : TT := fun σ H Q => ∃ C2, Sib C C2 ∧ rdT C2 e σ H Q
def rIfs (C : Ctx) : Es → TT
  | .nil => tYes
  | .cons e _ => rdXT C e
def oneIf : Es → Bool
  | .nil => true
  | .cons _ .nil => true
  | _ => false
section
variable {C : Ctx} {σ : VS} {env : Env'} {r r' : D} {Z H : Hp}
theorem r_ifs {C0 : Ctx} (sib : Sib C0 C) {ifs : Es} (o : oneIf ifs = true) {Q : Bool → Hp → Prop} {b : Bool} (s : StOk C Z H σ env r) (e : evC C.cl ifs env r = .ok (b, r'))
    (h : ∀ Z' H', StOk C Z' H' σ env r' → Ext (Own C σ env) Z H (Own C σ env) Z' H' → Q b H') : rIfs C0 ifs σ H Q := by
  cases ifs with
  | nil =>
    unfold evC at e
    cases e
    exact h Z H s Ext.refl
  | cons c es =>
    cases es with
    | nil =>
      unfold evC at e
      obtain ⟨⟨x, r1⟩, e1, e2⟩ := bind_ok e
      obtain ⟨k, e3, e4⟩ := bind_ok e2
      refine ⟨C, sib, Z, env, r, s, ?_⟩
      rw [e1]
      show Post C ((asB x).bind fun b => .ok (b, r1)) _
      rw [e3]
      have e5 : k = b ∧ r1 = r' := by
        cases k
        · exact ok2 e4
        · unfold evC at e4; exact ok2 e4
      obtain ⟨rfl, rfl⟩ := e5
      exact h
    | cons _ _ => cases o
/-- the loop of a comprehension -/
theorem lc_loop {C0 : Ctx} (sib : Sib C0 C.mute) {elt : E} {tg : Tg} {ifs : Es} {own : List Nat} {J : L2.It} {ds out : List D} {Q : VK} (s1 : StOk C Z H σ env r) (w : Wk C.K (Own C σ env) Z H J ds) (hl : ds.length ≤ LIM)
    (e : lcD (lcF C.cl elt tg ifs (wipeE env own)) ds r = .ok (out, r')) (nr : ∀ i, C.rs = some i → i ∉ own) (sub : ∀ i ∈ slT tg, i ∈ own) (be : isB elt = false) (o1 : oneIf ifs = true)
    (q : ∀ D Z' H', H D = none → StOk C Z' H' σ env r' → Ext (Own C σ env) Z H (Own C σ env) Z' H' → Z' D = none → Ob C.K Z' H' D (.lst out) → Q (.ref D) H') {D : Addr} (hD : H D = none) :
    ∃ W : Nat → Nat → Hp → Prop, (∃ m, W 0 m (upd H D (.lst []))) ∧ ∀ i m H, W i m H →
  (J.stop i H ∧ Q (.ref D) H) ∨ (J.go i H ∧ ∃ Nx : Hp → Prop, (∀ H', Nx H' → ∃ m', m' < m ∧ W (i + 1) m' H') ∧ ∀ x H', J.yld i H x H' → gT C0.K tg x (wipe σ own) H' fun σ2 H2 => wipe σ2 own = wipe σ own ∧ rIfs C0 ifs σ2 H2 fun b H3 =>
    if b = true then rdX C0 elt σ2 H3 fun y H4 => ∃ acc, H4 D = some (.lst acc) ∧ acc.length < sizeLine ∧ Nx (upd H4 D (.lst (acc ++ [y]))) else Nx H3) := by
  let OW : Addr → Prop := Own C (wipe σ own) (wipeE env own)
  have sw := (s1.wiped (vs := own) nr)
  have oS : ∀ b, OW b → Own C σ env b := fun b h => own_wipe h
  have nD : ¬ OW D := fun h => by
    obtain ⟨u, hu⟩ := sw.ownH h
    rw [hD] at hu; cases hu
  have n0 : C.H0 D = none := s1.ent.free hD
  have zD : Z D = none := s1.zh.dom hD
  let W : Nat → Nat → Hp → Prop := fun i m Hi => m = ds.length - i ∧ i ≤ ds.length ∧ ∃ (Zi : Hp) (ri : PL.D) (acc : List V) (outs out' : List PL.D), StOk C Zi Hi (wipe σ own) (wipeE env own) ri ∧ Ext OW Z H OW Zi Hi ∧ Zi D = none ∧ Hi D = some (.lst acc) ∧
    Reps C.K Zi acc outs ∧ acc.length ≤ i ∧ lcD (lcF C.cl elt tg ifs (wipeE env own)) (ds.drop i) ri = .ok (out', r') ∧ out = outs ++ out'
  refine ⟨W, ⟨ds.length, rfl, Nat.zero_le _, Z, r, [], [], out, sw.poke zD nD n0, Ext.refl.poke hD, zD, upd_same, .nil, Nat.le_refl _, e, rfl⟩, fun i m Hi hw => ?_⟩
  obtain ⟨hm, hi, Zi, ri, acc, outs, out', s, x, ziD, hiD, ra, hal, ev, ho⟩ := hw
  have xP : Ext (Own C σ env) Z H OW Zi Hi := x.weak oS fun b _ => Classical.em _
  by_cases hlt : i < ds.length
  · refine .inr ?_
    have hd : ds[i]? = some ds[i] := List.getElem?_eq_getElem hlt
    have hdrop : ds.drop i = ds[i] :: ds.drop (i + 1) := List.drop_eq_getElem_cons hlt
    rw [hdrop] at ev
    unfold lcD at ev
    obtain ⟨⟨o, r1⟩, ev1, ev2⟩ := bind_ok ev
    obtain ⟨⟨out2, r2⟩, ev3, ev4⟩ := bind_ok ev2
    unfold lcF at ev1
    obtain ⟨env2, ev5, ev6⟩ := bind_ok ev1
    obtain ⟨⟨b, r3⟩, ev7, ev8⟩ := bind_ok ev6
    obtain ⟨hgo, hy⟩ := w.draw s xP hd
    refine ⟨hgo, W (i + 1) (m - 1), fun H' h => ⟨m - 1, by omega, h⟩, fun v H2 hy2 => ?_⟩
    obtain ⟨Z2, s2, x2, rep⟩ := hy v H2 hy2
    obtain ⟨σ3, s3, x3, bn, q3⟩ := rg tg ds[i] v _ _ env2 s2 rep ev5 fun j z h => nr j z (sub j h)
    obtain ⟨we1, we2⟩ := bn.wipe sub
    have oE : Own C σ3 env2 = OW := bn.own sub nr
    have kE : C.K = C0.K := sib.K
    rw [← kE]
    refine q3 _ ⟨we1, r_ifs sib o1 s3.mute (b := b) ev7 fun Z4 H4 s4 x4 => ?_⟩
    have s4 := s4.loud
    have x4 : Ext OW Z2 H2 OW Z4 H4 := by
      have : Ext (Own C σ3 env2) Z2 H2 (Own C σ3 env2) Z4 H4 := x4
      rw [oE] at this; exact this
    have x04 : Ext OW Zi Hi OW Z4 H4 := x2.trans x4
    have h4D : H4 D = some (.lst acc) := x04.h D _ hiD nD
    have z4D : Z4 D = none := (x04.n D _ hiD (fun xs z => nomatch z) nD).trans ziD
    have s4w : StOk C Z4 H4 (wipe σ own) (wipeE env own) r3 := by
      have := s4.wiped (vs := own) nr
      rw [we1, we2] at this; exact this
    cases b with
    | false =>
      have ev8 : (PL.R.ok (none, r3) : PL.R (Option PL.D × PL.D)) = .ok (o, r1) := ev8
      cases ev8
      have ev4 : (PL.R.ok (out2, r2) : PL.R (List PL.D × PL.D)) = .ok (out', r') := ev4
      cases ev4
      exact ⟨by omega, hlt, Z4, _, acc, outs, _, s4w, x.trans x04, z4D, h4D, ra.mono x04.z, Nat.le_succ_of_le hal, ev3, ho⟩
    | true =>
      obtain ⟨⟨y, r4⟩, ev9, ev10⟩ := bind_ok ev8
      cases ev10
      have ev4 : (PL.R.ok (y :: out2, r2) : PL.R (List PL.D × PL.D)) = .ok (out', r') := ev4
      cases ev4
      refine ⟨C.mute, sib, Z4, env2, r3, s4.mute, ?_⟩
      show Post C.mute (evE C.cl elt env2 r3) _
      rw [ev9]
      intro u Z5 H5 s5 x5 res
      obtain ⟨Z6, s6, x6, rep6, z6⟩ := res.keep be s4.mute s5 x5
      have s6 := s6.loud
      have x6 : Ext OW Z4 H4 OW Z6 H5 := by
        have : Ext (Own C σ3 env2) Z4 H4 (Own C σ3 env2) Z6 H5 := x6
        rw [oE] at this; exact this
      have h6D : H5 D = some (.lst acc) := x6.h D _ h4D nD
      have z6D : Z6 D = none := (x6.n D _ h4D (fun xs z => nomatch z) nD).trans z4D
      have s6w : StOk C Z6 H5 (wipe σ own) (wipeE env own) r1 := by
        have := s6.wiped (vs := own) nr
        rw [we1, we2] at this; exact this
      have := lim_eq
      have := sizeLine_eq
      refine ⟨acc, h6D, by omega, ?_⟩
      refine ⟨by omega, hlt, Z6, r1, acc ++ [u], outs ++ [y], _, s6w.poke z6D nD n0, ((x.trans x04).trans x6).poke hD, z6D, upd_same, ((ra.mono x04.z).mono x6.z).append (.cons rep6 .nil), by rw [List.length_append]; exact Nat.succ_le_succ hal, ev3, ?_⟩
      rw [ho, List.append_assoc]; rfl
  · refine .inl ⟨w.stop i OW Zi Hi (by omega) xP s.zh, ?_⟩
    rw [List.drop_eq_nil_of_le (by omega)] at ev
    unfold lcD at ev
    cases ev
    rw [List.append_nil] at ho
    subst ho
    obtain ⟨sE, xE⟩ := s1.unwipe nr s x
    exact q D Zi Hi hD sE xE ziD ⟨acc, hiD, ra⟩
end
end PL

set_option Elab.async false
set_option linter.all false
set_option maxRecDepth 100000
set_option autoImplicit false
set_option maxHeartbeats 400000
namespace PL
open PySem PySem.Spec PyProof.Rows L2
section
variable {C : Ctx} {σ : VS} {env : Env'} {r r' : D} {Z H Z' H' : Hp} {Q : VK}
abbrev tLcD (C : Ctx) (wi : TI) (elt : E) (tg : Tg) (ifs : Es) (own : List Nat) : TE := tLc wi (gT C.K tg) (rIfs C ifs) (rdX C elt) own
theorem rd_lc0 {C0 : Ctx} (sib : Sib C0 C.mute) {elt : E} {tg : Tg} {it : It} {ifs : Es} {own : List Nat} (nr : ∀ i, C.rs = some i → i ∉ own) (sub : ∀ i ∈ slT tg, i ∈ own) (be : isB elt = false) (o1 : oneIf ifs = true)
    (h : rdE C (.lc elt tg it ifs own) σ H Q) : tLcD C0 (rdI C it) elt tg ifs own σ H Q := by
  obtain ⟨Z, env, r, s, h⟩ := h
  unfold evE at h
  refine ⟨Z, env, r, s, (Post.bind h).mono fun p ep q => ?_⟩
  obtain ⟨ds, r1⟩ := p
  intro J Z1 H1 s1 x1 w D hD
  have q : Post C (if ds.length ≤ LIM then (lcD (lcF C.cl elt tg ifs (wipeE env own)) ds r1).calm.bind fun x => .ok (PL.D.lst x.1, x.2) else .no) (EndQ C σ env Z H (.lc elt tg it ifs own) Q) := q
  by_cases hl : ds.length ≤ LIM
  · rw [if_pos hl] at q
    cases e : lcD (lcF C.cl elt tg ifs (wipeE env own)) ds r1 with
    | no => rw [e] at q; exact q.elim
    | ex c d => rw [e] at q; exact q.elim
    | ok p =>
      obtain ⟨out, r2⟩ := p
      rw [e] at q
      refine lc_loop sib s1 w hl e nr sub be o1 (fun D Z' H' hD s2 x2 zD o => ?_) hD
      exact q (.ref D) Z' H' s2 (x1.trans x2) (.of rfl (.inr ⟨D, rfl, x1.free hD, zD, o⟩))
  · rw [if_neg hl] at q
    exact q.elim
theorem lock_st {C2 : Ctx} {d : Addr} {u : HO} {od : Obj} (k1 : C2.K = C.K) (k2 : C2.rs = C.rs) (k3 : C2.ra = C.ra) (s : StOk C Z H σ env r) (hd : H d = some u) (zd : Z d = some u) (nt : NT u)
    (s2 : StOk C2 Z' H' σ env r') (x : Ext (Own C σ env) Z (upd H d (.frz od u)) (Own C σ env) Z' H') :
    StOk C Z' (upd H' d u) σ env r' ∧ Ext (Own C σ env) Z H (Own C σ env) Z' (upd H' d u) := by
  have no : ¬ Own C σ env d := notOwn s zd
  have zd' : Z' d = some u := x.z _ _ zd
  have ne : ∀ a, Own C σ env a → a ≠ d := fun a h z => no (by rw [← z]; exact h)
  have x' : Ext (Own C σ env) Z H (Own C σ env) Z' (upd H' d u) := by
    refine ⟨x.z, fun b o e q => ?_, fun b o e t q => ?_, fun b o e => ?_, fun b h => .inl h⟩
    · by_cases z : b = d
      · subst z; rw [upd_same]; rw [hd] at e; exact e
      · rw [upd_ne z]; exact x.h b o (by rw [upd_ne z]; exact e) q
    · by_cases z : b = d
      · subst z; rw [zd', zd]
      · exact x.n b o (by rw [upd_ne z]; exact e) t q
    · by_cases z : b = d
      · subst z; exact ⟨_, upd_same⟩
      · rw [upd_ne z]; exact x.d b o (by rw [upd_ne z]; exact e)
  refine ⟨⟨fun b o e => ?_, s.len, fun j e q => ?_, fun j e q => ?_, s.sep, fun j q => ?_, fun q => s2.norow (k2.trans q), s.ent.trans x'⟩, x'⟩
  · by_cases z : b = d
    · subst z; rw [upd_same]; rw [zd'] at e; exact .inl e
    · rw [upd_ne z]; exact s2.zh b o e
  · obtain ⟨v, e1, e2⟩ := s2.fr j e q
    rw [k1] at e2
    exact ⟨v, e1, e2⟩
  · obtain ⟨a, e1, e2, e3⟩ := s2.ow j e q
    rw [k1] at e3
    exact ⟨a, e1, e2, e3.mono (Same.refl _) (upd_ne (ne a (.inl ⟨j, e, q, e1⟩)))⟩
  · obtain ⟨k4, k5⟩ := s2.row j (k2.trans q)
    rw [k3] at k5
    refine ⟨k4, k5.imp_right ?_⟩
    rintro ⟨a, h1, h2, h3, h4, h5, h6⟩
    rw [k1] at h4
    exact ⟨a, h1, h2, h3, h4.mono (Same.refl _) (upd_ne (ne a (.inr ⟨j, q, h2⟩))), h5, h6⟩
/-- the frame, started anew from here -/
def Ctx.anew (C : Ctx) (σ : VS) (env : Env') (Z H : Hp) : Ctx := { C with O0 := Own C σ env, Z0 := Z, H0 := H }
theorem lock_in {d : Addr} {kvs : List (List Key × V)} {od : Obj} (s : StOk C Z H σ env r) (hd : H d = some (.dT kvs)) (zd : Z d = some (.dT kvs)) :
    StOk (C.anew σ env Z (upd H d (.frz od (.dT kvs)))) Z (upd H d (.frz od (.dT kvs))) σ env r := by
  have no : ¬ Own C σ env d := notOwn s zd
  have ne : ∀ a, Own C σ env a → a ≠ d := fun a h z => no (by rw [← z]; exact h)
  refine ⟨fun b o e => ?_, s.len, s.fr, fun j e q => ?_, s.sep, fun j q => ?_, s.norow, Ext.refl⟩
  · by_cases z : b = d
    · subst z; rw [upd_same]; rw [zd] at e; cases e; exact .inr ⟨od, kvs, rfl, rfl⟩
    · rw [upd_ne z]; exact s.zh b o e
  · obtain ⟨a, e1, e2, e3⟩ := s.ow j e q
    exact ⟨a, e1, e2, e3.mono (Same.refl _) (upd_ne (ne a (.inl ⟨j, e, q, e1⟩)))⟩
  · obtain ⟨k4, k5⟩ := s.row j q
    refine ⟨k4, k5.imp_right ?_⟩
    rintro ⟨a, h1, h2, h3, h4, h5, h6⟩
    exact ⟨a, h1, h2, h3, h4.mono (Same.refl _) (upd_ne (ne a (.inr ⟨j, q, h2⟩))), h5, h6⟩
theorem rd_lcK {elt : E} {tg : Tg} {i : Nat} {ifs : Es} {own : List Nat} (nr : ∀ i, C.rs = some i → i ∉ own) (sub : ∀ i ∈ slT tg, i ∈ own) (be : isB elt = false) (o1 : oneIf ifs = true)
    (h : rdE C (.lc elt tg (.keys (.loc i)) ifs own) σ H Q) : tLcD C (iKeysT (tVar i)) elt tg ifs own σ H Q ∨ tLockE (tLcD C (iKeysT (tVar i)) elt tg ifs own) σ H Q := by
  obtain ⟨Z, env, r, s, h⟩ := id h
  unfold evE evIt evE at h
  cases e : env[i]? with
  | none => rw [e] at h; exact h.elim
  | some sl =>
    rw [e] at h
    cases sl with
    | fr x =>
      obtain ⟨v, k1, k2⟩ := s.fr i x e
      cases x with
      | dic es =>
        cases k2 with
        | dic zd rd =>
          rename_i d kvs
          rcases s.zh _ _ zd with hd | ⟨ob, kvs', q1, hd⟩
          · refine .inr ⟨d, _, hd, trivial, fun od => ?_⟩
            have s2 := lock_in (od := od) s hd zd
            have sib : Sib C (C.anew σ env Z (upd H d (.frz od (.dT kvs)))).mute := ⟨rfl, rfl, rfl, fun _ _ h => h⟩
            have key : rdE (C.anew σ env Z (upd H d (.frz od (.dT kvs)))) (.lc elt tg (.keys (.loc i)) ifs own) σ (upd H d (.frz od (.dT kvs))) (fun v H' => H' d = some (.frz od (.dT kvs)) ∧ Q v (upd H' d (.dT kvs))) := ?_
            · exact ri_keys (C := C.anew σ env Z (upd H d (.frz od (.dT kvs)))) (rd_lc0 (C := C.anew σ env Z (upd H d (.frz od (.dT kvs)))) (it := .keys (.loc i)) sib nr sub be o1 key) ⟨d, od, kvs, k1, upd_same⟩
            refine ⟨Z, env, r, s2, ?_⟩
            show Post C _ _
            unfold evE evIt evE
            rw [e]
            refine h.mono fun p _ q => ?_
            obtain ⟨y, r1⟩ := p
            intro v Z' H' s3 x3 res
            have x3 : Ext (Own C σ env) Z (upd H d (.frz od (.dT kvs))) (Own C σ env) Z' H' := x3
            have no : ¬ Own C σ env d := notOwn s zd
            obtain ⟨s4, x4⟩ := lock_st (C := C) (C2 := C.anew σ env Z (upd H d (.frz od (.dT kvs)))) rfl rfl rfl s hd zd (fun xs z => nomatch z) s3 x3
            refine ⟨x3.h d _ upd_same no, q v Z' _ s4 x4 ?_⟩
            rcases res.strong rfl with q1 | ⟨p, e1, e2, e3, e4⟩
            · exact .of rfl (.inl q1)
            · have ne : p ≠ d := fun z => by subst z; rw [upd_same] at e2; cases e2
              exact .of rfl (.inr ⟨p, e1, by rw [upd_ne ne] at e2; exact e2, e3, e4.mono (Same.refl _) (upd_ne ne)⟩)
          · cases q1
            refine .inl (ri_keys (rd_lc0 (Sib.mute C) nr sub be o1 ⟨Z, env, r, s, ?_⟩) ⟨d, ob, kvs, k1, hd⟩)
            unfold evE evIt evE
            rw [e]; exact h
      | _ => exact h.elim
    | _ => exact h.elim
end
end PL

set_option Elab.async false
set_option linter.all false
set_option maxRecDepth 100000
set_option autoImplicit false
set_option maxHeartbeats 400000
namespace PL
open PySem PySem.Spec PyProof.Rows L2
section
variable {C : Ctx} {σ : VS} {env : Env'} {r r' : D} {Z H Z' H' : Hp}
theorem own_upd {i : Nat} {d d' : D} (e : env[i]? = some (.ow d)) : Own C σ (env.set i (.ow d')) = Own C σ env := by
  have hl : i < env.length := (List.getElem?_eq_some_iff.mp e).1
  funext a
  refine propext ⟨fun h => ?_, fun h => ?_⟩
  · rcases h with ⟨j, x, h1, h2⟩ | h
    · rcases getE_set h1 with ⟨z, _, _⟩ | ⟨ne, q⟩
      · subst z; exact .inl ⟨i, d, e, h2⟩
      · exact .inl ⟨j, x, q, h2⟩
    · exact .inr h
  · rcases h with ⟨j, x, h1, h2⟩ | h
    · by_cases z : i = j
      · subst z
        exact .inl ⟨i, d', by rw [get_set, if_pos rfl, if_pos hl], h2⟩
      · exact .inl ⟨j, x, by rw [get_set, if_neg z]; exact h1, h2⟩
    · exact .inr h
/-- an object of its own is written -/
theorem StOk.put (s : StOk C Z H σ env r) {i : Nat} {a : Addr} {d d' : D} {u : HO} (e : env[i]? = some (.ow d)) (ea : σ[i]? = some (some (.ref a))) (o : Ob C.K Z (upd H a u) a d') :
    StOk C Z (upd H a u) σ (env.set i (.ow d')) r ∧ Ext (Own C σ env) Z H (Own C σ (env.set i (.ow d'))) Z (upd H a u) := by
  have oa : Own C σ env a := .inl ⟨i, d, e, ea⟩
  have za : Z a = none := (s.ownZ oa).1
  obtain ⟨u0, hu0⟩ := s.ownH oa
  have x : Ext (Own C σ env) Z H (Own C σ (env.set i (.ow d'))) Z (upd H a u) := by
    refine ⟨Same.refl _, fun b o e q => ?_, fun _ _ _ _ _ => rfl, fun b o e => ?_, fun b h => .inl (by rw [own_upd e] at h; exact h)⟩
    · have ne : b ≠ a := fun z => q (by rw [z]; exact oa)
      rw [upd_ne ne]; exact e
    · by_cases z : b = a
      · subst z; exact ⟨_, upd_same⟩
      · rw [upd_ne z]; exact ⟨o, e⟩
  refine ⟨⟨fun b o e' => ?_, by rw [List.length_set]; exact s.len, fun j y q => ?_, fun j y q => ?_, fun j k y y' b q1 q2 q3 q4 => ?_, fun j q => ?_, s.norow, s.ent.trans x⟩, x⟩
  · have ne : b ≠ a := fun z => by rw [z, za] at e'; cases e'
    rw [upd_ne ne]; exact s.zh b o e'
  · rcases getE_set q with ⟨_, q1, _⟩ | ⟨ne, q⟩
    · cases q1
    · exact s.fr j y q
  · rcases getE_set q with ⟨z, q1, _⟩ | ⟨ne, q⟩
    · cases q1; subst z
      exact ⟨a, ea, za, o⟩
    · obtain ⟨b, e1, e2, e3⟩ := s.ow j y q
      have nb : b ≠ a := fun z => ne (s.sep i j d y a e q ea (by rw [← z]; exact e1))
      exact ⟨b, e1, e2, e3.mono (Same.refl _) (upd_ne nb)⟩
  · have g : ∀ (j : Nat) (y : D), (env.set i (.ow d'))[j]? = some (.ow y) → ∃ y', env[j]? = some (.ow y') := fun j y q => by
      rcases getE_set q with ⟨z, _, _⟩ | ⟨_, q⟩
      · subst z; exact ⟨d, e⟩
      · exact ⟨y, q⟩
    obtain ⟨_, g1⟩ := g j y q1
    obtain ⟨_, g2⟩ := g k y' q2
    exact s.sep j k _ _ b g1 g2 q3 q4
  · obtain ⟨k1, k2⟩ := s.row j q
    have ne : i ≠ j := fun z => by rw [z, k1] at e; cases e
    rw [get_set, if_neg ne]
    refine ⟨k1, k2.imp_right ?_⟩
    rintro ⟨b, h1, h2, h3, h4, h5, h6⟩
    have nb : b ≠ a := fun z => h6 i d e (by rw [z]; exact ea)
    refine ⟨b, h1, h2, h3, h4.mono (Same.refl _) (upd_ne nb), h5, fun k y q1 => ?_⟩
    rcases getE_set q1 with ⟨z, _, _⟩ | ⟨_, q1⟩
    · subst z; exact h6 i d e
    · exact h6 k y q1
/-- the row is written -/
theorem StOk.putR (s : StOk C Z H σ env r) {i : Nat} {a : Addr} {u : HO} (ei : C.rs = some i) (ea : σ[i]? = some (some (.ref a))) (ok : rowOk r' = true) (o : Ob C.K Z (upd H a u) a r') :
    StOk C Z (upd H a u) σ env r' ∧ Ext (Own C σ env) Z H (Own C σ env) Z (upd H a u) := by
  have oa : Own C σ env a := .inr ⟨i, ei, ea⟩
  have za : Z a = none := (s.ownZ oa).1
  refine s.row_on ei ea (fun b o e' => ?_) ⟨Same.refl _, fun b o e q => ?_, fun _ _ _ _ _ => rfl, fun b o e => ?_, fun b h => .inl h⟩ ok za o
  · have ne : b ≠ a := fun z => by rw [z, za] at e'; cases e'
    rw [upd_ne ne]; exact s.zh b o e'
  · have ne : b ≠ a := fun z => q (by rw [z]; rfl)
    rw [upd_ne ne]; exact e
  · by_cases z : b = a
    · subst z; exact ⟨_, upd_same⟩
    · rw [upd_ne z]; exact ⟨o, e⟩
/-- the row is made -/
theorem StOk.mkR (s : StOk C Z H σ env .non) {i : Nat} {p : Addr} (hi : i < σ.length) (ei : C.rs = some i) (er : C.ra = none) (ok : rowOk r' = true) (zp : Z p = none) (o : Ob C.K Z H p r') (no : ¬ Own C σ env p) (n0 : C.H0 p = none) :
    StOk C Z H (σ.set i (some (.ref p))) env r' := by
  obtain ⟨e0, q0⟩ := s.row i ei
  have q1 : σ[i]? = some none := by
    rcases q0 with ⟨_, q, _⟩ | ⟨a, q, _⟩
    · exact q
    · cases q
  have own : ∀ b, Own C (σ.set i (some (.ref p))) env b → Own C σ env b ∨ b = p := fun b h => by
    rcases h with ⟨j, x, h1, h2⟩ | ⟨j, h1, h2⟩
    · have ne : i ≠ j := fun z => by rw [← z, e0] at h1; cases h1
      rw [get_set, if_neg ne] at h2
      exact .inl (.inl ⟨j, x, h1, h2⟩)
    · rw [ei] at h1; cases h1
      rw [get_set, if_pos rfl, if_pos hi] at h2
      cases h2; exact .inr rfl
  have neS : ∀ (j : Nat) (x : Sl), env[j]? = some x → x ≠ .no → i ≠ j := fun j x h n z => by rw [← z, e0] at h; cases h; exact n rfl
  refine ⟨s.zh, by rw [List.length_set]; exact s.len, fun j y q => ?_, fun j y q => ?_, fun j k y y' b q1 q2 q3 q4 => ?_, fun j q => ?_, (fun q => by rw [ei] at q; cases q), ⟨s.ent.z, s.ent.h, s.ent.n, s.ent.d, fun b h => ?_⟩⟩
  · rw [get_set, if_neg (neS j _ q (fun z => nomatch z))]; exact s.fr j y q
  · rw [get_set, if_neg (neS j _ q (fun z => nomatch z))]; exact s.ow j y q
  · rw [get_set, if_neg (neS j _ q1 (fun z => nomatch z))] at q3
    rw [get_set, if_neg (neS k _ q2 (fun z => nomatch z))] at q4
    exact s.sep j k y y' b q1 q2 q3 q4
  · rw [ei] at q; cases q
    refine ⟨e0, .inr ⟨p, ok, by rw [get_set, if_pos rfl, if_pos hi], zp, o, (fun a0 h => by rw [er] at h; cases h), fun j y q q2 => ?_⟩⟩
    rw [get_set, if_neg (neS j _ q (fun z => nomatch z))] at q2
    exact no (.inl ⟨j, y, q, q2⟩)
  · rcases own b h with h | rfl
    · exact s.ent.o b h
    · exact .inr n0
/-- what a slot owned is kept from now on -/
theorem StOk.frz1 (s : StOk C Z H σ env r) {i : Nat} {d : D} (e : env[i]? = some (.ow d)) :
    ∃ Z', StOk C Z' H σ (env.set i (.fr d)) r ∧ Ext (Own C σ env) Z H (Own C σ (env.set i (.fr d))) Z' H := by
  obtain ⟨a, ea, za, ob⟩ := s.ow i d e
  obtain ⟨u, hu, rep, sm⟩ := ob.frozen za
  have oa : Own C σ env a := .inl ⟨i, d, e, ea⟩
  have own : ∀ b, Own C σ (env.set i (.fr d)) b → Own C σ env b ∧ b ≠ a := fun b h => by
    rcases h with ⟨j, x, h1, h2⟩ | ⟨j, h1, h2⟩
    · rcases getE_set h1 with ⟨_, q, _⟩ | ⟨ne, q⟩
      · cases q
      · exact ⟨.inl ⟨j, x, q, h2⟩, fun z => ne (s.sep i j d x a e q ea (by rw [← z]; exact h2))⟩
    · refine ⟨.inr ⟨j, h1, h2⟩, fun z => ?_⟩
      obtain ⟨_, k2⟩ := s.row j h1
      rcases k2 with ⟨_, q, _⟩ | ⟨b', _, g2, _, _, _, g6⟩
      · rw [h2] at q; cases q
      · rw [h2] at g2; cases g2
        exact g6 i d e (by rw [z]; exact ea)
  have x : Ext (Own C σ env) Z H (Own C σ (env.set i (.fr d))) (upd Z a u) H :=
    ⟨sm, fun _ _ e _ => e, fun b o _ _ q => upd_ne fun z => q (by rw [z]; exact oa), fun _ _ e => ⟨_, e⟩, fun b h => .inl (own b h).1⟩
  have zn : ∀ b, Own C σ (env.set i (.fr d)) b → upd Z a u b = none := fun b h => by
    rw [upd_ne (own b h).2]; exact (s.ownZ (own b h).1).1
  refine ⟨upd Z a u, ⟨fun b o e' => ?_, by rw [List.length_set]; exact s.len, fun j y q => ?_, fun j y q => ?_, fun j k y y' b q1 q2 q3 q4 => ?_, fun j q => ?_, s.norow, s.ent.trans x⟩, x⟩
  · by_cases z : b = a
    · subst z; rw [upd_same] at e'; cases e'; exact .inl hu
    · rw [upd_ne z] at e'; exact s.zh b o e'
  · rcases getE_set q with ⟨z, q1, _⟩ | ⟨ne, q⟩
    · cases q1; subst z; exact ⟨_, ea, rep⟩
    · obtain ⟨v, e1, e2⟩ := s.fr j y q
      exact ⟨v, e1, e2.mono sm⟩
  · have q0 := q
    rcases getE_set q with ⟨_, q1, _⟩ | ⟨ne, q⟩
    · cases q1
    · obtain ⟨b, e1, e2, e3⟩ := s.ow j y q
      exact ⟨b, e1, zn b (.inl ⟨j, y, q0, e1⟩), e3.mono sm rfl⟩
  · rcases getE_set q1 with ⟨_, q1, _⟩ | ⟨_, q1⟩
    · cases q1
    rcases getE_set q2 with ⟨_, q2, _⟩ | ⟨_, q2⟩
    · cases q2
    exact s.sep j k y y' b q1 q2 q3 q4
  · obtain ⟨k1, k2⟩ := s.row j q
    have ne : i ≠ j := fun z => by rw [z, k1] at e; cases e
    rw [get_set, if_neg ne]
    refine ⟨k1, k2.imp_right ?_⟩
    rintro ⟨b, h1, h2, h3, h4, h5, h6⟩
    refine ⟨b, h1, h2, zn b (.inr ⟨j, q, h2⟩), h4.mono sm rfl, h5, fun k y q1 => ?_⟩
    rcases getE_set q1 with ⟨_, q1, _⟩ | ⟨_, q1⟩
    · cases q1
    · exact h6 k y q1
theorem StOk.frz : ∀ (is : List Nat) (env : Env') (Z : Hp), StOk C Z H σ env r → ∃ Z', StOk C Z' H σ (frzE is env) r ∧ Ext (Own C σ env) Z H (Own C σ (frzE is env)) Z' H
  | [], env, Z, s => ⟨Z, s, Ext.refl⟩
  | i :: is, env, Z, s => by
    unfold frzE
    cases e : env[i]? with
    | none => exact StOk.frz is env Z s
    | some sl =>
      cases sl with
      | ow d =>
        obtain ⟨Z1, s1, x1⟩ := s.frz1 e
        obtain ⟨Z2, s2, x2⟩ := StOk.frz is _ Z1 s1
        exact ⟨Z2, s2, x1.trans x2⟩
      | fr d => exact StOk.frz is env Z s
      | no => exact StOk.frz is env Z s
end
end PL

set_option Elab.async false
set_option linter.all false
set_option maxRecDepth 100000
set_option autoImplicit false
set_option maxHeartbeats 400000
namespace PL
open PySem PySem.Spec PyProof.Rows L2
/-! ### statements -/
def RetOk (C : Ctx) (d r' : D) (v : V) (Z' H' : Hp) : Prop := SameF Z' H' ∧ Ext C.O0 C.Z0 C.H0 C.O0 Z' H' ∧ Rep C.K Z' v d ∧ ∀ a, C.ra = some a → rowOk r' = true ∧ Z' a = none ∧ Ob C.K Z' H' a r'
def KS (C : Ctx) (σ : VS) (env : Env') (Z H : Hp) (D : Ends) : Fl → Prop
  | .nx env' r' => ∀ σ' Z' H', StOk C Z' H' σ' env' r' → Ext (Own C σ env) Z H (Own C σ' env') Z' H' → D.nx σ' H'
  | .rt d r' => ∀ v Z' H', RetOk C d r' v Z' H' → D.rt v H'
def rdS (C : Ctx) (s : S) : TS := fun D σ H => ∃ Z env r, StOk C Z H σ env r ∧ Post C (evS C.cl s env r) (KS C σ env Z H D)
def rdSs (C : Ctx) (ss : Ss) : TS := fun D σ H => ∃ Z env r, StOk C Z H σ env r ∧ Post C (evSs C.cl ss env r) (KS C σ env Z H D)
section
variable {C : Ctx} {σ σ1 : VS} {env env1 : Env'} {r r' : D} {Z H Z' H' Z1 H1 : Hp} {D : Ends}
theorem KS.later {x : Fl} (k : KS C σ env Z H D x) (q : Ext (Own C σ env) Z H (Own C σ1 env1) Z1 H1) : KS C σ1 env1 Z1 H1 D x := by
  cases x with
  | nx env' r' => exact fun σ' Z' H' s x => k σ' Z' H' s (q.trans x)
  | rt d r' => exact k
theorem Post.later {x : R Fl} (k : Post C x (KS C σ env Z H D)) (q : Ext (Own C σ env) Z H (Own C σ1 env1) Z1 H1) : Post C x (KS C σ1 env1 Z1 H1 D) := k.mono fun _ _ h => h.later q
theorem retOk (hr : ∀ a, C.ra = some a → ∃ i, C.rs = some i) (s : StOk C Z H σ env r) (o : C.O0 = RA C.ra) {v : V} {d : PL.D} (rep : Rep C.K Z v d) : RetOk C d r v Z H := by
  refine ⟨s.zh, ⟨s.ent.z, s.ent.h, s.ent.n, s.ent.d, fun b h => .inl h⟩, rep, fun a ha => ?_⟩
  obtain ⟨i, hi⟩ := hr a ha
  obtain ⟨_, k⟩ := s.row i hi
  rcases k with ⟨_, _, q⟩ | ⟨b, h1, h2, h3, h4, h5, h6⟩
  · rw [ha] at q; cases q
  · have := h5 a ha
    subst this
    exact ⟨h1, h3, h4⟩
theorem rs_seq {x : S} {xs : Ss} (h : rdSs C (.cons x xs) D σ H) : tSeq (rdS C x) (rdSs C xs) D σ H := by
  obtain ⟨Z, env, r, s, h⟩ := h
  unfold evSs at h
  refine ⟨Z, env, r, s, (Post.bind h).mono fun p _ q => ?_⟩
  cases p with
  | nx env' r' => exact fun σ' Z' H' s' x' => ⟨Z', env', r', s', Post.later q x'⟩
  | rt d r' => exact q
theorem rs_nil (h : rdSs C .nil D σ H) : tNext D σ H := by
  obtain ⟨Z, env, r, s, h⟩ := h
  unfold evSs at h
  exact h σ Z H s Ext.refl
theorem rs_frz {is : List Nat} {xs : Ss} (h : rdSs C (.cons (.frz is) xs) D σ H) : rdSs C xs D σ H := by
  obtain ⟨Z, env, r, s, h⟩ := h
  unfold evSs evS at h
  obtain ⟨Z', s', x'⟩ := StOk.frz is env Z s
  exact ⟨Z', frzE is env, r, s', Post.later (σ1 := σ) (x := evSs C.cl xs (frzE is env) r) h x'⟩
theorem rs_asg {i : Nat} {e : E} (nr : C.rs ≠ some i) (b : isB e = false) (h : rdS C (.asg i e) D σ H) : tAsg (rdE C e) (gName i) D σ H := by
  obtain ⟨Z, env, r, s, h⟩ := h
  unfold evS at h
  refine ⟨Z, env, r, s, (Post.bind h).mono fun p ep q => ?_⟩
  obtain ⟨x, r1⟩ := p
  intro v Z1 H1 s1 x1 res
  obtain ⟨Z2, s2, x2, rep, _⟩ := res.keep b s s1 x1
  obtain ⟨s3, x3⟩ := s2.setF rep nr
  exact q _ _ _ s3 (x2.trans x3)
theorem rs_own {i : Nat} {e : E} (nr : C.rs ≠ some i) (b : isF e = true) (h : rdS C (.own i e) D σ H) : tAsg (rdE C e) (gName i) D σ H := by
  obtain ⟨Z, env, r, s, h⟩ := h
  unfold evS at h
  refine ⟨Z, env, r, s, (Post.bind h).mono fun p ep q => ?_⟩
  obtain ⟨x, r1⟩ := p
  intro v Z1 H1 s1 x1 res
  have q : Post C (if objD x then .ok (.nx (env.set i (.ow x)) r1) else .no) (KS C σ env Z H D) := q
  have bb : isB e = false := by cases e <;> first | rfl | cases b
  by_cases ho : objD x = true
  · rw [if_pos ho] at q
    rcases res.strong bb with ⟨_, n⟩ | ⟨p, rfl, hp, zp, o⟩
    · exact absurd ⟨b, ho⟩ n
    · have no : ¬ Own C σ env p := fun z => by
        obtain ⟨u, hu⟩ := s.ownH z
        rw [hp] at hu; cases hu
      have s3 := s1.setO zp o no (s.ent.free hp) nr
      refine q _ _ _ s3 ⟨x1.z, x1.h, x1.n, x1.d, fun b h => ?_⟩
      rcases h with ⟨j, y, h1, h2⟩ | ⟨j, h1, h2⟩
      · rcases getE_set h1 with ⟨z, _, hl⟩ | ⟨ne, g⟩
        · subst z
          rw [get_set, if_pos rfl, if_pos (by rw [← s1.len]; exact hl)] at h2
          cases h2; exact .inr hp
        · rw [get_set, if_neg ne] at h2
          exact .inl (.inl ⟨j, y, g, h2⟩)
      · have ne : i ≠ j := fun z => nr (by rw [z]; exact h1)
        rw [get_set, if_neg ne] at h2
        exact .inl (.inr ⟨j, h1, h2⟩)
  · rw [if_neg ho] at q; exact q.elim
theorem rs_asgT {t : Tg} {e : E} (nr : ∀ i, C.rs = some i → i ∉ slT t) (b : isB e = false) (h : rdS C (.asgT t e) D σ H) : tAsg (rdE C e) (gT C.K t) D σ H := by
  obtain ⟨Z, env, r, s, h⟩ := h
  unfold evS at h
  refine ⟨Z, env, r, s, (Post.bind h).mono fun p ep q => ?_⟩
  obtain ⟨x, r1⟩ := p
  intro v Z1 H1 s1 x1 res
  obtain ⟨Z2, s2, x2, rep, _⟩ := res.keep b s s1 x1
  obtain ⟨env2, e2, q⟩ := Post.quiet (q_bind t x env) q
  obtain ⟨σ3, s3, x3, _, g⟩ := rg t x v σ env env2 s2 rep e2 nr
  exact g _ (q _ _ _ s3 (x2.trans x3))
theorem rs_ex {e : E} (h : rdS C (.ex e) D σ H) : tDrop (rdE C e) D σ H := by
  obtain ⟨Z, env, r, s, h⟩ := h
  unfold evS at h
  refine ⟨Z, env, r, s, (Post.bind h).mono fun p ep q => ?_⟩
  obtain ⟨x, r1⟩ := p
  intro v Z1 H1 s1 x1 res
  exact q _ _ _ s1 x1
theorem rs_ret {e : E} (hr : ∀ a, C.ra = some a → ∃ i, C.rs = some i) (o : C.O0 = RA C.ra) (b : isB e = false) (h : rdS C (.ret e) D σ H) : tRet (rdE C e) D σ H := by
  obtain ⟨Z, env, r, s, h⟩ := h
  unfold evS at h
  refine ⟨Z, env, r, s, (Post.bind h).mono fun p ep q => ?_⟩
  obtain ⟨x, r1⟩ := p
  intro v Z1 H1 s1 x1 res
  obtain ⟨Z2, s2, x2, rep, _⟩ := res.keep b s s1 x1
  exact q v Z2 H1 (retOk hr s2 o rep)
theorem rs_retN (hr : ∀ a, C.ra = some a → ∃ i, C.rs = some i) (o : C.O0 = RA C.ra) (h : rdS C .retN D σ H) : tRetN D σ H := by
  obtain ⟨Z, env, r, s, h⟩ := h
  unfold evS at h
  exact h .non Z H (retOk hr s o .non)
theorem rs_ite {c : E} {a b : Ss} (h : rdS C (.ite c a b) D σ H) : tIfS (rdT C c) (rdSs C a) (rdSs C b) D σ H := by
  obtain ⟨Z, env, r, s, h⟩ := h
  unfold evS at h
  refine ⟨Z, env, r, s, ?_⟩
  cases e : evE C.cl c env r with
  | no => rw [e] at h; exact h.elim
  | ex c d => rw [e] at h; exact h
  | ok p =>
    obtain ⟨x, r1⟩ := p
    rw [e] at h
    have h : Post C ((asB x).bind fun k => if k then evSs C.cl a env r1 else evSs C.cl b env r1) (KS C σ env Z H D) := h
    show Post C ((asB x).bind fun b => .ok (b, r1)) _
    cases e2 : asB x with
    | no => rw [e2] at h; exact h.elim
    | ex c d => rw [e2] at h; exact h
    | ok k =>
      rw [e2] at h
      intro Z1 H1 s1 x1
      cases k with
      | true => exact ⟨Z1, env, r1, s1, Post.later (x := evSs C.cl a env r1) h x1⟩
      | false => exact ⟨Z1, env, r1, s1, Post.later (x := evSs C.cl b env r1) h x1⟩
/-- for -/
theorem rs_for {t : Tg} {it : It} {body : Ss} (nr : ∀ i, C.rs = some i → i ∉ slT t) (h : rdS C (.for_ t it body) D σ H) : tFor (rdI C it) (gT C.K t) (rdSs C body) D σ H := by
  obtain ⟨Z0, env0, r0, s0, h⟩ := h
  unfold evS at h
  refine ⟨Z0, env0, r0, s0, (Post.bind h).mono fun p ep q => ?_⟩
  obtain ⟨ds, r1⟩ := p
  intro J Z1 H1 s1 x1 w
  let f : PL.D → Env' → PL.D → R Fl := fun d env r => (bindT t d env).bind fun env => evSs C.cl body env r
  have q : Post C (forD f ds env0 r1) (KS C σ env0 Z1 H1 D) := Post.later q x1
  let W : Nat → Nat → VS → Hp → Prop := fun i m σi Hi => m = ds.length - i ∧ i ≤ ds.length ∧ ∃ (Zi : Hp) (env : Env') (ri : PL.D), StOk C Zi Hi σi env ri ∧ Ext (Own C σ env0) Z1 H1 (Own C σi env) Zi Hi ∧ Post C (forD f (ds.drop i) env ri) (KS C σi env Zi Hi D)
  refine ⟨W, ⟨ds.length, rfl, Nat.zero_le _, Z1, env0, r1, s1, Ext.refl, q⟩, fun i m σi Hi hw => ?_⟩
  obtain ⟨hm, hi, Zi, env, ri, s, x, q⟩ := hw
  by_cases hlt : i < ds.length
  · refine .inr ?_
    have hd : ds[i]? = some ds[i] := List.getElem?_eq_getElem hlt
    rw [List.drop_eq_getElem_cons hlt] at q
    unfold forD at q
    obtain ⟨hgo, hy⟩ := w.draw s x hd
    refine ⟨hgo, W (i + 1) (m - 1), fun σ' H' h => ⟨m - 1, by omega, h⟩, fun v H2 hy2 => ?_⟩
    obtain ⟨Z2, s2, x2, rep⟩ := hy v H2 hy2
    have q := Post.bind q
    obtain ⟨env2, e2, q⟩ := Post.quiet (q_bind t ds[i] env) q
    obtain ⟨σ3, s3, x3, _, g⟩ := rg t ds[i] v _ _ env2 s2 rep e2 nr
    refine g _ ⟨Z2, env2, ri, s3, q.mono fun fl _ k => ?_⟩
    cases fl with
    | nx env' r' =>
      intro σ' Z' H' s' x'
      have x'' := (x2.trans x3).trans x'
      exact ⟨by omega, hlt, Z', env', r', s', x.trans x'', Post.later k x''⟩
    | rt d r' => exact k
  · refine .inl ⟨w.stop i _ Zi Hi (by omega) x s.zh, ?_⟩
    rw [List.drop_eq_nil_of_le (by omega)] at q
    unfold forD at q
    exact q σi Zi Hi s Ext.refl
theorem rs_wh {c : E} {body : Ss} (h : rdS C (.wh c body) D σ H) : tWhile (rdT C c) (rdSs C body) D σ H := by
  obtain ⟨Z0, env0, r0, s0, h⟩ := h
  unfold evS at h
  let cf : Env' → PL.D → R (Bool × PL.D) := fun env r => (evE C.cl c env r).bind fun p => (asB p.1).bind fun b => .ok (b, p.2)
  let f : Env' → PL.D → R Fl := fun env r => evSs C.cl body env r
  have h : Post C (whD cf f WF env0 r0) (KS C σ env0 Z0 H D) := h
  let W : Nat → VS → Hp → Prop := fun m σi Hi => ∃ (Zi : Hp) (env : Env') (ri : PL.D), StOk C Zi Hi σi env ri ∧ Post C (whD cf f m env ri) (KS C σi env Zi Hi D)
  generalize WF = n at h
  refine ⟨W, ⟨n, Z0, env0, r0, s0, h⟩, fun m σi Hi hw => ?_⟩
  obtain ⟨Zi, env, ri, s, q⟩ := hw
  cases m with
  | zero => exact q.elim
  | succ m =>
    unfold whD at q
    refine ⟨Zi, env, ri, s, (Post.bind q).mono fun p _ q => ?_⟩
    obtain ⟨b, r1⟩ := p
    intro Z1 H1 s1 x1
    cases b with
    | true =>
      refine ⟨W m, fun σ' H' h => ⟨m, Nat.lt_succ_self m, h⟩, Z1, env, r1, s1, (Post.bind (x := f env r1) q).mono fun fl _ k => ?_⟩
      cases fl with
      | nx env' r' => exact fun σ' Z' H' s' x' => ⟨Z', env', r', s', Post.later k (x1.trans x')⟩
      | rt d r' => exact k
    | false => exact q σi Z1 H1 s1 x1
end
end PL

set_option Elab.async false
set_option linter.all false
set_option maxRecDepth 100000
set_option autoImplicit false
set_option maxHeartbeats 400000
namespace PL
open PySem PySem.Spec PyProof.Rows L2
/-! ### rows that never return -/
mutual
def nrS : S → Bool
  | .ret _ => false | .retN => false
  | .ite _ a b => nrSs a && nrSs b
  | .for_ _ _ b => nrSs b
  | .wh _ b => nrSs b
  | _ => true
def nrSs : Ss → Bool
  | .nil => true
  | .cons s ss => nrS s && nrSs ss
end
def Nx (x : R Fl) : Prop := ∀ d r, x ≠ .ok (.rt d r)
theorem nx_ok (e : Env') (r : D) : Nx (.ok (.nx e r)) := fun _ _ h => nomatch h
theorem nx_no : Nx .no := fun _ _ h => nomatch h
theorem nx_ex (c : Nat) (d : D) : Nx (.ex c d) := fun _ _ h => nomatch h
theorem nx_bind {α : Type} {x : R α} {f : α → R Fl} (h : ∀ a, Nx (f a)) : Nx (x.bind f) := by
  cases x with
  | ok a => exact h a
  | ex c d => exact nx_ex c d
  | no => exact nx_no
theorem nx_for {f : D → Env' → D → R Fl} (h : ∀ d e r, Nx (f d e r)) : ∀ (ds : List D) (env : Env') (r : D), Nx (forD f ds env r)
  | [], env, r => nx_ok _ _
  | d :: ds, env, r => by
    unfold forD
    have hd := h d env r
    cases hf : f d env r with
    | no => exact nx_no
    | ex c d => exact nx_ex c d
    | ok x =>
      cases x with
      | nx e r => exact nx_for h ds e r
      | rt d r => exact absurd hf (hd d r)
theorem nx_wh {c : Env' → D → R (Bool × D)} {f : Env' → D → R Fl} (h : ∀ e r, Nx (f e r)) : ∀ (n : Nat) (env : Env') (r : D), Nx (whD c f n env r)
  | 0, env, r => by unfold whD; exact nx_no
  | n + 1, env, r => by
    unfold whD
    refine nx_bind fun p => ?_
    dsimp only
    split
    · have hd := h env p.2
      cases hf : f env p.2 with
      | no => exact nx_no
      | ex c d => exact nx_ex c d
      | ok x =>
        cases x with
        | nx e r => exact nx_wh h n e r
        | rt d r => exact absurd hf (hd d r)
    · exact nx_ok _ _
mutual
theorem nx_s (cl : Cl) : ∀ (s : S) (env : Env') (r : D), nrS s = true → Nx (evS cl s env r)
  | .ret _, _, _, h => by cases h
  | .retN, _, _, h => by cases h
  | .ite c a b, env, r, h => by
    unfold nrS at h
    rw [Bool.and_eq_true] at h
    unfold evS
    refine nx_bind fun p => nx_bind fun k => ?_
    split
    · exact nx_ss cl a env _ h.1
    · exact nx_ss cl b env _ h.2
  | .for_ t it b, env, r, h => by
    unfold nrS at h
    unfold evS
    exact nx_bind fun p => nx_for (fun d e r => nx_bind fun e => nx_ss cl b e r h) _ _ _
  | .wh c b, env, r, h => by
    unfold nrS at h
    unfold evS
    exact nx_wh (fun e r => nx_ss cl b e r h) _ _ _
  | .asg i e, env, r, _ => by unfold evS; exact nx_bind fun _ => nx_ok _ _
  | .own i e, env, r, _ => by unfold evS; refine nx_bind fun _ => ?_; dsimp only; split <;> first | exact nx_ok _ _ | exact nx_no
  | .asgT t e, env, r, _ => by unfold evS; exact nx_bind fun _ => nx_bind fun _ => nx_ok _ _
  | .asgP is es, env, r, _ => by unfold evS; exact nx_bind fun _ => nx_bind fun _ => nx_ok _ _
  | .mkrow e, env, r, _ => by
    unfold evS
    split
    · refine nx_bind fun _ => ?_
      dsimp only
      split <;> first | exact nx_ok _ _ | exact nx_no
    · exact nx_no
  | .frz is, env, r, _ => by unfold evS; exact nx_ok _ _
  | .setx i k v, env, r, _ => by
    unfold evS
    refine nx_bind fun _ => ?_
    dsimp only
    split
    · exact nx_bind fun _ => nx_bind fun _ => nx_ok _ _
    · exact nx_no
  | .setr k v, env, r, _ => by
    unfold evS
    refine nx_bind fun _ => ?_
    dsimp only
    split
    · refine nx_bind fun _ => ?_
      split
      · exact nx_bind fun _ => nx_ok _ _
      · exact nx_no
    · exact nx_no
  | .set2 i k1 k2 e, env, r, _ => by
    unfold evS
    refine nx_bind fun _ => ?_
    dsimp only
    split
    · split
      · exact nx_bind fun _ => nx_bind fun _ => nx_bind fun _ => nx_bind fun _ => nx_ok _ _
      · exact nx_no
    · exact nx_no
  | .augx i k o v, env, r, _ => by
    unfold evS
    split
    · refine nx_bind fun _ => nx_bind fun _ => nx_bind fun _ => ?_
      dsimp only
      split
      · exact nx_bind fun _ => nx_bind fun _ => nx_ok _ _
      · exact nx_no
    · exact nx_no
  | .aug i o e, env, r, _ => by
    unfold evS
    split
    · refine nx_bind fun _ => ?_
      dsimp only
      split
      · exact nx_bind fun _ => nx_ok _ _
      · exact nx_no
    · exact nx_no
  | .app i e, env, r, _ => by
    unfold evS
    split
    · refine nx_bind fun _ => ?_
      dsimp only
      split <;> first | exact nx_ok _ _ | exact nx_no
    · exact nx_no
  | .pop t i, env, r, _ => by
    unfold evS
    split
    · split <;> first | exact nx_ok _ _ | exact nx_no
    · exact nx_no
  | .ex e, env, r, _ => by unfold evS; exact nx_bind fun _ => nx_ok _ _
  | .rais c es, env, r, _ => by
    unfold evS
    refine nx_bind fun _ => ?_
    dsimp only
    split <;> first | exact nx_ex _ _ | exact nx_no
theorem nx_ss (cl : Cl) : ∀ (ss : Ss) (env : Env') (r : D), nrSs ss = true → Nx (evSs cl ss env r)
  | .nil, env, r, _ => by unfold evSs; exact nx_ok _ _
  | .cons s ss, env, r, h => by
    unfold nrSs at h
    rw [Bool.and_eq_true] at h
    unfold evSs
    have hs := nx_s cl s env r h.1
    cases he : evS cl s env r with
    | no => exact nx_no
    | ex c d => exact nx_ex c d
    | ok x =>
      cases x with
      | nx e r => exact nx_ss cl ss e r h.2
      | rt d r => exact absurd he (hs d r)
end
end PL

set_option Elab.async false
set_option linter.all false
set_option maxRecDepth 100000
set_option autoImplicit false
set_option maxHeartbeats 400000
namespace PL
open PySem PySem.Spec PyProof.Rows L2
section
variable {C : Ctx} {σ σ' : VS} {env env' : Env'} {r r' : D} {Z H Z' H' : Hp} {D : Ends}
/-- the entry's dict locked too -/
def Ctx.lockC (C : Ctx) (d : Addr) (u : HO) : Ctx := { C with H0 := match C.H0 d with
  | some _ => upd C.H0 d u
  | none => C.H0 }
/-- siblings that return alike -/
structure SibF (C C2 : Ctx) : Prop where
  K : C2.K = C.K
  cl : C2.cl = C.cl
  rs : C2.rs = C.rs
  ra : C2.ra = C.ra
  ew : C2.ew = C.ew
  O0 : C2.O0 = C.O0
theorem lockC_none {d : Addr} {u : HO} (h : C.H0 d = none) : C.lockC d u = C := by
  unfold Ctx.lockC
  rw [h]
theorem lockC_h {d : Addr} {u : HO} {b : Addr} (n : b ≠ d) : (C.lockC d u).H0 b = C.H0 b := by
  unfold Ctx.lockC
  cases h : C.H0 d with
  | none => rfl
  | some o => exact upd_ne n
theorem lockC_d {d : Addr} {u o : HO} (h : (C.lockC d u).H0 d = some o) : o = u := by
  unfold Ctx.lockC at h
  cases h0 : C.H0 d with
  | none => rw [h0] at h; dsimp only at h; rw [h0] at h; cases h
  | some o' => rw [h0] at h; dsimp only at h; rw [upd_same] at h; cases h; rfl
theorem sib_lock (d : Addr) (u : HO) : SibF C (C.lockC d u) := ⟨rfl, rfl, rfl, rfl, rfl, rfl⟩
theorem lock_in2 {d : Addr} {kvs : List (List Key × V)} {od : Obj} (s : StOk C Z H σ env r) (hd : H d = some (.dT kvs)) (zd : Z d = some (.dT kvs)) :
    StOk (C.lockC d (.frz od (.dT kvs))) Z (upd H d (.frz od (.dT kvs))) σ env r := by
  have no : ¬ Own C σ env d := notOwn s zd
  have ne : ∀ a, Own C σ env a → a ≠ d := fun a h z => no (by rw [← z]; exact h)
  refine ⟨fun b o e => ?_, s.len, s.fr, fun j e q => ?_, s.sep, fun j q => ?_, s.norow, ⟨s.ent.z, fun b o e q => ?_, fun b o e t q => ?_, fun b o e => ?_, fun b q => ?_⟩⟩
  · by_cases z : b = d
    · subst z; rw [upd_same]; rw [zd] at e; cases e; exact .inr ⟨od, kvs, rfl, rfl⟩
    · rw [upd_ne z]; exact s.zh b o e
  · obtain ⟨a, e1, e2, e3⟩ := s.ow j e q
    exact ⟨a, e1, e2, e3.mono (Same.refl _) (upd_ne (ne a (.inl ⟨j, e, q, e1⟩)))⟩
  · obtain ⟨k4, k5⟩ := s.row j q
    refine ⟨k4, k5.imp_right ?_⟩
    rintro ⟨a, h1, h2, h3, h4, h5, h6⟩
    exact ⟨a, h1, h2, h3, h4.mono (Same.refl _) (upd_ne (ne a (.inr ⟨j, q, h2⟩))), h5, h6⟩
  · by_cases z : b = d
    · subst z; rw [upd_same, lockC_d e]
    · rw [upd_ne z]; rw [lockC_h z] at e; exact s.ent.h b o e q
  · by_cases z : b = d
    · subst z
      have h0 : ∃ o', C.H0 b = some o' := by
        unfold Ctx.lockC at e
        cases h0 : C.H0 b with
        | none => rw [h0] at e; dsimp only at e; rw [h0] at e; cases e
        | some o' => exact ⟨o', rfl⟩
      obtain ⟨o', h0⟩ := h0
      have := s.ent.h b o' h0 q
      rw [hd] at this; cases this
      exact s.ent.n b _ h0 (fun xs z => nomatch z) q
    · rw [lockC_h z] at e; exact s.ent.n b o e t q
  · by_cases z : b = d
    · subst z; exact ⟨_, upd_same⟩
    · rw [lockC_h z] at e; rw [upd_ne z]; exact s.ent.d b o e
  · have z : b ≠ d := ne b q
    rw [lockC_h z]
    exact s.ent.o b q
theorem lock_st2 {d : Addr} {u : HO} {od : Obj} (s : StOk C Z H σ env r) (hd : H d = some u) (zd : Z d = some u) (nt : NT u)
    (s2 : StOk (C.lockC d (.frz od u)) Z' H' σ' env' r') (x : Ext (Own C σ env) Z (upd H d (.frz od u)) (Own C σ' env') Z' H') :
    StOk C Z' (upd H' d u) σ' env' r' ∧ Ext (Own C σ env) Z H (Own C σ' env') Z' (upd H' d u) := by
  have no : ¬ Own C σ env d := notOwn s zd
  have zd' : Z' d = some u := x.z _ _ zd
  have no' : ¬ Own C σ' env' d := fun h => by
    have := (s2.ownZ h).1
    rw [zd'] at this; cases this
  have ne : ∀ a, Own C σ' env' a → a ≠ d := fun a h z => no' (by rw [← z]; exact h)
  have x' : Ext (Own C σ env) Z H (Own C σ' env') Z' (upd H' d u) := by
    refine ⟨x.z, fun b o e q => ?_, fun b o e t q => ?_, fun b o e => ?_, fun b h => ?_⟩
    · by_cases z : b = d
      · subst z; rw [upd_same]; rw [hd] at e; exact e
      · rw [upd_ne z]; exact x.h b o (by rw [upd_ne z]; exact e) q
    · by_cases z : b = d
      · subst z; rw [zd', zd]
      · exact x.n b o (by rw [upd_ne z]; exact e) t q
    · by_cases z : b = d
      · subst z; exact ⟨_, upd_same⟩
      · rw [upd_ne z]; exact x.d b o (by rw [upd_ne z]; exact e)
    · refine (x.o b h).imp_right fun q => ?_
      rw [upd_ne (ne b h)] at q; exact q
  refine ⟨⟨fun b o e => ?_, s2.len, s2.fr, fun j e q => ?_, s2.sep, fun j q => ?_, s2.norow, s.ent.trans x'⟩, x'⟩
  · by_cases z : b = d
    · subst z; rw [upd_same]; rw [zd'] at e; exact .inl e
    · rw [upd_ne z]; exact s2.zh b o e
  · obtain ⟨a, e1, e2, e3⟩ := s2.ow j e q
    exact ⟨a, e1, e2, e3.mono (Same.refl _) (upd_ne (ne a (.inl ⟨j, e, q, e1⟩)))⟩
  · obtain ⟨k4, k5⟩ := s2.row j q
    refine ⟨k4, k5.imp_right ?_⟩
    rintro ⟨a, h1, h2, h3, h4, h5, h6⟩
    exact ⟨a, h1, h2, h3, h4.mono (Same.refl _) (upd_ne (ne a (.inr ⟨j, q, h2⟩))), h5, h6⟩
/-- a body read in any sibling -/
def rdSX (C : Ctx) (ss : Ss) : TS := fun D σ H => ∃ C2, SibF C C2 ∧ rdSs C2 ss D σ H
theorem rs_forT {t : Tg} {it : It} {body : Ss} {tb : TS} (hb : ∀ D σ H, rdSs C body D σ H → tb D σ H) (nr : ∀ i, C.rs = some i → i ∉ slT t) (h : rdS C (.for_ t it body) D σ H) : tFor (rdI C it) (gT C.K t) tb D σ H := by
  obtain ⟨Z0, env0, r0, s0, h⟩ := h
  unfold evS at h
  refine ⟨Z0, env0, r0, s0, (Post.bind h).mono fun p ep q => ?_⟩
  obtain ⟨ds, r1⟩ := p
  intro J Z1 H1 s1 x1 w
  let f : PL.D → Env' → PL.D → R Fl := fun d env r => (bindT t d env).bind fun env => evSs C.cl body env r
  have q : Post C (forD f ds env0 r1) (KS C σ env0 Z1 H1 D) := Post.later q x1
  let W : Nat → Nat → VS → Hp → Prop := fun i m σi Hi => m = ds.length - i ∧ i ≤ ds.length ∧ ∃ (Zi : Hp) (env : Env') (ri : PL.D), StOk C Zi Hi σi env ri ∧ Ext (Own C σ env0) Z1 H1 (Own C σi env) Zi Hi ∧ Post C (forD f (ds.drop i) env ri) (KS C σi env Zi Hi D)
  refine ⟨W, ⟨ds.length, rfl, Nat.zero_le _, Z1, env0, r1, s1, Ext.refl, q⟩, fun i m σi Hi hw => ?_⟩
  obtain ⟨hm, hi, Zi, env, ri, s, x, q⟩ := hw
  by_cases hlt : i < ds.length
  · refine .inr ?_
    have hd : ds[i]? = some ds[i] := List.getElem?_eq_getElem hlt
    rw [List.drop_eq_getElem_cons hlt] at q
    unfold forD at q
    obtain ⟨hgo, hy⟩ := w.draw s x hd
    refine ⟨hgo, W (i + 1) (m - 1), fun σ' H' h => ⟨m - 1, by omega, h⟩, fun v H2 hy2 => ?_⟩
    obtain ⟨Z2, s2, x2, rep⟩ := hy v H2 hy2
    have q := Post.bind q
    obtain ⟨env2, e2, q⟩ := Post.quiet (q_bind t ds[i] env) q
    obtain ⟨σ3, s3, x3, _, g⟩ := rg t ds[i] v _ _ env2 s2 rep e2 nr
    refine g _ (hb _ _ _ ⟨Z2, env2, ri, s3, q.mono fun fl _ k => ?_⟩)
    cases fl with
    | nx env' r' =>
      intro σ' Z' H' s' x'
      have x'' := (x2.trans x3).trans x'
      exact ⟨by omega, hlt, Z', env', r', s', x.trans x'', Post.later k x''⟩
    | rt d r' => exact k
  · refine .inl ⟨w.stop i _ Zi Hi (by omega) x s.zh, ?_⟩
    rw [List.drop_eq_nil_of_le (by omega)] at q
    unfold forD at q
    exact q σi Zi Hi s Ext.refl
theorem rs_forK {t : Tg} {i : Nat} {body : Ss} (nb : nrSs body = true) (nr : ∀ i, C.rs = some i → i ∉ slT t) (h : rdS C (.for_ t (.keys (.loc i)) body) D σ H) :
    tFor (iKeysT (tVar i)) (gT C.K t) (rdSX C body) D σ H ∨ tLock (tFor (iKeysT (tVar i)) (gT C.K t) (rdSX C body)) D σ H := by
  obtain ⟨Z, env, r, s, h⟩ := id h
  have nx : Nx (evS C.cl (.for_ t (.keys (.loc i)) body) env r) := nx_s _ _ _ _ (by unfold nrS; exact nb)
  cases e : env[i]? with
  | none => unfold evS evIt evE at h; rw [e] at h; exact h.elim
  | some sl =>
    cases sl with
    | fr x =>
      obtain ⟨v, k1, k2⟩ := s.fr i x e
      cases x with
      | dic es =>
        cases k2 with
        | dic zd rd =>
          rename_i d kvs
          rcases s.zh _ _ zd with hd | ⟨ob, kvs', q1, hd⟩
          · refine .inr ⟨d, _, hd, trivial, fun od => ?_⟩
            have s2 := lock_in2 (od := od) s hd zd
            have no : ¬ Own C σ env d := notOwn s zd
            have key : rdS (C.lockC d (.frz od (.dT kvs))) (.for_ t (.keys (.loc i)) body) ⟨fun σ' H' => H' d = some (.frz od (.dT kvs)) ∧ D.nx σ' (upd H' d (.dT kvs)), fun v H' => H' d = some (.frz od (.dT kvs)) ∧ D.rt v (upd H' d (.dT kvs)), fun σ' H' => H' d = some (.frz od (.dT kvs)) ∧ D.bk σ' (upd H' d (.dT kvs)), fun σ' H' => H' d = some (.frz od (.dT kvs)) ∧ D.ct σ' (upd H' d (.dT kvs))⟩ σ (upd H d (.frz od (.dT kvs))) := by
              refine ⟨Z, env, r, s2, ?_⟩
              show Post C (evS C.cl (.for_ t (.keys (.loc i)) body) env r) _
              refine h.mono fun fl ef k => ?_
              cases fl with
              | rt d' r' => exact absurd ef (nx d' r')
              | nx env' r' =>
                intro σ' Z' H' s3 x3
                have x3 : Ext (Own C σ env) Z (upd H d (.frz od (.dT kvs))) (Own C σ' env') Z' H' := x3
                obtain ⟨s4, x4⟩ := lock_st2 s hd zd (fun xs z => nomatch z) s3 x3
                exact ⟨x3.h d _ upd_same no, k σ' Z' _ s4 x4⟩
            exact ri_keys (C := C.lockC d (.frz od (.dT kvs))) (rs_forT (C := C.lockC d (.frz od (.dT kvs))) (tb := rdSX C body) (fun D σ H q => ⟨_, sib_lock d _, q⟩) nr key) ⟨d, od, kvs, k1, upd_same⟩
          · cases q1
            exact .inl (ri_keys (rs_forT (tb := rdSX C body) (fun D σ H q => ⟨C, ⟨rfl, rfl, rfl, rfl, rfl, rfl⟩, q⟩) nr ⟨Z, env, r, s, h⟩) ⟨d, ob, kvs, k1, hd⟩)
      | _ => unfold evS evIt evE at h; rw [e] at h; exact h.elim
    | _ => unfold evS evIt evE at h; rw [e] at h; exact h.elim
end
end PL

set_option Elab.async false
set_option linter.all false
set_option maxRecDepth 100000
set_option autoImplicit false
set_option maxHeartbeats 400000
namespace PL
open PySem PySem.Spec PyProof.Rows L2
/-! ### stores into an object -/
def rSet : TSet := fun o i v H Q => rSetL o i v H Q ∨ rSetD o i v H Q
theorem set_ok {X : Cx} (hu : X.A.units + 1 < cLine) : PSet X rSet := fun pins s σ H o i v ov iv u Q I r1 r2 r3 h =>
  h.elim (set_list pins s σ H o i v ov iv u Q I r1 r2 r3) (set_dict hu pins s σ H o i v ov iv u Q I r1 r2 r3)
section
variable {C : Ctx} {σ σ1 : VS} {env env1 : Env'} {r r' : D} {Z H Z' H' Z1 H1 : Hp} {D : Ends}
theorem v_set (zh : SameF Z H) {a : Addr} {x k y d' : PL.D} {w v : V} (ob : Ob C.K Z H a x) (hk : RepH C.K Z H w k) (hv : Rep C.K Z v y) (e : setD x k y = .ok d') :
    ∃ u, Ob C.K Z (upd H a u) a d' ∧ ∀ Q : Hp → Prop, Q (upd H a u) → rSet (.ref a) w v H Q := by
  cases x with
  | lst ds =>
    cases k with
    | int i =>
      have e : (match idxN ds.length i with
        | some j => R.ok (PL.D.lst (ds.set j y))
        | none => .no) = .ok d' := e
      cases ei : idxN ds.length i with
      | none => rw [ei] at e; cases e
      | some j =>
        rw [ei] at e
        cases e
        obtain ⟨xs, hx, ra⟩ := ob
        have hw := hk.int
        refine ⟨_, ⟨xs.set j v, upd_same, Reps.set hv j ra⟩, fun Q q => .inl ⟨a, xs, i, j, rfl, hw, hx, ?_, q⟩⟩
        have : ixN xs.length i = idxN xs.length i := rfl
        rw [this, ra.length]; exact ei
    | _ => cases e
  | dic es =>
    have e : (match keyD k with
      | some k => if es.length < LIM then R.ok (PL.D.dic (putD k y es)) else .no
      | none => .no) = .ok d' := e
    cases ek : keyD k with
    | none => rw [ek] at e; cases e
    | some k' =>
      rw [ek] at e
      obtain ⟨kvs, hx, ra⟩ := ob
      by_cases hl : es.length < LIM
      · have e : (if es.length < LIM then R.ok (PL.D.dic (putD k' y es)) else .no) = .ok d' := e
        rw [if_pos hl] at e
        cases e
        obtain ⟨b, rfl, hb⟩ := ofA_put zh hk ek
        refine ⟨_, ⟨putK kvs (kI k') v, upd_same, putK_put k' hv ra⟩, fun Q q => .inr ⟨a, _, rfl, DPut.t hx hb ?_, q⟩⟩
        rw [ra.length]; exact lim_lt (Nat.le_of_lt hl)
      · have e : (if es.length < LIM then R.ok (PL.D.dic (putD k' y es)) else .no) = .ok d' := e
        rw [if_neg hl] at e
        cases e
  | _ => cases e
theorem rs_setx {i : Nat} {k v : E} (b : isB v = false) (h : rdS C (.setx i k v) D σ H) : tAsg (rdE C v) (gSub (tVar i) (rdE C k) rSet) D σ H := by
  obtain ⟨Z, env, r, s, h⟩ := h
  unfold evS at h
  refine ⟨Z, env, r, s, (Post.bind h).mono fun p ep q => ?_⟩
  obtain ⟨y, r1⟩ := p
  intro u Z1 H1 s1 x1 res
  obtain ⟨Z2, s2, x2, rep, _⟩ := res.keep b s s1 x1
  dsimp only at q
  split at q
  · rename_i d hd
    obtain ⟨a, ea, _, _⟩ := s2.ow i d hd
    refine ⟨_, ea, Z2, env, r1, s2, (Post.bind q).mono fun p ep2 q => ?_⟩
    obtain ⟨kk, r2⟩ := p
    intro w Z3 H3 s3 x3 res3
    obtain ⟨d', e2, q⟩ := Post.quiet (q_set d kk y) q
    obtain ⟨a', ea', _, ob⟩ := s3.ow i d hd
    rw [ea] at ea'; cases ea'
    obtain ⟨u, o2, g⟩ := v_set s3.zh ob (res3.now s2 ep2 s3) (rep.mono x3.z) e2
    obtain ⟨s4, x4⟩ := s3.put hd ea o2
    exact g _ (q _ _ _ s4 ((x2.trans x3).trans x4))
  · exact q.elim
theorem rowAt (s : StOk C Z H σ env r) {j : Nat} (ej : C.rs = some j) (ok : rowOk r = true) : ∃ a, σ[j]? = some (some (.ref a)) ∧ Z a = none ∧ Ob C.K Z H a r := by
  obtain ⟨_, k⟩ := s.row j ej
  rcases k with ⟨q, _⟩ | ⟨a, _, h2, h3, h4, _⟩
  · rw [q] at ok; cases ok
  · exact ⟨a, h2, h3, h4⟩
theorem setD_row {d k v d' : PL.D} (h : rowOk d = true) (e : setD d k v = .ok d') : rowOk d' = true := by
  cases d with
  | lst ds =>
    cases k with
    | int i =>
      have e : (match idxN ds.length i with
        | some j => R.ok (PL.D.lst (ds.set j v))
        | none => .no) = .ok d' := e
      cases ei : idxN ds.length i with
      | none => rw [ei] at e; cases e
      | some j => rw [ei] at e; cases e; rfl
    | _ => cases e
  | _ => cases h
theorem rs_setr {j : Nat} {k v : E} (ej : C.rs = some j) (b : isB v = false) (h : rdS C (.setr k v) D σ H) : tAsg (rdE C v) (gSub (tVar j) (rdE C k) rSet) D σ H := by
  obtain ⟨Z, env, r, s, h⟩ := h
  unfold evS at h
  refine ⟨Z, env, r, s, (Post.bind h).mono fun p ep q => ?_⟩
  obtain ⟨y, r1⟩ := p
  intro u Z1 H1 s1 x1 res
  obtain ⟨Z2, s2, x2, rep, _⟩ := res.keep b s s1 x1
  dsimp only at q
  split at q
  · rename_i ok
    obtain ⟨a, ea, _⟩ := rowAt s2 ej ok
    refine ⟨_, ea, Z2, env, r1, s2, (Post.bind q).mono fun p ep2 q => ?_⟩
    obtain ⟨kk, r2⟩ := p
    intro w Z3 H3 s3 x3 res3
    dsimp only at q
    split at q
    · rename_i ok2
      obtain ⟨d', e2, q⟩ := Post.quiet (q_set r2 kk y) q
      obtain ⟨a', ea', _, ob⟩ := rowAt s3 ej ok2
      rw [ea] at ea'; cases ea'
      obtain ⟨u, o2, g⟩ := v_set s3.zh ob (res3.now s2 ep2 s3) (rep.mono x3.z) e2
      obtain ⟨s4, x4⟩ := s3.putR ej ea (setD_row ok2 e2) o2
      exact g _ (q _ _ _ s4 ((x2.trans x3).trans x4))
    · exact q.elim
  · exact q.elim
theorem get_list {X : Cx} : PGet X (rIxL X.K) := fun pins s σ H o i ov iv Q I r1 r2 h => by
  obtain ⟨p, xs, k, v, rfl, rfl, sq, hv, q⟩ := h
  obtain rfl : ov = .ref p := r1
  obtain ⟨tk, rfl⟩ : ∃ t, iv = .int k t := r2
  obtain ⟨its, vi, hl, hz⟩ := I.list sq
  obtain ⟨j, h1, h2, h3, h4, h5⟩ := atI_get hv
  obtain ⟨u, hu, ru⟩ := vi.get h2
  have hj : ixN xs.length k = some j := by
    unfold atI at hv
    cases e : ixN xs.length k with
    | none => rw [e] at hv; cases hv
    | some j' =>
      have := (ixN_seq e).1
      rw [h1] at this; cases this; rfl
  have hu' : its.toArray[j]? = some u := by simpa using hu
  have hs := vi.length
  have hz' : xs.length ≤ 16777216 := by rw [← sizeLine_eq]; exact hz
  unfold ixN at hj
  by_cases h0 : 0 ≤ k
  · rw [if_pos h0, if_pos h5] at hj
    cases hj
    exact wpAny_getItem_list hl.isList h0 (by omega) hu' ⟨v, H, I, ru, q⟩
  · rw [if_neg h0, if_pos h4] at hj
    cases hj
    refine wpAny_getItem_list_neg hl.isList (by omega) (by simp; omega) (by omega) ?_ ⟨v, H, I, ru, q⟩
    have e : (k + (its.toArray.size : Int)).toNat = (k + (xs.length : Int)).toNat := by simp; omega
    rw [e]; exact hu'
theorem v_ixl (zh : SameF Z H) {a : Addr} {ds : List PL.D} {k x : PL.D} {w : V} (ob : Ob C.K Z H a (.lst ds)) (hk : RepH C.K Z H w k) (e : ixD (.lst ds) k = .ok x) : ∃ v, Rep C.K Z v x ∧ ∀ Q : VK, Q v H → rIxL C.K (.ref a) w H Q := by
  cases k with
  | int i =>
    have e : (match idxN ds.length i with
      | some j => R.ofO ds[j]?
      | none => .no) = .ok x := e
    cases ei : idxN ds.length i with
    | none => rw [ei] at e; cases e
    | some j =>
      rw [ei] at e
      obtain ⟨xs, hx, ra⟩ := ob
      obtain ⟨v, hv, rep⟩ := idx_at ra ei (ofO_ok e)
      exact ⟨v, rep, fun Q q => ⟨a, xs, i, v, rfl, hk.int, SqL.of hx, hv, q⟩⟩
  | _ => cases e
theorem rs_augx {i : Nat} {k v : E} (nk : isRw k = false) (h : rdS C (.augx i k .add v) D σ H) : tAugS (tVar i) (rdE C k) (rdE C v) (rIxL C.K) (ipI fun i j => i + j) rSet D σ H := by
  obtain ⟨Z, env, r, s, h⟩ := h
  unfold evS at h
  split at h
  · rename_i ds hd
    obtain ⟨a, ea, _, ob0⟩ := s.ow i _ hd
    refine ⟨_, ea, Z, env, r, s, (Post.bind h).mono fun p ep q => ?_⟩
    obtain ⟨kk, r1⟩ := p
    intro w Z1 H1 s1 x1 res
    obtain ⟨x, e1, q⟩ := Post.quiet (q_ix (.lst ds) kk) q
    obtain ⟨a', ea', _, ob1⟩ := s1.ow i _ hd
    rw [ea] at ea'; cases ea'
    obtain ⟨vx, rx, gx⟩ := v_ixl s1.zh ob1 (res.now s ep s1) e1
    refine gx _ ⟨Z1, env, r1, s1, (Post.bind q).mono fun p ep2 q => ?_⟩
    obtain ⟨y, r2⟩ := p
    intro vy Z3 H3 s3 x3 res3
    cases x with
    | int m =>
     cases y with
     | int n =>
      obtain ⟨z, e2, q⟩ := Post.quiet (q_op .add _ _) q
      cases e2
      obtain ⟨d', e3, q⟩ := Post.quiet (q_set (.lst ds) kk _) q
      have hx : vx = .int m := RepH.int (.inl rx : RepH C.K Z1 H1 vx (.int m))
      have hy : vy = .int n := (res3.now s1 ep2 s3).int
      refine ⟨m, n, hx, hy, ?_⟩
      obtain ⟨a', ea', _, ob3⟩ := s3.ow i _ hd
      rw [ea] at ea'; cases ea'
      have hk := res.later s ep s3 x3 fun z => by rw [nk] at z; cases z
      obtain ⟨u, o2, g⟩ := v_set s3.zh ob3 hk (.int (m + n)) e3
      obtain ⟨s4, x4⟩ := s3.put hd ea o2
      exact g _ (q _ _ _ s4 ((x1.trans x3).trans x4))
     | _ => exact Post.no (β := Nat) q
    | _ => exact Post.no (β := Nat) q
  · exact h.elim
theorem rs_aug {i : Nat} {e : E} (nr : C.rs ≠ some i) (h : rdS C (.aug i .add e) D σ H) : tAug i (rdE C e) (ipI fun i j => i + j) D σ H := by
  obtain ⟨Z, env, r, s, h⟩ := h
  unfold evS at h
  split at h
  · rename_i x hx
    obtain ⟨vx, ex, rx⟩ := s.fr i x hx
    refine ⟨_, ex, Z, env, r, s, (Post.bind h).mono fun p ep q => ?_⟩
    obtain ⟨y, r1⟩ := p
    intro vy Z1 H1 s1 x1 res
    cases x with
    | int m =>
     cases y with
     | int n =>
      obtain ⟨z, e2, q⟩ := Post.quiet (q_op .add _ _) q
      cases e2
      have hvx : vx = .int m := (RepH.int (.inl rx : RepH C.K Z H vx (.int m)))
      have hy : vy = .int n := (res.now s ep s1).int
      obtain ⟨s2, x2⟩ := s1.setF (i := i) (v := .int (m + n)) (d := .int (m + n)) (.int _) nr
      exact ⟨m, n, hvx, hy, q _ _ _ s2 (x1.trans x2)⟩
     | _ => exact Post.no (β := Nat) q
    | _ => exact Post.no (β := Nat) q
  · exact h.elim
/-! ### append, pop -/
def tyLst : V → Hp → Prop := fun x H => ∃ a xs, x = .ref a ∧ H a = some (.lst xs)
theorem ty_lst {X : Cx} : TyOk X "list" tyLst := fun pins σ H s x v I rr h => by
  obtain ⟨a, xs, rfl, ha⟩ := h
  obtain rfl : v = .ref a := rr
  obtain ⟨_, its, n, _, _, e⟩ := I.lstM ha
  refine ⟨⟨_, e, rfl⟩, fun b q => ?_⟩
  cases q
  exact ⟨_, e, rfl⟩
theorem rs_app {i : Nat} {e : E} (b : isB e = false) (h : rdS C (.app i e) D σ H) : tDrop (tMG tyLst rAppend (tVar i) (tCons (rdE C e) tNil)) D σ H := by
  obtain ⟨Z, env, r, s, h⟩ := h
  unfold evS at h
  split at h
  · rename_i ds hd
    obtain ⟨a, ea, _, xs0, hx0, _⟩ := s.ow i _ hd
    refine ⟨_, ea, ⟨a, xs0, rfl, hx0⟩, Z, env, r, s, (Post.bind h).mono fun p ep q => ?_⟩
    obtain ⟨y, r1⟩ := p
    intro v Z1 H1 s1 x1 res
    obtain ⟨Z2, s2, x2, rep, _⟩ := res.keep b s s1 x1
    obtain ⟨a', ea', _, xs, hx, ra⟩ := s2.ow i _ hd
    rw [ea] at ea'; cases ea'
    have q : Post C (if ds.length < LIM then .ok (.nx (env.set i (.ow (.lst (ds ++ [y])))) r1) else .no) (KS C σ env Z H D) := q
    by_cases hl : ds.length < LIM
    · rw [if_pos hl] at q
      obtain ⟨s3, x3⟩ := s2.put (u := .lst (xs ++ [v])) (d' := .lst (ds ++ [y])) hd ea ⟨_, upd_same, ra.append (.cons rep .nil)⟩
      refine ⟨a, xs, v, rfl, rfl, hx, ?_, q _ _ _ s3 (x2.trans x3)⟩
      rw [ra.length]; exact lim_lt (Nat.le_of_lt hl)
    · rw [if_neg hl] at q; exact q.elim
  · exact h.elim
theorem rs_pop {t i : Nat} (nr : C.rs ≠ some t) (h : rdS C (.pop t i) D σ H) : tAsg (tMG0 tyLst rPop (tVar i)) (gName t) D σ H := by
  obtain ⟨Z, env, r, s, h⟩ := h
  unfold evS at h
  split at h
  · rename_i ds hd
    split at h
    · rename_i x hx
      obtain ⟨a, ea, _, xs, ha, ra⟩ := s.ow i _ hd
      obtain ⟨v, hv, rep⟩ := ra.get hx
      obtain ⟨s3, x3⟩ := s.put (u := .lst xs.dropLast) (d' := .lst ds.dropLast) hd ea ⟨_, upd_same, ra.dropLast⟩
      obtain ⟨s4, x4⟩ := s3.setF (i := t) rep nr
      refine ⟨_, ea, ⟨a, xs, rfl, ha⟩, a, xs, v, rfl, rfl, ha, ?_, h _ _ _ s4 (x3.trans x4)⟩
      rw [ra.length]; exact hv
    · exact h.elim
  · exact h.elim
theorem rs_mkrow {j : Nat} {e : E} (ej : C.rs = some j) (er : C.ra = none) (b : isF e = true) (n : noR e = true) (h : rdS C (.mkrow e) D σ H) : tAsg (rdE C e) (gName j) D σ H := by
  obtain ⟨Z, env, r, s, h⟩ := h
  unfold evS at h
  split at h
  · refine ⟨Z, env, _, s, (Post.bind h).mono fun p ep q => ?_⟩
    obtain ⟨x, r1⟩ := p
    have := rowE C.cl e env _ x r1 n ep
    subst this
    intro v Z1 H1 s1 x1 res
    have bb : isB e = false := by cases e <;> first | rfl | cases b
    dsimp only at q
    split at q
    · rename_i ok
      rcases res.strong bb with ⟨_, n⟩ | ⟨p, rfl, hp, zp, o⟩
      · have : objD x = true := by cases x <;> first | rfl | cases ok
        exact absurd ⟨b, this⟩ n
      · have no : ¬ Own C σ env p := fun z => by
          obtain ⟨u, hu⟩ := s.ownH z
          rw [hp] at hu; cases hu
        have hj : j < σ.length := by
          obtain ⟨e0, _⟩ := s.row j ej
          rw [← s.len]
          exact (List.getElem?_eq_some_iff.mp e0).1
        have s3 := s1.mkR hj ej er ok zp o no (s.ent.free hp)
        refine q _ _ _ s3 ⟨x1.z, x1.h, x1.n, x1.d, fun b h => ?_⟩
        obtain ⟨e0, _⟩ := s.row j ej
        rcases h with ⟨k, y, h1, h2⟩ | ⟨k, h1, h2⟩
        · have ne : j ≠ k := fun z => by rw [← z, e0] at h1; cases h1
          rw [get_set, if_neg ne] at h2
          exact .inl (.inl ⟨k, y, h1, h2⟩)
        · rw [ej] at h1; cases h1
          rw [get_set, if_pos rfl, if_pos hj] at h2
          cases h2; exact .inr hp
    · exact q.elim
  · exact h.elim
end
end PL

set_option Elab.async false
set_option linter.all false
set_option maxRecDepth 100000
set_option autoImplicit false
set_option maxHeartbeats 400000
namespace PL
open PySem PySem.Spec PyProof.Rows L2
/-! ### several stores at once -/
inductive RepP (K : PySem.W.Frag) (Z H : Hp) : (Addr → Prop) → List (Nat × Bool) → List V → List D → Prop
  | nil {B : Addr → Prop} : RepP K Z H B [] [] []
  | kept {B : Addr → Prop} {i : Nat} {is : List (Nat × Bool)} {v : V} {vs : List V} {d : D} {ds : List D} : Rep K Z v d → RepP K Z H B is vs ds → RepP K Z H B ((i, false) :: is) (v :: vs) (d :: ds)
  | own {B : Addr → Prop} {i : Nat} {is : List (Nat × Bool)} {p : Addr} {vs : List V} {d : D} {ds : List D} : ¬ B p → Z p = none → Ob K Z H p d → RepP K Z H (fun a => B a ∨ a = p) is vs ds → RepP K Z H B ((i, true) :: is) (.ref p :: vs) (d :: ds)
theorem RepP.anti {K : PySem.W.Frag} {Z H : Hp} : ∀ {is : List (Nat × Bool)} {vs : List V} {ds : List D} {B B' : Addr → Prop}, (∀ a, B' a → B a) → RepP K Z H B is vs ds → RepP K Z H B' is vs ds
  | _, _, _, _, _, _, .nil => .nil
  | _, _, _, _, _, k, .kept h t => .kept h (RepP.anti k t)
  | _, _, _, _, _, k, .own n z o t => .own (fun q => n (k _ q)) z o (RepP.anti (fun a q => q.imp_left (k a)) t)
theorem RepP.len {K : PySem.W.Frag} {Z H : Hp} : ∀ {is : List (Nat × Bool)} {vs : List V} {ds : List D} {B : Addr → Prop}, RepP K Z H B is vs ds → vs.length = is.length
  | _, _, _, _, .nil => rfl
  | _, _, _, _, .kept _ t => by rw [List.length_cons, List.length_cons, t.len]
  | _, _, _, _, .own _ _ _ t => by rw [List.length_cons, List.length_cons, t.len]
def objP : List (Nat × Bool) → List D → Bool
  | [], [] => true
  | (_, o) :: is, d :: ds => (!o || objD d) && objP is ds
  | _, _ => false
theorem objP_of : ∀ {is : List (Nat × Bool)} {ds : List D} {env env' : Env'}, storeP is ds env = .ok env' → objP is ds = true
  | [], [], _, _, _ => rfl
  | [], _ :: _, _, _, h => by unfold storeP at h; cases h
  | (_, false) :: _, [], _, _, h => by unfold storeP at h; cases h
  | (_, true) :: _, [], _, _, h => by unfold storeP at h; cases h
  | (i, false) :: is, d :: ds, env, env', h => by
    unfold storeP at h
    unfold objP
    rw [objP_of h]; rfl
  | (i, true) :: is, d :: ds, env, env', h => by
    unfold storeP at h
    unfold objP
    by_cases ho : objD d = true
    · rw [if_pos ho] at h
      rw [objP_of h, ho]; rfl
    · rw [if_neg ho] at h; cases h
theorem q_store : ∀ (is : List (Nat × Bool)) (ds : List D) (env : Env'), Quiet (storeP is ds env)
  | [], [], env => fun c x h => by unfold storeP at h; cases h
  | [], _ :: _, env => fun c x h => by unfold storeP at h; cases h
  | (_, false) :: _, [], env => fun c x h => by unfold storeP at h; cases h
  | (_, true) :: _, [], env => fun c x h => by unfold storeP at h; cases h
  | (i, false) :: is, d :: ds, env => fun c x h => by
    unfold storeP at h
    exact q_store is ds _ c x h
  | (i, true) :: is, d :: ds, env => fun c x h => by
    unfold storeP at h
    by_cases ho : objD d = true
    · rw [if_pos ho] at h
      exact q_store is ds _ c x h
    · rw [if_neg ho] at h; cases h
def setP : VS → List (Nat × Bool) → List V → VS
  | σ, (i, _) :: is, v :: vs => setP (σ.set i (some v)) is vs
  | σ, _, _ => σ
def rdP (C : Ctx) (is : List (Nat × Bool)) (es : Es) : TA := fun σ H Q => ∃ Z env r, StOk C Z H σ env r ∧ Post C (evEs C.cl es env r) fun (ds, r') => objP is ds = true ∧
  ∀ vs Z' H', StOk C Z' H' σ env r' → Ext (Own C σ env) Z H (Own C σ env) Z' H' → RepP C.K Z' H' (fun a => H a ≠ none) is vs ds → Q vs H'
def okP : List (Nat × Bool) → Es → Bool
  | [], .nil => true
  | (_, o) :: is, .cons e es => (if o then isF e else !isB e) && okP is es
  | _, _ => false
section
variable {C : Ctx} {σ σ1 : VS} {env env1 env' : Env'} {r r' : D} {Z H Z' H' Z1 H1 : Hp}
theorem rp_mono {is : List (Nat × Bool)} {es : Es} {Q Q' : List V → Hp → Prop} (h : rdP C is es σ H Q) (k : ∀ vs H, Q vs H → Q' vs H) : rdP C is es σ H Q' := by
  obtain ⟨Z, env, r, s, h⟩ := h
  exact ⟨Z, env, r, s, h.mono fun p _ q => ⟨q.1, fun vs Z' H' s x rp => k _ _ (q.2 vs Z' H' s x rp)⟩⟩
theorem rp_nil {Q : List V → Hp → Prop} (h : rdP C [] .nil σ H Q) : tNil σ H Q := by
  obtain ⟨Z, env, r, s, h⟩ := h
  unfold evEs at h
  exact h.2 [] Z H s Ext.refl .nil
theorem rp_cons {i : Nat} {o : Bool} {is : List (Nat × Bool)} {e : E} {es : Es} {Q : List V → Hp → Prop} (b : (if o then isF e else !isB e) = true) (h : rdP C ((i, o) :: is) (.cons e es) σ H Q) : tCons (rdE C e) (rdP C is es) σ H Q := by
  obtain ⟨Z, env, r, s, h⟩ := h
  unfold evEs at h
  refine ⟨Z, env, r, s, (Post.bind h).mono fun p ep q => ?_⟩
  obtain ⟨x, r1⟩ := p
  intro v Z1 H1 s1 x1 res
  have anti : ∀ a, H a ≠ none → H1 a ≠ none := fun a h => by
    cases e : H a with
    | none => exact absurd e h
    | some u => obtain ⟨u', e'⟩ := x1.d a u e; rw [e']; exact fun z => nomatch z
  cases o with
  | false =>
    have b : isB e = false := by simpa using b
    obtain ⟨Z2, s2, x2, rep, _⟩ := res.keep b s s1 x1
    refine ⟨Z2, env, r1, s2, (Post.bind q).mono fun p ep2 q => ?_⟩
    obtain ⟨xs, r2⟩ := p
    obtain ⟨q1, q2⟩ := q
    exact ⟨by simpa [objP] using q1, fun vs Z' H' s' x' rp => q2 (v :: vs) Z' H' s' (x2.trans x') (.kept (rep.mono x'.z) (rp.anti anti))⟩
  | true =>
    have b : isF e = true := by simpa using b
    have bb : isB e = false := by cases e <;> first | rfl | cases b
    refine ⟨Z1, env, r1, s1, (Post.bind q).mono fun p ep2 q => ?_⟩
    obtain ⟨xs, r2⟩ := p
    obtain ⟨q1, q2⟩ := q
    have q1 : (objD x && objP is xs) = true := by simpa [objP] using q1
    rw [Bool.and_eq_true] at q1
    refine ⟨q1.2, fun vs Z' H' s' x' rp => ?_⟩
    rcases res.strong bb with ⟨_, n⟩ | ⟨p, rfl, hp, zp, ob⟩
    · exact absurd ⟨b, q1.1⟩ n
    · have no : ¬ Own C σ env p := fun z => by
        obtain ⟨u, hu⟩ := s.ownH z
        rw [hp] at hu; cases hu
      obtain ⟨u, hu⟩ := ob.isS
      refine q2 (.ref p :: vs) Z' H' s' (x1.trans x') (.own (fun z => z hp) ((x'.n p u hu (ob.nt hu) no).trans zp) (ob.mono x'.z ((x'.h p u hu no).trans hu.symm)) (rp.anti fun a q => ?_))
      rcases q with q | rfl
      · exact anti a q
      · rw [hu]; exact fun z => nomatch z
theorem stP : ∀ (is : List (Nat × Bool)) (vs : List V) (ds : List D) (σ : VS) (env env' : Env') (B : Addr → Prop), StOk C Z H σ env r → RepP C.K Z H B is vs ds → (∀ a, Own C σ env a → B a) → (∀ a, C.H0 a ≠ none → B a) →
    storeP is ds env = .ok env' → (∀ x ∈ is, C.rs ≠ some x.1) → StOk C Z H (setP σ is vs) env' r ∧ ∀ b, Own C (setP σ is vs) env' b → Own C σ env b ∨ ¬ B b
  | [], vs, ds, σ, env, env', B, s, rp, k1, k2, e, nr => by
    cases rp
    unfold storeP at e
    cases e
    exact ⟨s, fun b h => .inl h⟩
  | (i, o) :: is, vs, ds, σ, env, env', B, s, rp, k1, k2, e, nr => by
    have ni : C.rs ≠ some i := nr _ List.mem_cons_self
    cases rp with
    | kept h t =>
      unfold storeP at e
      obtain ⟨s1, x1⟩ := s.setF h ni
      have own : ∀ b, Own C (σ.set i (some _)) (env.set i (.fr _)) b → Own C σ env b := fun b h => by
        rcases x1.o b h with h | h
        · exact h
        · rcases h with h
          obtain ⟨u, hu⟩ := s1.ownH ‹_›
          rw [h] at hu; cases hu
      obtain ⟨s2, k⟩ := stP is _ _ _ _ env' B s1 t (fun a h => k1 a (own a h)) k2 e fun x hx => nr x (List.mem_cons_of_mem _ hx)
      exact ⟨s2, fun b h => (k b h).imp_left (own b)⟩
    | own n z o t =>
      unfold storeP at e
      rename_i p vs' d ds'
      by_cases ho : objD d = true
      · rw [if_pos ho] at e
        have no : ¬ Own C σ env p := fun h => n (k1 p h)
        have n0 : C.H0 p = none := by
          cases q : C.H0 p with
          | none => rfl
          | some u => exact absurd (k2 p (by rw [q]; exact fun z => nomatch z)) n
        have s1 := s.setO z o no n0 ni
        have own : ∀ b, Own C (σ.set i (some (.ref p))) (env.set i (.ow d)) b → Own C σ env b ∨ b = p := fun b h => by
          rcases h with ⟨j, x, h1, h2⟩ | ⟨j, h1, h2⟩
          · rcases getE_set h1 with ⟨z, _, hl⟩ | ⟨ne, g⟩
            · subst z
              rw [get_set, if_pos rfl, if_pos (by rw [← s.len]; exact hl)] at h2
              cases h2; exact .inr rfl
            · rw [get_set, if_neg ne] at h2
              exact .inl (.inl ⟨j, x, g, h2⟩)
          · have ne : i ≠ j := fun z => ni (by rw [z]; exact h1)
            rw [get_set, if_neg ne] at h2
            exact .inl (.inr ⟨j, h1, h2⟩)
        obtain ⟨s2, k⟩ := stP is _ _ _ _ env' _ s1 t (fun a h => (own a h).imp_left (k1 a)) (fun a h => .inl (k2 a h)) e fun x hx => nr x (List.mem_cons_of_mem _ hx)
        refine ⟨s2, fun b h => ?_⟩
        rcases k b h with h | h
        · rcases own b h with h | rfl
          · exact .inl h
          · exact .inr n
        · exact .inr fun z => h (.inl z)
      · rw [if_neg ho] at e; cases e
theorem rs_asgP {is : List (Nat × Bool)} {es : Es} {D : Ends} (nr : ∀ x ∈ is, C.rs ≠ some x.1) (h : rdS C (.asgP is es) D σ H) :
    rdP C is es σ H fun vs H1 => vs.length = is.length ∧ D.nx (setP σ is vs) H1 ∧ ∀ p, H1 p = none → D.nx (setP σ is vs) (upd H1 p (.tup vs)) := by
  obtain ⟨Z, env, r, s, h⟩ := h
  unfold evS at h
  refine ⟨Z, env, r, s, (Post.bind h).mono fun p ep q => ?_⟩
  obtain ⟨ds, r1⟩ := p
  obtain ⟨env', e, q⟩ := Post.quiet (q_store is ds env) q
  refine ⟨objP_of e, fun vs Z1 H1 s1 x1 rp => ?_⟩
  obtain ⟨s2, k⟩ := stP is vs ds σ env env' _ s1 rp (fun a h => by obtain ⟨u, hu⟩ := s.ownH h; rw [hu]; exact fun z => nomatch z) (fun a h => by
    cases e : C.H0 a with
    | none => exact absurd e h
    | some u => obtain ⟨u', e'⟩ := s.ent.d a u e; rw [e']; exact fun z => nomatch z) e nr
  have x2 : Ext (Own C σ env) Z H (Own C (setP σ is vs) env') Z1 H1 := ⟨x1.z, x1.h, x1.n, x1.d, fun b h => (k b h).imp_right fun z => Classical.not_not.mp z⟩
  refine ⟨rp.len, q _ _ _ s2 x2, fun p hp => ?_⟩
  obtain ⟨s3, x3⟩ := s2.alloc (.tup vs) hp
  exact q _ _ _ s3 (x2.trans x3)
def gPs : List (Nat × Bool) → TGs
  | [] => gNil
  | (i, _) :: is => gCons (gName i) (gPs is)
theorem gPs_of : ∀ {is : List (Nat × Bool)} {vs : List V} {σ : VS} {H : Hp} {Q : VS → Hp → Prop}, vs.length = is.length → Q (setP σ is vs) H → gPs is vs σ H Q
  | [], [], _, _, _, _, q => ⟨rfl, q⟩
  | (i, o) :: is, v :: vs, σ, H, Q, l, q => ⟨v, vs, rfl, gPs_of (by simpa using l) q⟩
  | [], _ :: _, _, _, _, l, _ => by cases l
  | _ :: _, [], _, _, _, l, _ => by cases l
theorem rs_asgPT {is : List (Nat × Bool)} {es : Es} {D : Ends} (hl : is.length ≤ 30) (nr : ∀ x ∈ is, C.rs ≠ some x.1) (h : rdS C (.asgP is es) D σ H) : tAsg (tTup (rdP C is es)) (gTup C.K is.length (gPs is)) D σ H :=
  rp_mono (rs_asgP nr h) fun vs H1 ⟨l, _, q⟩ => ⟨by rw [l]; exact Nat.le_trans hl (by rw [sizeLine_eq]; decide), fun p hp => ⟨p, vs, rfl, SqT.of upd_same, l, gPs_of l (q p hp)⟩⟩
theorem rs_asgP2 {i j : Nat} {o o' : Bool} {es : Es} {D : Ends} (nr : ∀ x ∈ [(i, o), (j, o')], C.rs ≠ some x.1) (h : rdS C (.asgP [(i, o), (j, o')] es) D σ H) : tPar i j (rdP C [(i, o), (j, o')] es) D σ H :=
  rp_mono (rs_asgP nr h) fun vs H1 ⟨l, q, _⟩ => by
    match vs, l, q with
    | [v, w], _, q => exact ⟨v, w, rfl, q⟩
theorem rs_set2 {i : Nat} {k1 k2 e : E} {D : Ends} (b : isB e = false) (h : rdS C (.set2 i k1 k2 e) D σ H) : tAsg (rdE C e) (gTup C.K 2 (gCons (gSub (tVar i) (rdE C k1) rSet) (gCons (gSub (tVar i) (rdE C k2) rSet) gNil))) D σ H := by
  obtain ⟨Z, env, r, s, h⟩ := h
  unfold evS at h
  refine ⟨Z, env, r, s, (Post.bind h).mono fun p ep q => ?_⟩
  obtain ⟨y, r1⟩ := p
  intro u Z1 H1 s1 x1 res
  obtain ⟨Z2, s2, x2, rep, _⟩ := res.keep b s s1 x1
  dsimp only at q
  split at q
  · rename_i v1 v2
    split at q
    · rename_i d hd
      obtain ⟨a, ea, _, _⟩ := s2.ow i d hd
      cases rep with
      | tup kt ra =>
        cases ra with
        | cons p1 t1 =>
          cases t1 with
          | cons p2 t2 =>
            cases t2
            refine ⟨_, _, rfl, SqT.of (s2.zh.tup kt), rfl, _, _, rfl, _, ea, Z2, env, r1, s2, (Post.bind q).mono fun p ep2 q => ?_⟩
            obtain ⟨kk, r2⟩ := p
            intro w Z3 H3 s3 x3 res3
            obtain ⟨d', e2, q⟩ := Post.quiet (q_set d kk v1) q
            obtain ⟨a', ea', _, ob⟩ := s3.ow i d hd
            rw [ea] at ea'; cases ea'
            obtain ⟨u, o2, g⟩ := v_set s3.zh ob (res3.now s2 ep2 s3) (p1.mono x3.z) e2
            obtain ⟨s4, x4⟩ := s3.put hd ea o2
            refine g _ ⟨_, _, rfl, _, ea, Z3, _, r2, s4, (Post.bind q).mono fun p ep3 q => ?_⟩
            obtain ⟨kk2, r3⟩ := p
            intro w2 Z5 H5 s5 x5 res5
            obtain ⟨d2, e3, q⟩ := Post.quiet (q_set d' kk2 v2) q
            have hl : i < env.length := (List.getElem?_eq_some_iff.mp hd).1
            have hd' : (env.set i (.ow d'))[i]? = some (.ow d') := by rw [get_set, if_pos rfl, if_pos hl]
            obtain ⟨a', ea', _, ob5⟩ := s5.ow i d' hd'
            rw [ea] at ea'; cases ea'
            obtain ⟨u2, o5, g2⟩ := v_set s5.zh ob5 (res5.now s4 ep3 s5) ((p2.mono x3.z).mono x5.z) e3
            obtain ⟨s6, x6⟩ := s5.put hd' ea o5
            rw [List.set_set] at s6 x6
            refine g2 _ ⟨rfl, q _ _ _ s6 ((((x2.trans x3).trans x4).trans x5).trans x6)⟩
    · exact q.elim
  · exact q.elim
end
end PL

set_option Elab.async false
set_option linter.all false
set_option maxRecDepth 100000
set_option autoImplicit false
set_option maxHeartbeats 400000
namespace PL
open PySem PySem.Spec PyProof.Rows L2
/-! ### what never raises -/
mutual
def nox : E → Bool
  | .call _ _ => false
  | .callr _ _ => false
  | .tup es => noxs es
  | .lst es => noxs es
  | .bin _ a b => nox a && nox b
  | .neg a => nox a
  | .not a => nox a
  | .and a b => nox a && nox b
  | .or a b => nox a && nox b
  | .cmp _ a b => nox a && nox b
  | .chain _ _ a b c => nox a && nox b && nox c
  | .ite c a b => nox c && nox a && nox b
  | .ix a b => nox a && nox b
  | .sl a _ l _ h => nox a && nox l && nox h
  | .rev a => nox a
  | .bi _ es => noxs es
  | .lc _ _ it _ _ => noxI it
  | _ => true
def noxs : Es → Bool
  | .nil => true
  | .cons e es => nox e && noxs es
def noxI : It → Bool
  | .seq e => nox e
  | .rng1 e => nox e
  | .rng2 a b => nox a && nox b
  | .rng3 a b c => nox a && nox b && nox c
  | .enum e => nox e
  | .zip a b => nox a && nox b
  | .keys e => nox e
end
theorem q_asI (d r : D) : Quiet (asI d r) := fun c x e => by cases d <;> cases e
theorem q_calm {α : Type} (x : R α) : Quiet x.calm := fun c d e => by cases x <;> cases e
theorem q_no {α : Type} : Quiet (R.no : R α) := fun _ _ e => by cases e
theorem q_ite {α : Type} {c : Prop} [Decidable c] {x y : R α} (h : Quiet x) (h' : Quiet y) : Quiet (if c then x else y) := by
  by_cases hc : c
  · rw [if_pos hc]; exact h
  · rw [if_neg hc]; exact h'
mutual
theorem qE (cl : Cl) : ∀ (e : E) (env : Env') (r : D), nox e = true → Quiet (evE cl e env r)
  | .loc i, env, r, _ => by
    unfold evE
    split
    · exact Quiet.ok
    · exact q_no
  | .bor i, env, r, _ => by
    unfold evE
    split
    · exact Quiet.ok
    · exact Quiet.ok
    · exact q_no
  | .rw, env, r, _ => by unfold evE; exact q_ite Quiet.ok q_no
  | .cst _, env, r, _ => by unfold evE; exact Quiet.ok
  | .emp, env, r, _ => by unfold evE; exact Quiet.ok
  | .tup es, env, r, n => by unfold evE; exact (qEs cl es env r n).bind fun _ => Quiet.ok
  | .lst es, env, r, n => by unfold evE; exact (qEs cl es env r n).bind fun _ => Quiet.ok
  | .bin o a b, env, r, n => by
    unfold evE
    simp only [nox, Bool.and_eq_true] at n
    exact (qE cl a env r n.1).bind fun p => (qE cl b env _ n.2).bind fun q => (q_op _ _ _).bind fun _ => Quiet.ok
  | .neg a, env, r, n => by
    unfold evE
    refine (qE cl a env r n).bind fun p => ?_
    obtain ⟨x, r1⟩ := p
    cases x <;> first | exact Quiet.ok | exact q_no
  | .not a, env, r, n => by unfold evE; exact (qE cl a env r n).bind fun p => (q_asB _).bind fun _ => Quiet.ok
  | .and a b, env, r, n => by
    unfold evE
    simp only [nox, Bool.and_eq_true] at n
    exact (qE cl a env r n.1).bind fun p => (q_asB _).bind fun c => q_ite ((qE cl b env _ n.2).bind fun q => (q_asB _).bind fun _ => Quiet.ok) Quiet.ok
  | .or a b, env, r, n => by
    unfold evE
    simp only [nox, Bool.and_eq_true] at n
    exact (qE cl a env r n.1).bind fun p => (q_asB _).bind fun c => q_ite Quiet.ok ((qE cl b env _ n.2).bind fun q => (q_asB _).bind fun _ => Quiet.ok)
  | .cmp o a b, env, r, n => by
    unfold evE
    simp only [nox, Bool.and_eq_true] at n
    exact (qE cl a env r n.1).bind fun p => (qE cl b env _ n.2).bind fun q => (q_cmp _ _ _).bind fun _ => Quiet.ok
  | .chain o o2 a b c, env, r, n => by
    unfold evE
    simp only [nox, Bool.and_eq_true] at n
    exact (qE cl a env r n.1.1).bind fun p => (qE cl b env _ n.1.2).bind fun q => (q_cmp _ _ _).bind fun k => q_ite ((qE cl c env _ n.2).bind fun s => (q_cmp _ _ _).bind fun _ => Quiet.ok) Quiet.ok
  | .ite c a b, env, r, n => by
    unfold evE
    simp only [nox, Bool.and_eq_true] at n
    exact (qE cl c env r n.1.1).bind fun p => (q_asB _).bind fun k => q_ite (qE cl a env _ n.1.2) (qE cl b env _ n.2)
  | .ix a b, env, r, n => by
    unfold evE
    simp only [nox, Bool.and_eq_true] at n
    exact (qE cl a env r n.1).bind fun p => (qE cl b env _ n.2).bind fun q => (q_ix _ _).bind fun _ => Quiet.ok
  | .sl a hl l hh h, env, r, n => by
    unfold evE
    simp only [nox, Bool.and_eq_true] at n
    exact (qE cl a env r n.1.1).bind fun p => (q_ite ((qE cl l env _ n.1.2).bind fun _ => q_asI _ _) Quiet.ok).bind fun q => (q_ite ((qE cl h env _ n.2).bind fun _ => q_asI _ _) Quiet.ok).bind fun s => (q_sl _ _ _).bind fun _ => Quiet.ok
  | .rev a, env, r, n => by unfold evE; exact (qE cl a env r n).bind fun p => (q_rev _).bind fun _ => Quiet.ok
  | .bi f es, env, r, n => by unfold evE; exact (qEs cl es env r n).bind fun p => (q_bi _ _).bind fun _ => Quiet.ok
  | .call f es, env, r, n => by cases n
  | .callr f es, env, r, n => by cases n
  | .lc elt tg it ifs own, env, r, n => by
    unfold evE
    exact (qI cl it env r n).bind fun p => q_ite ((q_calm _).bind fun _ => Quiet.ok) q_no
theorem qEs (cl : Cl) : ∀ (es : Es) (env : Env') (r : D), noxs es = true → Quiet (evEs cl es env r)
  | .nil, env, r, _ => by unfold evEs; exact Quiet.ok
  | .cons e es, env, r, n => by
    unfold evEs
    simp only [noxs, Bool.and_eq_true] at n
    exact (qE cl e env r n.1).bind fun p => (qEs cl es env _ n.2).bind fun _ => Quiet.ok
theorem qI (cl : Cl) : ∀ (it : It) (env : Env') (r : D), noxI it = true → Quiet (evIt cl it env r)
  | .seq e, env, r, n => by
    unfold evIt
    refine (qE cl e env r n).bind fun p => ?_
    dsimp only
    split
    · exact Quiet.ok
    · exact q_no
  | .rng1 e, env, r, n => by
    unfold evIt
    refine (qE cl e env r n).bind fun p => ?_
    dsimp only
    split
    · exact q_ite Quiet.ok q_no
    · exact q_no
  | .rng2 a b, env, r, n => by
    unfold evIt
    simp only [noxI, Bool.and_eq_true] at n
    refine (qE cl a env r n.1).bind fun p => (qE cl b env _ n.2).bind fun q => ?_
    dsimp only
    split
    · exact q_ite Quiet.ok q_no
    · exact q_no
  | .rng3 a b c, env, r, n => by
    unfold evIt
    simp only [noxI, Bool.and_eq_true] at n
    refine (qE cl a env r n.1.1).bind fun p => (qE cl b env _ n.1.2).bind fun q => (qE cl c env _ n.2).bind fun s => ?_
    dsimp only
    split
    · refine Quiet.bind ?_ fun _ => Quiet.ok
      unfold rg3D
      exact q_ite Quiet.ok q_no
    · exact q_no
  | .enum e, env, r, n => by
    unfold evIt
    refine (qE cl e env r n).bind fun p => ?_
    dsimp only
    split
    · exact Quiet.ok
    · exact q_no
  | .zip a b, env, r, n => by
    unfold evIt
    simp only [noxI, Bool.and_eq_true] at n
    refine (qE cl a env r n.1).bind fun p => (qE cl b env _ n.2).bind fun q => ?_
    dsimp only
    split
    · exact Quiet.ok
    · exact Quiet.ok
    · exact Quiet.ok
    · exact q_no
  | .keys e, env, r, n => by
    unfold evIt
    refine (qE cl e env r n).bind fun p => ?_
    dsimp only
    split
    · exact Quiet.ok
    · exact q_no
end
end PL

set_option Elab.async false
set_option linter.all false
set_option maxRecDepth 100000
set_option autoImplicit false
set_option maxHeartbeats 400000
namespace PL
open PySem PySem.Spec PyProof.Rows L2
theorem toPys_get : ∀ (ds : List D) (i : Nat), (toPys ds)[i]? = ds[i]?.map toPy
  | [], i => by unfold toPys; rfl
  | d :: ds, 0 => by unfold toPys; rfl
  | d :: ds, i + 1 => by
    unfold toPys
    rw [List.getElem?_cons_succ, List.getElem?_cons_succ, toPys_get ds i]
theorem shDs_get : ∀ {n : Nat} {ds : List D} {i : Nat} {d : D}, shDs n ds = true → ds[i]? = some d → shD n d = true
  | n, d :: ds, 0, x, h, e => by
    unfold shDs at h
    rw [Bool.and_eq_true] at h
    cases e; exact h.1
  | n, d :: ds, i + 1, x, h, e => by
    unfold shDs at h
    rw [Bool.and_eq_true] at h
    exact shDs_get h.2 e
theorem indexD_at (x : D) : ∀ (ds : List D) (n m : Nat), indexD x ds n = some m → ∃ j y, m = n + j ∧ ds[j]? = some y ∧ eqD y x = true ∧ ∀ (i : Nat) (z : D), i < j → ds[i]? = some z → eqD z x = false
  | [], n, m, h => by unfold indexD at h; cases h
  | d :: ds, n, m, h => by
    unfold indexD at h
    cases e : eqD d x with
    | true =>
      rw [e] at h
      have h : some n = some m := h
      cases h
      exact ⟨0, d, rfl, rfl, e, fun i z hi => absurd hi (Nat.not_lt_zero _)⟩
    | false =>
      rw [e] at h
      obtain ⟨j, y, h1, h2, h3, h4⟩ := indexD_at x ds (n + 1) m h
      refine ⟨j + 1, y, by omega, h2, h3, fun i z hi hz => ?_⟩
      cases i with
      | zero => cases hz; exact e
      | succ i => exact h4 i z (by omega) hz
section
variable {C : Ctx} {σ : VS} {env : Env'} {r : D} {Z H : Hp} {Q : VK}
/-- a method of one argument: the receiver is looked at ahead of it -/
theorem rd_m1 {f : Bi} {a b : E} {ty : V → Hp → Prop} {rr : V → List V → Hp → VK → Prop} (nb : nox b = true) (hrw : isRw a = true → noR b = true)
    (ht : ∀ (x y z : D) (v : V) (Z H : Hp), SameF Z H → RepH C.K Z H v x → biD f [x, y] = .ok z → ty v H)
    (hv : ∀ (x y z : D) (v w : V) (Z H : Hp) (r : D) (Q : VK), StOk C Z H σ env r → RepH C.K Z H v x → RepH C.K Z H w y → biD f [x, y] = .ok z → VP C σ env r Z H (freshB f) z Q → rr v [w] H Q)
    (s : StOk C Z H σ env r) (h : Post C (evE C.cl (.bi f (.cons a (.cons b .nil))) env r) (EndQ C σ env Z H (.bi f (.cons a (.cons b .nil))) Q)) : tMG ty rr (rdE C a) (tCons (rdE C b) tNil) σ H Q := by
  unfold evE evEs evEs evEs at h
  refine ⟨Z, env, r, s, (Post.bind (Post.bind h)).mono fun p ep q => ?_⟩
  obtain ⟨x, r1⟩ := p
  intro v Z1 H1 s1 x1 res
  obtain ⟨⟨y, r2⟩, e2, q⟩ := Post.quiet (qE C.cl b env r1 nb) (Post.bind q)
  have q : Post C ((biD f [x, y]).bind fun z => .ok (z, r2)) (EndQ C σ env Z H (.bi f (.cons a (.cons b .nil))) Q) := q
  obtain ⟨z, e3, q⟩ := q.quiet (q_bi _ _)
  refine ⟨ht x y z v Z1 H1 s1.zh (res.now s ep s1) e3, Z1, env, r1, s1, ?_⟩
  rw [e2]
  intro w Z2 H2 s2 x2 res2
  have hx := res.later s ep s2 x2 fun k => by
    have := rowE C.cl b env r1 y r2 (hrw k) e2
    exact this
  exact hv x y z v w Z2 H2 r2 Q s2 hx (res2.now s1 e2 s2) e3 (vend (e := .bi f (.cons a (.cons b .nil))) (x1.trans x2) rfl q)
theorem ix_ty {x y z : D} {v : V} {Z H : Hp} (zh : SameF Z H) (hv : RepH C.K Z H v x) (e : biD .index [x, y] = .ok z) : tyLst v H := by
  cases x with
  | lst ds => obtain ⟨a, xs, h1, h2, _⟩ := hv.lst zh; exact ⟨a, xs, h1, h2⟩
  | _ => cases e
theorem v_index {x y z : D} {v w : V} {Z H : Hp} {r : D} {Q : VK} (s : StOk C Z H σ env r) (hv : RepH C.K Z H v x) (hw : RepH C.K Z H w y) (e : biD .index [x, y] = .ok z) (h : VP C σ env r Z H (freshB .index) z Q) : rIndexD C.K v [w] H Q := by
  cases x with
  | lst ds =>
    have e : (if (shD 60 y && shD 60 (.lst ds)) = true then match indexD y ds 0 with
      | some n => R.ok (D.int n)
      | none => .no
    else .no) = .ok z := e
    by_cases hs : (shD 60 y && shD 60 (.lst ds)) = true
    · rw [if_pos hs] at e
      rw [Bool.and_eq_true] at hs
      cases ei : indexD y ds 0 with
      | none => rw [ei] at e; cases e
      | some m =>
        rw [ei] at e
        cases e
        obtain ⟨j, u, h1, h2, h3, h4⟩ := indexD_at y ds 0 m ei
        rw [Nat.zero_add] at h1
        subst h1
        obtain ⟨a, xs, rfl, ha, ra⟩ := hv.lst s.zh
        have sd : shDs 59 ds = true := by have := hs.2; simpa only [shD] using this
        refine ⟨a, w, toPy y, toPys ds, m, toPy u, rfl, rfl, hv.dp s.zh hs.2, hw.dp s.zh hs.1, shaped_of hs.2, shaped_of hs.1, ?_, ?_, fun i z' hi hz => ?_, h.int s⟩
        · rw [toPys_get, h2]; rfl
        · rw [eqv_of 59 60 u y (shDs_get sd h2) hs.1]; exact h3
        · rw [toPys_get] at hz
          obtain ⟨z0, hz1, rfl⟩ := Option.map_eq_some_iff.mp hz
          rw [eqv_of 59 60 z0 y (shDs_get sd hz1) hs.1]
          exact h4 i z0 hi hz1
    · rw [if_neg hs] at e; cases e
  | _ => cases e
theorem rd_index {a b : E} (nb : nox b = true) (hrw : isRw a = true → noR b = true) (h : rdE C (.bi .index (.cons a (.cons b .nil))) σ H Q) : tMG tyLst (rIndexD C.K) (rdE C a) (tCons (rdE C b) tNil) σ H Q := by
  obtain ⟨Z, env, r, s, h⟩ := h
  exact rd_m1 nb hrw (fun x y z v Z H zh hv e => ix_ty zh hv e) (fun x y z v w Z H r Q s hv hw e h => v_index s hv hw e h) s h
end
end PL

set_option Elab.async false
set_option linter.all false
set_option maxRecDepth 100000
set_option autoImplicit false
set_option maxHeartbeats 400000
namespace PL
open PySem PySem.Spec PyProof.Rows L2
section
variable {C : Ctx} {σ : VS} {env : Env'} {r : D} {Z H : Hp} {Q : VK}
/-- d.get(k, i) -/
theorem rd_get2 {a b : E} {i : Int} (nb : nox b = true) (hrw : isRw a = true → noR b = true) (h : rdE C (.bi .get2 (.cons a (.cons b (.cons (.cst (.int i)) .nil)))) σ H Q) : tDGet2 (rdE C a) (rdE C b) (rdE C (.cst (.int i))) σ H Q := by
  obtain ⟨Z, env, r, s, h⟩ := h
  unfold evE evEs evEs evEs evEs at h
  refine ⟨Z, env, r, s, (Post.bind (Post.bind h)).mono fun p ep q => ?_⟩
  obtain ⟨x, r1⟩ := p
  intro v Z1 H1 s1 x1 res
  obtain ⟨⟨y, r2⟩, e2, q⟩ := Post.quiet (qE C.cl b env r1 nb) (Post.bind q)
  have q0 : Post C ((biD .get2 [x, y, .int i]).bind fun z => .ok (z, r2)) (EndQ C σ env Z H (.bi .get2 (.cons a (.cons b (.cons (.cst (.int i)) .nil)))) Q) := q
  obtain ⟨z, e3, q9⟩ := q0.quiet (q_bi _ _)
  clear q0 q
  have hx1 := res.now s ep s1
  cases x with
  | dic es =>
    obtain ⟨a1, kvs, rfl, ha, rd⟩ := hx1.dic s1.zh
    refine ⟨a1, rfl, .inr ⟨kvs, ha⟩, Z1, env, r1, s1, ?_⟩
    rw [e2]
    intro w Z2 H2 s2 x2 res2
    refine ⟨Z2, env, r2, s2, ?_⟩
    show Post C (R.ok (D.int i, r2)) _
    intro u Z3 H3 s3 x3 res3
    have hx := res.later s ep s3 (x2.trans x3) fun k => rowE C.cl b env r1 y r2 (hrw k) e2
    have hw := res2.later s1 e2 s3 x3 fun k => rfl
    have hu := res3.now s2 rfl s3
    obtain ⟨a3, kvs3, e, ha3, rd3⟩ := hx.dic s3.zh
    cases e
    rw [hu.int]
    have e3 : (match keyD y with
      | some k => R.ok ((lookD k es).getD (.int i))
      | none => .no) = .ok z := e3
    cases hk : keyD y with
    | none => rw [hk] at e3; cases e3
    | some k =>
      rw [hk] at e3
      have e3 : R.ok ((lookD k es).getD (.int i)) = .ok z := e3
      have gg := dget_of s3.zh ha3 hw hk
      have fin := vend (e := .bi .get2 (.cons a (.cons b (.cons (.cst (.int i)) .nil)))) ((x1.trans x2).trans x3) rfl q9
      refine ⟨_, gg, ?_⟩
      rcases valV_look k rd3 with ⟨e4, e5⟩ | ⟨u', d', e4, e5, e6⟩
      · rw [e5] at e3; cases e3
        rw [e4]
        exact fin.int s3
      · rw [e5] at e3; cases e3
        rw [e4]
        exact fin.hereF s3 e6
  | _ => cases e3
end
end PL

set_option Elab.async false
set_option linter.all false
set_option maxRecDepth 100000
set_option autoImplicit false
set_option maxHeartbeats 400000
namespace PL
open PySem PySem.Spec PyProof.Rows L2
/-- a dict's values, as they are seen -/
def VV (r d : Addr) : HO := .ext fun h => h.IsValuesView r d
theorem vv_ok {P : Program} {w : World} {H : Hp} {r d : Addr} {h : Heap} (k : h.IsValuesView r d) : ObjOk P w H h r (VV r d) := by
  refine ⟨k, ?_, fun h1 h2 ⟨o, ho, x⟩ st => ⟨o, st o ho, x⟩⟩
  obtain ⟨o, ho, _⟩ := k
  exact ⟨o, ho⟩
section
variable {X : Cx}
def rVals : V → List V → Hp → VK → Prop := fun x xs H Q => ∃ (d : Addr) (kvs : List (List Key × V)), x = .ref d ∧ xs = [] ∧ Rd H d (.dT kvs) ∧ ∀ p, H p = none → Q (.ref p) (upd H p (VV p d))
theorem mt_vals : MtR X "dict.values" rVals := by
  intro pins s σ H x xs v us Q I r rv h
  obtain ⟨d, kvs, rfl, rfl, hd, q⟩ := h
  cases rv
  obtain rfl : v = .ref d := r
  obtain ⟨_, lo, es, ep, hr, _, _⟩ := rd_raw I hd
  obtain ⟨_, a2⟩ := rd_sz I hd
  refine call_meetsIn F.slot_dict_values a2.ty F.entry_dict_values (F.args_dict_values_1 _) (meets_dict_values_raw d lo) ⟨⟨es, ep, hr⟩, ?_⟩
  have hf : H s.heap.objs.size = none := I.hok.fresh (Nat.le_refl _)
  exact ⟨.ref _, upd H s.heap.objs.size (VV s.heap.objs.size d), I.laid (t' := s.toks) (fun b u e => Heap.get?_push_of_some _ e) (Nat.le_refl _) (vv_ok ⟨_, Heap.get?_push_size _ rfl, rfl, rfl⟩), rfl, q _ hf⟩
def rSumV : List V → Hp → VK → Prop := fun vs H Q => ∃ (p d : Addr) (kvs : List (List Key × V)) (ns : List Int), vs = [.ref p] ∧ Rd H d (.dT kvs) ∧ H p = some (VV p d) ∧ kvs.map (·.2) = ns.map V.int ∧ Q (.int ns.sum) H
theorem cr_sumV (hc : X.calm = true) : CallR X (.builtin "sum") rSumV := by
  intro pins s σ H xs us Q I rv h
  obtain ⟨p, d, kvs, ns, rfl, hd, hv, ev, q⟩ := h
  cases rv with
  | cons r t =>
    cases t
    cases r
    obtain ⟨z, lo, es, ep, hr, hn, hg⟩ := rd_raw I hd
    have hh : X.A.in1.handled = none := I.ok.hd hc
    have vw : s.heap.IsValuesView p d := (I.hok p _ hv).1
    have K : PySem.W.KdlSrc X.prog X.w "dict_values" p d es.size (fun i v => ∃ hi : i < es.size, v = es[i].val) (fun h => h.IsValuesView p d ∧ h.DictRaw d es ep) := PySem.KdlSrc.rawValues
    obtain ⟨oI, St, h1, h2, h3⟩ := K.iter X.A.in1 s hh ⟨vw, hr⟩
    obtain ⟨_, ld⟩ := K.there s.heap ⟨vw, hr⟩
    have nl : ns.length = es.size := by have := congrArg List.length ev; simp at this; omega
    refine call_sum_walkAnyS (h1 _ _ ?_)
    refine ⟨s.heap.objs.size, [s.heap.objs.size, d], [s.heap.objs.size], _, es.size, _, _, fun i => ns.getD i 0, rfl, h2.toS, h3, fun b hb => ?_, fun i v hv => ?_, fun s' t' mv => ?_⟩
    · rw [Heap.size_push]
      rcases List.mem_cons.mp hb with rfl | hb
      · exact Nat.lt_succ_self _
      · rcases List.mem_cons.mp hb with rfl | hb
        · exact Nat.lt_succ_of_lt ld
        · cases hb
    · obtain ⟨hi, rfl⟩ := hv
      obtain ⟨k, v, q1, g1, g2, g3, g4⟩ := hg i hi
      have e1 : (kvs.map (·.2))[i]? = some v := by rw [List.getElem?_map, g1]; rfl
      rw [ev, List.getElem?_map, List.getElem?_eq_getElem (by omega)] at e1
      have e2 : v = V.int (ns.getD i 0) := by
        rw [List.getD_eq_getElem?_getD, List.getElem?_eq_getElem (by omega)]
        cases e1; rfl
      rw [e2] at g4
      exact g4
    · have e : preSum (fun i => ns.getD i 0) es.size = ns.sum := by
        rw [preSum_eq ns _ (by omega), List.take_of_length_le (by omega)]
      refine ⟨.int ns.sum, H, inv_moved I (fun b o hb => ?_) mv.gens mv.drawn mv.os, ⟨t', by rw [e]⟩, q⟩
      refine mv.heap b o (fun z => ?_) (Heap.get?_push_of_some _ hb)
      rcases List.mem_cons.mp z with rfl | z
      · exact absurd (Heap.lt_size hb) (Nat.lt_irrefl _)
      · cases z
end
theorem repD_vals {K : PySem.W.Frag} {Z : Hp} : ∀ {kvs : List (List Key × V)} {es : List (List Int × D)} {ns : List Int}, RepD K Z kvs es → es.map (·.2) = ns.map D.int → kvs.map (·.2) = ns.map V.int
  | _, _, [], .nil, _ => rfl
  | _, _, n :: ns, .nil, h => by cases h
  | _, _, [], .cons _ _, h => by cases h
  | _, _, n :: ns, .cons r t, h => by
    rw [List.map_cons, List.map_cons] at h
    obtain ⟨h1, h2⟩ := List.cons.inj h
    rw [List.map_cons, List.map_cons, repD_vals t h2]
    dsimp only at h1 ⊢
    subst h1
    cases r
    rfl
section
variable {C : Ctx} {σ : VS} {env : Env'} {r : D} {Z H : Hp} {Q : VK}
theorem rd_sumvals {a : E} (h : rdE C (.bi .sumvals (.cons a .nil)) σ H Q) : tOne rSumV (tMG0 tyDic rVals (rdE C a)) σ H Q := by
  obtain ⟨Z, env, r, s, h⟩ := h
  unfold evE evEs evEs at h
  refine ⟨Z, env, r, s, (Post.bind (Post.bind h)).mono fun p ep q => ?_⟩
  obtain ⟨x, r1⟩ := p
  intro v Z1 H1 s1 x1 res
  have q : Post C ((biD .sumvals [x]).bind fun z => .ok (z, r1)) (EndQ C σ env Z H (.bi .sumvals (.cons a .nil)) Q) := q
  obtain ⟨z, e, q⟩ := q.quiet (q_bi _ _)
  have e : biSumvals [x] = .ok z := e
  cases x with
  | dic es =>
    unfold biSumvals at e
    dsimp only at e
    split at e
    · rename_i ns hn
      cases e
      obtain ⟨d, kvs, rfl, hd, rd⟩ := (res.now s ep s1).dic s1.zh
      refine ⟨⟨d, kvs, rfl, hd⟩, d, kvs, rfl, rfl, hd, fun p hp => ?_⟩
      obtain ⟨s2, x2⟩ := s1.alloc (VV p d) hp
      exact ⟨p, d, kvs, ns, rfl, rd_upd hd hp, upd_same, repD_vals rd (intsD_of hn), (vend (x1.trans x2) rfl q).int s2⟩
    · cases e
  | _ => cases e
end
end PL

set_option Elab.async false
set_option linter.all false
set_option maxRecDepth 100000
set_option autoImplicit false
set_option maxHeartbeats 400000
namespace PL
open PySem PySem.Spec PyProof.Rows L2
section
variable {C : Ctx} {σ : VS} {env : Env'} {r : D} {Z H : Hp} {Q : VK}
/-! ### str(i), s.join(l) -/
theorem log2_lt {n : Nat} (h : n < 1000000) : n.log2 < 1920 := by
  by_cases h0 : n = 0
  · subst h0; decide
  · have := (Nat.log2_lt h0 (k := 1920)).mpr (Nat.lt_of_lt_of_le h (by decide))
    exact this
theorem bi_str : BiR C σ .str (fun xs H Q => ∃ i, xs = [.int i] ∧ i.natAbs.log2 < 1920 ∧ Q (.str (toString i)) H) := fun Z H env r vs ds z Q s rp e0 h => by
  have e : biStr ds = .ok z := e0
  clear e0
  unfold biStr at e
  split at e
  · rename_i i
    split at e
    · rename_i hi
      cases e
      obtain ⟨v, rfl, hv⟩ := rp.one
      exact ⟨i, by rw [hv.int], log2_lt hi, h.str s⟩
    · cases e
  · cases e
theorem strsD_of : ∀ {ds : List D} {xs : List Str}, strsD ds = some xs → ds = xs.map D.str
  | [], xs, h => by unfold strsD at h; cases h; rfl
  | d :: ds, xs, h => by
    cases d with
    | str x =>
      unfold strsD at h
      obtain ⟨ys, h1, h2⟩ := Option.map_eq_some_iff.mp h
      subst h2
      rw [strsD_of h1]; rfl
    | _ => cases h
theorem Reps.strs {K : PySem.W.Frag} {Z : Hp} : ∀ {v : List V} {xs : List Str}, Reps K Z v (xs.map D.str) → v = xs.map V.str
  | _, [], .nil => rfl
  | _, x :: xs, .cons h t => by
    cases h
    rw [Reps.strs t]; rfl
def rJoin1 (K : PySem.W.Frag) : V → List V → Hp → VK → Prop := fun x xs H Q => ∃ a p, ∃ ys : List Str, x = .str a ∧ xs = [.ref p] ∧ (SqL K H p (ys.map V.str) ∨ SqT K H p (ys.map V.str)) ∧ (ys.map (·.length)).sum + ys.length * a.length ≤ 16777216 ∧ Q (.str (Txt.join a ys)) H
theorem sum_le : ∀ (ys : List Str), (ys.all fun x => decide (x.length ≤ 1000)) = true → (ys.map (·.length)).sum ≤ ys.length * 1000
  | [], _ => Nat.le_refl _
  | y :: ys, h => by
    rw [List.all_cons, Bool.and_eq_true, decide_eq_true_eq] at h
    have := sum_le ys h.2
    rw [List.map_cons, List.sum_cons, List.length_cons]
    omega
theorem v_join {x y z : D} {v w : V} {Z H : Hp} {r : D} {Q : VK} (s : StOk C Z H σ env r) (hv : RepH C.K Z H v x) (hw : RepH C.K Z H w y) (e0 : biD .join [x, y] = .ok z) (h : VP C σ env r Z H (freshB .join) z Q) : rJoin1 C.K v [w] H Q := by
  have e : biJoin [x, y] = .ok z := e0
  clear e0
  unfold biJoin at e
  split at e
  · rename_i a ds hq
    cases hq
    split at e
    · rename_i xs hx
      split at e
      · rename_i hn
        cases e
        have := strsD_of hx
        subst this
        obtain ⟨p, us, rfl, hp, ra⟩ := hw.lst s.zh
        have := ra.strs
        subst this
        have h1 := sum_le xs hn.2.2.1
        have h2 : xs.length * a.length ≤ 1000 * 1000 := Nat.mul_le_mul hn.2.1 hn.2.2.2
        have h3 : xs.length * 1000 ≤ 1000 * 1000 := Nat.mul_le_mul_right _ hn.2.1
        exact ⟨a, p, xs, hv.str, rfl, .inl (SqL.of hp), by omega, h.str s⟩
      · cases e
    · cases e
  · cases e
def tyStr : V → Hp → Prop := fun x _ => ∃ a, x = .str a
theorem join_ty {x y z : D} {v : V} {Z H : Hp} (hv : RepH C.K Z H v x) (e0 : biD .join [x, y] = .ok z) : tyStr v H := by
  have e : biJoin [x, y] = .ok z := e0
  clear e0
  unfold biJoin at e
  split at e
  · rename_i hq
    cases hq
    exact ⟨_, hv.str⟩
  · cases e
theorem rd_join {a b : E} (nb : nox b = true) (hrw : isRw a = true → noR b = true) (h : rdE C (.bi .join (.cons a (.cons b .nil))) σ H Q) : tM1 (rJoin1 C.K) (rdE C a) (rdE C b) σ H Q := by
  obtain ⟨Z, env, r, s, h⟩ := h
  exact rd_m1 (ty := tyStr) nb hrw (fun x y z v Z H zh hv e => join_ty hv e) (fun x y z v w Z H r Q s hv hw e h => v_join s hv hw e h) s h
end
end PL

set_option Elab.async false
set_option linter.all false
set_option maxRecDepth 100000
set_option autoImplicit false
set_option maxHeartbeats 400000
namespace PL
open PySem PySem.Spec PyProof.Rows L2
/-! ### dict([..]) of pairs whose keys are tuples -/
def mergeT (acc kvs : List (List Key × V)) : List (List Key × V) := kvs.foldl (fun a kv => putK a kv.1 kv.2) acc
def rDictP (K : PySem.W.Frag) : List V → Hp → VK → Prop := fun xs H Q => ∃ (a : Addr) (ts : List V) (kvs : List (List Key × V)), xs = [.ref a] ∧ SqL K H a ts ∧
  Paired (fun (t : V) (kv : List Key × V) => ∃ T q, t = .ref T ∧ SqT K H T [.ref q, kv.2] ∧ H q = some (.tup (kv.1.map kV))) ts kvs ∧ ∀ p, H p = none → Q (.ref p) (upd H p (.dT (mergeT [] kvs)))
section
variable {X : Cx}
theorem pairs_look {pins : List (Addr × Obj)} {σ : L2.St} {H : Hp} {s : Shared} (I : Inv X pins σ H s) : ∀ {ts : List V} {kvs : List (List Key × V)} {us : List Value},
    Paired (fun (t : V) (kv : List Key × V) => ∃ T q, t = .ref T ∧ SqT X.K H T [.ref q, kv.2] ∧ H q = some (.tup (kv.1.map kV))) ts kvs → Vals ts us →
    ∃ xs : List (List Key × Addr × Value), KT H kvs xs ∧ us.length = xs.length ∧ ∀ (j : Nat) (k : List Key) (q : Addr) (u : Value), xs[j]? = some (k, q, u) → ∃ T, us[j]? = some (.ref T) ∧ s.heap.IsTuple T #[.ref q, u]
  | _, _, _, .nil, .nil => ⟨[], .nil, rfl, fun j k q u h => by cases h⟩
  | _, _, _, .cons ⟨T, q, e, sq, hq⟩ t, .cons r rs => by
    rename_i t0 kv ts kvs u0 us
    obtain ⟨xs, h1, h2, h3⟩ := pairs_look I t rs
    subst e
    obtain rfl : u0 = .ref T := r
    obtain ⟨its, vi, ht, _⟩ := I.tuple sq
    obtain ⟨v1, v2, rfl, r1, r2⟩ := vi.two
    obtain rfl : v1 = .ref q := r1
    refine ⟨(kv.1, q, v2) :: xs, .cons ⟨rfl, hq, r2⟩ h1, by rw [List.length_cons, List.length_cons, h2], fun j k' q' u' h => ?_⟩
    cases j with
    | zero =>
      cases h
      exact ⟨T, rfl, ht⟩
    | succ j => exact h3 j k' q' u' h
theorem kt_merge {H : Hp} : ∀ {kvs : List (List Key × V)} {xs : List (List Key × Addr × Value)} {acc : List (List Key × V)} {ys : List (List Key × Addr × Value)}, KT H acc ys → KT H kvs xs → KT H (mergeT acc kvs) (storedAllH ys xs)
  | _, _, _, _, a, .nil => a
  | _, _, _, _, a, .cons ⟨e, hq, rv⟩ t => by
    rename_i kv x kvs xs
    have h := KT.put a kv.1 hq rv
    have := kt_merge h t
    rw [e] at this
    unfold mergeT storedAllH at this ⊢
    rw [List.foldl_cons, List.foldl_cons, e]
    exact this
theorem mergeT_len : ∀ (kvs acc : List (List Key × V)), (mergeT acc kvs).length ≤ acc.length + kvs.length
  | [], acc => Nat.le_refl _
  | kv :: kvs, acc => by
    have h1 := mergeT_len kvs (putK acc kv.1 kv.2)
    have h2 := length_putK acc kv.1 kv.2
    unfold mergeT at h1 ⊢
    rw [List.foldl_cons, List.length_cons]
    omega
theorem call_dictPT (hc : X.calm = true) (hu : X.A.units + 10 < cLine) : CallR X (.type "dict") (rDictP X.K) := by
  intro pins s σ H xs us Q I rv h
  obtain ⟨a, ts, kvs, rfl, sq, pr, q⟩ := h
  cases rv with
  | cons r t =>
    cases t
    rename_i u0
    obtain rfl : u0 = .ref a := r
    obtain ⟨its, vi, hl, hz⟩ := I.list sq
    obtain ⟨ys, k1, k2, k3⟩ := pairs_look I pr vi
    have hh : X.A.handled = none := I.ok.hd hc
    let ps : List (Value × Value) := ys.map fun y => (.ref y.2.1, y.2.2)
    let Ts : Nat → Addr := fun j => match its[j]? with
      | some (.ref T) => T
      | _ => 0
    have hps : ps.length = ys.length := List.length_map _
    have hat : ∀ j k v, ps[j]? = some (k, v) → ∃ kk q u, ys[j]? = some (kk, q, u) ∧ k = Value.ref q ∧ v = u := fun j k v e => by
      rw [List.getElem?_map] at e
      obtain ⟨⟨kk, q, u⟩, e1, e2⟩ := Option.map_eq_some_iff.mp e
      cases e2
      exact ⟨kk, q, u, e1, rfl, rfl⟩
    have pit : PairItems s.heap its.toArray Ts ps := by
      refine ⟨by rw [hps, ← k2]; simp, fun j k v e => ?_⟩
      obtain ⟨kk, q, u, e1, rfl, rfl⟩ := hat j k v e
      obtain ⟨T, e2, e3⟩ := k3 j kk q v e1
      have e4 : Ts j = T := by show (match its[j]? with | some (.ref T) => T | _ => 0) = T; rw [e2]
      rw [e4]
      exact ⟨by simpa using e2, .inl e3⟩
    have hkey : ∀ y ∈ ys, H y.2.1 = some (.tup (y.1.map kV)) := by
      have : ∀ {kvs : List (List Key × V)} {ys : List (List Key × Addr × Value)}, KT H kvs ys → ∀ y ∈ ys, H y.2.1 = some (.tup (y.1.map kV)) := fun h => by
        induction h with
        | nil => intro y hy; cases hy
        | cons r _ ih =>
          intro y hy
          rcases List.mem_cons.mp hy with rfl | hy
          · rw [← r.1]; exact r.2.1
          · exact ih y hy
      exact this k1
    have keepAll : ∀ h' : Heap, (∀ b o, b ≠ s.heap.objs.size → b ∉ ([] : List Addr) → s.heap.get? b = some o → h'.get? b = some o) → ∀ b o, s.heap.get? b = some o → h'.get? b = some o := fun h' k b o e => k b o (fun z => by rw [z] at e; exact absurd (Heap.lt_size e) (Nat.lt_irrefl _)) (fun z => nomatch z) e
    refine call_dict_pairsH (knd := tupleKind (mixKind X.prog X.w)) (ps := ys) (PairArg.list a its.toArray Ts ps) hh ?_ ⟨?_, pit⟩ ⟨hps.symm, fun i key v rel => ?_⟩ (fun h' k y hy => ?_) ?_ fun h' tk hd keep => ?_
    · show X.A.in1.in1.units < cLine
      simp only [Around.in1]
      omega
    · exact hl
    · obtain ⟨kk, q, u, e, e1, e2⟩ := hat i key v rel
      exact ⟨kk, q, by rw [e2]; exact e, e1⟩
    · exact key_of ((I.kept (t' := s.toks) (keepAll h' k)).hok) (hkey y hy)
    · rw [hps, ← k2, ← vi.length]; exact hz
    · have kp : ∀ b o, s.heap.get? b = some o → h'.get? b = some o := fun b o e => keep b o (fun z => nomatch z) e
      have nf : H s.heap.objs.size = none := I.hok.fresh (Nat.le_refl _)
      have nb : (s.heap.objs.size == sysModules) = false := by
        have := I.big
        rw [beq_eq_false_iff_ne]; intro z; rw [z] at this; exact absurd this (Nat.lt_irrefl _)
      have ln : (mergeT [] kvs).length ≤ sizeLine := by
        have h1 := mergeT_len kvs []
        have h2 : kvs.length = ts.length := pr.length.symm
        rw [List.length_nil] at h1
        omega
      have kt : KT (upd H s.heap.objs.size (.dT (mergeT [] kvs))) (mergeT [] kvs) (storedAllH [] ys) := KT.keeps (kt_merge .nil k1) fun b xs e => by rw [upd_ne (ne_of_none e nf)]; exact e
      exact ⟨.ref _, _, I.laid (o := .dT (mergeT [] kvs)) (t' := tk) kp (Nat.le_refl _) ⟨ln, nb, _, kt, by obtain ⟨o, es, ep, e1, e2, e3, e4, e5⟩ := id hd; exact ⟨o, es, ep, e1, e2, e3, e4, hd.nodup⟩⟩, rfl, q _ nf⟩
end
end PL

set_option Elab.async false
set_option linter.all false
set_option maxRecDepth 100000
set_option autoImplicit false
set_option maxHeartbeats 400000
namespace PL
open PySem PySem.Spec PyProof.Rows L2
section
variable {C : Ctx} {σ : VS} {env : Env'} {r : D} {Z H : Hp} {Q : VK}
theorem pairs_of (zh : SameF Z H) : ∀ {ds : List D} {es : List (List Int × D)} {ts : List V}, pairsD ds = some es → Reps C.K Z ts ds →
    ∃ kvs, Paired (fun (t : V) (kv : List Key × V) => ∃ T q, t = .ref T ∧ SqT C.K H T [.ref q, kv.2] ∧ H q = some (.tup (kv.1.map kV))) ts kvs ∧ RepD C.K Z kvs es
  | [], es, ts, h, rp => by
    unfold pairsD at h
    cases h
    cases rp
    exact ⟨[], .nil, .nil⟩
  | d :: ds, es, ts, h, rp => by
    unfold pairsD at h
    split at h
    · rename_i hq
      cases hq
    · rename_i x v rest hq
      cases hq
      split at h
      · rename_i k ks hx hk
        cases h
        cases rp with
        | cons r1 r2 =>
          obtain ⟨kvs, h1, h2⟩ := pairs_of zh hk r2
          cases r1 with
          | tup e1 ra =>
            cases ra with
            | cons a1 t1 =>
              cases t1 with
              | cons a2 t2 =>
                cases t2
                cases a1 with
                | tup e2 rb =>
                  have := intsD_of hx
                  subst this
                  have := rb.ints
                  subst this
                  refine ⟨(kI k, _) :: kvs, .cons ⟨_, _, rfl, SqT.of (zh.tup e1), ?_⟩ h1, .cons a2 h2⟩
                  rw [kV_kI]; exact zh.tup e2
      · cases h
    · cases h
theorem merge_rep : ∀ {kvs acc : List (List Key × V)} {es ac : List (List Int × D)}, RepD C.K Z acc ac → RepD C.K Z kvs es → RepD C.K Z (mergeT acc kvs) (mergeD ac es)
  | _, _, _, _, a, .nil => by unfold mergeD; exact a
  | _, _, _, _, a, .cons h t => by
    rename_i acc ac k v vs d ds
    have := merge_rep (putK_put k h a) t
    unfold mergeD
    exact this
theorem bi_dictp : BiR C σ .dictp (rDictP C.K) := fun Z H env r vs ds z Q s rp e0 h => by
  have e : biDictp ds = .ok z := e0
  clear e0
  unfold biDictp at e
  split at e
  · rename_i xs
    split at e
    · rename_i es hp
      cases e
      obtain ⟨v, rfl, hv⟩ := rp.one
      obtain ⟨a, ts, rfl, ha, ra⟩ := hv.lst s.zh
      obtain ⟨kvs, h1, h2⟩ := pairs_of s.zh hp ra
      exact ⟨a, ts, kvs, rfl, SqL.of ha, h1, fun p hp' => VP.newD h s (merge_rep .nil h2) p hp'⟩
    · cases e
  · cases e
end
end PL

set_option Elab.async false
set_option linter.all false
set_option maxRecDepth 100000
set_option autoImplicit false
set_option maxHeartbeats 400000
namespace PL
open PySem PySem.Spec PyProof.Rows L2
/-! ### dict(d), d's keys being tuples -/
theorem self_rest {prog : Program} {w : World} {A : Around} {E : Value → Shared → Prop} {s : Shared} {d : Addr} {a : Value} {Q : Addr × List Value → Shared → Prop} (h1 : s.TypeIs (.ref d) "dict") (h : Q (d, [a]) s) : wpAny (model prog w) A (Builtin.Dict.selfAndRest "__init__" ⟨[.ref d, a], []⟩) Q E s := by
  obtain ⟨⟨cl, dd, dat, sl⟩, e1, e2⟩ := h1
  have e2 : cl = .type "dict" := e2
  subst e2
  obtain ⟨hp, g, dr, tk, os⟩ := s
  unfold Builtin.Dict.selfAndRest
  wp_walk
  exact h
theorem call_dict_dictH {prog : Program} {w : World} {A : Around} {E : Value → Shared → Prop} {s : Shared} {K : Type} [DecidableEq K] {knd : HeapKind prog w K} {o : Addr} {more : List (K × Addr × Value)} {Q : Value → Shared → Prop} (hu : knd.room A.in1.in1) (ho : s.heap.DictOfH knd o more) (hoS : (o == sysModules) = false)
    (hap : (∀ x ∈ more, s.TypeIs (.ref x.2.1) "tuple") ∧ (more.map fun x => knd.hash x.1).Nodup) (hsz : more.length ≤ sizeLine) (hst : ∀ h', (∀ b o, s.heap.get? b = some o → h'.get? b = some o) → ∀ x ∈ more, knd.is h' x.1 x.2.1)
    (h : ∀ h', h'.DictOfH knd s.heap.objs.size (storedAllH [] more) → (∀ b o, s.heap.get? b = some o → h'.get? b = some o) → Q (.ref s.heap.objs.size) { s with heap := h' }) : wpAny (model prog w) A (call (.type "dict") [.ref o]) Q E s := by
  refine callType_codes F.kt_called_dict (F.kt_typeCall_dict_1 _) F.entry_dict_init (kt_code_dict_new _ (Q₁ := fun obj s₁ => obj = .ref s.heap.objs.size ∧ s₁ = { s with heap := s.heap.push { cls := .type "dict", data := .dict #[] } }) ⟨rfl, rfl⟩) fun obj s₁ hs => ?_
  obtain ⟨rfl, rfl⟩ := hs
  refine ⟨⟨_, Heap.get?_push_size _ rfl, rfl⟩, ?_, ?_⟩
  · exact F.args_dict_init_2 _ _
  · have pk : ∀ b o, s.heap.get? b = some o → (s.heap.push { cls := .type "dict", data := .dict #[] }).get? b = some o := fun b o e => Heap.get?_push_of_some _ e
    have ho' : (s.heap.push { cls := .type "dict", data := .dict #[] }).DictOfH knd o more := by
      obtain ⟨ob, es, ep, e1, e2, e3, e4, e5, e6⟩ := ho
      exact ⟨ob, es, ep, pk _ _ e1, e2, e3, e4, hst _ pk, e6⟩
    have hd' : (s.heap.push { cls := .type "dict", data := .dict #[] }).DictOfH knd s.heap.objs.size [] := ⟨_, #[], 0, Heap.get?_push_size _ rfl, ⟨rfl, rfl, rfl⟩, rfl, rfl, (fun x hx => by cases hx), List.nodup_nil⟩
    have hne : s.heap.objs.size ≠ o := fun z => by
      obtain ⟨ob, es, ep, e1, _⟩ := ho
      rw [← z] at e1
      exact absurd (Heap.lt_size e1) (Nat.lt_irrefl _)
    have fin := updateFrom_dictH (A := A.in1) (nm := "dict.__init__") (R := wants (fun r s₂ => r = .none ∧ Q (.ref s.heap.objs.size) s₂) E) (s := { s with heap := s.heap.push { cls := .type "dict", data := .dict #[] } }) .none hu hne hoS hd' ho' (.inr ⟨fun x hx => ?_, hap.2⟩) (by simpa using hsz) fun h' k1 k2 k3 => ?_
    · unfold Builtin.«dict.__init__»
      exact wpAny_bind (self_rest ⟨_, Heap.get?_push_size _ rfl, rfl⟩ fin)
    · obtain ⟨ob, e1, e2⟩ := hap.1 x hx
      exact ⟨ob, pk _ _ e1, e2⟩
    · refine ⟨rfl, h h' k1 fun b ob e => ?_⟩
      have nb : b ≠ s.heap.objs.size := fun z => by rw [z] at e; exact absurd (Heap.lt_size e) (Nat.lt_irrefl _)
      exact (k3.2 b nb).trans (pk _ _ e)
end PL

set_option Elab.async false
set_option linter.all false
set_option maxRecDepth 100000
set_option autoImplicit false
set_option maxHeartbeats 400000
namespace PL
open PySem PySem.Spec PyProof.Rows L2
theorem hashT_eq (P : Program) (w : World) (k : List Int) : (tupleKind (mixKind P w)).hash (kI k) = hashT k := by
  show reduceHash (Builtin.Tuple.tupleHashOf ((kI k).map (mixKind P w).hash)) = _
  unfold hashT kI
  rw [List.map_map]
  rfl
theorem nodupI_of : ∀ {l : List Int}, nodupI l = true → l.Nodup
  | [], _ => List.nodup_nil
  | x :: r, h => by
    unfold nodupI at h
    simp only [Bool.and_eq_true, Bool.not_eq_true'] at h
    refine List.nodup_cons.mpr ⟨fun z => ?_, nodupI_of h.2⟩
    have := List.contains_iff_mem.mpr z
    rw [h.1] at this; cases this
def rDictC (P : Program) (w : World) : List V → Hp → VK → Prop := fun xs H Q => ∃ (a : Addr) (kvs : List (List Key × V)), xs = [.ref a] ∧ Rd H a (.dT kvs) ∧ (kvs.map fun kv => (tupleKind (mixKind P w)).hash kv.1).Nodup ∧ ∀ p, H p = none → Q (.ref p) (upd H p (.dT kvs))
theorem kt_fst {H : Hp} {kvs : List (List Key × V)} {xs : List (List Key × Addr × Value)} (h : KT H kvs xs) : kvs.map (·.1) = xs.map (·.1) ∧ ∀ x ∈ xs, H x.2.1 = some (.tup (x.1.map kV)) := by
  induction h with
  | nil => exact ⟨rfl, fun x hx => by cases hx⟩
  | cons r _ ih =>
    refine ⟨by rw [List.map_cons, List.map_cons, ih.1, r.1], fun x hx => ?_⟩
    rcases List.mem_cons.mp hx with rfl | hx
    · rw [← r.1]; exact r.2.1
    · exact ih.2 x hx
theorem call_dictCT {X : Cx} (hu : X.A.units + 10 < cLine) : CallR X (.type "dict") (rDictC X.prog X.w) := by
  intro pins s σ H xs us Q I rv h
  obtain ⟨a, kvs, rfl, hd, nd, q⟩ := h
  cases rv with
  | cons r t =>
    cases t
    rename_i u0
    obtain rfl : u0 = .ref a := r
    obtain ⟨ln, sy, ys, kt, ho⟩ := dt_rd I.hok hd
    obtain ⟨f1, f2⟩ := kt_fst kt
    have nf : H s.heap.objs.size = none := I.hok.fresh (Nat.le_refl _)
    have nb : (s.heap.objs.size == sysModules) = false := by
      have := I.big
      rw [beq_eq_false_iff_ne]; intro z; rw [z] at this; exact absurd this (Nat.lt_irrefl _)
    have ndk : (ys.map (·.1)).Nodup := ho.nodup
    refine call_dict_dictH (knd := tupleKind (mixKind X.prog X.w)) (more := ys) ?_ ho sy ⟨fun x hx => ?_, ?_⟩ (by rw [← kt.length]; exact ln) (fun h' k y hy => key_of ((I.kept (t' := s.toks) k).hok) (f2 y hy)) fun h' hd' kp => ?_
    · show X.A.in1.in1.units < cLine
      simp only [Around.in1]
      omega
    · obtain ⟨_, its, _, ⟨o, e1, e2, _⟩⟩ := I.hok _ _ (f2 x hx)
      exact ⟨o, e1, e2⟩
    · have : (ys.map fun x => (tupleKind (mixKind X.prog X.w)).hash x.1) = (kvs.map fun kv => (tupleKind (mixKind X.prog X.w)).hash kv.1) := by
        have e1 : (ys.map fun x => (tupleKind (mixKind X.prog X.w)).hash x.1) = (ys.map (·.1)).map (tupleKind (mixKind X.prog X.w)).hash := by rw [List.map_map]; rfl
        rw [e1, ← f1, List.map_map]; rfl
      rw [this]; exact nd
    · rw [storedAllH_nil_of_nodup ys ndk] at hd'
      have kt' : KT (upd H s.heap.objs.size (.dT kvs)) kvs ys := KT.keeps kt fun b xs e => by rw [upd_ne (ne_of_none e nf)]; exact e
      exact ⟨.ref _, _, I.laid (o := .dT kvs) (t' := s.toks) kp (Nat.le_refl _) ⟨ln, nb, _, kt', by obtain ⟨o, es, ep, e1, e2, e3, e4, e5⟩ := id hd'; exact ⟨o, es, ep, e1, e2, e3, e4, hd'.nodup⟩⟩, rfl, q _ nf⟩
theorem bi_dictc {C : Ctx} {σ : VS} (P : Program) (w : World) : BiR C σ .dictc (rDictC P w) := fun Z H env r vs ds z Q s rp e0 h => by
  have e : biDictc ds = .ok z := e0
  clear e0
  unfold biDictc at e
  split at e
  · rename_i es
    split at e
    · rename_i hn
      cases e
      obtain ⟨v, rfl, hv⟩ := rp.one
      obtain ⟨a, kvs, rfl, ha, rd⟩ := hv.dic s.zh
      refine ⟨a, kvs, rfl, ha, ?_, fun p hp => VP.newD h s rd p hp⟩
      have e1 : (kvs.map fun kv => (tupleKind (mixKind P w)).hash kv.1) = es.map fun e => hashT e.1 := by
        have : (kvs.map fun kv => (tupleKind (mixKind P w)).hash kv.1) = (kvs.map (·.1)).map (tupleKind (mixKind P w)).hash := by rw [List.map_map]; rfl
        rw [this, repD_keys rd, List.map_map, List.map_map]
        refine List.map_congr_left fun e _ => ?_
        exact hashT_eq P w e.1
      rw [e1]; exact nodupI_of hn.1
    · cases e
  · cases e
end PL

set_option Elab.async false
set_option linter.all false
set_option maxRecDepth 100000
set_option autoImplicit false
set_option maxHeartbeats 400000
namespace PL
open PySem PySem.Spec PyProof.Rows L2
/-! ### set(t) of a tuple of tuples of ints -/
theorem callType_chk {prog : Program} {w : World} {A : Around} {E : Value → Shared → Prop} {s : Shared} {T newId initId : String} {args : List Value} {Q Q₁ : Value → Shared → Prop} (ft : TypeCalled T newId initId) (hct : checkTypeCall T ⟨args, []⟩ = pure ())
    (hnew : codeAny (model prog w) A.in1 (.call (.builtin newId) ⟨.type T :: args, []⟩) (wants Q₁ E) s)
    (hnext : ∀ obj s₁, Q₁ obj s₁ → s₁.TypeIs obj T ∧ codeAny (model prog w) A.in1 (.call (.builtin initId) ⟨obj :: args, []⟩) (wants (fun r s₂ => r = .none ∧ Q obj s₂) E) s₁) : wpAny (model prog w) A (call (.type T) args) Q E s := by
  obtain ⟨c, tl, hmro⟩ := ft.mro
  wp_walk
  refine codeAny_of_tree ?_
  wp_walk
  refine ⟨by kernel_rfl, codeAny_builtin PySem.F.entry_type_call ?_⟩
  rw [Around.under_plain (c := .builtin "type.__call__" ⟨.type T :: args, []⟩) rfl rfl]
  unfold Builtin.«type.__call__»
  dsimp only
  rw [if_neg (by rw [ft.notType]; decide)]
  rw [if_neg (by rw [ft.canCreate]; decide)]
  simp only [hct, hmro, ft.made, pure_bind]
  rw [if_neg (by show ¬ (false = true); decide)]
  refine wpAny_bind (wpAny_holding (wpAny_call (codeAny_mono hnew fun r s₁ hr => ?_)))
  cases r with
  | error e => exact hr
  | ok fl =>
    cases fl with
    | ret obj =>
      obtain ⟨hT, hi⟩ := hnext obj s₁ hr
      refine wpAny_bind (wpAny_isInstance hT ft.sub ?_)
      rw [if_neg (by decide)]
      refine wpAny_bind (wpAny_holding (wpAny_callSpecial?_slot hT ft.init (wpAny_call (codeAny_mono hi fun r2 s₂ h2 => ?_))))
      cases r2 with
      | error e => exact h2
      | ok fl2 =>
        cases fl2 with
        | ret v =>
          obtain ⟨rfl, hq⟩ := h2
          exact wpAny_pure hq
        | _ => exact h2.elim
    | _ => exact hr.elim
theorem call_set_tupT {P : Program} {w : World} {A : Around} {E : Value → Shared → Prop} {s : Shared} {l : Addr} {items : Array Value} (ks : List (Addr × List Int)) {Q : Value → Shared → Prop} (hh : A.handled = none) (hl : s.heap.IsTuple l items) (hit : items.toList = ks.map fun p => Value.ref p.1) (hk : ∀ p ∈ ks, IsT P w s.heap p.2 p.1) (hfew : ks.length < 64) (hu : A.units + 3 < cLine)
    (h : ∀ (h' : Heap) (tk : Nat) L es ep t, SetTR P w h' s.heap.objs.size L es ep t → Got ks ks.length L → (∀ b o, s.heap.get? b = some o → h'.get? b = some o) → Q (.ref s.heap.objs.size) { s with heap := h', toks := tk }) : wpAny (model P w) A (call (.type "set") [.ref l]) Q E s := by
  refine callType_chk F.called_set (F.typeCall_set_1 _) (code_set_led1 _ (Q₁ := fun obj s₁ => obj = .ref s.heap.objs.size ∧ s₁ = { s with heap := s.heap.push { cls := .type "set", dict := none, data := .set #[] 0 (.fresh 0 0 (!w.params.followText "set-order")) } }) ⟨rfl, rfl⟩) fun obj s₁ hs => ?_
  obtain ⟨rfl, rfl⟩ := hs
  have hTS : Shared.TypeIs { s with heap := s.heap.push { cls := .type "set", dict := none, data := .set #[] 0 (.fresh 0 0 (!w.params.followText "set-order")) } } (.ref s.heap.objs.size) "set" := ⟨_, Heap.get?_push_size _ rfl, rfl⟩
  refine ⟨hTS, codeAny_call_builtin PySem.F.called_set.init.plain PySem.F.entry_set_init (check_set_init_1 hTS ?_)⟩
  · have ht' : (s.heap.push { cls := .type "set", dict := none, data := .set #[] 0 (.fresh 0 0 (!w.params.followText "set-order")) }).IsTuple l items := by
      obtain ⟨o, e, r⟩ := hl
      exact ⟨o, Heap.get?_push_of_some _ e, r⟩
    have hT : Shared.TypeIs { s with heap := s.heap.push { cls := .type "set", dict := none, data := .set #[] 0 (.fresh 0 0 (!w.params.followText "set-order")) } } (.ref l) "tuple" := ⟨ht'.choose, ht'.choose_spec.1, ht'.choose_spec.2.1⟩
    obtain ⟨hp, g, d, tk, os⟩ := s
    unfold Builtin.«set.__init__» Builtin.Frozenset.updateFrom
    wp_walk using wpAny_pyIter_tuple ht'
    refine wpAny_of_eq (show isSubtype (.type "tuple") (.type "set") = pure false by rw [isSubtype_type]; kernel_rfl) ?_
    wp_walk using wpAny_pyIter_tuple ht'
    refine wpAny_of_eq (show isSubtype (.type "tuple") (.type "frozenset") = pure false by rw [isSubtype_type]; kernel_rfl) ?_
    wp_walk using wpAny_pyIter_tuple ht'
    have eJ : (hp.push { cls := .type "set", dict := none, data := .set #[] 0 (.fresh 0 0 (!w.params.followText "set-order")) }).objs.size = hp.objs.size + 1 := Heap.size_push _ _
    have hll : l < hp.objs.size := by
      obtain ⟨o, e, _⟩ := id hl
      exact Heap.lt_size e
    have hne : l ≠ (hp.push { cls := .type "set", dict := none, data := .set #[] 0 (.fresh 0 0 (!w.params.followText "set-order")) }).objs.size := Nat.ne_of_lt (by rw [eJ]; exact Nat.lt_succ_of_lt hll)
    have fr : ∀ b, hp.objs.size ≤ b → hp.get? b = none := fun b hb => by
      cases e : hp.get? b with
      | none => rfl
      | some o => exact absurd (Heap.lt_size e) (Nat.not_lt_of_le hb)
    have hit' : items.size = ks.length := by rw [← Array.length_toList, hit, List.length_map]
    refine set_update_tups (A := A.in1.in1) (n := items.size) (Walks.tuple (prog := P) (w := w) (A := A.in1.in1.in1) hh _ l hne items).toS hp.objs.size ?_ ks hit' hfew ?_ hp hk ?_ ?_ ?_ (items.size - 0) 0 _ rfl (Nat.zero_le _) ?_ ?_ ⟨[], #[], 0, _, setTR_fresh ?_, Got.zero ks⟩ fun s' L es ep t mv R gg keep => ?_
    · intro hb
      rcases List.mem_cons.mp hb with e | hb
      · exact absurd (e.trans eJ) (Nat.ne_of_lt (Nat.lt_succ_self _))
      · rcases List.mem_cons.mp hb with e | hb
        · exact absurd e.symm (Nat.ne_of_lt hll)
        · cases hb
    · intro i v e
      have e2 : items.toList[i]? = some v := by simpa using e
      rw [hit, List.getElem?_map] at e2
      obtain ⟨p, h1, h2⟩ := Option.map_eq_some_iff.mp e2
      exact ⟨p, h1, h2.symm⟩
    · exact fr _ (Nat.le_refl _)
    · intro b hb
      rcases List.mem_cons.mp hb with e | hb
      · rw [e]
        exact fr _ (by rw [eJ]; exact Nat.le_succ _)
      · cases hb
    · show A.in1.in1.in1.units < cLine
      simp only [Around.in1]
      omega
    · obtain ⟨o, e, r⟩ := id ht'
      exact ⟨⟨_, Heap.get?_push_size _ rfl, rfl, rfl⟩, ⟨o, Heap.get?_push_of_some _ e, r⟩⟩
    · intro b o e
      exact Heap.get?_push_of_some _ (Heap.get?_push_of_some _ e)
    · exact Heap.get?_push_of_some _ (Heap.get?_push_size _ rfl)
    · obtain ⟨hp', g', d', tk', os'⟩ := s'
      obtain ⟨m1, m2, m3, m4, m5⟩ := mv
      have m2 : g' = g := m2
      have m3 : d' = d := m3
      have m4 : os' = os := m4
      subst m2 m3 m4
      refine wpAny_pure (wpAny_pure ⟨rfl, h hp' tk' L es ep t R ?_ keep⟩)
      rw [← hit']; exact gg
end PL

set_option Elab.async false
set_option linter.all false
set_option maxRecDepth 100000
set_option autoImplicit false
set_option maxHeartbeats 400000
namespace PL
open PySem PySem.Spec PyProof.Rows L2
/-! ### set(l) of a list of ints -/
theorem call_set_lstI {P : Program} {w : World} {A : Around} {E : Value → Shared → Prop} {s : Shared} {l : Addr} {items : Array Value} (ns : List Int) {Q : Value → Shared → Prop} (hh : A.handled = none) (hl : s.heap.IsList l items) (hit : IntsAre items.toList ns) (hfew : ns.length + 1 < scanBound)
    (h : ∀ (h' : Heap) (tk c : Nat), SetR w h' s.heap.objs.size (fun j => decide (j ∈ ns)) c → c ≤ ns.length → (∀ b o, s.heap.get? b = some o → h'.get? b = some o) → Q (.ref s.heap.objs.size) { s with heap := h', toks := tk }) : wpAny (model P w) A (call (.type "set") [.ref l]) Q E s := by
  refine callType_chk F.called_set (F.typeCall_set_1 _) (code_set_led1 _ (Q₁ := fun obj s₁ => obj = .ref s.heap.objs.size ∧ s₁ = { s with heap := s.heap.push { cls := .type "set", dict := none, data := .set #[] 0 (.fresh 0 0 (!w.params.followText "set-order")) } }) ⟨rfl, rfl⟩) fun obj s₁ hs => ?_
  obtain ⟨rfl, rfl⟩ := hs
  have hTS : Shared.TypeIs { s with heap := s.heap.push { cls := .type "set", dict := none, data := .set #[] 0 (.fresh 0 0 (!w.params.followText "set-order")) } } (.ref s.heap.objs.size) "set" := ⟨_, Heap.get?_push_size _ rfl, rfl⟩
  refine ⟨hTS, codeAny_call_builtin PySem.F.called_set.init.plain PySem.F.entry_set_init (check_set_init_1 hTS ?_)⟩
  have ht' : (s.heap.push { cls := .type "set", dict := none, data := .set #[] 0 (.fresh 0 0 (!w.params.followText "set-order")) }).IsList l items := hl.push _
  have hT : Shared.TypeIs { s with heap := s.heap.push { cls := .type "set", dict := none, data := .set #[] 0 (.fresh 0 0 (!w.params.followText "set-order")) } } (.ref l) "list" := ⟨ht'.choose, ht'.choose_spec.1, ht'.choose_spec.2.1⟩
  obtain ⟨hp, g, d, tk, os⟩ := s
  unfold Builtin.«set.__init__» Builtin.Frozenset.updateFrom
  wp_walk using wpAny_pyIter_list ht'
  refine wpAny_of_eq (show isSubtype (.type "list") (.type "set") = pure false by rw [isSubtype_type]; kernel_rfl) ?_
  wp_walk using wpAny_pyIter_list ht'
  refine wpAny_of_eq (show isSubtype (.type "list") (.type "frozenset") = pure false by rw [isSubtype_type]; kernel_rfl) ?_
  wp_walk using wpAny_pyIter_list ht'
  have eJ : (hp.push { cls := .type "set", dict := none, data := .set #[] 0 (.fresh 0 0 (!w.params.followText "set-order")) }).objs.size = hp.objs.size + 1 := Heap.size_push _ _
  have hll : l < hp.objs.size := by
    obtain ⟨o, e, _⟩ := id hl
    exact Heap.lt_size e
  have hne : l ≠ (hp.push { cls := .type "set", dict := none, data := .set #[] 0 (.fresh 0 0 (!w.params.followText "set-order")) }).objs.size := Nat.ne_of_lt (by rw [eJ]; exact Nat.lt_succ_of_lt hll)
  have hit' : items.size = ns.length := by rw [← Array.length_toList]; exact hit.length
  have hS0 : (hp.push { cls := .type "set", dict := none, data := .set #[] 0 (.fresh 0 0 (!w.params.followText "set-order")) }).get? hp.objs.size = some { cls := .type "set", dict := none, data := .set #[] 0 (.fresh 0 0 (!w.params.followText "set-order")) } := Heap.get?_push_size _ rfl
  refine set_update_ints (A := A.in1.in1) (n := items.size) (Walks.list (prog := P) (w := w) (A := A.in1.in1.in1) hh _ l hne items).toS hp.objs.size ?_ ns hit' hfew ?_ (items.size - 0) 0 _ rfl (Nat.zero_le _) ?_ ⟨0, Nat.le_refl _, setR_new_at ?_⟩ fun s' c mv hc R => ?_
  · intro hb
    rcases List.mem_cons.mp hb with e | hb
    · exact absurd (e.trans eJ) (Nat.ne_of_lt (Nat.lt_succ_self _))
    · rcases List.mem_cons.mp hb with e | hb
      · exact absurd e.symm (Nat.ne_of_lt hll)
      · cases hb
  · intro i v e
    have e2 : items.toList[i]? = some v := by simpa using e
    have hi : i < ns.length := by rw [← hit']; exact (Array.getElem?_eq_some_iff.mp e).1
    obtain ⟨t, q⟩ := hit.int_at i v e2
    refine ⟨ns.getD i 0, t, ?_, q⟩
    rw [List.getD_eq_getElem?_getD, List.getElem?_eq_getElem hi]; rfl
  · obtain ⟨o, e, r⟩ := id ht'
    exact ⟨⟨_, Heap.get?_push_size _ rfl, rfl, rfl⟩, ⟨o, Heap.get?_push_of_some _ e, r⟩⟩
  · exact Heap.get?_push_of_some _ hS0
  · obtain ⟨hp', g', d', tk', os'⟩ := s'
    obtain ⟨m1, m2, m3, m4, m5⟩ := mv
    have m2 : g' = g := m2
    have m3 : d' = d := m3
    have m4 : os' = os := m4
    subst m2 m3 m4
    rw [hit'] at hc
    refine wpAny_pure (wpAny_pure ⟨rfl, h hp' tk' c R hc fun b o e => ?_⟩)
    have lt : b < hp.objs.size := Heap.lt_size e
    refine m1 b o (fun hb => ?_) (Heap.get?_push_of_some _ (Heap.get?_push_of_some _ e))
    rcases List.mem_cons.mp hb with q | hb
    · exact absurd q (Nat.ne_of_lt lt)
    · rcases List.mem_cons.mp hb with q | hb
      · exact absurd (q.trans eJ) (Nat.ne_of_lt (Nat.lt_succ_of_lt lt))
      · cases hb
end PL

set_option Elab.async false
set_option linter.all false
set_option maxRecDepth 100000
set_option autoImplicit false
set_option maxHeartbeats 400000
namespace PL
open PySem PySem.Spec PyProof.Rows L2
/-! ### set(t), t a list or a tuple of ints or of tuples of ints; sorted of it -/
abbrev KA := Addr × List Int
def rSetT (K : PySem.W.Frag) (P : Program) (w : World) : List V → Hp → VK → Prop := fun xs H Q => ∃ (l : Addr) (ks : List KA), xs = [V.ref l] ∧ SqT K H l (ks.map fun p => V.ref p.1) ∧ (∀ p ∈ ks, SqT K H p.1 (p.2.map V.int)) ∧ ks.length < 64 ∧
  ∀ a L, H a = none → (∀ p ∈ L, p ∈ ks) → (∀ p ∈ ks, p.2 ∈ L.map (·.2)) → Q (.ref a) (upd H a (SetTO P w a L))
def rSetI (K : PySem.W.Frag) (w : World) : List V → Hp → VK → Prop := fun xs H Q => ∃ (l : Addr) (ns : List Int), xs = [V.ref l] ∧ (SqL K H l (ns.map V.int) ∨ SqT K H l (ns.map V.int)) ∧ ns.length < 64 ∧
  ∀ a n, H a = none → n ≤ ns.length → Q (.ref a) (upd H a (SetO w a (fun j => decide (j ∈ ns)) n))
theorem few_scan {n : Nat} (h : n < 64) : n + 1 < scanBound := Nat.lt_of_lt_of_le (Nat.succ_lt_succ h) (by decide)
section
variable {X : Cx}
theorem cr_setT (hc : X.calm = true) (hu : X.A.units + 64 < cLine) : CallR X (.type "set") (rSetT X.K X.prog X.w) := by
  intro pins s σ H xs us Q I r h
  obtain ⟨l, ks, rfl, hl, hk, hf, q⟩ := h
  cases r with
  | cons r t =>
    cases t
    cases r
    obtain ⟨its, vi, ⟨o, ho, hcl, n, hd⟩, hz⟩ := I.tuple hl
    have hn : H s.heap.objs.size = none := I.hok.fresh (Nat.le_refl _)
    refine call_set_tupT (P := X.prog) (w := X.w) ks (I.ok.hd hc) ⟨o, ho, hcl, n, hd⟩ (by simpa using refs_of_vals vi) (fun p hp => I.isT (hk p hp)) hf (by omega) fun h' tk L es ep t R g kp => ?_
    exact ⟨.ref s.heap.objs.size, _, I.laid (t' := tk) kp (Nat.le_refl _) (setTO_new R.t0), rfl, q _ L hn (fun p hp => List.mem_of_mem_take (g.sub p hp)) fun p hp => g.all p (by rw [List.take_length]; exact hp)⟩
theorem cr_setI (hc : X.calm = true) : CallR X (.type "set") (rSetI X.K X.w) := by
  intro pins s σ H xs us Q I r h
  obtain ⟨l, ns, rfl, hl, hf, q⟩ := h
  cases r with
  | cons r t =>
    cases t
    cases r
    have hn : H s.heap.objs.size = none := I.hok.fresh (Nat.le_refl _)
    rcases hl with hl | hl
    · obtain ⟨its, vi, pl, hz⟩ := I.list hl
      refine call_set_lstI (P := X.prog) (w := X.w) ns (I.ok.hd hc) pl.isList (by simpa using Vals.ints vi) (few_scan hf) fun h' tk c R hcn kp => ?_
      exact ⟨.ref s.heap.objs.size, _, I.laid (t' := tk) kp (Nat.le_refl _) (setO_new R), rfl, q _ c hn hcn⟩
    · obtain ⟨its, vi, ⟨o, ho, hcl, n, hd⟩, hz⟩ := I.tuple hl
      refine call_set_tupI (P := X.prog) (w := X.w) ns (I.ok.hd hc) ⟨o, ho, hcl, n, hd⟩ (by simpa using Vals.ints vi) (few_scan hf) fun h' tk c R hcn kp => ?_
      exact ⟨.ref s.heap.objs.size, _, I.laid (t' := tk) kp (Nat.le_refl _) (setO_new R), rfl, q _ c hn hcn⟩
end
def rSetAny (K : PySem.W.Frag) (P : Program) (w : World) : List V → Hp → VK → Prop := fun vs H Q => rSetOfT K P w vs H Q ∨ (rSetT K P w vs H Q ∨ rSetI K w vs H Q)
def rSrtAny (K : PySem.W.Frag) (P : Program) (w : World) : List V → Hp → VK → Prop := fun vs H Q => rSortedT K P w vs H Q ∨ rSortedSet w vs H Q
theorem cr_setAny {X : Cx} (hc : X.calm = true) (hu : X.A.units + 64 < cLine) : CallR X (.type "set") (rSetAny X.K X.prog X.w) := (cr_setOfT hc hu).or ((cr_setT hc hu).or (cr_setI hc))
theorem cr_srtAny {X : Cx} (hc : X.calm = true) : CallR X (.builtin "sorted") (rSrtAny X.K X.prog X.w) := (cr_sortedT hc).or (cr_sortedSet hc)
def rSset (K : PySem.W.Frag) (P : Program) (w : World) : List V → Hp → VK → Prop := fun vs H Q => rSetAny K P w vs H fun v H1 => rSrtAny K P w [v] H1 Q
/-! the order -/
theorem code_lex {B : Int} : ∀ {x y : List Int}, x.length = y.length → TS.Bd B x → TS.Bd B y → TS.code B x ≤ TS.code B y → lexLe x y = true
  | [], _, _, _, _, _ => rfl
  | _ :: _, [], h, _, _, _ => by cases h
  | a :: r, b :: t, hl, h1, h2, h => by
    have hl' : r.length = t.length := by simpa using hl
    unfold lexLe
    by_cases e : a = b
    · subst e
      rw [if_pos rfl]
      refine code_lex hl' h1.tail h2.tail ?_
      by_cases q : TS.code B t < TS.code B r
      · have := (TS.code_same (B := B) (d := a) hl'.symm).mpr q
        omega
      · omega
    · rw [if_neg e, decide_eq_true_eq]
      by_cases q : b < a
      · have := TS.code_lt hl'.symm h2.tail h1.tail q
        omega
      · omega
theorem dedI_mem : ∀ (l : List Int) (z : Int), z ∈ dedI l ↔ z ∈ l
  | [], z => by unfold dedI; rfl
  | [x], z => by unfold dedI; rfl
  | x :: y :: r, z => by
    unfold dedI
    split
    · rename_i e
      subst e
      rw [dedI_mem (x :: r) z]
      simp
    · rw [List.mem_cons, dedI_mem (y :: r) z, List.mem_cons (a := z) (b := x)]
theorem dedT_mem : ∀ (l : List (List Int)) (z : List Int), z ∈ dedT l ↔ z ∈ l
  | [], z => by unfold dedT; rfl
  | [x], z => by unfold dedT; rfl
  | x :: y :: r, z => by
    unfold dedT
    split
    · rename_i e
      subst e
      rw [dedT_mem (x :: r) z]
      simp
    · rw [List.mem_cons, dedT_mem (y :: r) z, List.mem_cons (a := z) (b := x)]
theorem dedI_lt : ∀ {l : List Int}, l.Pairwise (fun a b => decide (a ≤ b) = true) → (dedI l).Pairwise (fun a b => a < b)
  | [], _ => by unfold dedI; exact .nil
  | [x], _ => by unfold dedI; exact List.pairwise_singleton _ _
  | x :: y :: r, h => by
    obtain ⟨h1, h2⟩ := List.pairwise_cons.mp h
    unfold dedI
    split
    · exact dedI_lt h2
    · rename_i ne
      refine List.pairwise_cons.mpr ⟨fun z hz => ?_, dedI_lt h2⟩
      rw [dedI_mem] at hz
      have a := h1 y List.mem_cons_self
      simp only [decide_eq_true_eq] at a
      rcases List.mem_cons.mp hz with e | hz
      · subst e; omega
      · have b := (List.pairwise_cons.mp h2).1 z hz
        simp only [decide_eq_true_eq] at b
        omega
theorem dedT_lt : ∀ {l : List (List Int)}, l.Pairwise (fun a b => lexLe a b = true) → (dedT l).Pairwise (fun a b => lexLe a b = true) ∧ (dedT l).Nodup
  | [], _ => by unfold dedT; exact ⟨.nil, List.nodup_nil⟩
  | [x], _ => by unfold dedT; exact ⟨List.pairwise_singleton _ _, List.pairwise_singleton _ _⟩
  | x :: y :: r, h => by
    obtain ⟨h1, h2⟩ := List.pairwise_cons.mp h
    obtain ⟨i1, i2⟩ := dedT_lt h2
    unfold dedT
    split
    · exact ⟨i1, i2⟩
    · rename_i ne
      refine ⟨List.pairwise_cons.mpr ⟨fun z hz => h1 z ((dedT_mem _ _).mp hz), i1⟩, List.nodup_cons.mpr ⟨fun hz => ?_, i2⟩⟩
      rw [dedT_mem] at hz
      rcases List.mem_cons.mp hz with e | hz
      · exact ne e
      · exact ne (lexLe_anti (h1 y List.mem_cons_self) ((List.pairwise_cons.mp h2).1 x hz))
theorem dedI_eq {ns ms : List Int} (h1 : ms.Pairwise (· < ·)) (h2 : ∀ k, k ∈ ms ↔ k ∈ ns) : ms = dedI (sortI ns) := by
  have d := dedI_lt (sortI_sorted ns)
  have nd : ∀ {l : List Int}, l.Pairwise (· < ·) → l.Nodup := fun h => h.imp fun h => Int.ne_of_lt h
  have le : ∀ {l : List Int}, l.Pairwise (· < ·) → l.Pairwise (fun a b => decide (a ≤ b) = true) := fun h => h.imp fun h => by simp only [decide_eq_true_eq]; omega
  refine srt_unique (le := fun a b => decide (a ≤ b)) (fun {x y} a b => by simp only [decide_eq_true_eq] at a b; omega) ((List.perm_ext_iff_of_nodup (nd h1) (nd d)).mpr fun k => ?_) (le h1) (le d)
  rw [h2, dedI_mem]
  exact (sortI_perm ns).mem_iff.symm
theorem dedT_eq {ns ms : List (List Int)} (h1 : ms.Pairwise (fun a b => lexLe a b = true)) (h3 : ms.Nodup) (h2 : ∀ k, k ∈ ms ↔ k ∈ ns) : ms = dedT (sortT ns) := by
  obtain ⟨d1, d2⟩ := dedT_lt (sortT_sorted ns)
  refine srt_unique lexLe_anti ((List.perm_ext_iff_of_nodup h3 d2).mpr fun k => ?_) h1 d1
  rw [h2, dedT_mem]
  exact (sortT_perm ns).mem_iff.symm
end PL

set_option Elab.async false
set_option linter.all false
set_option maxRecDepth 100000
set_option autoImplicit false
set_option maxHeartbeats 400000
namespace PL
open PySem PySem.Spec PyProof.Rows L2
section
variable {C : Ctx} {σ : VS} {env : Env'} {r : D} {Z H : Hp} {Q : VK} {f : Bool} {d : D}
theorem VP.step (h : VP C σ env r Z H f d Q) (s : StOk C Z H σ env r) {p : Addr} (u : HO) (hp : H p = none) : VP C σ env r Z (upd H p u) f d Q := fun v Z' H' s' x q => by
  obtain ⟨_, x0⟩ := s.alloc u hp
  refine h v Z' H' s' (x0.trans x) (q.imp_right ?_)
  rintro ⟨b, rfl, h1, h2, h3⟩
  refine ⟨b, rfl, ?_, h2, h3⟩
  by_cases e : b = p
  · subst e; rw [upd_same] at h1; cases h1
  · rwa [upd_ne e] at h1
def kaOf : List KV' → List KA
  | [] => []
  | (v, k) :: r => (match v with
    | .ref a => (a, k)
    | _ => (0, k)) :: kaOf r
theorem kaOf_snd : ∀ bs : List KV', (kaOf bs).map (·.2) = bs.map (·.2)
  | [] => rfl
  | (v, k) :: r => by
    cases v <;> exact congrArg (k :: ·) (kaOf_snd r)
theorem kaOf_fst : ∀ {bs : List KV'}, TupL Z bs → (kaOf bs).map (fun p => V.ref p.1) = bs.map (·.1)
  | _, .nil => rfl
  | _, .cons (a := a) _ t => congrArg (V.ref a :: ·) (kaOf_fst t)
theorem kaOf_mem : ∀ {bs : List KV'}, TupL Z bs → ∀ p ∈ kaOf bs, Z p.1 = some (.tup (p.2.map V.int))
  | _, .nil, _, h => by cases h
  | _, .cons e t, p, h => by
    rcases List.mem_cons.mp h with rfl | h
    · exact e
    · exact kaOf_mem t p h
theorem bi_sset (P : Program) (w : World) : BiR C σ .sset (rSset C.K P w) := fun Z H env r vs ds z Q s rp e0 h => by
  have e : biSset ds = .ok z := e0
  clear e0
  unfold biSset at e
  split at e
  · obtain ⟨v, rfl, q⟩ := rp.one
    split at e
    · rename_i xs hs
      obtain ⟨rs, e1, e2⟩ := bind_ok e
      cases e2
      obtain ⟨a, ys, rfl, ra, k⟩ := q.seq hs s.zh
      have yl := ra.length
      unfold ssetD at e1
      split at e1
      · rename_i hn
        split at e1
        · rename_i ns hi
          cases e1
          have := intsD_of hi; subst this
          have := ra.ints; subst this
          refine .inr (.inr ⟨a, ns, rfl, k.imp (fun ⟨_, k⟩ => SqL.of k) (fun ⟨_, k, _⟩ => SqT.of k), by simpa using hn, fun b n hb hl => ?_⟩)
          refine .inr ⟨b, fun j => decide (j ∈ ns), n, rfl, upd_same, by have : ns.length < 64 := (by simpa using hn); omega, fun ms p h1 h2 h3 hp => ?_⟩
          have em : ms = dedI (sortI ns) := dedI_eq h1 fun k => by rw [h2]; simp
          have s2 := (s.alloc (SetO w b (fun j => decide (j ∈ ns)) n) hb).1
          have := (h.step s (SetO w b (fun j => decide (j ∈ ns)) n) hb).newL s2 (Reps.of_ints (dedI (sortI ns))) p hp
          rw [em]; exact this
        · split at e1
          · rename_i ks ht
            split at e1
            · rename_i hc
              cases e1
              have := tupsD_of ht; subst this
              obtain ⟨bs, b1, b2, b3⟩ := tupL_of ra
              have f1 := kaOf_fst b3
              have f2 := kaOf_snd bs
              have f3 := kaOf_mem b3
              rw [b2] at f2
              have hk : ∀ p ∈ kaOf bs, SqT C.K H p.1 (p.2.map V.int) := fun p hp => SqT.of (s.zh.tup (f3 p hp))
              have len : (kaOf bs).length < 64 := by
                have := congrArg List.length f2
                rw [List.length_map] at this
                rw [this]; simpa using hn
              have bd : ∀ k ∈ ks, k.length = (ks.headD []).length ∧ k ≠ [] ∧ TS.Bd 64 k := fun k hk => by
                have := List.all_eq_true.mp hc k hk
                simp only [Bool.and_eq_true, decide_eq_true_eq] at this
                obtain ⟨⟨h1, h2⟩, h3⟩ := this
                refine ⟨h1, fun q => (by rw [q] at h2; cases h2), fun m hm => ?_⟩
                have := List.all_eq_true.mp h3 m hm
                simpa [Bool.and_eq_true, decide_eq_true_eq] using this
              have fin : ∀ b L, H b = none → (∀ p ∈ L, p ∈ kaOf bs) → (∀ p ∈ kaOf bs, p.2 ∈ L.map (·.2)) → rSrtAny C.K P w [.ref b] (upd H b (SetTO P w b L)) Q := fun b L hb g1 g2 => by
                have s2 := (s.alloc (SetTO P w b L) hb).1
                have h2 := h.step s (SetTO P w b L) hb
                have inks : ∀ p ∈ L, p.2 ∈ ks := fun p hp => by rw [← f2]; exact List.mem_map_of_mem (g1 p hp)
                have d1 : 1 ≤ (ks.headD []).length := by
                  cases ks with
                  | nil =>
                    exfalso
                    unfold intsD at *
                    simp_all
                  | cons k0 t =>
                    have := (bd k0 List.mem_cons_self).2.1
                    cases k0 with
                    | nil => exact absurd rfl this
                    | cons _ _ => simp
                refine .inl ⟨b, L, (ks.headD []).length, 64, rfl, upd_same, fun p hp => ?_, d1, fun p hp => ⟨(bd _ (inks p hp)).1, (bd _ (inks p hp)).2.2⟩, fun L' p pm nd _ pw hp => ?_⟩
                · have q := s.zh.tup (f3 p (g1 p hp))
                  refine SqT.of ?_
                  have ne : p.1 ≠ b := fun z => by rw [z, hb] at q; cases q
                  rw [upd_ne ne]; exact q
                · have mem : ∀ q ∈ L', q ∈ kaOf bs := fun q hq => g1 q (pm.mem_iff.mp hq)
                  have em : L'.map (·.2) = dedT (sortT ks) := by
                    refine dedT_eq ?_ nd fun k => ?_
                    · rw [List.pairwise_map]
                      refine List.Pairwise.imp_of_mem (fun {x y} hx hy hxy => ?_) pw
                      have k1 : x.2 ∈ ks := inks x (pm.mem_iff.mp hx)
                      have k2 : y.2 ∈ ks := inks y (pm.mem_iff.mp hy)
                      exact code_lex ((bd _ k1).1.trans (bd _ k2).1.symm) (bd _ k1).2.2 (bd _ k2).2.2 hxy
                    · rw [← f2, (pm.map (·.2)).mem_iff]
                      constructor
                      · intro z
                        obtain ⟨p, hp, rfl⟩ := List.mem_map.mp z
                        exact List.mem_map_of_mem (g1 p hp)
                      · intro z
                        obtain ⟨p, hp, rfl⟩ := List.mem_map.mp z
                        exact g2 p hp
                  have rep : Reps C.K Z (L'.map fun q => V.ref q.1) ((L'.map (·.2)).map tI) := by
                    have := TupL.of_mem (K := C.K) (Z := Z) (bs := L'.map fun q => (V.ref q.1, q.2)) (fun x hx => by
                      obtain ⟨q, hq, rfl⟩ := List.mem_map.mp hx
                      exact ⟨q.1, rfl, f3 q (mem q hq)⟩)
                    simp only [List.map_map] at this ⊢
                    exact this
                  rw [em] at rep
                  exact h2.newL s2 rep p hp
              rcases k with ⟨_, k⟩ | ⟨_, k, _⟩
              · exact .inl ⟨a, kaOf bs, rfl, by rw [f1, b1]; exact SqL.of k, hk, len, fin⟩
              · exact .inr (.inl ⟨a, kaOf bs, rfl, by rw [f1, b1]; exact SqT.of k, hk, len, fin⟩)
            · cases e1
          · cases e1
      · cases e1
    · cases e
  · cases e
end
end PL

set_option Elab.async false
set_option linter.all false
set_option maxRecDepth 100000
set_option autoImplicit false
set_option maxHeartbeats 400000
namespace PL
open PySem PySem.Spec PyProof.Rows L2
/-! ### a text is what a term says: the check -/
def plainT : Expr → Bool
  | .Name _ _ => true
  | .Call _ _ _ _ => true
  | .Subscript _ _ _ => true
  | .Constant _ _ _ => true
  | .Attribute _ _ _ => false
  | _ => false
def cstC (k : Ck) : D → Expr → Bool
  | .non, .Constant .none _ _ => true
  | .bl a, .Constant (.bool b) _ _ => a == b
  | .int i, .Constant (.int j) _ _ => i == j
  | .int i, .Name x _ => k.co.lookup x == some i && k.gl x && !(x == ("__debug__" : Str))
  | .str x, .Constant (.str y) _ _ => x == y
  | _, _ => false
def biN : Bi → Option (Str × Nat)
  | .len => some ("len", 1) | .int => some ("int", 1) | .abs => some ("abs", 1) | .max2 => some ("max", 2) | .min2 => some ("min", 2)
  | .maxl => some ("max", 1) | .minl => some ("min", 1) | .sum => some ("sum", 1) | .sorted => some ("sorted", 1) | .list => some ("list", 1) | .tuple => some ("tuple", 1)
  | .str => some ("str", 1) | .dictp => some ("dict", 1) | .dictc => some ("dict", 1)
  | _ => none
def strongs : Es → Bool
  | .nil => true
  | .cons e es => !isB e && strongs es
def opers : Es → Bool
  | .nil => true
  | .cons e es => (!isRw e || noRs es) && opers es
def isSet : Expr → Bool
  | .Set _ _ _ => true
  | _ => false
def isTup : Expr → Bool
  | .Tuple _ _ _ => true
  | _ => false
def noCall : Expr → Bool
  | .Call (.Name x _) _ _ _ => !(x == ("super" : Str))
  | _ => true
def noNt (ts : List Ty) : Bool := ts.all fun t => match t with
  | .ntyp => false
  | _ => true
def subN (a b : List Nat) : Bool := a.all fun i => b.contains i
/-- an int of the text -/
def isIL : E → Bool
  | .cst (.int _) => true
  | _ => false
mutual
def chk (m : Bool) (k : Ck) : E → Expr → Bool
  | .loc i, ex => (match ex with
    | .Name x _ => k.slot i x
    | _ => false)
  | .bor i, ex => (match ex with
    | .Name x _ => k.slot i x
    | _ => false)
  | .rw, ex => (match ex, k.rs with
    | .Name x _, some i => k.slot i x
    | _, _ => false)
  | .cst d, ex => (!m || plainT ex) && cstC k d ex
  | .tup es, ex => (match ex with
    | .Tuple l _ _ => !m && chks k es l && strongs es && decide (es.len ≤ 1000)
    | _ => false)
  | .lst es, ex => (match ex with
    | .List l _ => !m && chks k es l && strongs es && decide (es.len ≤ 1000)
    | _ => false)
  | .emp, ex => (match ex with
    | .Dict [] [] _ => !m
    | _ => false)
  | .bin o a b, ex => (match ex with
    | .BinOp x op y _ => !m && decide (op = opP o) && chk false k a x && chk false k b y && (!isRw a || noR b)
    | _ => false)
  | .neg a, ex => (match ex with
    | .UnaryOp .USub x _ => !m && chk false k a x
    | _ => false)
  | .not a, ex => (match ex with
    | .UnaryOp .Not x _ => chk m k a x
    | _ => false)
  | .and a b, ex => (match ex with
    | .BoolOp .And [x, y] _ => chk m k a x && chk m k b y
    | .BoolOp .And (x :: y :: z :: r) p => chk m k a x && chk m k b (.BoolOp .And (y :: z :: r) p)
    | _ => false)
  | .or a b, ex => (match ex with
    | .BoolOp .Or [x, y] _ => chk m k a x && chk m k b y
    | .BoolOp .Or (x :: y :: z :: r) p => chk m k a x && chk m k b (.BoolOp .Or (y :: z :: r) p)
    | _ => false)
  | .cmp o a b, ex => (match ex with
    | .Compare x [op] [y] _ => decide (op = cmP o) && chk false k a x && chk false k b y && (!isRw a || noR b) && !behindInMarks op y
    | _ => false)
  | .chain o o2 a b c, ex => (match ex with
    | .Compare x [op, op2] [y, z] _ => decide (op = cmP o) && decide (op2 = cmP o2) && chk false k a x && chk false k b y && chk false k c z && noR b && noR c && !isRw a && !isRw b && !lastMarks [op, op2] [y, z]
    | _ => false)
  | .ite c a b, ex => (match ex with
    | .IfExp x y z _ => !m && chk true k c x && chk false k a y && chk false k b z && !isB a && !isB b
    | _ => false)
  | .ix a b, ex => (match ex with
    | .Subscript x y _ => chk false k a x && chk false k b y && (!isRw a || noR b) && !isSlice y
    | _ => false)
  | .sl a hl l hh h, ex => (match ex with
    | .Subscript x (.Slice lo hi none _) _ => chk false k a x && !isRw a && (match hl, lo with
      | true, some y => chk false k l y
      | false, none => true
      | _, _ => false) && (match hh, hi with
      | true, some y => chk false k h y
      | false, none => true
      | _, _ => false)
    | _ => false)
  | .rev a, ex => (match ex with
    | .Subscript x (.Slice none none (some (.UnaryOp .USub (.Constant (.int 1) _ _) _)) _) _ => chk false k a x
    | _ => false)
  | .bi f es, ex => (match f, es, ex with
    | .isi ts, .cons a .nil, .Call (.Name g _) [x, ty] [] _ => g == ("isinstance" : Str) && k.gl g && chk false k a x && chkTy k ts ty && decide (ts.length ≤ 8) && plainAnd x && noNt ts
    | .rgl1, .cons a .nil, .Call (.Name g _) [.Call (.Name h _) [x] [] _] [] _ => g == ("list" : Str) && k.gl g && h == ("range" : Str) && k.gl h && chk false k a x && plainAnd x
    | .rgt1, .cons a .nil, .Call (.Name g _) [.Call (.Name h _) [x] [] _] [] _ => g == ("tuple" : Str) && k.gl g && h == ("range" : Str) && k.gl h && chk false k a x && plainAnd x
    | .sset, .cons a .nil, .Call (.Name g _) [.Call (.Name h _) [x] [] _] [] _ => g == ("sorted" : Str) && k.gl g && h == ("set" : Str) && k.gl h && chk false k a x && plainAnd x
    | .skeys, .cons a .nil, .Call (.Name g _) [.Call (.Attribute x nm ap) [] [] cp] [] _ => g == ("sorted" : Str) && k.gl g && nm == ("keys" : Str) && chk false k a x && noCall x && ap.endLine == cp.line
    | .index, .cons a (.cons b .nil), .Call (.Attribute x nm ap) [y] [] cp => nm == ("index" : Str) && chk false k a x && chk false k b y && nox b && (!isRw a || noR b) && noCall x && plainAnd y && ap.endLine == cp.line
    | .join, .cons a (.cons b .nil), .Call (.Attribute x nm ap) [y] [] cp => nm == ("join" : Str) && chk false k a x && chk false k b y && nox b && (!isRw a || noR b) && noCall x && plainAnd y && ap.endLine == cp.line
    | .sumvals, .cons a .nil, .Call (.Name g _) [.Call (.Attribute x nm ap) [] [] cp] [] _ => g == ("sum" : Str) && k.gl g && nm == ("values" : Str) && chk false k a x && noCall x && ap.endLine == cp.line
    | .get2, .cons a (.cons b (.cons d .nil)), .Call (.Attribute x nm ap) [y, w] [] cp => nm == ("get" : Str) && chk false k a x && chk false k b y && chk false k d w && isIL d && nox b && (!isRw a || noR b) && noCall x && plainAnd y && plainAnd w && ap.endLine == cp.line
    | f, es, .Call (.Name g _) l [] _ => (match biN f with
      | some (h, n) => g == h && k.gl g && decide (es.len = n) && chks k es l && opers es
      | none => false)
    | _, _, _ => false)
  | .call f es, ex => (match ex with
    | .Call (.Name x _) l [] _ => (match k.fs.lookup (f, x) with
      | some (np, row) => k.gl x && !row && decide (es.len = np) && chks k es l && strongs es && !(x == ("__debug__" : Str))
      | none => false)
    | _ => false)
  | .callr f es, ex => (match ex with
    | .Call (.Name x _) (.Name z _ :: l) [] _ => (match k.fs.lookup (f, x), k.rs with
      | some (np, row), some i => k.gl x && row && decide (es.len + 1 = np) && k.slot i z && chks k es l && strongs es && !(x == ("__debug__" : Str))
      | _, _ => false)
    | _ => false)
  | .lc elt tg it ifs own, ex => (match ex with
    | .ListComp x [⟨t, i, fs, 0⟩] sc _ => !m && blkC k.N k.sc sc (ownOf k own) && chkI k it t i && !isSet i && chkTg (k.inner sc) tg t && chkF (k.inner sc) ifs fs && chk false (k.inner sc) elt x &&
        subN (slT tg) own && (match k.rs with
        | some j => !own.contains j
        | none => true) && !isB elt && oneIf ifs
    | _ => false)
def chks (k : Ck) : Es → List Expr → Bool
  | .nil, l => (match l with
    | [] => true
    | _ => false)
  | .cons e es, l => (match l with
    | x :: xs => plainAnd x && chk false k e x && chks k es xs
    | [] => false)
def chkF (k : Ck) : Es → List Expr → Bool
  | .nil, l => (match l with
    | [] => true
    | _ => false)
  | .cons e es, l => (match l with
    | x :: xs => chk true k e x && chkF k es xs
    | [] => false)
def chkI (k : Ck) : It → Expr → Expr → Bool
  | .seq e, _, ex => chk false k e ex && !isB e
  | .rng1 e, _, ex => (match ex with
    | .Call (.Name g _) [x] [] _ => g == ("range" : Str) && k.gl g && chk false k e x && plainAnd x
    | _ => false)
  | .rng2 a b, _, ex => (match ex with
    | .Call (.Name g _) [x, y] [] _ => g == ("range" : Str) && k.gl g && chk false k a x && chk false k b y && plainAnd x && plainAnd y && !isRw a
    | _ => false)
  | .rng3 a b c, _, ex => (match ex with
    | .Call (.Name g _) [x, y, z] [] _ => g == ("range" : Str) && k.gl g && chk false k a x && chk false k b y && chk false k c z && plainAnd x && plainAnd y && plainAnd z && !isRw a && !isRw b
    | _ => false)
  | .enum e, tg, ex => (match tg, ex with
    | .Tuple _ _ _, .Call (.Name g _) [x] [] _ => g == ("enumerate" : Str) && k.gl g && chk false k e x && plainAnd x && !isB e
    | _, _ => false)
  | .zip a b, tg, ex => (match tg, ex with
    | .Tuple _ _ _, .Call (.Name g _) [x, y] [] _ => g == ("zip" : Str) && k.gl g && chk false k a x && chk false k b y && plainAnd x && plainAnd y && !isB a && !isB b
    | _, _ => false)
  | .keys e, _, ex => (match e, ex with
    | .loc i, .Call (.Attribute (.Name x _) nm ap) [] [] cp => nm == ("keys" : Str) && k.slot i x && ap.endLine == cp.line
    | _, _ => false)
end
end PL

set_option Elab.async false
set_option linter.all false
set_option maxRecDepth 100000
set_option autoImplicit false
set_option maxHeartbeats 400000
namespace PL
open PySem PySem.Spec PyProof.Rows L2
/-! ### the text keeps what the term says -/
section
variable {X : Cx}
theorem pe_imp {ex : Expr} {t u : TE} (h : PE X ex t) (k : ∀ σ H Q, u σ H Q → t σ H Q) : PE X ex u := ⟨fun pins s σ H Q I q => h.run pins s σ H Q I (k _ _ _ q)⟩
theorem pt_imp {ex : Expr} {t u : TT} (h : PT X ex t) (k : ∀ σ H Q, u σ H Q → t σ H Q) : PT X ex u := ⟨fun pins s σ H Q I q => h.run pins s σ H Q I (k _ _ _ q)⟩
theorem pw_imp {ex : Expr} {t u : TT} (h : PW X ex t) (k : ∀ σ H Q, u σ H Q → t σ H Q) : PW X ex u := ⟨fun wh pins s σ H Q I q => h.run wh pins s σ H Q I (k _ _ _ q)⟩
theorem pa_imp {es : List Expr} {t u : TA} (h : PA X es t) (k : ∀ σ H Q, u σ H Q → t σ H Q) : PA X es u := ⟨fun pos pins s σ H Q I q => h.run pos pins s σ H Q I (k _ _ _ q)⟩
theorem pi_imp {tg ex : Expr} {t u : TI} (h : PI X tg ex t) (k : ∀ σ H R, u σ H R → t σ H R) : PI X tg ex u := ⟨fun pins s σ H Q I q => h.run pins s σ H Q I (k _ _ _ q)⟩
theorem ps_imp {st : Stmt} {t u : TS} (h : PS X st t) (k : ∀ D σ H, u D σ H → t D σ H) : PS X st u := ⟨fun pins s σ H D I q => h.run pins s σ H D I (k _ _ _ q)⟩
theorem po_imp {e : Option Expr} {t u : TO} (h : PO X e t) (k : ∀ σ H Q, u σ H Q → t σ H Q) : PO X e u := ⟨fun pins s σ H Q I q => h.run pins s σ H Q I (k _ _ _ q)⟩
theorem star_of {x : Expr} (h : plainAnd x = true) (xs : List Expr) (env : PySem.Env) : starEach (x :: xs) env = (false, eval x env) :: starEach xs env := by
  cases x <;> first | rfl | cases h
theorem back_any (pos : Pos) : ∀ l : List (Bool × Sem Value), (backTo pos l).any (·.1) = l.any (·.1)
  | [] => rfl
  | (b, t) :: l => by
    show (b || (backTo pos l).any (·.1)) = (b || l.any (·.1))
    rw [back_any pos l]
def plains : List Expr → Bool
  | [] => true
  | x :: xs => plainAnd x && plains xs
theorem star_any (env : PySem.Env) : ∀ {l : List Expr}, plains l = true → (starEach l env).any (·.1) = false
  | [], _ => rfl
  | x :: xs, h => by
    unfold plains at h
    rw [Bool.and_eq_true] at h
    rw [star_of h.1, List.any_cons, star_any env h.2]; rfl
theorem plain_any (env : PySem.Env) (pos : Pos) {l : List Expr} (h : plains l = true) : (backTo pos (starEach l env)).any (·.1) = false := by rw [back_any, star_any env h]
theorem pt_plain {ex : Expr} {t : TE} (h : PE X ex t) (p : plainT ex = true) : PT X ex (tB t) := by
  cases ex <;> first | exact pt_val h (fun _ => rfl) | cases p
theorem plain_ix {y : Expr} (h : isSlice y = false) : PlainIx y := fun o i => by cases y <;> first | rfl | cases h
theorem base_of {o : Expr} (h : noCall o = true) (attr : Str) (env : PySem.Env) : attributeBase o attr env (eval o env) = eval o env := by
  cases o with
  | Call f args kws pos =>
    cases f with
    | Name x p =>
      have hx : (x != ("super" : Str)) = true := by simpa [noCall, bne] using h
      cases args <;> cases kws <;> first | rfl | skip
      show (if (x != ("super" : Str) || _ || _ || _) = true then (do return ← eval _ env) else _) = _
      rw [hx]
      simp
    | _ => rfl
  | _ => rfl
theorem noSet {it : Expr} (h : isSet it = false) (env : PySem.Env) (x : Value) : foldedSetIterable it env x = pure x := by
  cases it <;> first | rfl | cases h
end
/-- what the frame must be, to read a term in it -/
structure Fit (CX : CXT) (EW : XK → Nat → D → Hp → Prop) (X : Cx) (C : Ctx) (k : Ck) : Prop where
  K : X.K = C.K
  N : X.N = k.N
  nd : X.N.Nodup
  calm : X.calm = true
  un : X.A.units + 66 < cLine
  vis : ∀ x, k.vis x = true → Vis X.env.scope x
  loc : ∀ x, k.loc x = true → Loc X.env.scope x ∧ (X.fn x = true ∨ X.env.scope.names.lookup x = some .local)
  gl : ∀ x, k.gl x = true → Gl X x
  blk : ∀ scope own, blkC k.N k.sc scope own = true → BlkOk X.N X.env.scope scope own
  bl : ∀ x : Str, x ∈ (["isinstance", "list", "tuple", "range", "sorted", "len", "int", "abs", "max", "min", "sum", "enumerate", "zip", "bool", "str", "dict", "set"] : List Str) → X.mg x = none
  co : ∀ x i, k.co.lookup x = some i → ∃ u, X.mg x = some u ∧ RelV (.int i) u
  rs : C.rs = k.rs
  lets : ∃ E', Lets C EW E' ∧ Passes CX X E'
  nev : ∀ st H s e s', ¬ CX st H s (fun _ _ _ => False) e s'
  call : ∀ f x np row, k.fs.lookup (f, x) = some (np, row) → ∃ j fa fd ps, FnOk X.prog X.w X.K X.mg X.base CX j fa fd ps (spD C.K EW C.cl f row np) ∧ Room j X.A ∧ X.mg x = some (.ref fa) ∧ PySem.W.keepIn X.K (.ref fa) = true ∧ Binds X.K fd ps []
section
variable {CX : CXT} {EW : XK → Nat → D → Hp → Prop} {X : Cx} {C C2 : Ctx} {k : Ck}
theorem Fit.slot (F : Fit CX EW X C k) {i : Nat} {x : Str} {p : Pos} (h : k.slot i x = true) : PE X (.Name x p) (tVar i) := by
  unfold Ck.slot at h
  rw [Bool.and_eq_true, beq_iff_eq] at h
  have hv := F.vis x h.2
  have h2 := h.2
  unfold Ck.vis at h2
  simp only [Bool.and_eq_true, Bool.not_eq_true'] at h2
  exact pe_var (by rw [F.N]; exact h.1) hv h2.1.2 h2.2
theorem lookup_relabel (f : Str → NameKind → NameKind) (x : Str) : ∀ l : List (Str × NameKind), (l.map fun y => (y.1, f y.1 y.2)).lookup x = (l.lookup x).map (f x)
  | [] => rfl
  | (n, kd) :: l => by
    rw [List.map_cons, List.lookup_cons, List.lookup_cons]
    cases e : x == n with
    | true =>
      have : x = n := by simpa using e
      subst this; rfl
    | false => exact lookup_relabel f x l
theorem relabel_names (scope : Scope) (env : PySem.Env) (x : Str) : (relabel scope env).names.lookup x = (scope.names.lookup x).map fun kd => if (kd == .free && env.scope.kind == .function && env.kindOf x == some .cell) then .cell else kd := by
  rw [← lookup_relabel (fun n kd => if (kd == .free && env.scope.kind == .function && env.kindOf n == some .cell) then .cell else kd)]
  unfold relabel
  congr 1
  refine List.map_congr_left fun y _ => ?_
  obtain ⟨n, kd⟩ := y
  dsimp only
  split <;> rfl
theorem Fit.inner (F : Fit CX EW X C k) (sib : Sib C C2) (s : Shared) (H : Hp) (scope : Scope) (D : Addr) (cl : List (Str × Addr)) (fp : List Addr) : Fit CX EW (X.blk s H scope (compEnvC scope cl D X.env) fp) C2 (k.inner scope) where
  K := F.K.trans sib.K.symm
  N := F.N
  nd := F.nd
  calm := F.calm
  un := F.un
  vis := fun x h => by
    unfold Ck.vis Ck.inner at h
    simp only [Bool.and_eq_true, Bool.or_eq_true, beq_iff_eq] at h
    show Vis (relabel scope X.env) x
    unfold Vis
    rw [relabel_names]
    rcases h.1.1 with (h | h) | h
    · rw [h]; exact .inl rfl
    · rw [h]; exact .inr (.inl rfl)
    · rw [h]
      dsimp only [Option.map]
      split
      · exact .inr (.inl rfl)
      · exact .inr (.inr rfl)
  loc := fun x h => by
    unfold Ck.loc Ck.inner at h
    simp only [Bool.or_eq_true, beq_iff_eq] at h
    show Loc (relabel scope X.env) x ∧ ((scope.names.lookup x == some .cell) = true ∨ (relabel scope X.env).names.lookup x = some .local)
    unfold L2.Loc
    rw [relabel_names]
    rcases h with h | h
    · rw [h]; exact ⟨.inl rfl, .inr rfl⟩
    · rw [h]; exact ⟨.inr rfl, .inl rfl⟩
  gl := fun x h => by
    unfold Ck.gl Ck.inner at h
    rw [beq_iff_eq] at h
    show (relabel scope X.env).names.lookup x = _
    rw [relabel_names, h]; rfl
  blk := fun sc2 own h => by
    have b := blkOk_by h
    have eN : (k.inner scope).N = X.N := F.N.symm
    rw [eN] at b
    refine ⟨b.kind, b.uniq, b.ix, fun y hy e => ?_, b.own⟩
    show (relabel scope X.env).names.lookup y.1 = _ ∨ (relabel scope X.env).names.lookup y.1 = _
    rw [relabel_names]
    rcases b.free y hy e with q | q
    · have q : scope.names.lookup y.1 = some .cell := q
      rw [q]; exact .inl rfl
    · have q : scope.names.lookup y.1 = some .free := q
      rw [q]
      dsimp only [Option.map]
      split
      · exact .inl rfl
      · exact .inr rfl
  bl := F.bl
  co := F.co
  rs := sib.rs.trans F.rs
  lets := ⟨fun _ _ _ => False, fun c x O Z H _ h => (sib.ew c x h).elim, fun pins σ H s e s' _ h => (F.nev _ _ _ _ _ h).elim⟩
  nev := F.nev
  call := fun f x np row h => by
    rw [sib.K, sib.cl]
    exact F.call f x np row h
end
end PL

set_option Elab.async false
set_option linter.all false
set_option maxRecDepth 100000
set_option autoImplicit false
set_option maxHeartbeats 400000
namespace PL
open PySem PySem.Spec PyProof.Rows L2
section
variable {CX : CXT} {EW : XK → Nat → D → Hp → Prop} {X : Cx} {C C2 : Ctx} {k : Ck}
theorem callR_or {X : Cx} {f : Value} {r r' : List V → Hp → VK → Prop} (h : CallR X f r) (h' : CallR X f r') : CallR X f (fun vs H Q => r vs H Q ∨ r' vs H Q) := h.or h'
/-- a built-in by its name -/
def BltOk (X : Cx) (g : Str) (R : List V → Hp → VK → Prop) : Prop := (∃ id, CallR X (.builtin id) R ∧ bootBuiltins g = some (.builtin id)) ∨ ∃ T, CallR X (.type T) R ∧ bootBuiltins g = some (.type T)
theorem bi_text (F : Fit CX EW X C k) {f : Bi} {g : Str} {n : Nat} (h : biN f = some (g, n)) : ∃ R, (∀ σ, BiR C σ f R) ∧ BltOk X g R ∧ g ≠ "__name__" ∧ (g == ("__debug__" : Str)) = false ∧ X.mg g = none ∧ 1 ≤ n := by
  have hu : X.A.units + 10 < cLine := by have := F.un; omega
  cases f with
  | len => cases h; exact ⟨_, fun σ => bi_len, .inl ⟨_, by rw [← F.K]; exact call_len1, rfl⟩, by decide, by decide, F.bl _ (by decide), by decide⟩
  | int => cases h; exact ⟨_, fun σ => bi_int, .inr ⟨_, call_int3, rfl⟩, by decide, by decide, F.bl _ (by decide), by decide⟩
  | abs => cases h; exact ⟨_, fun σ => bi_abs, .inl ⟨_, call_abs, rfl⟩, by decide, by decide, F.bl _ (by decide), by decide⟩
  | max2 => cases h; exact ⟨_, fun σ => bi_max2, .inl ⟨_, call_max2 F.calm, rfl⟩, by decide, by decide, F.bl _ (by decide), by decide⟩
  | min2 => cases h; exact ⟨_, fun σ => bi_min2, .inl ⟨_, call_min2 F.calm, rfl⟩, by decide, by decide, F.bl _ (by decide), by decide⟩
  | maxl => cases h; exact ⟨_, fun σ => bi_maxl, .inl ⟨_, by rw [← F.K]; exact callR_or (cr_max F.calm) (cr_maxT F.calm), rfl⟩, by decide, by decide, F.bl _ (by decide), by decide⟩
  | minl => cases h; exact ⟨_, fun σ => bi_minl, .inl ⟨_, by rw [← F.K]; exact callR_or (cr_min F.calm) (cr_minT F.calm), rfl⟩, by decide, by decide, F.bl _ (by decide), by decide⟩
  | sum => cases h; exact ⟨_, fun σ => bi_sum, .inl ⟨_, by rw [← F.K]; exact callR_or (cr_sum F.calm) (cr_sumT F.calm), rfl⟩, by decide, by decide, F.bl _ (by decide), by decide⟩
  | sorted => cases h; exact ⟨_, fun σ => bi_sorted, .inl ⟨_, by rw [← F.K]; exact cr_sortS hu, rfl⟩, by decide, by decide, F.bl _ (by decide), by decide⟩
  | list => cases h; exact ⟨_, fun σ => bi_list, .inr ⟨_, by rw [← F.K]; exact call_list_of, rfl⟩, by decide, by decide, F.bl _ (by decide), by decide⟩
  | tuple => cases h; exact ⟨_, fun σ => bi_tuple, .inr ⟨_, by rw [← F.K]; exact call_tuple_of, rfl⟩, by decide, by decide, F.bl _ (by decide), by decide⟩
  | str => cases h; exact ⟨_, fun σ => bi_str, .inr ⟨_, call_str_int, rfl⟩, by decide, by decide, F.bl _ (by decide), by decide⟩
  | dictp => cases h; exact ⟨_, fun σ => bi_dictp, .inr ⟨_, by rw [← F.K]; exact call_dictPT F.calm hu, rfl⟩, by decide, by decide, F.bl _ (by decide), by decide⟩
  | dictc => cases h; exact ⟨_, fun σ => bi_dictc X.prog X.w, .inr ⟨_, call_dictCT hu, rfl⟩, by decide, by decide, F.bl _ (by decide), by decide⟩
  | _ => cases h
theorem pe_blt {g : Str} {R : List V → Hp → VK → Prop} {t : TA} {x : Expr} {xs : List Expr} {p pos : Pos} (b : BltOk X g R) (hg : Gl X g) (hm : X.mg g = none) (ha : PA X (x :: xs) t) (hn : g ≠ "__name__") (hdb : (g == ("__debug__" : Str)) = false) (px : plainAnd x = true) (pl : plains xs = true) :
    PE X (.Call (.Name g p) (x :: xs) [] pos) (tCB R t) := by
  rcases b with ⟨id, hc, hv⟩ | ⟨T, hc, hv⟩
  · exact pe_callB hc hg hm hv ha hn hdb (star_of px xs _) (plain_any _ _ pl)
  · exact pe_callTy hc hg hm hv ha hn hdb (star_of px xs _) (plain_any _ _ pl)
theorem ty_text (F : Fit CX EW X C k) {t : Ty} {x : Str} {p : Pos} (n : noNt [t] = true) (e : x = tyName t) (hg : k.gl x = true) : PE X (.Name x p) (tC (.ty (tyS t))) := by
  subst e
  cases t with
  | ntyp => cases n
  | int => exact pe_bltn (F.gl _ hg) (F.bl _ (by decide)) (u := .type "int") rfl rfl
  | bool => exact pe_bltn (F.gl _ hg) (F.bl _ (by decide)) (u := .type "bool") rfl rfl
  | tuple => exact pe_bltn (F.gl _ hg) (F.bl _ (by decide)) (u := .type "tuple") rfl rfl
  | list => exact pe_bltn (F.gl _ hg) (F.bl _ (by decide)) (u := .type "list") rfl rfl
  | str => exact pe_bltn (F.gl _ hg) (F.bl _ (by decide)) (u := .type "str") rfl rfl
  | dict => exact pe_bltn (F.gl _ hg) (F.bl _ (by decide)) (u := .type "dict") rfl rfl
theorem tys_text (F : Fit CX EW X C k) : ∀ {ts : List Ty} {es : List Expr}, noNt ts = true → chkTy.chkTys k ts es = true → PA X es (tTys ts) ∧ plains es = true
  | [], es, _, h => by
    cases es with
    | nil => exact ⟨pa_nil, rfl⟩
    | cons x xs => unfold chkTy.chkTys at h; cases h
  | t :: ts, es, n, h => by
    unfold noNt at n
    rw [List.all_cons, Bool.and_eq_true] at n
    cases es with
    | nil => cases h
    | cons e es' =>
      cases e with
      | Name x p =>
        have h : (x == tyName t && k.gl x && chkTy.chkTys k ts es') = true := h
        simp only [Bool.and_eq_true, beq_iff_eq] at h
        obtain ⟨i1, i2⟩ := tys_text F (ts := ts) (es := es') n.2 h.2
        exact ⟨pa_cons (ty_text F (by unfold noNt; rw [List.all_cons, n.1]; rfl) h.1.1 h.1.2) i1 (star_of rfl _ _), i2⟩
      | _ => cases h
end
end PL

set_option Elab.async false
set_option linter.all false
set_option maxRecDepth 100000
set_option autoImplicit false
set_option maxHeartbeats 400000
namespace PL
open PySem PySem.Spec PyProof.Rows L2
section
variable {CX : CXT} {EW : XK → Nat → D → Hp → Prop}
def Snd : Bool → Cx → Ctx → E → Expr → Prop
  | false, X, C, e, ex => PE X ex (rdE C e)
  | true, X, C, e, ex => PT X ex (rdT C e) ∧ ∀ op vs p, ex = .BoolOp op vs p → PW X ex (rdT C e)
theorem snd_plain {X : Cx} {C : Ctx} {e : E} {ex : Expr} (h : PE X ex (rdE C e)) (p : plainT ex = true) : ∀ m, Snd m X C e ex
  | false => h
  | true => ⟨pt_imp (pt_plain h p) fun _ _ _ => rt_val, fun op vs q z => by subst z; cases p⟩
theorem snd_cst {X : Cx} {C : Ctx} {k : Ck} (F : Fit CX EW X C k) {d : D} {ex : Expr} (h : cstC k d ex = true) : PE X ex (rdE C (.cst d)) := by
  cases d with
  | non =>
    cases ex with
    | Constant c a b => cases c <;> first | exact pe_imp pe_non fun _ _ _ => rd_cst (fun _ => .non) rfl | cases h
    | _ => cases h
  | bl x =>
    cases ex with
    | Constant c a b =>
      cases c with
      | bool y =>
        have h : (x == y) = true := h
        rw [beq_iff_eq] at h
        subst h
        exact pe_imp pe_bl fun _ _ _ => rd_cst (fun _ => .bl _) rfl
      | _ => cases h
    | _ => cases h
  | int x =>
    cases ex with
    | Constant c a b =>
      cases c with
      | int y =>
        have h : (x == y) = true := h
        rw [beq_iff_eq] at h
        subst h
        exact pe_imp pe_int fun _ _ _ => rd_cst (fun _ => .int _) rfl
      | _ => cases h
    | Name y p =>
      have h : (k.co.lookup y == some x && k.gl y && !(y == ("__debug__" : Str))) = true := h
      simp only [Bool.and_eq_true, beq_iff_eq, Bool.not_eq_true'] at h
      obtain ⟨u, hu, ru⟩ := F.co y x h.1.1
      exact pe_imp (pe_glob (F.gl _ h.1.2) hu ru h.2) fun _ _ _ => rd_cst (fun _ => .int _) rfl
    | _ => cases h
  | str x =>
    cases ex with
    | Constant c a b =>
      cases c with
      | str y =>
        have h : (x == y) = true := h
        rw [beq_iff_eq] at h
        subst h
        exact pe_imp pe_str fun _ _ _ => rd_cst (fun _ => .str _) rfl
      | _ => cases h
    | _ => cases h
  | _ => cases ex <;> cases h
theorem plains_of {k : Ck} : ∀ {es : Es} {l : List Expr}, chks k es l = true → plains l = true
  | .nil, l, h => by
    unfold chks at h
    cases l with
    | nil => rfl
    | cons _ _ => cases h
  | .cons e es, l, h => by
    unfold chks at h
    cases l with
    | nil => cases h
    | cons x xs =>
      simp only [Bool.and_eq_true] at h
      unfold plains
      rw [h.1.1, plains_of h.2]; rfl
theorem pg_nm {X : Cx} {k : Ck} (hN : X.N = k.N) (nd : X.N.Nodup) (loc : ∀ x, k.loc x = true → L2.Loc X.env.scope x ∧ (X.fn x = true ∨ X.env.scope.names.lookup x = some .local)) {i : Nat} {x : Str} {p : Pos} (h : k.store i x = true) : PG X (.Name x p) (gName i) := by
  unfold Ck.store at h
  rw [Bool.and_eq_true, beq_iff_eq] at h
  have := loc x h.2
  exact pg_name nd (by rw [hN]; exact h.1) this.1 this.2
theorem each_cons {x : Expr} (h : plainAnd x = true) (xs : List Expr) (env : PySem.Env) : assignEach (x :: xs) env = (false, assign x env) :: assignEach xs env := by
  cases x <;> first | rfl | cases h
theorem each_len (env : PySem.Env) : ∀ {l : List Expr}, plains l = true → (assignEach l env).length = l.length ∧ (assignEach l env).findIdx? (·.1) = none
  | [], _ => ⟨rfl, rfl⟩
  | x :: xs, h => by
    unfold plains at h
    rw [Bool.and_eq_true] at h
    obtain ⟨h1, h2⟩ := each_len env h.2
    rw [each_cons h.1]
    refine ⟨by rw [List.length_cons, h1]; rfl, ?_⟩
    rw [List.findIdx?_cons]
    simp [h2]
theorem chkTg_plain {k : Ck} {t : Tg} {ex : Expr} (h : chkTg k t ex = true) : plainAnd ex = true := by
  cases ex <;> first | rfl | (cases t <;> cases h)
theorem chkTgs_plain {k : Ck} : ∀ {ts : List Tg} {es : List Expr}, chkTg.chkTgs k ts es = true → plains es = true ∧ es.length = ts.length
  | [], [], _ => ⟨rfl, rfl⟩
  | [], _ :: _, h => by cases h
  | _ :: _, [], h => by cases h
  | t :: ts, x :: xs, h => by
    have h : (chkTg k t x && chkTg.chkTgs k ts xs) = true := h
    rw [Bool.and_eq_true] at h
    obtain ⟨h1, h2⟩ := chkTgs_plain h.2
    unfold plains
    exact ⟨by rw [chkTg_plain h.1, h1]; rfl, by rw [List.length_cons, List.length_cons, h2]⟩
section
variable {X : Cx} {k : Ck} (hN : X.N = k.N) (nd : X.N.Nodup) (calm : X.calm = true) (loc : ∀ x, k.loc x = true → L2.Loc X.env.scope x ∧ (X.fn x = true ∨ X.env.scope.names.lookup x = some .local))
include hN nd calm loc
mutual
theorem pg_text : ∀ (t : Tg) (ex : Expr), chkTg k t ex = true → PG X ex (gT X.K t)
  | .nm i, ex, h => by
    cases ex with
    | Name x p => exact pg_nm hN nd loc h
    | _ => cases h
  | .tp ts, ex, h => by
    cases ex with
    | Tuple es a b =>
      have h : (chkTg.chkTgs k ts es && decide (ts.length ≤ 8)) = true := h
      rw [Bool.and_eq_true] at h
      obtain ⟨h1, h2⟩ := chkTgs_plain h.1
      obtain ⟨h3, h4⟩ := each_len X.env h1
      show PG X _ (gTup X.K ts.length (gTs X.K ts))
      exact pg_tup calm (pgs_text ts es h.1) (h3.trans h2) h4
    | _ => cases h
theorem pgs_text : ∀ (ts : List Tg) (es : List Expr), chkTg.chkTgs k ts es = true → PGs X es (gTs X.K ts)
  | [], es, h => by
    cases es with
    | nil => exact pgs_nil
    | cons _ _ => cases h
  | t :: ts, es, h => by
    cases es with
    | nil => cases h
    | cons x xs =>
      have h : (chkTg k t x && chkTg.chkTgs k ts xs) = true := h
      rw [Bool.and_eq_true] at h
      exact pgs_cons (pg_text t x h.1) (pgs_text ts xs h.2) (by rw [each_cons (chkTg_plain h.1)]; rfl)
end
end
end
end PL

set_option Elab.async false
set_option linter.all false
set_option maxRecDepth 100000
set_option autoImplicit false
set_option maxHeartbeats 400000
namespace PL
open PySem PySem.Spec PyProof.Rows L2
section
variable {CX : CXT} {EW : XK → Nat → D → Hp → Prop}
def PEs (X : Cx) (C : Ctx) : Es → List Expr → Prop
  | .nil, [] => True
  | .cons e es, x :: xs => plainAnd x = true ∧ PE X x (rdE C e) ∧ PEs X C es xs
  | _, _ => False
def PFs (X : Cx) (C : Ctx) : Es → List Expr → Prop
  | .nil, [] => True
  | .cons e es, x :: xs => PT X x (rdT C e) ∧ PFs X C es xs
  | _, _ => False
theorem pes_strong {X : Cx} {C : Ctx} : ∀ {es : Es} {l : List Expr}, PEs X C es l → strongs es = true → PA X l (rdEs C es)
  | .nil, [], _, _ => pa_imp pa_nil fun _ _ _ => rd_nil
  | .cons e es, x :: xs, h, s => by
    unfold strongs at s
    simp only [Bool.and_eq_true, Bool.not_eq_true'] at s
    obtain ⟨h1, h2, h3⟩ := h
    exact pa_imp (pa_cons h2 (pes_strong h3 s.2) (star_of h1 _ _)) fun _ _ _ => rd_cons s.1
  | .nil, _ :: _, h, _ => h.elim
  | .cons _ _, [], h, _ => h.elim
theorem pes_oper {X : Cx} {C : Ctx} : ∀ {es : Es} {l : List Expr}, PEs X C es l → opers es = true → PA X l (rdAs C es)
  | .nil, [], _, _ => pa_imp pa_nil fun _ _ _ => rda_nil
  | .cons e es, x :: xs, h, s => by
    unfold opers at s
    simp only [Bool.and_eq_true, Bool.or_eq_true, Bool.not_eq_true'] at s
    obtain ⟨h1, h2, h3⟩ := h
    exact pa_imp (pa_cons h2 (pes_oper h3 s.2) (star_of h1 _ _)) fun _ _ _ => rda_cons fun z => by
      rcases s.1 with q | q
      · rw [z] at q; cases q
      · exact q
  | .nil, _ :: _, h, _ => h.elim
  | .cons _ _, [], h, _ => h.elim
theorem pes_P {X : Cx} {C : Ctx} : ∀ {is : List (Nat × Bool)} {es : Es} {l : List Expr}, PEs X C es l → okP is es = true → PA X l (rdP C is es)
  | [], .nil, [], _, _ => pa_imp pa_nil fun _ _ _ => rp_nil
  | (i, o) :: is, .cons e es, x :: xs, h, s => by
    unfold okP at s
    rw [Bool.and_eq_true] at s
    obtain ⟨h1, h2, h3⟩ := h
    exact pa_imp (pa_cons h2 (pes_P h3 s.2) (star_of h1 _ _)) fun _ _ _ => rp_cons s.1
  | _, .nil, _ :: _, h, _ => h.elim
  | _, .cons _ _, [], h, _ => h.elim
  | [], .cons _ _, _ :: _, _, s => by cases s
  | _ :: _, .nil, [], _, s => by cases s
theorem pe_x {X : Cx} {C : Ctx} {e : E} {ex : Expr} (h : ∀ C2, Sib C C2 → PE X ex (rdE C2 e)) : PE X ex (rdX C e) := ⟨fun pins s σ H Q I ⟨C2, sib, q⟩ => (h C2 sib).run pins s σ H Q I q⟩
theorem pt_x {X : Cx} {C : Ctx} {e : E} {ex : Expr} (h : ∀ C2, Sib C C2 → PT X ex (rdT C2 e)) : PT X ex (rdXT C e) := ⟨fun pins s σ H Q I ⟨C2, sib, q⟩ => (h C2 sib).run pins s σ H Q I q⟩
theorem pts_x {X : Cx} {C : Ctx} {ifs : Es} {l : List Expr} (o : oneIf ifs = true) (h : ∀ C2, Sib C C2 → PFs X C2 ifs l) : PTs X l (rIfs C ifs) := by
  cases ifs with
  | nil =>
    cases l with
    | nil => exact pts_nil
    | cons _ _ => exact (h _ (Sib.mute C)).elim
  | cons e es =>
    cases es with
    | cons _ _ => cases o
    | nil =>
      cases l with
      | nil => exact (h _ (Sib.mute C)).elim
      | cons x xs =>
        cases xs with
        | cons _ _ => exact (h _ (Sib.mute C)).2.elim
        | nil => exact pts_one (pt_x fun C2 sib => (h C2 sib).1)
theorem pe_or2 {X : Cx} {ex : Expr} {t u : TE} (h : PE X ex t) (h' : PE X ex u) : PE X ex (fun σ H Q => t σ H Q ∨ u σ H Q) := ⟨fun pins s σ H Q I q => q.elim (h.run pins s σ H Q I) (h'.run pins s σ H Q I)⟩
/-- the iteration of a comprehension, of a for -/
def rI (C : Ctx) : It → TI
  | .keys (.loc i) => iKeysT (tVar i)
  | it => rdI C it
theorem ownOf_snd (k : Ck) (own : List Nat) : (ownOf k own).map (·.2) = own := by
  unfold ownOf
  rw [List.map_map]
  exact List.map_id _
/-- the parts of a comprehension -/
structure LcP (X : Cx) (C : Ctx) (x t i : Expr) (fs : List Expr) (sc : Scope) (elt : E) (tg : Tg) (it : It) (ifs : Es) (own : List Nat) (ow : List (Str × Nat)) : Prop where
  pi : PI X t i (rI C it)
  ok : BlkOk X.N X.env.scope sc ow
  ow : ow.map (·.2) = own
  hg : ∀ (s : Shared) (H : Hp) (D : Addr) (cl : List (Str × Addr)) (fp : List Addr), PG (X.blk s H sc (compEnvC sc cl D X.env) fp) t (gT C.K tg)
  ht : ∀ (s : Shared) (H : Hp) (D : Addr) (cl : List (Str × Addr)) (fp : List Addr), PTs (X.blk s H sc (compEnvC sc cl D X.env) fp) fs (rIfs C ifs)
  he : ∀ (s : Shared) (H : Hp) (D : Addr) (cl : List (Str × Addr)) (fp : List Addr), PE (X.blk s H sc (compEnvC sc cl D X.env) fp) x (rdX C elt)
  hs : ∀ y, foldedSetIterable i X.env y = pure y
  nr : ∀ j, C.rs = some j → j ∉ own
  sub : ∀ j ∈ slT tg, j ∈ own
  be : isB elt = false
  o1 : oneIf ifs = true
theorem LcP.pe {X : Cx} {C : Ctx} {k : Ck} {x t i : Expr} {fs : List Expr} {sc : Scope} {elt : E} {tg : Tg} {it : It} {ifs : Es} {own : List Nat} {ow : List (Str × Nat)} {pos : Pos} (F : Fit CX EW X C k) (l : LcP X C x t i fs sc elt tg it ifs own ow) :
    PE X (.ListComp x [⟨t, i, fs, 0⟩] sc pos) (rdE C (.lc elt tg it ifs own)) := by
  have b : PE X (.ListComp x [⟨t, i, fs, 0⟩] sc pos) (tLcD C (rI C it) elt tg ifs own) := by
    have := pe_lc (pos := pos) F.calm F.nd l.pi l.ok l.hg l.ht l.he l.hs
    rw [l.ow] at this
    exact this
  have gen : rI C it = rdI C it → PE X (.ListComp x [⟨t, i, fs, 0⟩] sc pos) (rdE C (.lc elt tg it ifs own)) := fun e => by
    rw [e] at b
    exact pe_imp b fun _ _ _ => rd_lc0 (Sib.mute C) l.nr l.sub l.be l.o1
  cases it with
  | keys e =>
    cases e with
    | loc j => exact pe_imp (pe_or2 b (pe_lock b)) fun _ _ _ => rd_lcK l.nr l.sub l.be l.o1
    | _ => exact gen rfl
  | _ => exact gen rfl
theorem and_pt {X : Cx} {x y z : Expr} {r : List Expr} {p : Pos} {ta tb : TT} (op : BoolOp) (ha : PT X x ta) (hb : PW X (.BoolOp op (y :: z :: r) p) tb) : PW X (.BoolOp op (x :: y :: z :: r) p) (match op with
  | .And => tAnd ta tb
  | .Or => tOr ta tb) := by
  cases op
  · exact pw_and ha hb
  · exact pw_or ha hb
theorem subN_of {a b : List Nat} (h : subN a b = true) : ∀ j ∈ a, j ∈ b := fun j hj => by
  have := List.all_eq_true.mp h j hj
  exact List.contains_iff_mem.mp this
end
end PL

set_option Elab.async false
set_option linter.all false
set_option maxRecDepth 100000
set_option autoImplicit false
set_option maxHeartbeats 400000
namespace PL
open PySem PySem.Spec PyProof.Rows L2
section
variable {CX : CXT} {EW : XK → Nat → D → Hp → Prop} {X : Cx} {C : Ctx} {k : Ck}
theorem orN {a b : Bool} (h : (!a || b) = true) : a = true → b = true := fun z => by rw [z] at h; simpa using h
theorem bn {a : Bool} (h : (!a) = true) : a = false := by simpa using h
/-! single steps, off the recursion -/
theorem st_bin (F : Fit CX EW X C k) {o : Op2} {a b : E} {x y : Expr} {p : Pos} (ha : PE X x (rdE C a)) (hb : PE X y (rdE C b)) (n : isRw a = true → noR b = true) : PE X (.BinOp x (opP o) y p) (rdE C (.bin o a b)) := by
  refine pe_imp (pe_op (r := rOp C.K o) ?_ ha hb) fun _ _ _ => rd_bin n
  rw [← F.K]; exact o_ok o
theorem st_cmp (F : Fit CX EW X C k) {o : Cm} {a b : E} {x y : Expr} {p : Pos} (ha : PE X x (rdE C a)) (hb : PE X y (rdE C b)) (n : isRw a = true → noR b = true) (mk : behindInMarks (cmP o) y = false) : ∀ m, Snd m X C (.cmp o a b) (.Compare x [cmP o] [y] p) := by
  have hc : OpR X (compareOp (cmP o)) (rC C.K o) := by rw [← F.K]; exact c_ok F.un o
  intro m
  cases m with
  | false => exact pe_imp (pe_cmpR hc ha hb mk) fun _ _ _ => rd_cmp n
  | true => exact ⟨pt_imp (pt_cmpR hc ha hb mk) fun σ H Q h => rd_cmp n (rt_E h), fun op vs q z => by cases z⟩
theorem st_chain (F : Fit CX EW X C k) {o o2 : Cm} {a b c : E} {x y z : Expr} {p : Pos} (ha : PE X x (rdE C a)) (hb : PE X y (rdE C b)) (hc : PE X z (rdE C c)) (n : noR b = true ∧ noR c = true) (ra : isRw a = false) (rb : isRw b = false) (mk : lastMarks [cmP o, cmP o2] [y, z] = false) :
    ∀ m, Snd m X C (.chain o o2 a b c) (.Compare x [cmP o, cmP o2] [y, z] p) := by
  have h1 : OpR X (compareOp (cmP o)) (rC C.K o) := by rw [← F.K]; exact c_ok F.un o
  have h2 : OpR X (compareOp (cmP o2)) (rC C.K o2) := by rw [← F.K]; exact c_ok F.un o2
  intro m
  cases m with
  | false => exact pe_imp (pe_chain h1 h2 ha hb hc mk) fun _ _ _ => rd_chain n ra rb
  | true => exact ⟨pt_imp (pt_chain h1 h2 ha hb hc mk) fun σ H Q h => rd_chain n ra rb (rt_E h), fun op vs q z => by cases z⟩
theorem st_ix (F : Fit CX EW X C k) {a b : E} {x y : Expr} {p : Pos} (ha : PE X x (rdE C a)) (hb : PE X y (rdE C b)) (n : isRw a = true → noR b = true) (ns : isSlice y = false) : PE X (.Subscript x y p) (rdE C (.ix a b)) := by
  have hu : X.A.units + 1 < cLine := by have := F.un; omega
  refine pe_imp (pe_ix (r := rIxA C.K) ?_ ha hb (plain_ix ns)) fun _ _ _ => rd_ix n
  rw [← F.K]; exact ix_all hu
theorem st_sl (F : Fit CX EW X C k) {a l u : E} {hl hh : Bool} {x : Expr} {lo hi : Option Expr} {p p2 : Pos} (ha : PE X x (rdE C a)) (n : isRw a = false) (h1 : PO X lo (rdO C hl l)) (h2 : PO X hi (rdO C hh u)) : PE X (.Subscript x (.Slice lo hi none p2) p) (rdE C (.sl a hl l hh u)) := by
  refine pe_imp (pe_slice (r := rSl C.K) ?_ ha h1 h2) fun _ _ _ => rd_sl n
  rw [← F.K]; exact sl_all
theorem st_rev (F : Fit CX EW X C k) {a : E} {x : Expr} {c : Nat} {p1 p2 p3 p : Pos} (ha : PE X x (rdE C a)) : PE X (.Subscript x (.Slice none none (some (.UnaryOp .USub (.Constant (.int 1) c p1) p2)) p3) p) (rdE C (.rev a)) := by
  refine pe_imp (t := tRevT C.K (rdE C a)) ?_ fun _ _ _ => rd_rev
  rw [← F.K]; exact pe_revT ha
theorem st_isi (F : Fit CX EW X C k) {ts : List Ty} {a : E} {g : Str} {x ty : Expr} {p q : Pos} (eg : g = "isinstance") (hg : k.gl g = true) (ha : PE X x (rdE C a)) (ct : chkTy k ts ty = true) (l : ts.length ≤ 8) (px : plainAnd x = true) (nt : noNt ts = true) :
    PE X (.Call (.Name g p) [x, ty] [] q) (rdE C (.bi (.isi ts) (.cons a .nil))) := by
  subst eg
  have hm : X.mg "isinstance" = none := F.bl _ (by decide)
  have one : ∀ (t : Ty) (z : Str) (r : Pos), ts = [t] → ty = .Name z r → (z == tyName t && k.gl z) = true → PE X (.Call (.Name "isinstance" p) [x, ty] [] q) (rdE C (.bi (.isi ts) (.cons a .nil))) := fun t z r e1 e2 h => by
    subst e1 e2
    simp only [Bool.and_eq_true, beq_iff_eq] at h
    have ht := ty_text F (p := r) nt h.1 h.2
    refine pe_imp (pe_callB (r := rIsiY C.K) (id := "isinstance") ?_ (F.gl _ hg) hm rfl (pa_cons ha (pa_cons ht pa_nil (star_of rfl _ _)) (star_of px _ _)) (by decide) (by decide) (star_of px _ _) (plain_any _ _ rfl)) fun _ _ _ => rd_isi1
    rw [← F.K]; exact call_isiY
  have many : ∀ (es : List Expr) (c : Nat) (r : Pos), ty = .Tuple es c r → chkTy.chkTys k ts es = true → PE X (.Call (.Name "isinstance" p) [x, ty] [] q) (rdE C (.bi (.isi ts) (.cons a .nil))) := fun es c r e h => by
    subst e
    obtain ⟨i1, i2⟩ := tys_text F nt h
    refine pe_imp (pe_callB (r := rIsiTY C.K) (id := "isinstance") ?_ (F.gl _ hg) hm rfl (pa_cons ha (pa_cons (pe_tup i1) pa_nil (star_of rfl _ _)) (star_of px _ _)) (by decide) (by decide) (star_of px _ _) (plain_any _ _ rfl)) fun _ _ _ => rd_isiT l
    rw [← F.K]; exact call_isiTY
  cases ty with
  | Name z r =>
    match ts, ct with
    | [t], ct => exact one t z r rfl rfl ct
    | [], ct => cases ct
    | _ :: _ :: _, ct => cases ct
  | Tuple es c r =>
    refine many es c r rfl ?_
    match ts, ct with
    | [], ct => exact ct
    | [_], ct => exact ct
    | _ :: _ :: _, ct => exact ct
  | _ =>
    match ts, ct with
    | [], ct => cases ct
    | [_], ct => cases ct
    | _ :: _ :: _, ct => cases ct
theorem st_rgl (F : Fit CX EW X C k) {a : E} {g h : Str} {x : Expr} {p1 p2 p3 p4 : Pos} (eg : g = "list") (hg : k.gl g = true) (eh : h = "range") (hh : k.gl h = true) (ha : PE X x (rdE C a)) (px : plainAnd x = true) :
    PE X (.Call (.Name g p1) [.Call (.Name h p2) [x] [] p3] [] p4) (rdE C (.bi .rgl1 (.cons a .nil))) := by
  subst eg eh
  exact pe_imp (pe_listRg F.calm (F.gl _ hg) (F.bl _ (by decide)) (prg_1 (F.gl _ hh) (F.bl _ (by decide)) ha (star_of px _ _)) (star_of rfl _ _)) fun _ _ _ => rd_rgl1
theorem st_rgt (F : Fit CX EW X C k) {a : E} {g h : Str} {x : Expr} {p1 p2 p3 p4 : Pos} (eg : g = "tuple") (hg : k.gl g = true) (eh : h = "range") (hh : k.gl h = true) (ha : PE X x (rdE C a)) (px : plainAnd x = true) :
    PE X (.Call (.Name g p1) [.Call (.Name h p2) [x] [] p3] [] p4) (rdE C (.bi .rgt1 (.cons a .nil))) := by
  subst eg eh
  exact pe_imp (pe_tupRg F.calm (F.gl _ hg) (F.bl _ (by decide)) (prg_1 (F.gl _ hh) (F.bl _ (by decide)) ha (star_of px _ _)) (star_of rfl _ _)) fun _ _ _ => rd_rgt1
theorem st_sset (F : Fit CX EW X C k) {a : E} {g h : Str} {x : Expr} {p1 p2 p3 p4 : Pos} (eg : g = "sorted") (hg : k.gl g = true) (eh : h = "set") (hh : k.gl h = true) (ha : PE X x (rdE C a)) (px : plainAnd x = true) :
    PE X (.Call (.Name g p1) [.Call (.Name h p2) [x] [] p3] [] p4) (rdE C (.bi .sset (.cons a .nil))) := by
  subst eg eh
  have hu : X.A.units + 64 < cLine := by have := F.un; omega
  have hs : PA X [x] (rdAs C (.cons a .nil)) := pes_oper ⟨px, ha, trivial⟩ (by unfold opers opers noRs; simp)
  have inner := pe_callTy (T := "set") (p := p2) (pos := p3) (cr_setAny F.calm hu) (F.gl _ hh) (F.bl _ (by decide)) rfl hs (by decide) (by decide) (star_of px _ _) (plain_any _ _ rfl)
  refine pe_imp (pe_callB (id := "sorted") (cr_srtAny F.calm) (F.gl _ hg) (F.bl _ (by decide)) rfl (pa_cons inner pa_nil (star_of rfl _ _)) (by decide) (by decide) (star_of rfl _ _) (plain_any _ _ rfl)) fun σ H Q h => ?_
  have := rd_bi (bi_sset X.prog X.w) h
  rw [← F.K] at this
  exact this
theorem pe_keys {e : Expr} {te : TE} {ap cp : Pos} (ha : PE X e te) (nc : noCall e = true) (hl : (ap.endLine == cp.line) = true) : PE X (.Call (.Attribute e "keys" ap) [] [] cp) (tMG0 tyDic rKeys te) :=
  pe_mG0 (X := X) (ty := tyDic) (r := rKeys) ty_dic F.plainAttrs_dict F.slot_dict_keys F.type_dict_keys mt_keys ha (base_of nc _ _) hl
theorem st_skeys (F : Fit CX EW X C k) {a : E} {g nm : Str} {x : Expr} {p1 p4 ap cp : Pos} (eg : g = "sorted") (hg : k.gl g = true) (en : nm = "keys") (ha : PE X x (rdE C a)) (nc : noCall x = true) (hl : (ap.endLine == cp.line) = true) :
    PE X (.Call (.Name g p1) [.Call (.Attribute x nm ap) [] [] cp] [] p4) (rdE C (.bi .skeys (.cons a .nil))) := by
  subst eg en
  have hu : X.A.units + 10 < cLine := by have := F.un; omega
  have hk := pe_keys ha nc hl
  refine pe_imp (pe_callB (r := rSortK C.K) (id := "sorted") ?_ (F.gl _ hg) (F.bl _ (by decide)) rfl (pa_cons hk pa_nil (star_of rfl _ _)) (by decide) (by decide) (star_of rfl _ _) (plain_any _ _ rfl)) fun _ _ _ => rd_skeys
  rw [← F.K]; exact cr_sortK F.calm hu
theorem pe_index {e y : Expr} {te ta : TE} {ap cp : Pos} (hu : X.A.units + 65 < cLine) (he : PE X e te) (hy : PE X y ta) (nc : noCall e = true) (py : plainAnd y = true) (hl : (ap.endLine == cp.line) = true) : PE X (.Call (.Attribute e "index" ap) [y] [] cp) (tMG tyLst (rIndexD X.K) te (tCons ta tNil)) := by
  refine pe_mG (X := X) (ty := tyLst) (r := rIndexD X.K) ty_lst F.plainAttrs_list F.slot_list_index F.type_list_index (mt_indexD hu) he (pa_cons hy pa_nil (star_of py _ _)) (base_of nc _ _) ?_ hl (star_of py _ _) (plain_any _ _ rfl)
  rw [star_of py]; rfl
theorem st_index (F : Fit CX EW X C k) {a b : E} {nm : Str} {x y : Expr} {ap cp : Pos} (en : nm = "index") (ha : PE X x (rdE C a)) (hb : PE X y (rdE C b)) (nb : nox b = true) (n : isRw a = true → noR b = true) (nc : noCall x = true) (py : plainAnd y = true) (hl : (ap.endLine == cp.line) = true) :
    PE X (.Call (.Attribute x nm ap) [y] [] cp) (rdE C (.bi .index (.cons a (.cons b .nil)))) := by
  subst en
  have hu : X.A.units + 65 < cLine := by have := F.un; omega
  refine pe_imp (t := tMG tyLst (rIndexD C.K) (rdE C a) (tCons (rdE C b) tNil)) ?_ fun _ _ _ => rd_index nb n
  rw [← F.K]; exact pe_index hu ha hb nc py hl
theorem isIL_eq : ∀ {d : E}, isIL d = true → ∃ i, d = .cst (.int i)
  | .cst (.int i), _ => ⟨i, rfl⟩
theorem st_get2 (F : Fit CX EW X C k) {a b d : E} {nm : Str} {x y w : Expr} {ap cp : Pos} (en : nm = "get") (ha : PE X x (rdE C a)) (hb : PE X y (rdE C b)) (hd : PE X w (rdE C d)) (hi : isIL d = true) (nb : nox b = true) (n : isRw a = true → noR b = true) (nc : noCall x = true) (py : plainAnd y = true) (pw : plainAnd w = true) (hl : (ap.endLine == cp.line) = true) :
    PE X (.Call (.Attribute x nm ap) [y, w] [] cp) (rdE C (.bi .get2 (.cons a (.cons b (.cons d .nil))))) := by
  subst en
  obtain ⟨i, rfl⟩ := isIL_eq hi
  have hu : X.A.units + 1 < cLine := by have := F.un; omega
  have m : M2 X x "get" ap y w cp := ⟨base_of nc _ _, by rw [star_of py, star_of pw]; rfl, hl, by rw [star_of py, star_of pw]; rfl⟩
  exact pe_imp (pe_dget2 hu ha hb hd m) fun _ _ _ => rd_get2 nb n
theorem pe_vals {e : Expr} {te : TE} {ap cp : Pos} (ha : PE X e te) (nc : noCall e = true) (hl : (ap.endLine == cp.line) = true) : PE X (.Call (.Attribute e "values" ap) [] [] cp) (tMG0 tyDic rVals te) :=
  pe_mG0 (X := X) (ty := tyDic) (r := rVals) ty_dic F.plainAttrs_dict F.slot_dict_values F.type_dict_values mt_vals ha (base_of nc _ _) hl
theorem st_sumvals (F : Fit CX EW X C k) {a : E} {g nm : Str} {x : Expr} {p1 p4 ap cp : Pos} (eg : g = "sum") (hg : k.gl g = true) (en : nm = "values") (ha : PE X x (rdE C a)) (nc : noCall x = true) (hl : (ap.endLine == cp.line) = true) :
    PE X (.Call (.Name g p1) [.Call (.Attribute x nm ap) [] [] cp] [] p4) (rdE C (.bi .sumvals (.cons a .nil))) := by
  subst eg en
  have hk := pe_vals ha nc hl
  exact pe_imp (pe_callB (r := rSumV) (id := "sum") (cr_sumV F.calm) (F.gl _ hg) (F.bl _ (by decide)) rfl (pa_cons hk pa_nil (star_of rfl _ _)) (by decide) (by decide) (star_of rfl _ _) (plain_any _ _ rfl)) fun _ _ _ => rd_sumvals
theorem st_join (F : Fit CX EW X C k) {a b : E} {nm : Str} {x y : Expr} {ap cp : Pos} (en : nm = "join") (ha : PE X x (rdE C a)) (hb : PE X y (rdE C b)) (nb : nox b = true) (n : isRw a = true → noR b = true) (nc : noCall x = true) (py : plainAnd y = true) (hl : (ap.endLine == cp.line) = true) :
    PE X (.Call (.Attribute x nm ap) [y] [] cp) (rdE C (.bi .join (.cons a (.cons b .nil)))) := by
  subst en
  refine pe_imp (t := tM1 (rJoin1 C.K) (rdE C a) (rdE C b)) ?_ fun _ _ _ => rd_join nb n
  rw [← F.K]; exact pe_join ha hb (by rw [star_of py]; rfl) (base_of nc _ _) hl
theorem chks_len : ∀ {es : Es} {l : List Expr}, chks k es l = true → l.length = es.len
  | .nil, l, h => by
    unfold chks at h
    cases l with
    | nil => rfl
    | cons _ _ => cases h
  | .cons e es, l, h => by
    unfold chks at h
    cases l with
    | nil => cases h
    | cons x xs =>
      simp only [Bool.and_eq_true] at h
      rw [List.length_cons, chks_len h.2]; rfl
theorem st_bi (F : Fit CX EW X C k) {f : Bi} {es : Es} {g h : Str} {n : Nat} {l : List Expr} {p q : Pos} (hb : biN f = some (h, n)) (eg : g = h) (hg : k.gl g = true) (el : es.len = n) (ck : chks k es l = true) (o : opers es = true) (hs : PEs X C es l) :
    PE X (.Call (.Name g p) l [] q) (rdE C (.bi f es)) := by
  subst eg
  obtain ⟨R, r1, r2, r3, r4, r5, r6⟩ := bi_text F hb
  have hl := chks_len ck
  have hp := plains_of ck
  cases l with
  | nil => rw [List.length_nil] at hl; omega
  | cons x xs =>
    unfold plains at hp
    rw [Bool.and_eq_true] at hp
    exact pe_imp (pe_blt r2 (F.gl _ hg) r5 (pes_oper hs o) r3 r4 hp.1 hp.2) fun σ H Q => rd_bi (r1 σ)
theorem st_call (F : Fit CX EW X C k) {f : Nat} {es : Es} {x : Str} {np : Nat} {l : List Expr} {p q : Pos} (hf : k.fs.lookup (f, x) = some (np, false)) (hg : k.gl x = true) (el : es.len = np) (ck : chks k es l = true) (hs : PA X l (rdEs C es)) (hd : (x == ("__debug__" : Str)) = false) :
    PE X (.Call (.Name x p) l [] q) (rdE C (.call f es)) := by
  obtain ⟨j, fa, fd, ps, f1, f2, f3, f4, f5⟩ := F.call f x np false hf
  obtain ⟨E', l1, l2⟩ := F.lets
  have hp := plains_of ck
  cases l with
  | nil =>
      refine pe_imp (pe_call0 f1 f2 (F.gl _ hg) f3 f4 f5 .nil l2 hd) fun σ H Q h => ?_
      have := rd_call (EW := EW) (E' := E') el l1 h
      cases es with
      | nil => exact rd_nil this
      | cons e es => unfold chks at ck; cases ck
  | cons z zs =>
    unfold plains at hp
    rw [Bool.and_eq_true] at hp
    exact pe_imp (pe_call f1 f2 (F.gl _ hg) f3 f4 f5 .nil l2 hs hd (star_of hp.1 _ _) (plain_any _ _ hp.2)) fun σ H Q => rd_call el l1
theorem st_callr (F : Fit CX EW X C k) {f i : Nat} {es : Es} {x z : Str} {np : Nat} {l : List Expr} {p q pz : Pos} (hf : k.fs.lookup (f, x) = some (np, true)) (hr : k.rs = some i) (hg : k.gl x = true) (el : es.len + 1 = np) (ck : chks k es l = true) (hs : PA X l (rdEs C es)) (hz : k.slot i z = true) (hd : (x == ("__debug__" : Str)) = false) :
    PE X (.Call (.Name x p) (.Name z pz :: l) [] q) (rdE C (.callr f es)) := by
  obtain ⟨j, fa, fd, ps, f1, f2, f3, f4, f5⟩ := F.call f x np true hf
  obtain ⟨E', l1, l2⟩ := F.lets
  have hp := plains_of ck
  exact pe_imp (pe_call f1 f2 (F.gl _ hg) f3 f4 f5 .nil l2 (pa_cons (F.slot hz) hs (star_of rfl _ _)) hd (star_of rfl _ _) (plain_any _ _ hp)) fun σ H Q => rd_callr (F.rs.trans hr) el l1
end
end PL

set_option Elab.async false
set_option linter.all false
set_option maxRecDepth 100000
set_option autoImplicit false
set_option maxHeartbeats 400000
namespace PL
open PySem PySem.Spec PyProof.Rows L2
section
variable {CX : CXT} {EW : XK → Nat → D → Hp → Prop}
theorem ri_seq2 {C : Ctx} {σ : VS} {H : Hp} {R : L2.It → Hp → Prop} {e : E} (b : isB e = false) (h : rdI C (.seq e) σ H R) : iList C.K (rdE C e) σ H R ∨ iTup C.K (rdE C e) σ H R := by
  obtain ⟨Z, env, r, s, h⟩ := h
  unfold evIt at h
  cases ee : evE C.cl e env r with
  | no => rw [ee] at h; exact h.elim
  | ex c d =>
    rw [ee] at h
    exact .inl ⟨Z, env, r, s, by rw [ee]; exact h⟩
  | ok p =>
    obtain ⟨x, r1⟩ := p
    rw [ee] at h
    cases x with
    | lst ds =>
      refine .inl ⟨Z, env, r, s, ?_⟩
      rw [ee]
      intro v Z1 H1 s1 x1 res
      obtain ⟨Z2, s2, x2, rep, _⟩ := res.keep b s s1 x1
      cases rep with
      | lst k ra => exact ⟨_, rfl, ⟨_, SqL.of (s2.zh.lst k)⟩, h _ Z2 H1 s2 x2 (wk_lst s2 k ra)⟩
    | tup ds =>
      refine .inr ⟨Z, env, r, s, ?_⟩
      rw [ee]
      intro v Z1 H1 s1 x1 res
      obtain ⟨Z2, s2, x2, rep, _⟩ := res.keep b s s1 x1
      cases rep with
      | tup k ra => exact ⟨_, rfl, ⟨_, SqT.of (s2.zh.tup k)⟩, h _ Z2 H1 s2 x2 (wk_tup s2 k ra)⟩
    | _ => exact h.elim
theorem it_seq {X : Cx} {C : Ctx} {k : Ck} (F : Fit CX EW X C k) {e : E} {tg ex : Expr} (h : PE X ex (rdE C e)) (b : isB e = false) : PI X tg ex (rdI C (.seq e)) := by
  refine pi_imp (pi_or (t := iList C.K (rdE C e)) (u := iTup C.K (rdE C e)) ?_ ?_) fun _ _ _ => ri_seq2 b
  · rw [← F.K]; exact pi_list h
  · rw [← F.K]; exact pi_tup h
theorem it_rng1 {X : Cx} {C : Ctx} {k : Ck} (F : Fit CX EW X C k) {e : E} {tg x : Expr} {g : Str} {p q : Pos} (eg : g = "range") (hg : k.gl g = true) (h : PE X x (rdE C e)) (px : plainAnd x = true) : PI X tg (.Call (.Name g p) [x] [] q) (rdI C (.rng1 e)) := by
  subst eg
  exact pi_imp (pi_range1 (F.gl _ hg) (F.bl _ (by decide)) (pa_cons h pa_nil (star_of px _ _)) (by rw [star_of px]; rfl)) fun _ _ _ => ri_rng1
theorem it_rng2 {X : Cx} {C : Ctx} {k : Ck} (F : Fit CX EW X C k) {a b : E} {tg x y : Expr} {g : Str} {p q : Pos} (eg : g = "range") (hg : k.gl g = true) (ha : PE X x (rdE C a)) (hb : PE X y (rdE C b)) (px : plainAnd x = true) (py : plainAnd y = true) (n : isRw a = false) : PI X tg (.Call (.Name g p) [x, y] [] q) (rdI C (.rng2 a b)) := by
  subst eg
  exact pi_imp (pi_range2 (F.gl _ hg) (F.bl _ (by decide)) (pa_cons ha (pa_cons hb pa_nil (star_of py _ _)) (star_of px _ _)) (by rw [star_of px, star_of py]; rfl) (by rw [star_of py]; rfl)) fun _ _ _ h => ri_rng2 h n
theorem it_rng3 {X : Cx} {C : Ctx} {k : Ck} (F : Fit CX EW X C k) {a b c : E} {tg x y z : Expr} {g : Str} {p q : Pos} (eg : g = "range") (hg : k.gl g = true) (ha : PE X x (rdE C a)) (hb : PE X y (rdE C b)) (hc : PE X z (rdE C c)) (px : plainAnd x = true) (py : plainAnd y = true) (pz : plainAnd z = true) (n : isRw a = false) (n2 : isRw b = false) :
    PI X tg (.Call (.Name g p) [x, y, z] [] q) (rdI C (.rng3 a b c)) := by
  subst eg
  exact pi_imp (pi_range3 (F.gl _ hg) (F.bl _ (by decide)) (pa_cons ha (pa_cons hb (pa_cons hc pa_nil (star_of pz _ _)) (star_of py _ _)) (star_of px _ _)) (star_of px _ _) (plain_any _ _ (by unfold plains plains plains; rw [py, pz]; rfl))) fun _ _ _ h => ri_rng3 h n n2
theorem it_enum {X : Cx} {C : Ctx} {k : Ck} (F : Fit CX EW X C k) {e : E} {x : Expr} {ts : List Expr} {c : Nat} {g : Str} {p q r : Pos} (eg : g = "enumerate") (hg : k.gl g = true) (h : PE X x (rdE C e)) (px : plainAnd x = true) (b : isB e = false) : PI X (.Tuple ts c r) (.Call (.Name g p) [x] [] q) (rdI C (.enum e)) := by
  subst eg
  have ha := pa_cons h pa_nil (star_of px _ _)
  refine pi_imp (pi_or (t := iEnum C.K (tCons (rdE C e) tNil)) (u := iEnumT C.K (tCons (rdE C e) tNil)) ?_ ?_) fun _ _ _ => ri_enum b
  · rw [← F.K]; exact pi_enum (F.gl _ hg) (F.bl _ (by decide)) ha (by rw [star_of px]; rfl)
  · rw [← F.K]; exact pi_enumT (F.gl _ hg) (F.bl _ (by decide)) ha (by rw [star_of px]; rfl)
theorem it_zip {X : Cx} {C : Ctx} {k : Ck} (F : Fit CX EW X C k) {a b : E} {x y : Expr} {ts : List Expr} {c : Nat} {g : Str} {p q r : Pos} (eg : g = "zip") (hg : k.gl g = true) (ha : PE X x (rdE C a)) (hb : PE X y (rdE C b)) (px : plainAnd x = true) (py : plainAnd y = true) (na : isB a = false) (nb : isB b = false) :
    PI X (.Tuple ts c r) (.Call (.Name g p) [x, y] [] q) (rdI C (.zip a b)) := by
  subst eg
  refine pi_imp (pi_or (t := RZ.iZipA C.K (tCons (rdE C a) (tCons (rdE C b) tNil))) (u := iZipM C.K (tCons (rdE C a) (tCons (rdE C b) tNil))) ?_ ?_) fun _ _ _ => ri_zip na nb
  · rw [← F.K]
    exact RZ.pi_zipA (F.gl _ hg) (F.bl _ (by decide)) (pa_cons ha (pa_cons hb pa_nil (star_of py _ _)) (star_of px _ _)) (star_of px _ _) (plain_any _ _ (by unfold plains plains; rw [py]; rfl))
  · rw [← F.K]
    exact pi_zipM (F.gl _ hg) (F.bl _ (by decide)) (pa_cons ha (pa_cons hb pa_nil (star_of py _ _)) (star_of px _ _)) (star_of px _ _) (plain_any _ _ (by unfold plains plains; rw [py]; rfl))
theorem part_some {X : Cx} {C : Ctx} {e : E} {x : Expr} (h : PE X x (rdE C e)) : PO X (some x) (rdO C true e) := po_imp (po_some h) fun _ _ _ => rdO_some
theorem part_none {X : Cx} {C : Ctx} {e : E} : PO X none (rdO C false e) := po_imp po_none fun _ _ _ => rdO_none
theorem snd_and2 {X : Cx} {C : Ctx} {a b : E} {x y : Expr} {p : Pos} : ∀ {m : Bool}, Snd m X C a x → Snd m X C b y → Snd m X C (.and a b) (.BoolOp .And [x, y] p)
  | false, i1, i2 => pe_imp (pe_and i1 (pe_one i2)) fun _ _ _ => rd_and
  | true, i1, i2 =>
    have w : PW X (.BoolOp .And [x, y] p) (rdT C (.and a b)) := pw_imp (pw_and i1.1 (pw_and1 i2.1)) fun _ _ _ => rt_and
    ⟨w.pt, fun _ _ _ _ => w⟩
theorem snd_and3 {X : Cx} {C : Ctx} {a b : E} {x y z : Expr} {r : List Expr} {p : Pos} : ∀ {m : Bool}, Snd m X C a x → Snd m X C b (.BoolOp .And (y :: z :: r) p) → Snd m X C (.and a b) (.BoolOp .And (x :: y :: z :: r) p)
  | false, i1, i2 => pe_imp (pe_and i1 i2) fun _ _ _ => rd_and
  | true, i1, i2 =>
    have w : PW X (.BoolOp .And (x :: y :: z :: r) p) (rdT C (.and a b)) := pw_imp (pw_and i1.1 (i2.2 _ _ _ rfl)) fun _ _ _ => rt_and
    ⟨w.pt, fun _ _ _ _ => w⟩
theorem snd_or2 {X : Cx} {C : Ctx} {a b : E} {x y : Expr} {p : Pos} : ∀ {m : Bool}, Snd m X C a x → Snd m X C b y → Snd m X C (.or a b) (.BoolOp .Or [x, y] p)
  | false, i1, i2 => pe_imp (pe_or i1 (pe_one i2)) fun _ _ _ => rd_or
  | true, i1, i2 =>
    have w : PW X (.BoolOp .Or [x, y] p) (rdT C (.or a b)) := pw_imp (pw_or i1.1 (pw_or1 i2.1)) fun _ _ _ => rt_or
    ⟨w.pt, fun _ _ _ _ => w⟩
theorem snd_or3 {X : Cx} {C : Ctx} {a b : E} {x y z : Expr} {r : List Expr} {p : Pos} : ∀ {m : Bool}, Snd m X C a x → Snd m X C b (.BoolOp .Or (y :: z :: r) p) → Snd m X C (.or a b) (.BoolOp .Or (x :: y :: z :: r) p)
  | false, i1, i2 => pe_imp (pe_or i1 i2) fun _ _ _ => rd_or
  | true, i1, i2 =>
    have w : PW X (.BoolOp .Or (x :: y :: z :: r) p) (rdT C (.or a b)) := pw_imp (pw_or i1.1 (i2.2 _ _ _ rfl)) fun _ _ _ => rt_or
    ⟨w.pt, fun _ _ _ _ => w⟩
theorem lc_text {X : Cx} {C : Ctx} {k : Ck} (F : Fit CX EW X C k) {x t i : Expr} {fs : List Expr} {sc : Scope} {elt : E} {tg : Tg} {it : It} {ifs : Es} {own : List Nat} (hb : blkC k.N k.sc sc (ownOf k own) = true) (hi : PI X t i (rI C it)) (ns : isSet i = false) (ht : chkTg (k.inner sc) tg t = true)
    (hf : ∀ X2 C2, Fit CX EW X2 C2 (k.inner sc) → PFs X2 C2 ifs fs) (he : ∀ X2 C2, Fit CX EW X2 C2 (k.inner sc) → PE X2 x (rdE C2 elt)) (sub : subN (slT tg) own = true) (hr : (match k.rs with
        | some j => !own.contains j
        | none => true) = true) (be : isB elt = false) (o1 : oneIf ifs = true) : LcP X C x t i fs sc elt tg it ifs own (ownOf k own) where
  pi := hi
  ok := F.blk _ _ hb
  ow := ownOf_snd k own
  hg := fun s H D cl fp => by
    have F2 := F.inner (Sib.mute C) s H sc D cl fp
    have e : C.K = (X.blk s H sc (compEnvC sc cl D X.env) fp).K := F.K.symm
    rw [e]
    exact pg_text F2.N F2.nd F2.calm F2.loc tg t ht
  ht := fun s H D cl fp => pts_x o1 fun C2 sib => hf _ C2 (F.inner sib s H sc D cl fp)
  he := fun s H D cl fp => pe_x fun C2 sib => he _ C2 (F.inner sib s H sc D cl fp)
  hs := noSet ns _
  nr := fun j hj => by
    rw [F.rs.symm.trans hj] at hr
    intro q
    have := List.contains_iff_mem.mpr q
    simp [this] at hr
    exact absurd q hr
  sub := subN_of sub
  be := be
  o1 := o1
mutual
theorem sE : ∀ (e : E) (m : Bool) (ex : Expr) (X : Cx) (C : Ctx) (k : Ck), Fit CX EW X C k → chk m k e ex = true → Snd m X C e ex
  | .loc i, m, ex, X, C, k, F, h => by
    unfold chk at h
    split at h
    · exact snd_plain (pe_imp (F.slot h) fun _ _ _ => rd_loc) rfl m
    · cases h
  | .bor i, m, ex, X, C, k, F, h => by
    unfold chk at h
    split at h
    · exact snd_plain (pe_imp (F.slot h) fun _ _ _ => rd_bor) rfl m
    · cases h
  | .rw, m, ex, X, C, k, F, h => by
    unfold chk at h
    split at h
    · rename_i i hr
      exact snd_plain (pe_imp (F.slot h) fun _ _ _ => rd_rw (F.rs.trans hr)) rfl m
    · cases h
  | .cst d, m, ex, X, C, k, F, h => by
    unfold chk at h
    rw [Bool.and_eq_true] at h
    have b := snd_cst F h.2
    cases m with
    | false => exact b
    | true => exact snd_plain b (by simpa using h.1) true
  | .tup es, m, ex, X, C, k, F, h => by
    unfold chk at h
    split at h
    · simp only [Bool.and_eq_true, decide_eq_true_eq] at h
      have hm := bn h.1.1.1
      subst hm
      exact pe_imp (pe_tup (pes_strong (sEs es _ X C k F h.1.1.2) h.1.2)) fun _ _ _ => rd_tup (Nat.le_trans h.2 (by decide))
    · cases h
  | .lst es, m, ex, X, C, k, F, h => by
    unfold chk at h
    split at h
    · simp only [Bool.and_eq_true, decide_eq_true_eq] at h
      have hm := bn h.1.1.1
      subst hm
      exact pe_imp (pe_lst (pes_strong (sEs es _ X C k F h.1.1.2) h.1.2)) fun _ _ _ => rd_lst (Nat.le_trans h.2 (by decide))
    · cases h
  | .emp, m, ex, X, C, k, F, h => by
    unfold chk at h
    split at h
    · have hm := bn h
      subst hm
      exact pe_imp pe_dnewT fun _ _ _ => rd_emp
    · cases h
  | .bin o a b, m, ex, X, C, k, F, h => by
    unfold chk at h
    split at h
    · simp only [Bool.and_eq_true, decide_eq_true_eq] at h
      have hm := bn h.1.1.1.1
      subst hm
      rw [h.1.1.1.2]
      exact st_bin F (sE a false _ X C k F h.1.1.2) (sE b false _ X C k F h.1.2) (orN h.2)
    · cases h
  | .neg a, m, ex, X, C, k, F, h => by
    unfold chk at h
    split at h
    · rw [Bool.and_eq_true] at h
      have hm := bn h.1
      subst hm
      exact pe_imp (pe_un un_neg (sE a false _ X C k F h.2)) fun _ _ _ => rd_neg
    · cases h
  | .not a, m, ex, X, C, k, F, h => by
    unfold chk at h
    split at h
    · have ih := sE a m _ X C k F h
      cases m with
      | false => exact pe_imp (pe_not ih) fun _ _ _ => rd_not
      | true => exact ⟨pt_imp (pt_not ih.1) fun _ _ _ => rt_not, fun _ _ _ z => by cases z⟩
    · cases h
  | .and a b, m, ex, X, C, k, F, h => by
    unfold chk at h
    split at h
    · rw [Bool.and_eq_true] at h
      exact snd_and2 (sE a m _ X C k F h.1) (sE b m _ X C k F h.2)
    · rw [Bool.and_eq_true] at h
      exact snd_and3 (sE a m _ X C k F h.1) (sE b m _ X C k F h.2)
    · cases h
  | .or a b, m, ex, X, C, k, F, h => by
    unfold chk at h
    split at h
    · rw [Bool.and_eq_true] at h
      exact snd_or2 (sE a m _ X C k F h.1) (sE b m _ X C k F h.2)
    · rw [Bool.and_eq_true] at h
      exact snd_or3 (sE a m _ X C k F h.1) (sE b m _ X C k F h.2)
    · cases h
  | .cmp o a b, m, ex, X, C, k, F, h => by
    unfold chk at h
    split at h
    · simp only [Bool.and_eq_true, decide_eq_true_eq] at h
      obtain ⟨⟨⟨⟨h1, h2⟩, h3⟩, h4⟩, h5⟩ := h
      subst h1
      exact st_cmp F (sE a false _ X C k F h2) (sE b false _ X C k F h3) (orN h4) (bn h5) m
    · cases h
  | .chain o o2 a b c, m, ex, X, C, k, F, h => by
    unfold chk at h
    split at h
    · simp only [Bool.and_eq_true, decide_eq_true_eq] at h
      obtain ⟨⟨⟨⟨⟨⟨⟨⟨⟨h1, h2⟩, h3⟩, h4⟩, h5⟩, h6⟩, h7⟩, h8⟩, h9⟩, h10⟩ := h
      subst h1 h2
      exact st_chain F (sE a false _ X C k F h3) (sE b false _ X C k F h4) (sE c false _ X C k F h5) ⟨h6, h7⟩ (bn h8) (bn h9) (bn h10) m
    · cases h
  | .ite c a b, m, ex, X, C, k, F, h => by
    unfold chk at h
    split at h
    · simp only [Bool.and_eq_true] at h
      obtain ⟨⟨⟨⟨⟨h1, h2⟩, h3⟩, h4⟩, h5⟩, h6⟩ := h
      have hm := bn h1
      subst hm
      exact pe_imp (pe_ifExp (sE c true _ X C k F h2).1 (sE a false _ X C k F h3) (sE b false _ X C k F h4)) fun _ _ _ => rd_ite (bn h5) (bn h6)
    · cases h
  | .ix a b, m, ex, X, C, k, F, h => by
    unfold chk at h
    split at h
    · simp only [Bool.and_eq_true] at h
      obtain ⟨⟨⟨h1, h2⟩, h3⟩, h4⟩ := h
      exact snd_plain (st_ix F (sE a false _ X C k F h1) (sE b false _ X C k F h2) (orN h3) (bn h4)) rfl m
    · cases h
  | .sl a hl l hh u, m, ex, X, C, k, F, h => by
    unfold chk at h
    split at h
    · rename_i x lo hi p2 p
      simp only [Bool.and_eq_true] at h
      obtain ⟨⟨⟨h1, h2⟩, h3⟩, h4⟩ := h
      have k1 : PO X lo (rdO C hl l) := by
        split at h3
        · exact part_some (sE l false _ X C k F h3)
        · exact part_none
        · cases h3
      have k2 : PO X hi (rdO C hh u) := by
        split at h4
        · exact part_some (sE u false _ X C k F h4)
        · exact part_none
        · cases h4
      exact snd_plain (st_sl F (sE a false _ X C k F h1) (bn h2) k1 k2) rfl m
    · cases h
  | .rev a, m, ex, X, C, k, F, h => by
    unfold chk at h
    split at h
    · exact snd_plain (st_rev F (sE a false _ X C k F h)) rfl m
    · cases h
  | .bi f es, m, ex, X, C, k, F, h => by
    unfold chk at h
    split at h
    · rename_i ts a g p x ty q
      simp only [Bool.and_eq_true, beq_iff_eq, decide_eq_true_eq] at h
      obtain ⟨⟨⟨⟨⟨⟨h1, h2⟩, h3⟩, h4⟩, h5⟩, h6⟩, h7⟩ := h
      exact snd_plain (st_isi F h1 h2 (sE a false _ X C k F h3) h4 h5 h6 h7) rfl m
    · simp only [Bool.and_eq_true, beq_iff_eq] at h
      obtain ⟨⟨⟨⟨⟨h1, h2⟩, h3⟩, h4⟩, h5⟩, h6⟩ := h
      exact snd_plain (st_rgl F h1 h2 h3 h4 (sE _ false _ X C k F h5) h6) rfl m
    · simp only [Bool.and_eq_true, beq_iff_eq] at h
      obtain ⟨⟨⟨⟨⟨h1, h2⟩, h3⟩, h4⟩, h5⟩, h6⟩ := h
      exact snd_plain (st_rgt F h1 h2 h3 h4 (sE _ false _ X C k F h5) h6) rfl m
    · simp only [Bool.and_eq_true, beq_iff_eq] at h
      obtain ⟨⟨⟨⟨⟨h1, h2⟩, h3⟩, h4⟩, h5⟩, h6⟩ := h
      exact snd_plain (st_sset F h1 h2 h3 h4 (sE _ false _ X C k F h5) h6) rfl m
    · simp only [Bool.and_eq_true, beq_iff_eq] at h
      obtain ⟨⟨⟨⟨⟨h1, h2⟩, h3⟩, h4⟩, h5⟩, h6⟩ := h
      exact snd_plain (st_skeys F h1 h2 h3 (sE _ false _ X C k F h4) h5 (by simpa using h6)) rfl m
    · simp only [Bool.and_eq_true, beq_iff_eq] at h
      obtain ⟨⟨⟨⟨⟨⟨⟨h1, h2⟩, h3⟩, h4⟩, h5⟩, h6⟩, h7⟩, h8⟩ := h
      exact snd_plain (st_index F h1 (sE _ false _ X C k F h2) (sE _ false _ X C k F h3) h4 (orN h5) h6 h7 (by simpa using h8)) rfl m
    · simp only [Bool.and_eq_true, beq_iff_eq] at h
      obtain ⟨⟨⟨⟨⟨⟨⟨h1, h2⟩, h3⟩, h4⟩, h5⟩, h6⟩, h7⟩, h8⟩ := h
      exact snd_plain (st_join F h1 (sE _ false _ X C k F h2) (sE _ false _ X C k F h3) h4 (orN h5) h6 h7 (by simpa using h8)) rfl m
    · simp only [Bool.and_eq_true, beq_iff_eq] at h
      obtain ⟨⟨⟨⟨⟨h1, h2⟩, h3⟩, h4⟩, h5⟩, h6⟩ := h
      exact snd_plain (st_sumvals F h1 h2 h3 (sE _ false _ X C k F h4) h5 (by simpa using h6)) rfl m
    · simp only [Bool.and_eq_true, beq_iff_eq] at h
      obtain ⟨⟨⟨⟨⟨⟨⟨⟨⟨⟨h1, h2⟩, h3⟩, h4⟩, h5⟩, h6⟩, h7⟩, h8⟩, h9⟩, h10⟩, h11⟩ := h
      exact snd_plain (st_get2 F h1 (sE _ false _ X C k F h2) (sE _ false _ X C k F h3) (sE _ false _ X C k F h4) h5 h6 (orN h7) h8 h9 h10 (by simpa using h11)) rfl m
    · split at h
      · rename_i hb
        simp only [Bool.and_eq_true, beq_iff_eq, decide_eq_true_eq] at h
        obtain ⟨⟨⟨⟨h1, h2⟩, h3⟩, h4⟩, h5⟩ := h
        exact snd_plain (st_bi F hb h1 h2 h3 h4 h5 (sEs es _ X C k F h4)) rfl m
      · cases h
    · cases h
  | .call f es, m, ex, X, C, k, F, h => by
    unfold chk at h
    split at h
    · split at h
      · rename_i np row hf
        simp only [Bool.and_eq_true, beq_iff_eq, decide_eq_true_eq] at h
        obtain ⟨⟨⟨⟨⟨h2, h3⟩, h4⟩, h5⟩, h6⟩, h7⟩ := h
        have hr := bn h3
        subst hr
        exact snd_plain (st_call F hf h2 h4 h5 (pes_strong (sEs es _ X C k F h5) h6) (bn h7)) rfl m
      · cases h
    · cases h
  | .callr f es, m, ex, X, C, k, F, h => by
    unfold chk at h
    split at h
    · split at h
      · rename_i np row i hf hr
        simp only [Bool.and_eq_true, beq_iff_eq, decide_eq_true_eq] at h
        obtain ⟨⟨⟨⟨⟨⟨h2, h3⟩, h4⟩, h5⟩, h6⟩, h7⟩, h8⟩ := h
        subst h3
        exact snd_plain (st_callr F hf hr h2 h4 h6 (pes_strong (sEs es _ X C k F h6) h7) h5 (bn h8)) rfl m
      · cases h
    · cases h
  | .lc elt tg it ifs own, m, ex, X, C, k, F, h => by
    unfold chk at h
    split at h
    · rename_i x t i fs sc pos
      simp only [Bool.and_eq_true] at h
      obtain ⟨⟨⟨⟨⟨⟨⟨⟨⟨⟨h1, h2⟩, h3⟩, h4⟩, h5⟩, h6⟩, h7⟩, h8⟩, h9⟩, h10⟩, h11⟩ := h
      have hm := bn h1
      subst hm
      exact (lc_text F h2 (sI it t i X C k F h3) (bn h4) h5 (fun X2 C2 F2 => sFs ifs fs X2 C2 _ F2 h6) (fun X2 C2 F2 => sE elt false x X2 C2 _ F2 h7) h8 h9 (bn h10) h11).pe F
    · cases h
theorem sEs : ∀ (es : Es) (l : List Expr) (X : Cx) (C : Ctx) (k : Ck), Fit CX EW X C k → chks k es l = true → PEs X C es l
  | .nil, l, X, C, k, F, h => by
    unfold chks at h
    cases l with
    | nil => exact trivial
    | cons _ _ => cases h
  | .cons e es, l, X, C, k, F, h => by
    unfold chks at h
    cases l with
    | nil => cases h
    | cons x xs =>
      simp only [Bool.and_eq_true] at h
      exact ⟨h.1.1, sE e false x X C k F h.1.2, sEs es xs X C k F h.2⟩
theorem sFs : ∀ (es : Es) (l : List Expr) (X : Cx) (C : Ctx) (k : Ck), Fit CX EW X C k → chkF k es l = true → PFs X C es l
  | .nil, l, X, C, k, F, h => by
    unfold chkF at h
    cases l with
    | nil => exact trivial
    | cons _ _ => cases h
  | .cons e es, l, X, C, k, F, h => by
    unfold chkF at h
    cases l with
    | nil => cases h
    | cons x xs =>
      simp only [Bool.and_eq_true] at h
      exact ⟨(sE e true x X C k F h.1).1, sFs es xs X C k F h.2⟩
theorem sI : ∀ (it : It) (tg ex : Expr) (X : Cx) (C : Ctx) (k : Ck), Fit CX EW X C k → chkI k it tg ex = true → PI X tg ex (rI C it)
  | .seq e, tg, ex, X, C, k, F, h => by
    unfold chkI at h
    rw [Bool.and_eq_true] at h
    exact it_seq F (sE e false ex X C k F h.1) (bn h.2)
  | .rng1 e, tg, ex, X, C, k, F, h => by
    unfold chkI at h
    split at h
    · simp only [Bool.and_eq_true, beq_iff_eq] at h
      obtain ⟨⟨⟨h1, h2⟩, h3⟩, h4⟩ := h
      exact it_rng1 F h1 h2 (sE e false _ X C k F h3) h4
    · cases h
  | .rng2 a b, tg, ex, X, C, k, F, h => by
    unfold chkI at h
    split at h
    · simp only [Bool.and_eq_true, beq_iff_eq] at h
      obtain ⟨⟨⟨⟨⟨⟨h1, h2⟩, h3⟩, h4⟩, h5⟩, h6⟩, h7⟩ := h
      exact it_rng2 F h1 h2 (sE a false _ X C k F h3) (sE b false _ X C k F h4) h5 h6 (bn h7)
    · cases h
  | .rng3 a b c, tg, ex, X, C, k, F, h => by
    unfold chkI at h
    split at h
    · simp only [Bool.and_eq_true, beq_iff_eq] at h
      obtain ⟨⟨⟨⟨⟨⟨⟨⟨⟨h1, h2⟩, h3⟩, h4⟩, h5⟩, h6⟩, h7⟩, h8⟩, h9⟩, h10⟩ := h
      exact it_rng3 F h1 h2 (sE a false _ X C k F h3) (sE b false _ X C k F h4) (sE c false _ X C k F h5) h6 h7 h8 (bn h9) (bn h10)
    · cases h
  | .enum e, tg, ex, X, C, k, F, h => by
    unfold chkI at h
    split at h
    · simp only [Bool.and_eq_true, beq_iff_eq] at h
      obtain ⟨⟨⟨⟨h1, h2⟩, h3⟩, h4⟩, h5⟩ := h
      exact it_enum F h1 h2 (sE e false _ X C k F h3) h4 (bn h5)
    · cases h
  | .zip a b, tg, ex, X, C, k, F, h => by
    unfold chkI at h
    split at h
    · simp only [Bool.and_eq_true, beq_iff_eq] at h
      obtain ⟨⟨⟨⟨⟨⟨⟨h1, h2⟩, h3⟩, h4⟩, h5⟩, h6⟩, h7⟩, h8⟩ := h
      exact it_zip F h1 h2 (sE a false _ X C k F h3) (sE b false _ X C k F h4) h5 h6 (bn h7) (bn h8)
    · cases h
  | .keys e, tg, ex, X, C, k, F, h => by
    unfold chkI at h
    split at h
    · simp only [Bool.and_eq_true, beq_iff_eq] at h
      obtain ⟨⟨h1, h2⟩, h3⟩ := h
      subst h1
      exact pi_keysT (F.slot h2) rfl (by simpa using h3)
    · cases h
end
end
end PL

set_option Elab.async false
set_option linter.all false
set_option maxRecDepth 100000
set_option autoImplicit false
set_option maxHeartbeats 400000
namespace PL
open PySem PySem.Spec PyProof.Rows L2
/-! ### statements: the check -/
def isSkip : Stmt → Bool
  | .Expr (.Constant (.str _) _ _) _ => true
  | .Pass _ => true
  | _ => false
def notSD : Expr → Bool
  | .SetComp _ _ _ _ => false
  | .DictComp _ _ _ _ _ => false
  | _ => true
def notLC : Expr → Bool
  | .ListComp _ _ _ _ => false
  | _ => true
def rowNe (k : Ck) (i : Nat) : Bool := match k.rs with
  | some j => !(i == j)
  | none => true
def swpN (k : Ck) (ts : List Expr) : List Str := ts.filterMap fun
  | .Name id pos => if k.nm.lookup id == some .local && pos.line == (ts.head?.map (·.pos.line)).getD 0 then some id else none
  | _ => none
def swp (k : Ck) (ts vs : List Expr) : Option (Option (List Str)) :=
  if (!(ts.length == 2 || ts.length == 3) || vs.length != ts.length) = true then some none
  else if ((swpN k ts).length != ts.length || (swpN k ts).eraseDups.length != (swpN k ts).length) = true then some none
  else if vs.all (foldedForSure 8) = true then some none
  else if vs.all (constantsAlone 8) = true then none
  else some (some (swpN k ts))
def namesP (k : Ck) : List (Nat × Bool) → List Expr → Bool
  | [], [] => true
  | (i, _) :: is, .Name x _ :: xs => k.store i x && namesP k is xs
  | _, _ => false
def isNm : Expr → Bool
  | .Name _ _ => true
  | _ => false
def isKL : It → Bool
  | .keys (.loc _) => true
  | _ => false
def notKeys : It → Bool
  | .keys _ => false
  | _ => true
/-- a value behind a tuple of targets -/
def swV (k : Ck) (ts : List Expr) : Expr → Bool
  | .Tuple vs _ _ => plains vs && (match swp k ts vs with
    | some none => true
    | _ => false)
  | _ => true
def isAdd : Op2 → Operator → Bool
  | .add, .Add => true
  | _, _ => false
mutual
def chkS (k : Ck) : S → Stmt → Bool
  | .asg i e, st => (match st with
    | .Assign [.Name x _] v _ => k.store i x && chk false k e v && notSD v && !isB e && rowNe k i
    | _ => false)
  | .own i e, st => (match st with
    | .Assign [.Name x _] v _ => k.store i x && chk false k e v && notSD v && isF e && rowNe k i
    | _ => false)
  | .asgT t e, st => (match st with
    | .Assign [.Tuple ts a b] v _ => chkTg k t (.Tuple ts a b) && chk false k e v && !isTup v && !isB e && (slT t).all (rowNe k)
    | _ => false)
  | .asgP is es, st => (match st with
    | .Assign [.Tuple ts _ _] (.Tuple vs _ _) _ => namesP k is ts && chks k es vs && okP is es && is.all (fun x => rowNe k x.1) && decide (is.length ≤ 30) && (match swp k ts vs, is, ts, vs with
      | some none, _, _, _ => true
      | some (some l), [(i, _), (j, _)], [.Name x _, .Name y _], [_, _] => decide (l = [x, y]) && !(i == j) && k.nm.lookup x == some .local && k.nm.lookup y == some .local
      | some (some l), [(i, _), (j, _), (n, _)], [.Name x _, .Name y _, .Name z _], [_, _, _] => decide (l = [x, y, z]) && !(i == j) && !(i == n) && !(j == n) && k.nm.lookup x == some .local && k.nm.lookup y == some .local && k.nm.lookup z == some .local
      | _, _, _, _ => false)
    | _ => false)
  | .mkrow e, st => (match st, k.rs with
    | .Assign [.Name x _] v _, some i => k.store i x && chk false k e v && notSD v && notLC v && isF e && noR e && !k.ra
    | _, _ => false)
  | .frz _, _ => false
  | .setx i kk v, st => (match st with
    | .Assign [.Subscript (.Name x _) kx _] vx _ => k.slot i x && !isSlice kx && chk false k kk kx && chk false k v vx && !isB v
    | _ => false)
  | .setr kk v, st => (match st, k.rs with
    | .Assign [.Subscript (.Name x _) kx _] vx _, some i => k.slot i x && !isSlice kx && chk false k kk kx && chk false k v vx && !isB v
    | _, _ => false)
  | .set2 i k1 k2 e, st => (match st with
    | .Assign [.Tuple [.Subscript (.Name x p1) a p2, .Subscript (.Name y p3) b p4] _ _] v _ => k.slot i x && k.slot i y && !isSlice a && !isSlice b && chk false k k1 a && chk false k k2 b && chk false k e v && !isB e && swV k [.Subscript (.Name x p1) a p2, .Subscript (.Name y p3) b p4] v
    | _ => false)
  | .augx i kk o v, st => (match st with
    | .AugAssign (.Subscript (.Name x _) kx _) op vx _ => isAdd o op && k.slot i x && !isSlice kx && chk false k kk kx && chk false k v vx && !isRw kk
    | _ => false)
  | .aug i o e, st => (match st with
    | .AugAssign (.Name x _) op v _ => isAdd o op && k.store i x && chk false k e v && rowNe k i
    | _ => false)
  | .app i e, st => (match st with
    | .Expr (.Call (.Attribute (.Name x _) nm ap) [y] [] cp) _ => nm == ("append" : Str) && k.slot i x && chk false k e y && plainAnd y && !isB e && ap.endLine == cp.line
    | _ => false)
  | .pop t i, st => (match st with
    | .Assign [.Name x _] (.Call (.Attribute (.Name y _) nm ap) [] [] cp) _ => nm == ("pop" : Str) && k.store t x && k.slot i y && ap.endLine == cp.line && rowNe k t
    | _ => false)
  | .ex e, st => (match st with
    | .Expr v _ => chk false k e v && notSD v && notLC v
    | _ => false)
  | .ite c a b, st => (match st with
    | .If x A B _ => chk true k c x && chkSs k a A && chkSs k b B
    | _ => false)
  | .for_ t it body, st => (match st with
    | .For tg i B [] _ => chkI k it tg i && (notKeys it || (isKL it && nrSs body)) && chkTg k t tg && chkSs k body B && !isSet i && (slT t).all (rowNe k)
    | _ => false)
  | .wh c body, st => (match st with
    | .While x B [] _ => chk true k c x && chkSs k body B
    | _ => false)
  | .ret e, st => (match st with
    | .Return (some v) _ => chk false k e v && !isB e
    | _ => false)
  | .retN, st => (match st with
    | .Return none _ => true
    | _ => false)
  | .rais _ _, st => (match st with
    | .Raise _ _ _ => true
    | _ => false)
def chkSs (k : Ck) : Ss → List Stmt → Bool
  | .nil, l => (l.dropWhile isSkip).isEmpty
  | .cons s ss, l => (match s with
    | .frz _ => chkSs k ss l
    | s' => (match l.dropWhile isSkip with
      | st :: r => chkS k s st && chkSs k ss r
      | [] => false))
end
end PL

set_option Elab.async false
set_option linter.all false
set_option maxRecDepth 100000
set_option autoImplicit false
set_option maxHeartbeats 400000
namespace PL
open PySem PySem.Spec PyProof.Rows L2
structure FitS (CX : CXT) (EW : XK → Nat → D → Hp → Prop) (X : Cx) (C : Ctx) (k : Ck) : Prop extends Fit CX EW X C k where
  scn : X.env.scope.names = k.nm
  kd : X.env.scope.kind = .function
  pown : PassesOwn (model X.prog X.w) X.A X.env X.xe
  O0 : C.O0 = RA C.ra
  hra : ∀ a, C.ra = some a → ∃ i, C.rs = some i
  nra : k.ra = false → C.ra = none
  ew : ∀ c d, ¬ C.ew c d
section
variable {CX : CXT} {EW : XK → Nat → D → Hp → Prop} {X : Cx} {C : Ctx} {k : Ck}
theorem FitS.bk (F : FitS CX EW X C k) : X.env.blockKind = .function := by
  unfold Env.blockKind
  rw [F.kd]; rfl
theorem FitS.ki (F : FitS CX EW X C k) (x : Str) : X.env.kindOf x = k.nm.lookup x := by
  unfold Env.kindOf
  rw [F.scn]
theorem FitS.rowNe (F : FitS CX EW X C k) {i : Nat} (h : rowNe k i = true) : C.rs ≠ some i := fun e => by
  unfold PL.rowNe at h
  rw [F.rs.symm.trans e] at h
  simp at h
theorem FitS.rowNes (F : FitS CX EW X C k) {l : List Nat} (h : l.all (PL.rowNe k) = true) : ∀ i, C.rs = some i → i ∉ l := fun i e q => F.rowNe (List.all_eq_true.mp h i q) e
theorem FitS.pg (F : FitS CX EW X C k) {i : Nat} {x : Str} {p : Pos} (h : k.store i x = true) : PG X (.Name x p) (gName i) := pg_nm F.N F.nd F.loc h
theorem sw_false {v : Expr} (h : notSD v = true) (h2 : notLC v = true) (t : Option Expr) (n : Nat) (env : PySem.Env) : swapsWith v t n env = pure false := by
  cases v <;> first | rfl | exact absurd h Bool.false_ne_true | exact absurd h2 Bool.false_ne_true
theorem sw_tup {v : Expr} {t : Expr} (ht : isNm t = false) (n : Nat) (env : PySem.Env) : swapsWithSole [t] v n env = pure false := by
  cases v <;> first | rfl | (cases t <;> first | rfl | exact absurd ht.symm Bool.false_ne_true)
theorem plains_star (f : Expr → Bool) (hf : ∀ x, plainAnd x = true → f x = false) : ∀ {l : List Expr}, plains l = true → l.any f = false
  | [], _ => rfl
  | x :: xs, h => by
    unfold plains at h
    rw [Bool.and_eq_true] at h
    rw [List.any_cons, plains_star f hf h.2, hf x h.1]; rfl
theorem swp_ok (F : FitS CX EW X C k) {ts vs : List Expr} {a c : Nat} {b d : Pos} {r : Option (List Str)} (hp : plains vs = true) (h : swp k ts vs = some r) : swappedStores [.Tuple ts a b] (.Tuple vs c d) X.env = pure r := by
  unfold swp at h
  unfold swappedStores
  dsimp only
  rw [F.bk]
  rw [show (ScopeKind.function != ScopeKind.function) = false from rfl, Bool.or_false]
  by_cases c1 : (!(ts.length == 2 || ts.length == 3) || vs.length != ts.length) = true
  · rw [if_pos c1] at h ⊢
    cases h; rfl
  rw [if_neg c1] at h ⊢
  have hs : ∀ f : Expr → Bool, (∀ x, plainAnd x = true → f x = false) → ¬ vs.any f = true := fun f hf q => by rw [plains_star f hf hp] at q; cases q
  rw [if_neg (hs _ fun x hx => by cases x <;> first | rfl | cases hx)]
  generalize hG : List.filterMap _ ts = G
  have hn : G = swpN k ts := by
    rw [← hG]
    unfold swpN
    congr 1
    funext e
    cases e with
    | Name id pos => dsimp only; rw [F.ki]
    | _ => rfl
  subst hn
  by_cases c2 : ((swpN k ts).length != ts.length || (swpN k ts).eraseDups.length != (swpN k ts).length) = true
  · rw [if_pos c2] at h ⊢
    cases h; rfl
  rw [if_neg c2] at h ⊢
  by_cases c3 : vs.all (foldedForSure 8) = true
  · rw [if_pos c3] at h ⊢
    cases h; rfl
  rw [if_neg c3] at h ⊢
  by_cases c4 : vs.all (constantsAlone 8) = true
  · rw [if_pos c4] at h
    cases h
  rw [if_neg c4] at h ⊢
  cases h; rfl
theorem sw_none {ts : List Expr} {a : Nat} {b : Pos} {v : Expr} (F : FitS CX EW X C k) (h : swV k ts v = true) : swappedStores [.Tuple ts a b] v X.env = pure none := by
  cases v with
  | Tuple vs c d =>
    have h : (plains vs && (match swp k ts vs with
      | some none => true
      | _ => false)) = true := h
    rw [Bool.and_eq_true] at h
    obtain ⟨h1, h2⟩ := h
    split at h2
    · rename_i e; exact swp_ok F h1 e
    · cases h2
  | _ => rfl
theorem pss_skip {t : TS} : ∀ {l : List Stmt}, PSs X (l.dropWhile isSkip) t → PSs X l t
  | [], h => h
  | st :: l, h => by
    rw [List.dropWhile_cons] at h
    cases e : isSkip st with
    | false => rw [e] at h; exact h
    | true =>
      rw [e] at h
      have ih := pss_skip h
      have hs : PS X st tNext := by
        cases st with
        | Pass p => exact ps_pass
        | Expr v p =>
          cases v with
          | Constant c a b =>
            cases c with
            | str x => exact ps_doc
            | _ => cases e
          | _ => cases e
        | _ => cases e
      exact ⟨fun pins s σ H D I q => (pss_cons hs ih).run pins s σ H D I q⟩
end
end PL

set_option Elab.async false
set_option linter.all false
set_option maxRecDepth 100000
set_option autoImplicit false
set_option maxHeartbeats 400000
namespace PL
open PySem PySem.Spec PyProof.Rows L2
section
variable {X : Cx}
theorem isKL_eq : ∀ {it : It}, isKL it = true → ∃ j, it = .keys (.loc j)
  | .keys (.loc j), _ => ⟨j, rfl⟩
theorem FitS.sib {CX : CXT} {EW : XK → Nat → D → Hp → Prop} {X : Cx} {C C2 : Ctx} {k : Ck} (F : FitS CX EW X C k) (s : SibF C C2) : FitS CX EW X C2 k := by
  obtain ⟨K, cl, rs, ra, ew, O0, Z0, H0⟩ := C
  obtain ⟨K', cl', rs', ra', ew', O0', Z0', H0'⟩ := C2
  obtain ⟨h1, h2, h3, h4, h5, h6⟩ := s
  dsimp only at h1 h2 h3 h4 h5 h6
  subst h1 h2 h3 h4 h5 h6
  exact { K := F.K, N := F.N, nd := F.nd, calm := F.calm, un := F.un, vis := F.vis, loc := F.loc, gl := F.gl, blk := F.blk, bl := F.bl, co := F.co, rs := F.rs, lets := ⟨fun _ _ _ => False, fun c x O Z H _ h => (F.ew c x h).elim, fun pins σ H s e s' _ h => (F.nev _ _ _ _ _ h).elim⟩, nev := F.nev, call := F.call, scn := F.scn, kd := F.kd, pown := F.pown, O0 := F.O0, hra := F.hra, nra := F.nra, ew := F.ew }
theorem ps_or2 {st : Stmt} {t u : TS} (h : PS X st t) (h' : PS X st u) : PS X st (fun D σ H => t D σ H ∨ u D σ H) := ⟨fun pins s σ H D I q => q.elim (h.run pins s σ H D I) (h'.run pins s σ H D I)⟩
theorem pe_append1 {e y : Expr} {te ta : TE} {ap cp : Pos} (he : PE X e te) (hy : PE X y ta) (nc : noCall e = true) (py : plainAnd y = true) (hl : (ap.endLine == cp.line) = true) : PE X (.Call (.Attribute e "append" ap) [y] [] cp) (tMG tyLst rAppend te (tCons ta tNil)) := by
  refine pe_mG (X := X) (ty := tyLst) (r := rAppend) ty_lst F.plainAttrs_list F.slot_list_append F.type_list_append mt_append he (pa_cons hy pa_nil (star_of py _ _)) (base_of nc _ _) ?_ hl (star_of py _ _) (plain_any _ _ rfl)
  rw [star_of py]; rfl
theorem pe_pop0 {e : Expr} {te : TE} {ap cp : Pos} (he : PE X e te) (nc : noCall e = true) (hl : (ap.endLine == cp.line) = true) : PE X (.Call (.Attribute e "pop" ap) [] [] cp) (tMG0 tyLst rPop te) :=
  pe_mG0 (X := X) (ty := tyLst) (r := rPop) ty_lst F.plainAttrs_list F.slot_list_pop F.type_list_pop mt_pop he (base_of nc _ _) hl
end
section
variable {CX : CXT} {EW : XK → Nat → D → Hp → Prop} {X : Cx} {C : Ctx} {k : Ck}
theorem lc_inv (F : Fit CX EW X C k) {e : E} {x : Expr} {gs : List Comprehension} {sc : Scope} {pos : Pos} (h : chk false k e (.ListComp x gs sc pos) = true) :
    ∃ elt tg it ifs own t i fs, e = .lc elt tg it ifs own ∧ gs = [⟨t, i, fs, 0⟩] ∧ LcP X C x t i fs sc elt tg it ifs own (ownOf k own) := by
  cases e with
  | lc elt tg it ifs own =>
    unfold chk at h
    split at h
    · rename_i x' t i fs sc' pos' he
      cases he
      simp only [Bool.and_eq_true] at h
      obtain ⟨⟨⟨⟨⟨⟨⟨⟨⟨⟨h1, h2⟩, h3⟩, h4⟩, h5⟩, h6⟩, h7⟩, h8⟩, h9⟩, h10⟩, h11⟩ := h
      exact ⟨_, _, _, _, _, _, _, _, rfl, rfl, lc_text F h2 (sI it t i X C k F h3) (bn h4) h5 (fun X2 C2 F2 => sFs ifs fs X2 C2 _ F2 h6) (fun X2 C2 F2 => sE elt false x X2 C2 _ F2 h7) h8 h9 (bn h10) h11⟩
    · cases h
  | cst d =>
    unfold chk at h
    cases d <;> cases h
  | bi f es =>
    unfold chk at h
    split at h <;> first | (rename_i q; cases q; done) | skip
    all_goals cases h
  | _ => unfold chk at h; cases h
theorem s_lcset (F : FitS CX EW X C k) {x : Expr} {t i : Expr} {fs : List Expr} {sc : Scope} {pos p sp : Pos} {elt : E} {tg : Tg} {it : It} {ifs : Es} {own : List Nat} {ow : List (Str × Nat)} {n : Nat} {y : Str} (l : LcP X C x t i fs sc elt tg it ifs own ow) (hst : k.store n y = true) :
    PS X (.Assign [.Name y p] (.ListComp x [⟨t, i, fs, 0⟩] sc pos) sp) (tAsg (rdE C (.lc elt tg it ifs own)) (gName n)) := by
  have hs := hst
  unfold Ck.store at hs
  rw [Bool.and_eq_true, beq_iff_eq] at hs
  have hN : X.N[n]? = some y := by rw [F.N]; exact hs.1
  have hl := F.loc y hs.2
  have b : PS X (.Assign [.Name y p] (.ListComp x [⟨t, i, fs, 0⟩] sc pos) sp) (tAsg (tLcD C (rI C it) elt tg ifs own) (gName n)) := by
    have sw : swapsWith (.ListComp x [⟨t, i, fs, 0⟩] sc pos) (some (.Name y p)) sp.line X.env = pure (X.env.blockKind == .function && X.env.kindOf y == some .local && p.line == (Expr.ListComp x [⟨t, i, fs, 0⟩] sc pos).pos.line && !(sc.names.any fun (n, kd) => n == y && (kd == .local || kd == .cell))) := rfl
    cases e : (X.env.blockKind == .function && X.env.kindOf y == some .local && p.line == (Expr.ListComp x [⟨t, i, fs, 0⟩] sc pos).pos.line && !(sc.names.any fun (n, kd) => n == y && (kd == .local || kd == .cell))) with
    | true =>
      rw [e] at sw
      simp only [Bool.and_eq_true, beq_iff_eq] at e
      have hy : X.env.scope.names.lookup y = some .local := e.1.1.2
      have := ps_setLc (py := p) (spos := sp) (pos := pos) F.calm F.nd hN hy sw l.pi l.ok l.hg l.ht l.he l.hs
      rw [l.ow] at this
      exact this
    | false =>
      rw [e] at sw
      have he := pe_lc (pos := pos) F.calm F.nd l.pi l.ok l.hg l.ht l.he l.hs
      rw [l.ow] at he
      exact ps_set F.nd hN hl.1 he sw hl.2
  have gen : rI C it = rdI C it → PS X (.Assign [.Name y p] (.ListComp x [⟨t, i, fs, 0⟩] sc pos) sp) (tAsg (rdE C (.lc elt tg it ifs own)) (gName n)) := fun e => by
    rw [e] at b
    exact ps_imp b fun D σ H h => rd_lc0 (Sib.mute C) l.nr l.sub l.be l.o1 h
  cases it with
  | keys e =>
    cases e with
    | loc j => exact ps_imp (ps_or2 b (ps_lock b)) fun D σ H h => rd_lcK l.nr l.sub l.be l.o1 h
    | _ => exact gen rfl
  | _ => exact gen rfl
theorem s_set (F : FitS CX EW X C k) {e : E} {v : Expr} {n : Nat} {y : Str} {p sp : Pos} (hst : k.store n y = true) (h : chk false k e v = true) (ns : notSD v = true) : PS X (.Assign [.Name y p] v sp) (tAsg (rdE C e) (gName n)) := by
  have hs := hst
  unfold Ck.store at hs
  rw [Bool.and_eq_true, beq_iff_eq] at hs
  have hN : X.N[n]? = some y := by rw [F.N]; exact hs.1
  have hl := F.loc y hs.2
  cases hv : notLC v with
  | true => exact ps_set F.nd hN hl.1 (sE e false v X C k F.toFit h) (sw_false ns hv _ _ _) hl.2
  | false =>
    cases v with
    | ListComp x gs sc pos =>
      obtain ⟨elt, tg, it, ifs, own, t, i, fs, rfl, rfl, l⟩ := lc_inv F.toFit h
      exact s_lcset F l hst
    | _ => cases hv
theorem namesP_ok (F : FitS CX EW X C k) : ∀ {is : List (Nat × Bool)} {ts : List Expr}, namesP k is ts = true → PGs X ts (gPs is) ∧ plains ts = true ∧ ts.length = is.length
  | [], [], _ => ⟨pgs_nil, rfl, rfl⟩
  | [], _ :: _, h => by cases h
  | _ :: _, [], h => by cases h
  | (i, o) :: is, t :: ts, h => by
    cases t with
    | Name x p =>
      have h : (k.store i x && namesP k is ts) = true := h
      rw [Bool.and_eq_true] at h
      obtain ⟨h1, h2, h3⟩ := namesP_ok F h.2
      exact ⟨pgs_cons (F.pg h.1) h1, by unfold plains; rw [h2]; rfl, by rw [List.length_cons, List.length_cons, h3]⟩
    | _ => cases h
theorem s_asgP (F : FitS CX EW X C k) {is : List (Nat × Bool)} {es : Es} {ts vs : List Expr} {a c : Nat} {b d sp : Pos} (hn : namesP k is ts = true) (hc : chks k es vs = true) (ho : okP is es = true) (hl : is.length ≤ 30) (sw : swp k ts vs = some none) (nr : ∀ x ∈ is, C.rs ≠ some x.1) :
    PS X (.Assign [.Tuple ts a b] (.Tuple vs c d) sp) (rdS C (.asgP is es)) := by
  obtain ⟨h1, h2, h3⟩ := namesP_ok F hn
  obtain ⟨h4, h5⟩ := each_len X.env h2
  have hv := pes_P (sEs es vs X C k F.toFit hc) ho
  refine ps_imp (ps_asg (pe_tup hv) (pg_tup F.calm h1 (h4.trans h3) h5) (sw_tup rfl _ _) (swp_ok F (plains_of hc) sw)) fun D σ H h => ?_
  rw [F.K]
  exact rs_asgPT hl nr h
theorem st_get {i : Nat} {x : Str} (F : FitS CX EW X C k) (h : k.store i x = true) : X.N[i]? = some x ∧ k.loc x = true := by
  unfold Ck.store at h
  rw [Bool.and_eq_true, beq_iff_eq] at h
  exact ⟨by rw [F.N]; exact h.1, h.2⟩
theorem s_par2 (F : FitS CX EW X C k) {i j : Nat} {o o' : Bool} {es : Es} {x y : Str} {p1 p2 : Pos} {u v : Expr} {a c : Nat} {b d sp : Pos} (hn : namesP k [(i, o), (j, o')] [.Name x p1, .Name y p2] = true) (hc : chks k es [u, v] = true) (ho : okP [(i, o), (j, o')] es = true)
    (sw : swp k [.Name x p1, .Name y p2] [u, v] = some (some [x, y])) (hij : i ≠ j) (hx : k.nm.lookup x = some .local) (hy : k.nm.lookup y = some .local) (nr : ∀ x ∈ [(i, o), (j, o')], C.rs ≠ some x.1) :
    PS X (.Assign [.Tuple [.Name x p1, .Name y p2] a b] (.Tuple [u, v] c d) sp) (rdS C (.asgP [(i, o), (j, o')] es)) := by
  have hn : (k.store i x && (k.store j y && true)) = true := hn
  simp only [Bool.and_eq_true] at hn
  have hv := pes_P (sEs es _ X C k F.toFit hc) ho
  exact ps_imp (ps_par F.calm F.nd (st_get F hn.1).1 (st_get F hn.2.1).1 hij (by rw [F.scn]; exact hx) (by rw [F.scn]; exact hy) hv (swp_ok F (plains_of hc) sw)) fun D σ H h => rs_asgP2 nr h
theorem rs_asgP3 {i j n : Nat} {o o' o2 : Bool} {es : Es} {D : Ends} {σ : VS} {H : Hp} (nr : ∀ x ∈ [(i, o), (j, o'), (n, o2)], C.rs ≠ some x.1) (h : rdS C (.asgP [(i, o), (j, o'), (n, o2)] es) D σ H) : tPar3 i j n (rdP C [(i, o), (j, o'), (n, o2)] es) D σ H :=
  rp_mono (rs_asgP nr h) fun vs H1 ⟨l, q, _⟩ => by
    match vs, l, q with
    | [v, w, u], _, q => exact ⟨v, w, u, rfl, q⟩
theorem s_par3 (F : FitS CX EW X C k) {i j n : Nat} {o o' o2 : Bool} {es : Es} {x y z : Str} {p1 p2 p3 : Pos} {u v w : Expr} {a c : Nat} {b d sp : Pos} (hn : namesP k [(i, o), (j, o'), (n, o2)] [.Name x p1, .Name y p2, .Name z p3] = true) (hc : chks k es [u, v, w] = true) (ho : okP [(i, o), (j, o'), (n, o2)] es = true)
    (sw : swp k [.Name x p1, .Name y p2, .Name z p3] [u, v, w] = some (some [x, y, z])) (hij : i ≠ j) (hin : i ≠ n) (hjn : j ≠ n) (hx : k.nm.lookup x = some .local) (hy : k.nm.lookup y = some .local) (hz : k.nm.lookup z = some .local) (nr : ∀ x ∈ [(i, o), (j, o'), (n, o2)], C.rs ≠ some x.1) :
    PS X (.Assign [.Tuple [.Name x p1, .Name y p2, .Name z p3] a b] (.Tuple [u, v, w] c d) sp) (rdS C (.asgP [(i, o), (j, o'), (n, o2)] es)) := by
  have hn : (k.store i x && (k.store j y && (k.store n z && true))) = true := hn
  simp only [Bool.and_eq_true] at hn
  have hv := pes_P (sEs es _ X C k F.toFit hc) ho
  exact ps_imp (ps_par3 F.calm F.nd (st_get F hn.1).1 (st_get F hn.2.1).1 (st_get F hn.2.2.1).1 hij hin hjn (by rw [F.scn]; exact hx) (by rw [F.scn]; exact hy) (by rw [F.scn]; exact hz) hv (swp_ok F (plains_of hc) sw)) fun D σ H h => rs_asgP3 nr h
theorem asg_sub {o i : Expr} {p : Pos} (h : isSlice i = false) (env : PySem.Env) : ∀ v, assign (.Subscript o i p) env v = (do
    let ov ← holding [v] (eval o env)
    let iv ← holding [v, ov] (eval i env)
    standAt p
    holding [v, ov, iv] (setItem ov iv v)
    release [v, ov, iv] []) := fun v => by cases i <;> first | rfl | cases h
theorem pg_at (F : FitS CX EW X C k) {i : Nat} {kk : E} {x : Str} {kx : Expr} {p1 p2 : Pos} (hx : k.slot i x = true) (ns : isSlice kx = false) (hk : chk false k kk kx = true) : PG X (.Subscript (.Name x p1) kx p2) (gSub (tVar i) (rdE C kk) rSet) := by
  have hu : X.A.units + 1 < cLine := by have := F.un; omega
  exact pg_sub (F.slot hx) (sE kk false _ X C k F.toFit hk) (set_ok hu) (asg_sub ns _)
theorem s_setx (F : FitS CX EW X C k) {i : Nat} {kk v : E} {x : Str} {kx vx : Expr} {p1 p2 sp : Pos} (hx : k.slot i x = true) (ns : isSlice kx = false) (hk : chk false k kk kx = true) (hv : chk false k v vx = true) : PS X (.Assign [.Subscript (.Name x p1) kx p2] vx sp) (tAsg (rdE C v) (gSub (tVar i) (rdE C kk) rSet)) :=
  ps_asg (sE v false _ X C k F.toFit hv) (pg_at F hx ns hk) (sw_tup rfl _ _) rfl
theorem s_set2 (F : FitS CX EW X C k) {i : Nat} {k1 k2 e : E} {x y : Str} {a b v : Expr} {p1 p2 p3 p4 q sp : Pos} {c : Nat} (hx : k.slot i x = true) (hy : k.slot i y = true) (na : isSlice a = false) (nb : isSlice b = false) (ha : chk false k k1 a = true) (hb : chk false k k2 b = true) (hv : chk false k e v = true) (ne : isB e = false)
    (sw : swV k [.Subscript (.Name x p1) a p2, .Subscript (.Name y p3) b p4] v = true) : PS X (.Assign [.Tuple [.Subscript (.Name x p1) a p2, .Subscript (.Name y p3) b p4] c q] v sp) (rdS C (.set2 i k1 k2 e)) := by
  refine ps_imp (ps_asg (sE e false v X C k F.toFit hv) (pg_tup (n := 2) F.calm (pgs_cons (pg_at F hx na ha) (pgs_cons (pg_at F hy nb hb) pgs_nil))) (sw_tup rfl _ _) (sw_none F sw)) fun D σ H h => ?_
  rw [F.K]
  exact rs_set2 ne h
theorem s_augx (F : FitS CX EW X C k) {i : Nat} {kk v : E} {x : Str} {kx vx : Expr} {p1 p2 sp : Pos} (hx : k.slot i x = true) (ns : isSlice kx = false) (hk : chk false k kk kx = true) (hv : chk false k v vx = true) (nk : isRw kk = false) : PS X (.AugAssign (.Subscript (.Name x p1) kx p2) .Add vx sp) (rdS C (.augx i kk .add v)) := by
  have hu : X.A.units + 1 < cLine := by have := F.un; omega
  refine ps_imp (ps_augS (tget := rIxL X.K) (F.slot hx) (sE kk false _ X C k F.toFit hk) get_list (sE v false _ X C k F.toFit hv) ip_add (set_ok hu) fun ov iv new => by cases kx <;> first | rfl | cases ns) fun D σ H h => ?_
  rw [F.K]
  exact rs_augx nk h
theorem s_aug (F : FitS CX EW X C k) {i : Nat} {e : E} {x : Str} {v : Expr} {p sp : Pos} (hst : k.store i x = true) (hv : chk false k e v = true) (nr : C.rs ≠ some i) : PS X (.AugAssign (.Name x p) .Add v sp) (rdS C (.aug i .add e)) := by
  have hs := st_get F hst
  have hl := F.loc x hs.2
  exact ps_imp (ps_aug F.nd hs.1 hl.1 (sE e false v X C k F.toFit hv) ip_add hl.2) fun D σ H h => rs_aug nr h
theorem s_pop (F : FitS CX EW X C k) {t i : Nat} {x y : Str} {p p1 ap cp sp : Pos} (hst : k.store t x = true) (hy : k.slot i y = true) (hl : (ap.endLine == cp.line) = true) (nr : C.rs ≠ some t) : PS X (.Assign [.Name x p] (.Call (.Attribute (.Name y p1) "pop" ap) [] [] cp) sp) (rdS C (.pop t i)) := by
  have hs := st_get F hst
  have hl' := F.loc x hs.2
  exact ps_imp (ps_set F.nd hs.1 hl'.1 (pe_pop0 (F.slot hy) rfl hl) (sw_false rfl rfl _ _ _) hl'.2) fun D σ H h => rs_pop nr h
theorem s_app (F : FitS CX EW X C k) {i : Nat} {e : E} {x : Str} {y : Expr} {p ap cp sp : Pos} (hx : k.slot i x = true) (hv : chk false k e y = true) (py : plainAnd y = true) (b : isB e = false) (hl : (ap.endLine == cp.line) = true) : PS X (.Expr (.Call (.Attribute (.Name x p) "append" ap) [y] [] cp) sp) (rdS C (.app i e)) :=
  ps_imp (ps_expr (pe_append1 (F.slot hx) (sE e false y X C k F.toFit hv) rfl py hl) (sw_false rfl rfl _ _ _)) fun D σ H h => rs_app b h
theorem s_rais (F : FitS CX EW X C k) {c : Nat} {es : Es} {st : Stmt} : PS X st (rdS C (.rais c es)) :=
  ps_imp (ps_never (st := st)) fun D σ H h => by
    obtain ⟨Z, env, r, s, h⟩ := h
    unfold evS at h
    cases e : evEs C.cl es env r with
    | no => rw [e] at h; exact h.elim
    | ex c d => rw [e] at h; exact (F.ew c d h).elim
    | ok p =>
      obtain ⟨ds, r1⟩ := p
      rw [e] at h
      match ds with
      | [] => exact (F.ew _ _ h).elim
      | [x] => exact (F.ew _ _ h).elim
      | _ :: _ :: _ => exact h.elim
mutual
theorem sS : ∀ (s : S) (st : Stmt) (X : Cx) (C : Ctx) (k : Ck), FitS CX EW X C k → chkS k s st = true → PS X st (rdS C s)
  | .asg i e, st, X, C, k, F, h => by
    unfold chkS at h
    split at h
    · simp only [Bool.and_eq_true] at h
      obtain ⟨⟨⟨⟨h1, h2⟩, h3⟩, h4⟩, h5⟩ := h
      exact ps_imp (s_set F h1 h2 h3) fun D σ H h => rs_asg (F.rowNe h5) (bn h4) h
    · cases h
  | .own i e, st, X, C, k, F, h => by
    unfold chkS at h
    split at h
    · simp only [Bool.and_eq_true] at h
      obtain ⟨⟨⟨⟨h1, h2⟩, h3⟩, h4⟩, h5⟩ := h
      exact ps_imp (s_set F h1 h2 h3) fun D σ H h => rs_own (F.rowNe h5) h4 h
    · cases h
  | .asgT t e, st, X, C, k, F, h => by
    unfold chkS at h
    split at h
    · rename_i ts a b v sp
      simp only [Bool.and_eq_true] at h
      obtain ⟨⟨⟨⟨h1, h2⟩, h3⟩, h4⟩, h5⟩ := h
      have hg := pg_text F.N F.nd F.calm F.loc t _ h1
      rw [F.K] at hg
      exact ps_imp (ps_asg (sE e false v X C k F.toFit h2) hg (sw_tup rfl _ _) (by cases v <;> first | rfl | cases h3)) fun D σ H h => rs_asgT (F.rowNes h5) (bn h4) h
    · cases h
  | .asgP is es, st, X, C, k, F, h => by
    unfold chkS at h
    split at h
    · simp only [Bool.and_eq_true, decide_eq_true_eq] at h
      obtain ⟨⟨⟨⟨⟨h1, h2⟩, h3⟩, h4⟩, h5⟩, h6⟩ := h
      have nr : ∀ x ∈ is, C.rs ≠ some x.1 := fun x hx => F.rowNe (List.all_eq_true.mp h4 x hx)
      split at h6
      · rename_i sw; exact s_asgP F h1 h2 h3 h5 sw nr
      · rename_i sw
        simp only [Bool.and_eq_true, decide_eq_true_eq, beq_iff_eq, Bool.not_eq_true', beq_eq_false_iff_ne] at h6
        obtain ⟨⟨⟨e, h7⟩, h8⟩, h9⟩ := h6
        subst e
        exact s_par2 F h1 h2 h3 sw h7 h8 h9 nr
      · rename_i sw
        simp only [Bool.and_eq_true, decide_eq_true_eq, beq_iff_eq, Bool.not_eq_true', beq_eq_false_iff_ne] at h6
        obtain ⟨⟨⟨⟨⟨⟨e, h7⟩, h8⟩, h9⟩, h10⟩, h11⟩, h12⟩ := h6
        subst e
        exact s_par3 F h1 h2 h3 sw h7 h8 h9 h10 h11 h12 nr
      · cases h6
    · cases h
  | .mkrow e, st, X, C, k, F, h => by
    unfold chkS at h
    split at h
    · rename_i i hr
      simp only [Bool.and_eq_true] at h
      obtain ⟨⟨⟨⟨⟨⟨h1, h2⟩, h3⟩, h4⟩, h5⟩, h6⟩, h7⟩ := h
      exact ps_imp (s_set F h1 h2 h3) fun D σ H h => rs_mkrow (F.rs.trans hr) (F.nra (bn h7)) h5 h6 h
    · cases h
  | .frz _, st, X, C, k, F, h => by unfold chkS at h; cases h
  | .setx i kk v, st, X, C, k, F, h => by
    unfold chkS at h
    split at h
    · simp only [Bool.and_eq_true] at h
      obtain ⟨⟨⟨⟨h1, h2⟩, h3⟩, h4⟩, h5⟩ := h
      exact ps_imp (s_setx F h1 (bn h2) h3 h4) fun D σ H h => rs_setx (bn h5) h
    · cases h
  | .setr kk v, st, X, C, k, F, h => by
    unfold chkS at h
    split at h
    · rename_i i hr
      simp only [Bool.and_eq_true] at h
      obtain ⟨⟨⟨⟨h1, h2⟩, h3⟩, h4⟩, h5⟩ := h
      exact ps_imp (s_setx F h1 (bn h2) h3 h4) fun D σ H h => rs_setr (F.rs.trans hr) (bn h5) h
    · cases h
  | .set2 i k1 k2 e, st, X, C, k, F, h => by
    unfold chkS at h
    split at h
    · simp only [Bool.and_eq_true] at h
      obtain ⟨⟨⟨⟨⟨⟨⟨⟨h1, h2⟩, h3⟩, h4⟩, h5⟩, h6⟩, h7⟩, h8⟩, h9⟩ := h
      exact s_set2 F h1 h2 (bn h3) (bn h4) h5 h6 h7 (bn h8) h9
    · cases h
  | .augx i kk o v, st, X, C, k, F, h => by
    unfold chkS at h
    split at h
    · rename_i op _ _
      simp only [Bool.and_eq_true] at h
      obtain ⟨⟨⟨⟨⟨h1, h2⟩, h3⟩, h4⟩, h5⟩, h6⟩ := h
      cases o <;> first | (cases h1; done) | skip
      cases op <;> first | (cases h1; done) | skip
      exact s_augx F h2 (bn h3) h4 h5 (bn h6)
    · cases h
  | .aug i o e, st, X, C, k, F, h => by
    unfold chkS at h
    split at h
    · rename_i op _ _
      simp only [Bool.and_eq_true] at h
      obtain ⟨⟨⟨h1, h2⟩, h3⟩, h4⟩ := h
      cases o <;> first | (cases h1; done) | skip
      cases op <;> first | (cases h1; done) | skip
      exact s_aug F h2 h3 (F.rowNe h4)
    · cases h
  | .app i e, st, X, C, k, F, h => by
    unfold chkS at h
    split at h
    · simp only [Bool.and_eq_true, beq_iff_eq] at h
      obtain ⟨⟨⟨⟨⟨h1, h2⟩, h3⟩, h4⟩, h5⟩, h6⟩ := h
      subst h1
      exact s_app F h2 h3 h4 (bn h5) (by simpa using h6)
    · cases h
  | .pop t i, st, X, C, k, F, h => by
    unfold chkS at h
    split at h
    · simp only [Bool.and_eq_true, beq_iff_eq] at h
      obtain ⟨⟨⟨⟨h1, h2⟩, h3⟩, h4⟩, h5⟩ := h
      subst h1
      exact s_pop F h2 h3 (by simpa using h4) (F.rowNe h5)
    · cases h
  | .ex e, st, X, C, k, F, h => by
    unfold chkS at h
    split at h
    · simp only [Bool.and_eq_true] at h
      obtain ⟨⟨h1, h2⟩, h3⟩ := h
      exact ps_imp (ps_expr (sE e false _ X C k F.toFit h1) (sw_false h2 h3 _ _ _)) fun D σ H h => rs_ex h
    · cases h
  | .ite c a b, st, X, C, k, F, h => by
    unfold chkS at h
    split at h
    · simp only [Bool.and_eq_true] at h
      obtain ⟨⟨h1, h2⟩, h3⟩ := h
      exact ps_imp (ps_if (sE c true _ X C k F.toFit h1).1 (sSs a _ X C k F h2) (sSs b _ X C k F h3)) fun D σ H h => rs_ite h
    · cases h
  | .for_ t it body, st, X, C, k, F, h => by
    unfold chkS at h
    split at h
    · rename_i tg i B p
      simp only [Bool.and_eq_true] at h
      obtain ⟨⟨⟨⟨⟨h1, h2⟩, h3⟩, h4⟩, h5⟩, h6⟩ := h
      have hi := sI it tg i X C k F.toFit h1
      have hg := pg_text F.N F.nd F.calm F.loc t _ h3
      rw [F.K] at hg
      by_cases hk : notKeys it = true
      · have hi : PI X tg i (rdI C it) := by cases it <;> first | exact hi | cases hk
        exact ps_imp (ps_for F.pown F.calm hi hg (sSs body B X C k F h4) (noSet (bn h5) _)) fun D σ H h => rs_for (F.rowNes h6) h
      · have h2 : (isKL it && nrSs body) = true := by
          rw [Bool.or_eq_true] at h2
          exact h2.resolve_left hk
        rw [Bool.and_eq_true] at h2
        obtain ⟨j, rfl⟩ := isKL_eq h2.1
        have hi : PI X tg i (iKeysT (tVar j)) := hi
        have hbody : PSs X B (rdSX C body) := ⟨fun pins s σ H D I ⟨C2, sib, q⟩ => (sSs body B X C2 k (F.sib sib) h4).run pins s σ H D I q⟩
        have b := ps_for (pos := p) F.pown F.calm hi hg hbody (noSet (bn h5) _)
        exact ps_imp (ps_or2 b (ps_lock b)) fun D σ H h => rs_forK h2.2 (F.rowNes h6) h
    · cases h
  | .wh c body, st, X, C, k, F, h => by
    unfold chkS at h
    split at h
    · simp only [Bool.and_eq_true] at h
      exact ps_imp (ps_while F.pown (sE c true _ X C k F.toFit h.1).1 (sSs body _ X C k F h.2)) fun D σ H h => rs_wh h
    · cases h
  | .ret e, st, X, C, k, F, h => by
    unfold chkS at h
    split at h
    · simp only [Bool.and_eq_true] at h
      exact ps_imp (ps_ret (sE e false _ X C k F.toFit h.1)) fun D σ H q => rs_ret F.hra F.O0 (bn h.2) q
    · cases h
  | .retN, st, X, C, k, F, h => by
    unfold chkS at h
    split at h
    · exact ps_imp ps_retN fun D σ H q => rs_retN F.hra F.O0 q
    · cases h
  | .rais c es, st, X, C, k, F, h => s_rais F
theorem sSs : ∀ (ss : Ss) (l : List Stmt) (X : Cx) (C : Ctx) (k : Ck), FitS CX EW X C k → chkSs k ss l = true → PSs X l (rdSs C ss)
  | .nil, l, X, C, k, F, h => by
    unfold chkSs at h
    refine pss_skip ?_
    rw [List.isEmpty_iff.mp h]
    exact ⟨fun pins s σ H D I q => pss_nil.run pins s σ H D I (rs_nil q)⟩
  | .cons s ss, l, X, C, k, F, h => by
    unfold chkSs at h
    split at h
    · have ih := sSs ss l X C k F h
      exact ⟨fun pins s σ H D I q => ih.run pins s σ H D I (rs_frz q)⟩
    · split at h
      · rename_i st r hd
        rw [Bool.and_eq_true] at h
        have i1 := sS s st X C k F h.1
        have i2 := sSs ss r X C k F h.2
        refine pss_skip ?_
        rw [hd]
        exact ⟨fun pins s σ H D I q => (pss_cons i1 i2).run pins s σ H D I (rs_seq q)⟩
      · cases h
end
end
end PL

set_option Elab.async false
set_option linter.all false
set_option maxRecDepth 100000
set_option autoImplicit false
set_option maxHeartbeats 400000
namespace PL
open PySem PySem.Spec PyProof.Rows L2
/-! ### a def keeps its promise -/
structure Df where
  id : Nat
  x : Str
  st : Stmt
  N : List Str
  rs : Option Nat
  fd : Fd
def Df.ps (d : Df) : List Str := d.N.take d.fd.np
def kOf (co : List (Str × Int)) (fs : List ((Nat × Str) × Nat × Bool)) (d : Df) : Ck := ⟨d.N, (defScope d.st).names, d.rs, co, fs, d.fd.row⟩
def chkDf (co : List (Str × Int)) (fs : List ((Nat × Str) × Nat × Bool)) (d : Df) : Bool :=
  decide ((defScope d.st).kind = .function) && !(defScope d.st).isCoroutine && !(defScope d.st).isGenerator && decide d.N.Nodup && decide (d.ps.length = d.fd.np) &&
    d.ps.all (fun x => (defScope d.st).names.lookup x == some .local || (defScope d.st).names.lookup x == some .cell) && (defScope d.st).names.all (fun y => !(y.2 == .free)) &&
    decide (d.N.length = d.fd.ns) && decide (d.fd.np ≤ d.fd.ns) && (match d.rs with
    | some i => decide (i < d.fd.ns) && (if d.fd.row then decide (i = 0) && decide (0 < d.fd.np) else decide (d.fd.np ≤ i))
    | none => !d.fd.row) && chkSs (kOf co fs d) d.fd.body (defBody d.st)
structure DfOk (co : List (Str × Int)) (fs : List ((Nat × Str) × Nat × Bool)) (d : Df) : Prop where
  chk : chkDf co fs d = true
  bind : ∀ (kV doc pm : Value) (an : Option Addr) (cdv ct : Value) (us : List Value), us.length = d.ps.length → bindArgs (PySem.W.fnOf d.x d.x (defArgs d.st) (defBody d.st) (defScope d.st) .none kV doc pm an cdv ct) ⟨us, []⟩ = pure (d.ps.zip us)
theorem get_rep {n i : Nat} {x : Sl} (h : (List.replicate n Sl.no)[i]? = some x) : x = .no := by
  rw [List.getElem?_replicate] at h
  split at h
  · cases h; rfl
  · cases h
section
variable {C : Ctx} {Z H : Hp}
theorem start_get {N : List Str} {vs : List V} {i : Nat} {v : V} (h : vs[i]? = some v) : (start N vs)[i]? = some (some v) := by
  unfold L2.start
  have hl : i < (vs.map some).length := by rw [List.length_map]; exact (List.getElem?_eq_some_iff.mp h).1
  rw [List.getElem?_append_left hl, List.getElem?_map, h]; rfl
theorem start_none {N : List Str} {vs : List V} {i : Nat} (h1 : vs.length ≤ i) (h2 : i < N.length) : (start N vs)[i]? = some none := by
  unfold L2.start
  rw [List.getElem?_append_right (by rw [List.length_map]; exact h1), List.getElem?_replicate, List.length_map, if_pos (by omega)]
theorem start_len {N : List Str} {vs : List V} (h : vs.length ≤ N.length) : (start N vs).length = N.length := by
  unfold L2.start
  rw [List.length_append, List.length_map, List.length_replicate]; omega
/-- the frame at its entry, no row handed over -/
theorem startOk0 {N : List Str} {vs : List V} {ds : List D} {fd : Fd} (zh : SameF Z H) (rp : Reps C.K Z vs ds) (hrow : fd.row = false) (hn : N.length = fd.ns) (hv : vs.length = fd.np) (hp : fd.np ≤ fd.ns) (hra : C.ra = none)
    (hrs : ∀ i, C.rs = some i → fd.np ≤ i ∧ i < fd.ns) (e0 : C.O0 = RA C.ra) (e1 : C.Z0 = Z) (e2 : C.H0 = H) : StOk C Z H (start N vs) (startE fd ds) .non := by
  have hd : ds.length = fd.np := rp.length.symm.trans hv
  have es : startE fd ds = ds.map .fr ++ List.replicate (fd.ns - fd.np) .no := by unfold startE; rw [hrow]; rfl
  have get : ∀ (i : Nat) (x : Sl), (startE fd ds)[i]? = some x → (∃ d, x = .fr d ∧ ds[i]? = some d) ∨ (x = .no ∧ ds.length ≤ i) := fun i x h => by
    rw [es] at h
    by_cases hi : i < ds.length
    · rw [List.getElem?_append_left (by rw [List.length_map]; exact hi), List.getElem?_map] at h
      obtain ⟨d, h1, h2⟩ := Option.map_eq_some_iff.mp h
      exact .inl ⟨d, h2.symm, h1⟩
    · rw [List.getElem?_append_right (by rw [List.length_map]; omega)] at h
      exact .inr ⟨get_rep h, by omega⟩
  have noOw : ∀ (i : Nat) (d : D), (startE fd ds)[i]? ≠ some (.ow d) := fun i d h => by
    rcases get i _ h with ⟨_, q, _⟩ | ⟨q, _⟩ <;> cases q
  refine ⟨zh, ?_, fun i d h => ?_, fun i d h => absurd h (noOw i d), fun i j d d' a h => absurd h (noOw i d), fun i h => ?_, fun _ => rfl, ?_⟩
  · rw [start_len (by omega), es, List.length_append, List.length_map, List.length_replicate]; omega
  · rcases get i _ h with ⟨d', q, h1⟩ | ⟨q, _⟩
    · cases q
      obtain ⟨v, hv', rv⟩ := rp.get h1
      exact ⟨v, start_get hv', rv⟩
    · cases q
  · obtain ⟨h1, h2⟩ := hrs i h
    refine ⟨?_, .inl ⟨rfl, start_none (by omega) (by omega), hra⟩⟩
    rw [es, List.getElem?_append_right (by rw [List.length_map]; omega), List.getElem?_replicate, List.length_map, if_pos (by omega)]
  · rw [e0, e1, e2]
    refine ⟨Same.refl _, fun _ _ e _ => e, fun _ _ _ _ _ => rfl, fun _ _ e => ⟨_, e⟩, fun b h => ?_⟩
    rcases h with ⟨i, d, h1, _⟩ | ⟨i, h1, h2⟩
    · exact absurd h1 (noOw i d)
    · obtain ⟨h3, h4⟩ := hrs i h1
      rw [start_none (by omega) (by omega)] at h2; cases h2
/-- .. with a row -/
theorem startOk1 {N : List Str} {ws : List V} {ds : List D} {fd : Fd} {a : Addr} {r : D} (zh : SameF Z H) (rp : Reps C.K Z ws ds) (hrow : fd.row = true) (hn : N.length = fd.ns) (hv : ws.length + 1 = fd.np) (hp : fd.np ≤ fd.ns) (hra : C.ra = some a)
    (hrs : C.rs = some 0) (ok : rowOk r = true) (za : Z a = none) (ob : Ob C.K Z H a r) (e0 : C.O0 = RA C.ra) (e1 : C.Z0 = Z) (e2 : C.H0 = H) : StOk C Z H (start N (.ref a :: ws)) (startE fd ds) r := by
  have hd : ds.length + 1 = fd.np := by rw [← rp.length]; exact hv
  have es : startE fd ds = .no :: (ds.map .fr ++ List.replicate (fd.ns - fd.np) .no) := by unfold startE; rw [hrow]; rfl
  have get : ∀ (i : Nat) (x : Sl), (startE fd ds)[i]? = some x → (∃ d j, x = .fr d ∧ i = j + 1 ∧ ds[j]? = some d) ∨ x = .no := fun i x h => by
    rw [es] at h
    cases i with
    | zero => exact .inr (by simpa using h.symm)
    | succ i =>
      rw [List.getElem?_cons_succ] at h
      by_cases hi : i < ds.length
      · rw [List.getElem?_append_left (by rw [List.length_map]; exact hi), List.getElem?_map] at h
        obtain ⟨d, h1, h2⟩ := Option.map_eq_some_iff.mp h
        exact .inl ⟨d, i, h2.symm, rfl, h1⟩
      · rw [List.getElem?_append_right (by rw [List.length_map]; omega)] at h
        exact .inr (get_rep h)
  have noOw : ∀ (i : Nat) (d : D), (startE fd ds)[i]? ≠ some (.ow d) := fun i d h => by
    rcases get i _ h with ⟨_, _, q, _⟩ | q <;> cases q
  have s0 : (start N (.ref a :: ws))[0]? = some (some (.ref a)) := start_get rfl
  refine ⟨zh, ?_, fun i d h => ?_, fun i d h => absurd h (noOw i d), fun i j d d' a h => absurd h (noOw i d), fun i h => ?_, (fun q => by rw [hrs] at q; cases q), ?_⟩
  · rw [start_len (by rw [List.length_cons]; omega), es, List.length_cons, List.length_append, List.length_map, List.length_replicate]; omega
  · rcases get i _ h with ⟨d', j, q, q2, h1⟩ | q
    · cases q
      subst q2
      obtain ⟨v, hv', rv⟩ := rp.get h1
      exact ⟨v, start_get (by rw [List.getElem?_cons_succ]; exact hv'), rv⟩
    · cases q
  · rw [hrs] at h; cases h
    refine ⟨by rw [es]; rfl, .inr ⟨a, ok, s0, za, ob, (fun a0 q => by rw [hra] at q; cases q; rfl), fun j d q => absurd q (noOw j d)⟩⟩
  · rw [e0, e1, e2]
    refine ⟨Same.refl _, fun _ _ e _ => e, fun _ _ _ _ _ => rfl, fun _ _ e => ⟨_, e⟩, fun b h => ?_⟩
    rcases h with ⟨i, d, h1, _⟩ | ⟨i, h1, h2⟩
    · exact absurd h1 (noOw i d)
    · rw [hrs] at h1; cases h1
      rw [s0] at h2; cases h2
      exact .inl hra
end
end PL

set_option Elab.async false
set_option linter.all false
set_option maxRecDepth 100000
set_option autoImplicit false
set_option maxHeartbeats 400000
namespace PL
open PySem PySem.Spec PyProof.Rows L2
def EW0 : XK → Nat → D → Hp → Prop := fun _ _ _ _ => False
def bltL : List Str := ["isinstance", "list", "tuple", "range", "sorted", "len", "int", "abs", "max", "min", "sum", "enumerate", "zip", "bool", "str", "dict", "set"]
structure Hd (K : PySem.W.Frag) (mg : Str → Option Value) (co : List (Str × Int)) (fs : List ((Nat × Str) × Nat × Bool)) (ds : List Df) (G : List Fd) : Prop where
  fn : ∀ d ∈ ds, ∃ fa fdat, FunD K d.x d.x (defArgs d.st) (defBody d.st) (defScope d.st) [] [] fa fdat ∧ mg d.x = some (.ref fa)
  ok : ∀ d ∈ ds, DfOk co fs d
  g : ∀ d ∈ ds, G[d.id]? = some d.fd
  fs : ∀ f x np row, fs.lookup (f, x) = some (np, row) → ∃ d ∈ ds, d.id = f ∧ d.x = x ∧ d.fd.np = np ∧ d.fd.row = row
  bl : ∀ x ∈ bltL, mg x = none
  co : ∀ x i, co.lookup x = some i → ∃ u, mg x = some u ∧ RelV (.int i) u
section
variable {P : Program} {w : World} {K : PySem.W.Frag} {mg : Str → Option Value} {base : Heap} {co : List (Str × Int)} {fs : List ((Nat × Str) × Nat × Bool)} {ds : List Df} {G : List Fd}
def CallsOk (P : Program) (w : World) (K : PySem.W.Frag) (mg : Str → Option Value) (base : Heap) (ds : List Df) (G : List Fd) (n : Nat) : Prop :=
  ∀ d ∈ ds, ∃ fa fdat, FnOk P w K mg base CX0 n fa fdat d.ps (spD K EW0 (callD G n) d.id d.fd.row d.fd.np) ∧ mg d.x = some (.ref fa) ∧ PySem.W.keepIn K (.ref fa) = true ∧ Binds K fdat d.ps []
theorem fit_of (h : Hd K mg co fs ds G) {n : Nat} (ih : CallsOk P w K mg base ds G n) {d : Df} (hd : d ∈ ds) {C : Ctx} (hK : C.K = K) (hcl : C.cl = callD G n) (hrs : C.rs = d.rs) (hew : ∀ c x, ¬ C.ew c x) (hO : C.O0 = RA C.ra) (hra : ∀ a, C.ra = some a → ∃ i, C.rs = some i) (hn : d.fd.row = false → C.ra = none)
    {f : Addr} {cdv : Value} {A : Around} {outer : List Env} {s : Shared} {H : Hp} {E : XK} (hr : Room n (A.deeper (envOfC d.x (defScope d.st) s.heap.objs.size f cdv))) :
    FitS CX0 EW0 (cxOf CX0 P w K mg base d.N d.x (defScope d.st) f cdv A outer s H E).nox C (kOf co fs d) := by
  have ck := (h.ok d hd).chk
  unfold chkDf at ck
  simp only [Bool.and_eq_true, decide_eq_true_eq] at ck
  obtain ⟨⟨⟨⟨⟨⟨⟨⟨⟨⟨c1, c2⟩, c3⟩, c4⟩, c5⟩, c6⟩, c7⟩, c8⟩, c9⟩, c10⟩, c11⟩ := ck
  refine { K := hK.symm, N := rfl, nd := c4, calm := rfl, un := ?_, vis := fun x hx => ?_, loc := fun x hx => ?_, gl := fun x hx => ?_, blk := fun sc own hb => ?_, bl := h.bl, co := h.co, rs := hrs, lets := ⟨E0, fun c x O Z H _ q => (hew c x q).elim, pass0⟩, nev := fun _ _ _ _ _ q => q, call := fun g x np row hg => ?_, scn := rfl, kd := c1, pown := PassesOwn.never, O0 := hO, hra := hra, nra := hn, ew := hew }
  · have := hr.un
    show (A.deeper (envOfC d.x (defScope d.st) s.heap.objs.size f cdv)).units + 66 < cLine
    omega
  · unfold Ck.vis at hx
    simp only [Bool.and_eq_true, Bool.or_eq_true, beq_iff_eq] at hx
    rcases hx.1.1 with (q | q) | q
    · exact .inl q
    · exact .inr (.inl q)
    · exact .inr (.inr q)
  · unfold Ck.loc at hx
    simp only [Bool.or_eq_true, beq_iff_eq] at hx
    exact ⟨hx, .inl rfl⟩
  · unfold Ck.gl at hx
    rw [beq_iff_eq] at hx
    exact hx
  · have b := blkOk_by hb
    exact ⟨b.kind, b.uniq, b.ix, b.free, b.own⟩
  · obtain ⟨d2, m2, e1, e2, e3, e4⟩ := h.fs g x np row hg
    obtain ⟨fa, fdat, F, q1, q2, q3⟩ := ih d2 m2
    refine ⟨n, fa, fdat, d2.ps, ?_, hr, by rw [← e2]; exact q1, q2, q3⟩
    rw [hK, hcl, ← e1, ← e3, ← e4]
    exact F
theorem sp_len {cl : Cl} {f np : Nat} {row : Bool} {vs : List V} {H : Hp} {Q : VK} {E : XK} (h : spD K EW0 cl f row np vs H Q E) : vs.length = np := h.1
theorem ite_ok {α : Type} {c : Prop} [Decidable c] {x : R α} {a : α} (h : (if c then x else .no) = .ok a) : x = .ok a := by
  by_cases hc : c
  · rw [if_pos hc] at h; exact h
  · rw [if_neg hc] at h; cases h
/-- what a frame's body does -/
theorem body_run (h : Hd K mg co fs ds G) {n : Nat} {d : Df} (hd : d ∈ ds) (ih : CallsOk P w K mg base ds G n) {f : Addr} {cdv : Value} {A : Around} {outer : List Env} {s : Shared} {H : Hp} {vs : List V} {Q : VK} {E : XK}
    (hr : Room n (A.deeper (envOfC d.x (defScope d.st) s.heap.objs.size f cdv))) (hs : spD K EW0 (callD G (n + 1)) d.id d.fd.row d.fd.np vs H Q E) :
    ∃ t, PSs (cxOf CX0 P w K mg base d.N d.x (defScope d.st) f cdv A outer s H E).nox (defBody d.st) t ∧ t { nx := fun _ H' => Q .non H', rt := Q } (start d.N vs) H := by
  obtain ⟨hl, Z, xs, r, ra, zh, rin, hs⟩ := hs
  have ck := (h.ok d hd).chk
  unfold chkDf at ck
  simp only [Bool.and_eq_true, decide_eq_true_eq] at ck
  obtain ⟨⟨⟨⟨⟨⟨⟨⟨⟨⟨c1, c2⟩, c3⟩, c4⟩, c5⟩, c6⟩, c7⟩, c8⟩, c9⟩, c10⟩, c11⟩ := ck
  let C : Ctx := ⟨K, callD G n, d.rs, ra, fun _ _ => False, RA ra, Z, H⟩
  -- the entry
  have st : StOk C Z H (start d.N vs) (startE d.fd xs) r ∧ (∀ a, C.ra = some a → ∃ i, C.rs = some i) ∧ (d.fd.row = false → C.ra = none) := by
    cases ra with
    | none =>
      obtain ⟨e1, e2, rp⟩ := rin
      subst e2
      refine ⟨startOk0 (C := C) zh rp e1 c8 hl c9 rfl (fun i hi => ?_) rfl rfl rfl, (fun a q => by cases q), fun _ => rfl⟩
      have hi : d.rs = some i := hi
      rw [hi] at c10
      simp only [e1, Bool.and_eq_true, decide_eq_true_eq] at c10
      exact ⟨by simpa using c10.2, c10.1⟩
    | some a =>
      obtain ⟨e1, e2, za, ob, ws, rfl, rp⟩ := rin
      have hrs : d.rs = some 0 := by
        cases e : d.rs with
        | none => rw [e, e1] at c10; cases c10
        | some i =>
          rw [e] at c10
          simp only [e1, if_true, Bool.and_eq_true, decide_eq_true_eq] at c10
          rw [c10.2.1]
      refine ⟨startOk1 (C := C) zh rp e1 c8 hl c9 rfl hrs e2 za ob rfl rfl rfl, fun a _ => ⟨0, hrs⟩, fun q => by rw [e1] at q; cases q⟩
  obtain ⟨st, s2, s3⟩ := st
  have F := fit_of (f := f) (cdv := cdv) (A := A) (outer := outer) (s := s) (H := H) (E := E) h ih hd (C := C) rfl rfl rfl (fun _ _ q => q) rfl s2 s3 hr
  refine ⟨rdSs C d.fd.body, sSs d.fd.body _ _ C _ F c11, Z, startE d.fd xs, r, st, ?_⟩
  -- what the evaluator says
  unfold callD at hs
  rw [h.g d hd] at hs
  dsimp only at hs
  have cl0 : C.cl = callD G n := rfl
  rw [cl0]
  split at hs
  · rename_i z r' e
    obtain ⟨fl, e1, e2⟩ := bind_ok (ite_ok e)
    rw [e1]
    cases fl with
    | nx env' r2 =>
      cases e2
      intro σ' Z' H' s' x'
      have k := retOk (v := .non) (d := .non) s2 s' rfl .non
      exact hs .non Z' H' k.1 k.2.1 .non k.2.2.2
    | rt d2 r2 =>
      cases e2
      intro v Z' H' k
      exact hs v Z' H' k.1 k.2.1 k.2.2.1 k.2.2.2
  · exact hs.elim
  · exact hs.elim
theorem scope_of {d : Df} (ok : DfOk co fs d) : FnScope d.N d.ps (defScope d.st) := by
  have ck := ok.chk
  unfold chkDf at ck
  simp only [Bool.and_eq_true, decide_eq_true_eq] at ck
  obtain ⟨⟨⟨⟨⟨⟨⟨⟨⟨⟨c1, c2⟩, c3⟩, c4⟩, c5⟩, c6⟩, c7⟩, c8⟩, c9⟩, c10⟩, c11⟩ := ck
  refine ⟨c1, bn c2, bn c3, c4, ?_, fun x hx => ?_, fun y hy => ?_⟩
  · show d.N.take (d.N.take d.fd.np).length = d.N.take d.fd.np
    have : (d.N.take d.fd.np).length = d.fd.np := c5
    rw [this]
  · have := List.all_eq_true.mp c6 x hx
    simpa using this
  · have := List.all_eq_true.mp c7 y hy
    simpa using this
theorem calls_ok (h : Hd K mg co fs ds G) : ∀ n, CallsOk P w K mg base ds G n
  | 0 => fun d hd => by
    obtain ⟨fa, fdat, F, hm⟩ := h.fn d hd
    have ok := h.ok d hd
    refine ⟨fa, fdat, ⟨fun vs H Q E q => ?_, fun A outer s H args us vs Q E hr he hb hv q => ?_⟩, hm, F.kp, F.bindsN ok.bind⟩
    · obtain ⟨_, _, _, _, _, _, _, q⟩ := q
      exact q.elim
    · obtain ⟨_, _, _, _, _, _, _, q⟩ := q
      exact q.elim
  | n + 1 => fun d hd => by
    obtain ⟨fa, fdat, F, hm⟩ := h.fn d hd
    have ok := h.ok d hd
    have ih := calls_ok h n
    have ck := ok.chk
    unfold chkDf at ck
    simp only [Bool.and_eq_true, decide_eq_true_eq] at ck
    have hps : d.ps.length = d.fd.np := ck.1.1.1.1.1.1.2
    refine ⟨fa, fdat, F.ok (scope_of ok) (fun vs H Q E q => (sp_len q).trans hps.symm) (fun cdv A outer s H vs Q E hr q => ?_), hm, F.kp, F.bindsN ok.bind⟩
    obtain ⟨t, h1, h2⟩ := body_run (outer := outer) h hd ih hr q
    exact ⟨t, PSs.nox h1, h2⟩
end
end PL

set_option Elab.async false
set_option linter.all false
set_option maxRecDepth 100000
set_option autoImplicit false
set_option maxHeartbeats 400000
namespace PL
open PySem PySem.Spec PyProof.Rows L2
/-! ### what the head tells -/
def toDD (d : Df) : He.DefD := ⟨(d.x, none), d.x, d.x, defArgs d.st, defBody d.st, defScope d.st, [], []⟩
def faOf (ds : List Df) (co : List (Str × Int)) : List He.Fa := ds.map (fun d => .glo d.x) ++ (bltL.map .free ++ co.map fun p => .int p.1 p.2)
def BindOk (d : Df) : Prop := ∀ (kV doc pm : Value) (an : Option Addr) (cdv ct : Value) (us : List Value), us.length = d.ps.length → bindArgs (PySem.W.fnOf d.x d.x (defArgs d.st) (defBody d.st) (defScope d.st) .none kV doc pm an cdv ct) ⟨us, []⟩ = pure (d.ps.zip us)
theorem fm {α : Type} {p : α → Prop} {a : α} {l : List α} (h : p a) (t : ∀ x ∈ l, p x) : ∀ x ∈ a :: l, p x := fun x hx => by
  rcases List.mem_cons.mp hx with rfl | hx
  · exact h
  · exact t x hx
theorem fm0 {α : Type} {p : α → Prop} : ∀ x ∈ ([] : List α), p x := fun x hx => by cases hx
theorem hd_of {K : PySem.W.Frag} {h : Heap} {mg : Str → Option Value} {ds : List Df} {co : List (Str × Int)} {fs : List ((Nat × Str) × Nat × Bool)} {G : List Fd} (c : He.SaysD (faOf ds co) (ds.map toDD) K) (KX : K.In h) (N : h.Ns mainGlobals mg)
    (ck : ds.all (chkDf co fs) = true) (bd : ∀ d ∈ ds, BindOk d) (hg : (ds.all fun d => match G[d.id]? with
      | some _ => true
      | none => false) = true) (hG : ∀ d ∈ ds, G[d.id]? = some d.fd)
    (hfs : ∀ f x np row, fs.lookup (f, x) = some (np, row) → ∃ d ∈ ds, d.id = f ∧ d.x = x ∧ d.fd.np = np ∧ d.fd.row = row) : Hd K mg co fs ds G where
  fn := fun d hd => by
    obtain ⟨i, hi⟩ := List.mem_iff_getElem?.mp hd
    obtain ⟨fd, F⟩ := c.def_ i (d := toDD d) (by rw [List.getElem?_map, hi]; rfl)
    have e := He.glo_ok KX N (c.fact i (f := .glo d.x) (by
      unfold faOf
      have hl : i < (ds.map fun d => He.Fa.glo d.x).length := by rw [List.length_map]; exact (List.getElem?_eq_some_iff.mp hi).1
      rw [List.getElem?_append_left hl, List.getElem?_map, hi]; rfl))
    exact ⟨_, fd, F, e⟩
  ok := fun d hd => ⟨List.all_eq_true.mp ck d hd, bd d hd⟩
  g := hG
  fs := hfs
  bl := fun x hx => by
    obtain ⟨i, hi⟩ := List.mem_iff_getElem?.mp hx
    exact He.free_ok KX N (c.fact (ds.length + i) (f := .free x) (by
      unfold faOf
      rw [List.getElem?_append_right (by rw [List.length_map]; omega), List.length_map]
      have hl : ds.length + i - ds.length < (bltL.map He.Fa.free).length := by rw [List.length_map]; have := (List.getElem?_eq_some_iff.mp hi).1; omega
      rw [List.getElem?_append_left hl, List.getElem?_map]
      have : ds.length + i - ds.length = i := by omega
      rw [this, hi]; rfl))
  co := fun x v hx => by
    have mem : (x, v) ∈ co := by
      clear ck c hfs bd hg hG
      induction co with
      | nil => cases hx
      | cons p t ih =>
        obtain ⟨a, b⟩ := p
        rw [List.lookup_cons] at hx
        cases e : x == a with
        | true =>
          rw [e] at hx
          have : x = a := by simpa using e
          cases hx
          rw [this]; exact List.mem_cons_self
        | false => rw [e] at hx; exact List.mem_cons_of_mem _ (ih hx)
    obtain ⟨i, hi⟩ := List.mem_iff_getElem?.mp mem
    obtain ⟨t, ht⟩ := He.int_ok KX N (c.fact (ds.length + (bltL.length + i)) (f := .int x v) (by
      unfold faOf
      rw [List.getElem?_append_right (by rw [List.length_map]; omega), List.length_map, List.getElem?_append_right (by rw [List.length_map]; omega), List.length_map]
      have : ds.length + (bltL.length + i) - ds.length - bltL.length = i := by omega
      rw [List.getElem?_map, this, hi]; rfl))
    exact ⟨_, ht, t, rfl⟩
end PL

set_option Elab.async false
set_option linter.all false
set_option maxRecDepth 100000
set_option autoImplicit false
set_option maxHeartbeats 400000
namespace PL
open PySem PySem.Spec PyProof.Rows L2
/-! ### a law's end -/
def isT : R (D × D) → Bool
  | .ok (.bl b, _) => b
  | _ => false
theorem isT_ok {x : R (D × D)} (h : isT x = true) : ∃ r, x = .ok (.bl true, r) := by
  cases x with
  | ok p =>
    obtain ⟨d, r⟩ := p
    cases d with
    | bl b =>
      have h : b = true := h
      subst h; exact ⟨r, rfl⟩
    | _ => cases h
  | _ => cases h
theorem lookup_mem {α β : Type} [BEq α] [LawfulBEq α] {a : α} {b : β} : ∀ {l : List (α × β)}, l.lookup a = some b → (a, b) ∈ l
  | [], h => by cases h
  | (x, y) :: l, h => by
    rw [List.lookup_cons] at h
    cases e : a == x with
    | true =>
      rw [e] at h
      have : a = x := by simpa using e
      cases h
      rw [this]; exact List.mem_cons_self
    | false => rw [e] at h; exact List.mem_cons_of_mem _ (lookup_mem h)
theorem fs_of {ds : List Df} {fs : List ((Nat × Str) × Nat × Bool)} (h : (fs.all fun p => ds.any fun d => d.id == p.1.1 && d.x == p.1.2 && d.fd.np == p.2.1 && d.fd.row == p.2.2) = true) :
    ∀ f x np row, fs.lookup (f, x) = some (np, row) → ∃ d ∈ ds, d.id = f ∧ d.x = x ∧ d.fd.np = np ∧ d.fd.row = row := fun f x np row e => by
  have := List.all_eq_true.mp h _ (lookup_mem e)
  obtain ⟨d, hd, q⟩ := List.any_eq_true.mp this
  simp only [Bool.and_eq_true, beq_iff_eq] at q
  exact ⟨d, hd, q.1.1.1, q.1.1.2, q.1.2, q.2⟩
section
variable {P : Program} {w : World} {K : PySem.W.Frag} {mg : Str → Option Value} {co : List (Str × Int)} {fs : List ((Nat × Str) × Nat × Bool)} {ds : List Df} {G : List Fd}
theorem law_fn (h : Hd K mg co fs ds G) {d : Df} (hd : d ∈ ds) (n : Nat) : ∃ fa fdat, mg d.x = some (.ref fa) ∧ (∀ (s : Shared) (us : List Value), us.length = d.ps.length → BindsTo s fdat ⟨us, []⟩ (d.ps.zip us)) ∧
    ∀ base : Heap, FnOk P w K mg base CX0 (n + 1) fa fdat d.ps (spD K EW0 (callD G (n + 1)) d.id d.fd.row d.fd.np) := by
  obtain ⟨fa, fdat, F, hm⟩ := h.fn d hd
  have ok := h.ok d hd
  refine ⟨fa, fdat, hm, fun s us hl => FunD.bindsA F ok.bind s us hl, fun base => ?_⟩
  have ih := calls_ok (P := P) (w := w) (base := base) h n
  have ck := ok.chk
  unfold chkDf at ck
  simp only [Bool.and_eq_true, decide_eq_true_eq] at ck
  have hps : d.ps.length = d.fd.np := ck.1.1.1.1.1.1.2
  refine F.ok (scope_of ok) (fun vs H Q E q => (sp_len q).trans hps.symm) (fun cdv A outer s H vs Q E hr q => ?_)
  obtain ⟨t, h1, h2⟩ := body_run (outer := outer) h hd ih hr q
  exact ⟨t, PSs.nox h1, h2⟩
end
theorem law_sp {K : PySem.W.Frag} {G : List Fd} {n f : Nat} {H : Hp} {a : Addr} {ns : List Int} (hS : SqL K H a (ns.map V.int)) (h : isT (callD G n f .non [.scr ns]) = true) :
    spD K EW0 (callD G n) f false 1 [.ref a] H (fun v _ => v = .bl true) fun _ _ _ => False := by
  obtain ⟨r, e⟩ := isT_ok h
  refine ⟨rfl, H, [.scr ns], .non, none, SameF.of (Same.refl H), ⟨rfl, rfl, .cons (.scr hS) .nil⟩, ?_⟩
  rw [e]
  intro v Z' H' _ _ rep _
  cases rep; rfl
/-- the call of the law -/
theorem pl_walk {l : PySem.W.OpenLaw} {q : Program} {loose : List Str} {XP : (Str → Option Value) → Heap → Prop} {d : DefRec} {ds : List Df} {co : List (Str × Int)} {fs : List ((Nat × Str) × Nat × Bool)} {G : List Fd} {dl : Df} {n b : Nat} {x : Str}
    (hl : l.most = some 63) (hdf : d.params.defaults = []) (hr : Room (n + 1) callerA) (hdl : dl ∈ ds) (hx : dl.ps = [x]) (hnm : d.name = dl.x) (hrow : dl.fd.row = false) (hnp : dl.fd.np = 1)
    (ck : ds.all (chkDf co fs) = true) (bd : ∀ d ∈ ds, BindOk d) (hG : ∀ d ∈ ds, G[d.id]? = some d.fd) (hfs : (fs.all fun p => ds.any fun d => d.id == p.1.1 && d.x == p.1.2 && d.fd.np == p.2.1 && d.fd.row == p.2.2) = true)
    (law : ∀ ns : List Int, ns.length ≤ 63 → isT (callD G (n + 1) dl.id .non [.scr ns]) = true) :
    PySem.W.WalkO q loose XP (He.hookD b (faOf ds co) (ds.map toDD)).says l.row.toRowW d [] (fun f vs => PySem.call f vs) := by
  refine L2.walk_ofE (l := l) (n := 63) (k := n + 1) (x := x) (CX := L2.CX0) hl (by decide) hdf hr ?_ (fun _ _ _ _ z => z)
  intro w mg fa h Y N hmg
  obtain ⟨K, KX, c⟩ := Y
  have hh : Hd K mg co fs ds G := hd_of c KX N ck bd (List.all_eq_true.mpr fun d hd => by rw [hG d hd]) hG (fs_of hfs)
  obtain ⟨fa', fdat, h1, h2, h3⟩ := law_fn (P := l.prog) (w := w) hh hdl n
  rw [hnm, h1] at hmg
  cases hmg
  refine ⟨K, fdat, spD K EW0 (callD G (n + 1)) dl.id dl.fd.row dl.fd.np, KX, fun s u => ?_, fun H a ns hlen _ hS => ?_, fun base _ _ => ?_⟩
  · have := h2 s [u] (by rw [hx]; rfl)
    rw [hx] at this
    exact this
  · rw [hrow, hnp]
    exact law_sp hS (law ns hlen)
  · have := h3 base
    rw [hx] at this
    exact this
end PL

set_option Elab.async false
set_option linter.all false
set_option maxRecDepth 1000000
set_option maxHeartbeats 0
namespace PL
open PySem
def c_is_in : Fd := ⟨3, 3, false,
 (.cons (.ret (.and (.bi (.isi [.int]) (.cons (.loc 0) .nil)) (.and (.not (.bi (.isi [.bool]) (.cons (.loc 0) .nil))) (.chain .le .le (.loc 1) (.loc 0) (.loc 2)))))
 .nil)⟩
def c_is_rule : Fd := ⟨2, 3, false,
 (.cons (.ite (.or (.not (.bi (.isi [.tuple]) (.cons (.loc 0) .nil))) (.or (.cmp .ne (.bi .len (.cons (.loc 0) .nil)) (.cst (.int 4))) (.cmp .ne (.lc (.loc 2) (.nm 2) (.seq (.loc 0)) (.cons (.not (.call 0 (.cons (.loc 2) (.cons (.cst (.int 0)) (.cons (.bin .sub (.loc 1) (.cst (.int 1))) .nil))))) .nil) [2]) (.lst .nil)))) (.cons (.ret (.cst (.bl false)))
 .nil) .nil)
 (.cons (.ite (.or (.cmp .gt (.ix (.loc 0) (.cst (.int 0))) (.ix (.loc 0) (.cst (.int 1)))) (.and (.cmp .eq (.ix (.loc 0) (.cst (.int 0))) (.ix (.loc 0) (.cst (.int 1)))) (.cmp .gt (.ix (.loc 0) (.cst (.int 2))) (.ix (.loc 0) (.cst (.int 3)))))) (.cons (.ret (.cst (.bl false)))
 .nil) .nil)
 (.cons (.ret (.cmp .ne (.sl (.loc 0) false (.cst .non) true (.cst (.int 2))) (.sl (.loc 0) true (.cst (.int 2)) false (.cst .non))))
 .nil)))⟩
def c_need_table : Fd := ⟨1, 3, false,
 (.cons (.ite (.or (.not (.bi (.isi [.tuple]) (.cons (.loc 0) .nil))) (.or (.cmp .ne (.bi .len (.cons (.loc 0) .nil)) (.cst (.int 2))) (.not (.call 0 (.cons (.ix (.loc 0) (.cst (.int 0))) (.cons (.cst (.int 1)) (.cons (.cst (.int 5)) .nil))))))) (.cons (.rais 1 (.cons (.cst .non) .nil))
 .nil) .nil)
 (.cons (.ite (.or (.not (.bi (.isi [.tuple]) (.cons (.ix (.loc 0) (.cst (.int 1))) .nil))) (.cmp .gt (.bi .len (.cons (.ix (.loc 0) (.cst (.int 1))) .nil)) (.cst (.int 20)))) (.cons (.rais 1 (.cons (.cst .non) .nil))
 .nil) .nil)
 (.cons (.for_ (.tp [(.nm 1), (.nm 2)]) (.enum (.ix (.loc 0) (.cst (.int 1)))) (.cons (.ite (.or (.not (.call 1 (.cons (.loc 2) (.cons (.ix (.loc 0) (.cst (.int 0))) .nil)))) (.and (.cmp .gt (.loc 1) (.cst (.int 0))) (.cmp .le (.loc 2) (.ix (.ix (.loc 0) (.cst (.int 1))) (.bin .sub (.loc 1) (.cst (.int 1))))))) (.cons (.rais 1 (.cons (.loc 1) .nil))
 .nil) .nil)
 .nil))
 .nil)))⟩
def c_need_pair : Fd := ⟨2, 3, false,
 (.cons (.ite (.or (.not (.bi (.isi [.tuple]) (.cons (.loc 1) .nil))) (.or (.cmp .ne (.bi .len (.cons (.loc 1) .nil)) (.cst (.int 2))) (.cmp .ne (.lc (.loc 2) (.nm 2) (.seq (.loc 1)) (.cons (.not (.call 0 (.cons (.loc 2) (.cons (.cst (.int 0)) (.cons (.bin .sub (.ix (.loc 0) (.cst (.int 0))) (.cst (.int 1))) .nil))))) .nil) [2]) (.lst .nil)))) (.cons (.rais 2 .nil)
 .nil) .nil)
 .nil)⟩
def c_results_in : Fd := ⟨2, 7, false,
 (.cons (.own 2 .emp)
 (.cons (.for_ (.tp [(.nm 3), (.nm 4), (.nm 5), (.nm 6)]) (.seq (.ix (.loc 0) (.cst (.int 1)))) (.cons (.ite (.cmp .eq (.tup (.cons (.loc 3) (.cons (.loc 4) .nil))) (.loc 1)) (.cons (.setx 2 (.tup (.cons (.loc 5) (.cons (.loc 6) .nil))) (.cst (.bl true)))
 .nil) .nil)
 (.cons (.ite (.cmp .eq (.tup (.cons (.loc 4) (.cons (.loc 3) .nil))) (.loc 1)) (.cons (.setx 2 (.tup (.cons (.loc 6) (.cons (.loc 5) .nil))) (.cst (.bl true)))
 .nil) .nil)
 .nil)))
 (.cons (.ret (.bi .skeys (.cons (.bor 2) .nil)))
 .nil)))⟩
def c_results : Fd := ⟨2, 2, false,
 (.cons (.ex (.call 2 (.cons (.loc 0) .nil)))
 (.cons (.ex (.call 3 (.cons (.loc 0) (.cons (.loc 1) .nil))))
 (.cons (.ret (.bi .tuple (.cons (.call 4 (.cons (.loc 0) (.cons (.loc 1) .nil))) .nil)))
 .nil)))⟩
def c_as_rule : Fd := ⟨2, 2, false,
 (.cons (.ite (.cmp .gt (.ix (.loc 0) (.cst (.int 0))) (.ix (.loc 0) (.cst (.int 1)))) (.cons (.asgP [(0, false), (1, false)] (.cons (.rev (.loc 0)) (.cons (.rev (.loc 1)) .nil)))
 .nil) .nil)
 (.cons (.ite (.and (.cmp .eq (.ix (.loc 0) (.cst (.int 0))) (.ix (.loc 0) (.cst (.int 1)))) (.cmp .gt (.ix (.loc 1) (.cst (.int 0))) (.ix (.loc 1) (.cst (.int 1))))) (.cons (.asg 1 (.rev (.loc 1)))
 .nil) .nil)
 (.cons (.ret (.bin .add (.loc 0) (.loc 1)))
 .nil)))⟩
def c_renamed : Fd := ⟨2, 8, false,
 (.cons (.ex (.call 2 (.cons (.loc 0) .nil)))
 (.cons (.ite (.or (.not (.bi (.isi [.tuple]) (.cons (.loc 1) .nil))) (.cmp .ne (.lc (.loc 2) (.nm 2) (.seq (.loc 1)) (.cons (.not (.call 0 (.cons (.loc 2) (.cons (.cst (.int 0)) (.cons (.bin .sub (.ix (.loc 0) (.cst (.int 0))) (.cst (.int 1))) .nil))))) .nil) [2]) (.lst .nil))) (.cons (.rais 7 .nil)
 .nil) .nil)
 (.cons (.ite (.cmp .ne (.bi .sorted (.cons (.loc 1) .nil)) (.bi .rgl1 (.cons (.ix (.loc 0) (.cst (.int 0))) .nil))) (.cons (.rais 7 .nil)
 .nil) .nil)
 (.cons (.asg 3 (.lc (.call 6 (.cons (.tup (.cons (.ix (.loc 1) (.loc 4)) (.cons (.ix (.loc 1) (.loc 5)) .nil))) (.cons (.tup (.cons (.ix (.loc 1) (.loc 6)) (.cons (.ix (.loc 1) (.loc 7)) .nil))) .nil))) (.tp [(.nm 4), (.nm 5), (.nm 6), (.nm 7)]) (.seq (.ix (.loc 0) (.cst (.int 1)))) .nil [4, 5, 6, 7]))
 (.cons (.ret (.tup (.cons (.ix (.loc 0) (.cst (.int 0))) (.cons (.bi .tuple (.cons (.bi .sorted (.cons (.loc 3) .nil)) .nil)) .nil))))
 .nil)))))⟩
def c_joined : Fd := ⟨2, 3, false,
 (.cons (.ex (.call 2 (.cons (.loc 0) .nil)))
 (.cons (.ex (.call 2 (.cons (.loc 1) .nil)))
 (.cons (.asg 2 (.bi .tuple (.cons (.bi .sset (.cons (.bin .add (.ix (.loc 0) (.cst (.int 1))) (.ix (.loc 1) (.cst (.int 1)))) .nil)) .nil)))
 (.cons (.ite (.cmp .gt (.bi .len (.cons (.loc 2) .nil)) (.cst (.int 20))) (.cons (.rais 15 (.cons (.cst (.int 20)) .nil))
 .nil) .nil)
 (.cons (.ret (.tup (.cons (.bi .max2 (.cons (.ix (.loc 0) (.cst (.int 0))) (.cons (.ix (.loc 1) (.cst (.int 0))) .nil))) (.cons (.loc 2) .nil))))
 .nil)))))⟩
def c_without_rule : Fd := ⟨2, 3, false,
 (.cons (.ex (.call 2 (.cons (.loc 0) .nil)))
 (.cons (.ret (.tup (.cons (.ix (.loc 0) (.cst (.int 0))) (.cons (.bi .tuple (.cons (.lc (.loc 2) (.nm 2) (.seq (.ix (.loc 0) (.cst (.int 1)))) (.cons (.cmp .ne (.loc 2) (.loc 1)) .nil) [2]) .nil)) .nil))))
 .nil))⟩
def c_l_taken : Fd := ⟨2, 4, true,
 (.cons (.ite (.cmp .gt (.ix .rw (.cst (.int 3))) (.cst (.int 0))) (.cons (.asg 2 (.bin .mod (.bi .int (.cons (.ix .rw (.cst (.int 3))) .nil)) (.loc 1)))
 (.cons (.setr (.cst (.int 3)) (.bin .fdiv (.ix .rw (.cst (.int 3))) (.loc 1)))
 (.cons (.ret (.loc 2))
 .nil))) .nil)
 (.cons (.setr (.cst (.int 1)) (.bin .add (.ix .rw (.cst (.int 1))) (.cst (.int 1))))
 (.cons (.ite (.cmp .gt (.ix .rw (.cst (.int 1))) (.bi .len (.cons (.ix .rw (.cst (.int 0))) .nil))) (.cons (.setr (.cst (.int 2)) (.bin .mod (.bi .int (.cons (.bin .add (.bin .mul (.ix .rw (.cst (.int 2))) (.cst (.int 48271))) (.cst (.int 11))) .nil)) (.cst (.int 2147483647))))
 (.cons (.ret (.bin .mod (.bi .int (.cons (.bin .fdiv (.ix .rw (.cst (.int 2))) (.cst (.int 7))) .nil)) (.loc 1)))
 .nil)) .nil)
 (.cons (.asg 3 (.ix (.ix .rw (.cst (.int 0))) (.bin .sub (.ix .rw (.cst (.int 1))) (.cst (.int 1)))))
 (.cons (.setr (.cst (.int 2)) (.bin .mod (.bi .int (.cons (.bin .add (.bin .add (.bin .mul (.ix .rw (.cst (.int 2))) (.cst (.int 48271))) (.loc 3)) (.cst (.int 11))) .nil)) (.cst (.int 2147483647))))
 (.cons (.ite (.cmp .ge (.loc 3) (.bin .pow (.cst (.int 10)) (.cst (.int 18)))) (.cons (.setr (.cst (.int 3)) (.bin .fdiv (.loc 3) (.loc 1)))
 .nil) .nil)
 (.cons (.ret (.bin .mod (.bi .int (.cons (.loc 3) .nil)) (.loc 1)))
 .nil)))))))⟩
def c_l_order : Fd := ⟨2, 6, true,
 (.cons (.asgP [(2, false), (3, true)] (.cons (.bi .rgl1 (.cons (.loc 1) .nil)) (.cons (.lst .nil) .nil)))
 (.cons (.for_ (.nm 4) (.rng1 (.loc 1)) (.cons (.asg 5 (.callr 10 (.cons (.bi .len (.cons (.loc 2) .nil)) .nil)))
 (.cons (.app 3 (.ix (.loc 2) (.loc 5)))
 (.cons (.asg 2 (.bin .add (.sl (.loc 2) false (.cst .non) true (.loc 5)) (.sl (.loc 2) true (.bin .add (.loc 5) (.cst (.int 1))) false (.cst .non))))
 .nil))))
 (.cons (.frz [3])
 (.cons (.ret (.loc 3))
 .nil))))⟩
def c_l_rule : Fd := ⟨2, 4, false,
 (.cons (.asgP [(2, false), (3, false)] (.cons (.tup (.cons (.ix (.loc 0) (.cst (.int 0))) (.cons (.ix (.loc 0) (.cst (.int 1))) .nil))) (.cons (.tup (.cons (.ix (.loc 1) (.cst (.int 0))) (.cons (.ix (.loc 1) (.cst (.int 1))) .nil))) .nil)))
 (.cons (.ite (.or (.cmp .gt (.ix (.loc 2) (.cst (.int 0))) (.ix (.loc 2) (.cst (.int 1)))) (.and (.cmp .eq (.ix (.loc 2) (.cst (.int 0))) (.ix (.loc 2) (.cst (.int 1)))) (.cmp .gt (.ix (.loc 3) (.cst (.int 0))) (.ix (.loc 3) (.cst (.int 1)))))) (.cons (.asgP [(2, false), (3, false)] (.cons (.tup (.cons (.ix (.loc 2) (.cst (.int 1))) (.cons (.ix (.loc 2) (.cst (.int 0))) .nil))) (.cons (.tup (.cons (.ix (.loc 3) (.cst (.int 1))) (.cons (.ix (.loc 3) (.cst (.int 0))) .nil))) .nil)))
 .nil) .nil)
 (.cons (.ret (.bin .add (.loc 2) (.loc 3)))
 .nil)))⟩
def c_l_table : Fd := ⟨2, 11, true,
 (.cons (.asgP [(2, false), (3, false), (4, true)] (.cons (.bin .add (.cst (.int 2)) (.callr 10 (.cons (.bin .sub (.loc 1) (.cst (.int 1))) .nil))) (.cons (.callr 10 (.cons (.cst (.int 5)) .nil)) (.cons .emp .nil))))
 (.cons (.asg 5 (.callr 11 (.cons (.loc 2) .nil)))
 (.cons (.for_ (.nm 6) (.rng1 (.bin .add (.cst (.int 1)) (.callr 10 (.cons (.cst (.int 4)) .nil)))) (.cons (.asg 7 (.tup (.cons (.callr 10 (.cons (.loc 2) .nil)) (.cons (.callr 10 (.cons (.loc 2) .nil)) .nil))))
 (.cons (.asg 8 (.tup (.cons (.callr 10 (.cons (.loc 2) .nil)) (.cons (.callr 10 (.cons (.loc 2) .nil)) .nil))))
 (.cons (.ite (.cmp .eq (.loc 3) (.cst (.int 0))) (.cons (.asg 9 (.bi .max2 (.cons (.ix (.loc 5) (.ix (.loc 7) (.cst (.int 0)))) (.cons (.ix (.loc 5) (.ix (.loc 7) (.cst (.int 1)))) .nil))))
 (.cons (.asg 8 (.tup (.cons (.bi .index (.cons (.loc 5) (.cons (.loc 9) .nil))) (.cons (.bi .index (.cons (.loc 5) (.cons (.loc 9) .nil))) .nil))))
 .nil)) .nil)
 (.cons (.ite (.cmp .eq (.loc 3) (.cst (.int 1))) (.cons (.asg 8 (.tup (.cons (.ix (.loc 7) (.cst (.int 0))) (.cons (.bi .min2 (.cons (.ix (.loc 7) (.cst (.int 0))) (.cons (.ix (.loc 8) (.cst (.int 0))) .nil))) .nil))))
 .nil) .nil)
 (.cons (.ite (.and (.cmp .eq (.loc 3) (.cst (.int 2))) (.cmp .gt (.bin .add (.ix (.loc 5) (.ix (.loc 8) (.cst (.int 0)))) (.ix (.loc 5) (.ix (.loc 8) (.cst (.int 1))))) (.bin .add (.ix (.loc 5) (.ix (.loc 7) (.cst (.int 0)))) (.ix (.loc 5) (.ix (.loc 7) (.cst (.int 1))))))) (.cons (.asgP [(7, false), (8, false)] (.cons (.loc 8) (.cons (.loc 7) .nil)))
 .nil) .nil)
 (.cons (.asg 10 (.call 12 (.cons (.loc 7) (.cons (.loc 8) .nil))))
 (.cons (.ite (.cmp .ne (.sl (.loc 10) false (.cst .non) true (.cst (.int 2))) (.sl (.loc 10) true (.cst (.int 2)) false (.cst .non))) (.cons (.setx 4 (.loc 10) (.cst (.bl true)))
 .nil) .nil)
 .nil))))))))
 (.cons (.ret (.tup (.cons (.loc 2) (.cons (.bi .tuple (.cons (.bi .skeys (.cons (.bor 4) .nil)) .nil)) .nil))))
 .nil))))⟩
def c_l_alike : Fd := ⟨2, 3, false,
 (.cons (.ite (.bi (.isi [.tuple, .list]) (.cons (.loc 1) .nil)) (.cons (.ite (.or (.not (.bi (.isi [.tuple, .list]) (.cons (.loc 0) .nil))) (.cmp .ne (.bi (.isi [.list]) (.cons (.loc 0) .nil)) (.bi (.isi [.list]) (.cons (.loc 1) .nil)))) (.cons (.ret (.cst (.bl false)))
 .nil) .nil)
 (.cons (.ite (.cmp .ne (.bi .len (.cons (.loc 0) .nil)) (.bi .len (.cons (.loc 1) .nil))) (.cons (.ret (.cst (.bl false)))
 .nil) .nil)
 (.cons (.ret (.cmp .eq (.lc (.loc 2) (.nm 2) (.rng1 (.bi .len (.cons (.loc 1) .nil))) (.cons (.not (.call 14 (.cons (.ix (.loc 0) (.loc 2)) (.cons (.ix (.loc 1) (.loc 2)) .nil)))) .nil) [2]) (.lst .nil)))
 .nil))) .nil)
 (.cons (.ite (.or (.cmp .is_ (.loc 1) (.cst .non)) (.bi (.isi [.str]) (.cons (.loc 1) .nil))) (.cons (.ret (.and (.cmp .eq (.loc 0) (.loc 1)) (.cmp .eq (.bi (.isi [.str]) (.cons (.loc 0) .nil)) (.bi (.isi [.str]) (.cons (.loc 1) .nil)))))
 .nil) .nil)
 (.cons (.ret (.and (.bi (.isi [.int]) (.cons (.loc 0) .nil)) (.and (.cmp .eq (.bi (.isi [.bool]) (.cons (.loc 0) .nil)) (.bi (.isi [.bool]) (.cons (.loc 1) .nil))) (.cmp .eq (.loc 0) (.loc 1)))))
 .nil)))⟩
def c_l_results : Fd := ⟨2, 7, false,
 (.cons (.own 2 .emp)
 (.cons (.for_ (.tp [(.nm 3), (.nm 4), (.nm 5), (.nm 6)]) (.seq (.ix (.loc 0) (.cst (.int 1)))) (.cons (.ite (.cmp .eq (.loc 1) (.tup (.cons (.loc 3) (.cons (.loc 4) .nil)))) (.cons (.setx 2 (.tup (.cons (.loc 5) (.cons (.loc 6) .nil))) (.cst (.bl true)))
 .nil) .nil)
 (.cons (.ite (.cmp .eq (.loc 1) (.tup (.cons (.loc 4) (.cons (.loc 3) .nil)))) (.cons (.setx 2 (.tup (.cons (.loc 6) (.cons (.loc 5) .nil))) (.cst (.bl true)))
 .nil) .nil)
 .nil)))
 (.cons (.ret (.bi .skeys (.cons (.bor 2) .nil)))
 .nil)))⟩
def c_l_pick : Fd := ⟨2, 2, true,
 (.cons (.ret (.ix (.loc 1) (.callr 10 (.cons (.bi .len (.cons (.loc 1) .nil)) .nil))))
 .nil)⟩
def c_write_table : Fd := ⟨1, 6, false,
 (.cons (.ex (.call 2 (.cons (.loc 0) .nil)))
 (.cons (.asg 1 (.lc (.bin .add (.bin .add (.bin .add (.bin .add (.bi .str (.cons (.loc 2) .nil)) (.bi .str (.cons (.loc 3) .nil))) (.cst (.str (PySem.Str.ofString ">")))) (.bi .str (.cons (.loc 4) .nil))) (.bi .str (.cons (.loc 5) .nil))) (.tp [(.nm 2), (.nm 3), (.nm 4), (.nm 5)]) (.seq (.ix (.loc 0) (.cst (.int 1)))) .nil [2, 3, 4, 5]))
 (.cons (.ret (.bi .join (.cons (.cst (.str (PySem.Str.ofString " "))) (.cons (.bin .add (.lst (.cons (.bin .add (.bi .str (.cons (.ix (.loc 0) (.cst (.int 0))) .nil)) (.cst (.str (PySem.Str.ofString ":")))) .nil)) (.loc 1)) .nil))))
 .nil)))⟩
def c_skip : Fd := ⟨2, 2, false,
 (.cons (.wh (.cmp .eq (.sl (.loc 0) true (.loc 1) true (.bin .add (.loc 1) (.cst (.int 1)))) (.cst (.str (PySem.Str.ofString " ")))) (.cons (.aug 1 .add (.cst (.int 1)))
 .nil))
 (.cons (.ret (.loc 1))
 .nil))⟩
def c_digit : Fd := ⟨4, 5, false,
 (.cons (.asg 4 (.sl (.loc 0) true (.loc 1) true (.bin .add (.loc 1) (.cst (.int 1)))))
 (.cons (.ite (.or (.cmp .eq (.loc 4) (.cst (.str (PySem.Str.ofString "")))) (.or (.cmp .notin (.loc 4) (.cst (.str (PySem.Str.ofString "0123456789")))) (.not (.chain .le .le (.loc 2) (.bi .int (.cons (.loc 4) .nil)) (.loc 3))))) (.cons (.rais 14 (.cons (.loc 1) .nil))
 .nil) .nil)
 (.cons (.ret (.bi .int (.cons (.loc 4) .nil)))
 .nil)))⟩
def c_rule_at : Fd := ⟨3, 7, false,
 (.cons (.asg 3 (.call 19 (.cons (.loc 0) (.cons (.loc 1) (.cons (.cst (.int 0)) (.cons (.bin .sub (.loc 2) (.cst (.int 1))) .nil))))))
 (.cons (.asg 4 (.call 19 (.cons (.loc 0) (.cons (.bin .add (.loc 1) (.cst (.int 1))) (.cons (.loc 3) (.cons (.bin .sub (.loc 2) (.cst (.int 1))) .nil))))))
 (.cons (.ite (.cmp .ne (.sl (.loc 0) true (.bin .add (.loc 1) (.cst (.int 2))) true (.bin .add (.loc 1) (.cst (.int 3)))) (.cst (.str (PySem.Str.ofString ">")))) (.cons (.rais 14 (.cons (.bin .add (.loc 1) (.cst (.int 2))) .nil))
 .nil) .nil)
 (.cons (.asg 5 (.call 19 (.cons (.loc 0) (.cons (.bin .add (.loc 1) (.cst (.int 3))) (.cons (.cst (.int 0)) (.cons (.bin .sub (.loc 2) (.cst (.int 1))) .nil))))))
 (.cons (.asg 6 (.call 19 (.cons (.loc 0) (.cons (.bin .add (.loc 1) (.cst (.int 4))) (.cons (.ite (.cmp .eq (.loc 3) (.loc 4)) (.loc 5) (.cst (.int 0))) (.cons (.bin .sub (.loc 2) (.cst (.int 1))) .nil))))))
 (.cons (.ite (.not (.call 1 (.cons (.tup (.cons (.loc 3) (.cons (.loc 4) (.cons (.loc 5) (.cons (.loc 6) .nil))))) (.cons (.loc 2) .nil)))) (.cons (.rais 14 (.cons (.bin .add (.loc 1) (.cst (.int 4))) .nil))
 .nil) .nil)
 (.cons (.ret (.tup (.cons (.loc 3) (.cons (.loc 4) (.cons (.loc 5) (.cons (.loc 6) .nil))))))
 .nil)))))))⟩
def c_read_table : Fd := ⟨1, 5, false,
 (.cons (.ite (.not (.bi (.isi [.str]) (.cons (.loc 0) .nil))) (.cons (.rais 13 .nil)
 .nil) .nil)
 (.cons (.asg 1 (.call 18 (.cons (.loc 0) (.cons (.cst (.int 0)) .nil))))
 (.cons (.asgP [(2, false), (3, true)] (.cons (.call 19 (.cons (.loc 0) (.cons (.loc 1) (.cons (.cst (.int 1)) (.cons (.cst (.int 5)) .nil))))) (.cons (.lst .nil) .nil)))
 (.cons (.ite (.cmp .ne (.sl (.loc 0) true (.bin .add (.loc 1) (.cst (.int 1))) true (.bin .add (.loc 1) (.cst (.int 2)))) (.cst (.str (PySem.Str.ofString ":")))) (.cons (.rais 14 (.cons (.bin .add (.loc 1) (.cst (.int 1))) .nil))
 .nil) .nil)
 (.cons (.asg 1 (.call 18 (.cons (.loc 0) (.cons (.bin .add (.loc 1) (.cst (.int 2))) .nil))))
 (.cons (.wh (.cmp .lt (.loc 1) (.bi .len (.cons (.loc 0) .nil))) (.cons (.asg 4 (.call 20 (.cons (.loc 0) (.cons (.loc 1) (.cons (.loc 2) .nil)))))
 (.cons (.ite (.or (.cmp .eq (.bi .len (.cons (.bor 3) .nil)) (.cst (.int 20))) (.and (.cmp .ne (.bor 3) (.lst .nil)) (.cmp .le (.loc 4) (.ix (.bor 3) (.neg (.cst (.int 1))))))) (.cons (.rais 14 (.cons (.loc 1) .nil))
 .nil) .nil)
 (.cons (.app 3 (.loc 4))
 (.cons (.ite (.cmp .notin (.sl (.loc 0) true (.bin .add (.loc 1) (.cst (.int 5))) true (.bin .add (.loc 1) (.cst (.int 6)))) (.tup (.cons (.cst (.str (PySem.Str.ofString ""))) (.cons (.cst (.str (PySem.Str.ofString " "))) .nil)))) (.cons (.rais 14 (.cons (.bin .add (.loc 1) (.cst (.int 5))) .nil))
 .nil) .nil)
 (.cons (.asg 1 (.call 18 (.cons (.loc 0) (.cons (.bin .add (.loc 1) (.cst (.int 5))) .nil))))
 .nil))))))
 (.cons (.ret (.tup (.cons (.loc 2) (.cons (.bi .tuple (.cons (.bor 3) .nil)) .nil))))
 .nil)))))))⟩
def c_l_skip : Fd := ⟨2, 3, false,
 (.cons (.for_ (.nm 2) (.rng1 (.bi .len (.cons (.loc 0) .nil))) (.cons (.ite (.and (.cmp .lt (.loc 1) (.bi .len (.cons (.loc 0) .nil))) (.cmp .eq (.ix (.loc 0) (.loc 1)) (.cst (.str (PySem.Str.ofString " "))))) (.cons (.asg 1 (.bin .add (.loc 1) (.cst (.int 1))))
 .nil) .nil)
 .nil))
 (.cons (.ret (.loc 1))
 .nil))⟩
def c_l_text_due : Fd := ⟨1, 9, false,
 (.cons (.asgP [(1, false), (2, true)] (.cons (.call 22 (.cons (.loc 0) (.cons (.cst (.int 0)) .nil))) (.cons (.lst .nil) .nil)))
 (.cons (.ite (.cmp .notin (.sl (.loc 0) true (.loc 1) true (.bin .add (.loc 1) (.cst (.int 1)))) (.lst (.cons (.cst (.str (PySem.Str.ofString "1"))) (.cons (.cst (.str (PySem.Str.ofString "2"))) (.cons (.cst (.str (PySem.Str.ofString "3"))) (.cons (.cst (.str (PySem.Str.ofString "4"))) (.cons (.cst (.str (PySem.Str.ofString "5"))) .nil))))))) (.cons (.ret (.tup (.cons (.cst (.str (PySem.Str.ofString "place"))) (.cons (.loc 1) .nil))))
 .nil) .nil)
 (.cons (.asg 3 (.bi .int (.cons (.ix (.loc 0) (.loc 1)) .nil)))
 (.cons (.ite (.cmp .ne (.sl (.loc 0) true (.bin .add (.loc 1) (.cst (.int 1))) true (.bin .add (.loc 1) (.cst (.int 2)))) (.cst (.str (PySem.Str.ofString ":")))) (.cons (.ret (.tup (.cons (.cst (.str (PySem.Str.ofString "place"))) (.cons (.bin .add (.loc 1) (.cst (.int 1))) .nil))))
 .nil) .nil)
 (.cons (.asg 1 (.call 22 (.cons (.loc 0) (.cons (.bin .add (.loc 1) (.cst (.int 2))) .nil))))
 (.cons (.wh (.cmp .lt (.loc 1) (.bi .len (.cons (.loc 0) .nil))) (.cons (.asg 4 (.lst .nil))
 (.cons (.for_ (.nm 5) (.rng1 (.cst (.int 5))) (.cons (.asgP [(6, false), (7, false)] (.cons (.sl (.loc 0) true (.bin .add (.loc 1) (.loc 5)) true (.bin .add (.bin .add (.loc 1) (.loc 5)) (.cst (.int 1)))) (.cons (.cst (.int 0)) .nil)))
 (.cons (.ite (.or (.cmp .eq (.loc 5) (.cst (.int 1))) (.and (.cmp .eq (.loc 5) (.cst (.int 4))) (.cmp .eq (.ix (.loc 4) (.cst (.int 0))) (.ix (.loc 4) (.cst (.int 1)))))) (.cons (.asg 7 (.ix (.loc 4) (.neg (.cst (.int 1)))))
 .nil) .nil)
 (.cons (.ite (.or (.and (.cmp .eq (.loc 5) (.cst (.int 2))) (.cmp .ne (.loc 6) (.cst (.str (PySem.Str.ofString ">"))))) (.and (.cmp .ne (.loc 5) (.cst (.int 2))) (.cmp .notin (.loc 6) (.lc (.bi .str (.cons (.loc 8) .nil)) (.nm 8) (.rng2 (.loc 7) (.loc 3)) .nil [8])))) (.cons (.ret (.tup (.cons (.cst (.str (PySem.Str.ofString "place"))) (.cons (.bin .add (.loc 1) (.loc 5)) .nil))))
 .nil) .nil)
 (.cons (.asg 4 (.bin .add (.loc 4) (.ite (.cmp .ne (.loc 5) (.cst (.int 2))) (.lst (.cons (.bi .int (.cons (.loc 6) .nil)) .nil)) (.lst .nil))))
 .nil)))))
 (.cons (.ite (.cmp .eq (.sl (.loc 4) false (.cst .non) true (.cst (.int 2))) (.sl (.loc 4) true (.cst (.int 2)) false (.cst .non))) (.cons (.ret (.tup (.cons (.cst (.str (PySem.Str.ofString "place"))) (.cons (.bin .add (.loc 1) (.cst (.int 4))) .nil))))
 .nil) .nil)
 (.cons (.ite (.or (.cmp .eq (.bi .len (.cons (.bor 2) .nil)) (.cst (.int 20))) (.and (.cmp .ne (.bor 2) (.lst .nil)) (.cmp .le (.bi .tuple (.cons (.loc 4) .nil)) (.ix (.bor 2) (.neg (.cst (.int 1))))))) (.cons (.ret (.tup (.cons (.cst (.str (PySem.Str.ofString "place"))) (.cons (.loc 1) .nil))))
 .nil) .nil)
 (.cons (.app 2 (.bi .tuple (.cons (.loc 4) .nil)))
 (.cons (.ite (.cmp .notin (.sl (.loc 0) true (.bin .add (.loc 1) (.cst (.int 5))) true (.bin .add (.loc 1) (.cst (.int 6)))) (.lst (.cons (.cst (.str (PySem.Str.ofString ""))) (.cons (.cst (.str (PySem.Str.ofString " "))) .nil)))) (.cons (.ret (.tup (.cons (.cst (.str (PySem.Str.ofString "place"))) (.cons (.bin .add (.loc 1) (.cst (.int 5))) .nil))))
 .nil) .nil)
 (.cons (.asg 1 (.call 22 (.cons (.loc 0) (.cons (.bin .add (.loc 1) (.cst (.int 5))) .nil))))
 .nil))))))))
 (.cons (.ret (.tup (.cons (.cst (.str (PySem.Str.ofString "table"))) (.cons (.tup (.cons (.loc 3) (.cons (.bi .tuple (.cons (.bor 2) .nil)) .nil))) .nil))))
 .nil)))))))⟩
def c_is_edge : Fd := ⟨2, 3, false,
 (.cons (.ite (.or (.not (.bi (.isi [.tuple]) (.cons (.loc 0) .nil))) (.cmp .ne (.bi .len (.cons (.loc 0) .nil)) (.cst (.int 2)))) (.cons (.ret (.cst (.bl false)))
 .nil) .nil)
 (.cons (.ret (.and (.cmp .eq (.lc (.loc 2) (.nm 2) (.seq (.loc 0)) (.cons (.not (.call 0 (.cons (.loc 2) (.cons (.cst (.int 0)) (.cons (.bin .sub (.loc 1) (.cst (.int 1))) .nil))))) .nil) [2]) (.lst .nil)) (.cmp .lt (.ix (.loc 0) (.cst (.int 0))) (.ix (.loc 0) (.cst (.int 1))))))
 .nil))⟩
def c_need_web : Fd := ⟨1, 3, false,
 (.cons (.ite (.or (.not (.bi (.isi [.tuple]) (.cons (.loc 0) .nil))) (.or (.cmp .ne (.bi .len (.cons (.loc 0) .nil)) (.cst (.int 2))) (.not (.call 0 (.cons (.ix (.loc 0) (.cst (.int 0))) (.cons (.cst (.int 1)) (.cons (.cst (.int 8)) .nil))))))) (.cons (.rais 3 (.cons (.cst .non) .nil))
 .nil) .nil)
 (.cons (.ite (.not (.bi (.isi [.tuple]) (.cons (.ix (.loc 0) (.cst (.int 1))) .nil))) (.cons (.rais 3 (.cons (.cst .non) .nil))
 .nil) .nil)
 (.cons (.for_ (.tp [(.nm 1), (.nm 2)]) (.enum (.ix (.loc 0) (.cst (.int 1)))) (.cons (.ite (.or (.not (.call 24 (.cons (.loc 2) (.cons (.ix (.loc 0) (.cst (.int 0))) .nil)))) (.and (.cmp .gt (.loc 1) (.cst (.int 0))) (.cmp .le (.loc 2) (.ix (.ix (.loc 0) (.cst (.int 1))) (.bin .sub (.loc 1) (.cst (.int 1))))))) (.cons (.rais 3 (.cons (.loc 1) .nil))
 .nil) .nil)
 .nil))
 .nil)))⟩
def c_need_kinds : Fd := ⟨3, 5, false,
 (.cons (.ite (.or (.not (.bi (.isi [.tuple]) (.cons (.loc 2) .nil))) (.cmp .ne (.bi .len (.cons (.loc 2) .nil)) (.loc 1))) (.cons (.rais 4 (.cons (.cst .non) .nil))
 .nil) .nil)
 (.cons (.for_ (.tp [(.nm 3), (.nm 4)]) (.enum (.loc 2)) (.cons (.ite (.not (.call 0 (.cons (.loc 4) (.cons (.cst (.int 0)) (.cons (.bin .sub (.ix (.loc 0) (.cst (.int 0))) (.cst (.int 1))) .nil))))) (.cons (.rais 4 (.cons (.loc 3) .nil))
 .nil) .nil)
 .nil))
 .nil))⟩
def c_need_start : Fd := ⟨3, 3, false,
 (.cons (.ex (.call 2 (.cons (.loc 0) .nil)))
 (.cons (.ex (.call 25 (.cons (.loc 1) .nil)))
 (.cons (.ex (.call 26 (.cons (.loc 0) (.cons (.ix (.loc 1) (.cst (.int 0))) (.cons (.loc 2) .nil)))))
 .nil)))⟩
def c_moves_in : Fd := ⟨3, 6, false,
 (.cons (.asg 3 (.lst .nil))
 (.cons (.for_ (.nm 4) (.seq (.ix (.loc 1) (.cst (.int 1)))) (.cons (.asg 3 (.bin .add (.loc 3) (.lc (.tup (.cons (.loc 4) (.cons (.loc 5) .nil))) (.nm 5) (.seq (.call 4 (.cons (.loc 0) (.cons (.tup (.cons (.ix (.loc 2) (.ix (.loc 4) (.cst (.int 0)))) (.cons (.ix (.loc 2) (.ix (.loc 4) (.cst (.int 1)))) .nil))) .nil)))) .nil [5])))
 .nil))
 (.cons (.ret (.loc 3))
 .nil)))⟩
def c_moves : Fd := ⟨3, 3, false,
 (.cons (.ex (.call 27 (.cons (.loc 0) (.cons (.loc 1) (.cons (.loc 2) .nil)))))
 (.cons (.ret (.bi .tuple (.cons (.call 28 (.cons (.loc 0) (.cons (.loc 1) (.cons (.loc 2) .nil)))) .nil)))
 .nil))⟩
def c_moved : Fd := ⟨2, 5, false,
 (.cons (.own 2 (.bi .list (.cons (.loc 0) .nil)))
 (.cons (.for_ (.tp [(.nm 3), (.nm 4)]) (.zip (.ix (.loc 1) (.cst (.int 0))) (.ix (.loc 1) (.cst (.int 1)))) (.cons (.setx 2 (.loc 3) (.loc 4))
 .nil))
 (.cons (.ret (.bi .tuple (.cons (.bor 2) .nil)))
 .nil)))⟩
def c_is_move : Fd := ⟨3, 4, false,
 (.cons (.ite (.or (.not (.bi (.isi [.tuple]) (.cons (.loc 2) .nil))) (.or (.cmp .ne (.bi .len (.cons (.loc 2) .nil)) (.cst (.int 2))) (.or (.not (.call 24 (.cons (.ix (.loc 2) (.cst (.int 0))) (.cons (.ix (.loc 1) (.cst (.int 0))) .nil)))) (.cmp .notin (.ix (.loc 2) (.cst (.int 0))) (.ix (.loc 1) (.cst (.int 1))))))) (.cons (.ret (.cst (.bl false)))
 .nil) .nil)
 (.cons (.ite (.or (.not (.bi (.isi [.tuple]) (.cons (.ix (.loc 2) (.cst (.int 1))) .nil))) (.cmp .ne (.bi .len (.cons (.ix (.loc 2) (.cst (.int 1))) .nil)) (.cst (.int 2)))) (.cons (.ret (.cst (.bl false)))
 .nil) .nil)
 (.cons (.ret (.cmp .eq (.lc (.loc 3) (.nm 3) (.seq (.ix (.loc 2) (.cst (.int 1)))) (.cons (.not (.call 0 (.cons (.loc 3) (.cons (.cst (.int 0)) (.cons (.bin .sub (.ix (.loc 0) (.cst (.int 0))) (.cst (.int 1))) .nil))))) .nil) [3]) (.lst .nil)))
 .nil)))⟩
def c_done : Fd := ⟨4, 4, false,
 (.cons (.ex (.call 27 (.cons (.loc 0) (.cons (.loc 1) (.cons (.loc 2) .nil)))))
 (.cons (.ite (.or (.not (.call 31 (.cons (.loc 0) (.cons (.loc 1) (.cons (.loc 3) .nil))))) (.cmp .notin (.loc 3) (.call 28 (.cons (.loc 0) (.cons (.loc 1) (.cons (.loc 2) .nil)))))) (.cons (.rais 5 .nil)
 .nil) .nil)
 (.cons (.ret (.call 30 (.cons (.loc 2) (.cons (.loc 3) .nil))))
 .nil)))⟩
def c_is_run : Fd := ⟨3, 4, false,
 (.cons (.ite (.or (.not (.bi (.isi [.tuple]) (.cons (.loc 2) .nil))) (.cmp .gt (.bi .len (.cons (.loc 2) .nil)) (.cst (.int 100)))) (.cons (.ret (.cst (.bl false)))
 .nil) .nil)
 (.cons (.ret (.cmp .eq (.lc (.loc 3) (.nm 3) (.seq (.loc 2)) (.cons (.not (.call 31 (.cons (.loc 0) (.cons (.loc 1) (.cons (.loc 3) .nil))))) .nil) [3]) (.lst .nil)))
 .nil))⟩
def c_line_in : Fd := ⟨4, 6, false,
 (.cons (.own 4 (.lst (.cons (.loc 2) .nil)))
 (.cons (.for_ (.nm 5) (.seq (.loc 3)) (.cons (.ite (.cmp .notin (.loc 5) (.call 28 (.cons (.loc 0) (.cons (.loc 1) (.cons (.ix (.bor 4) (.neg (.cst (.int 1)))) .nil))))) (.cons (.frz [4])
 (.cons (.ret (.loc 4))
 .nil)) .nil)
 (.cons (.app 4 (.call 30 (.cons (.ix (.bor 4) (.neg (.cst (.int 1)))) (.cons (.loc 5) .nil))))
 .nil)))
 (.cons (.frz [4])
 (.cons (.ret (.loc 4))
 .nil))))⟩
def c_after : Fd := ⟨4, 5, false,
 (.cons (.ex (.call 27 (.cons (.loc 0) (.cons (.loc 1) (.cons (.loc 2) .nil)))))
 (.cons (.ite (.not (.call 33 (.cons (.loc 0) (.cons (.loc 1) (.cons (.loc 3) .nil))))) (.cons (.rais 6 (.cons (.cst .non) .nil))
 .nil) .nil)
 (.cons (.asg 4 (.call 34 (.cons (.loc 0) (.cons (.loc 1) (.cons (.loc 2) (.cons (.loc 3) .nil))))))
 (.cons (.ite (.cmp .le (.bi .len (.cons (.loc 4) .nil)) (.bi .len (.cons (.loc 3) .nil))) (.cons (.rais 6 (.cons (.bin .sub (.bi .len (.cons (.loc 4) .nil)) (.cst (.int 1))) .nil))
 .nil) .nil)
 (.cons (.ret (.ix (.loc 4) (.neg (.cst (.int 1)))))
 .nil)))))⟩
def c_at_rest : Fd := ⟨3, 3, false,
 (.cons (.ex (.call 27 (.cons (.loc 0) (.cons (.loc 1) (.cons (.loc 2) .nil)))))
 (.cons (.ret (.cmp .eq (.call 28 (.cons (.loc 0) (.cons (.loc 1) (.cons (.loc 2) .nil)))) (.lst .nil)))
 .nil))⟩
def c_l_web : Fd := ⟨2, 7, true,
 (.cons (.asgP [(2, false), (3, false), (4, false)] (.cons (.bin .add (.cst (.int 1)) (.callr 10 (.cons (.loc 1) .nil))) (.cons (.callr 10 (.cons (.cst (.int 5)) .nil)) (.cons (.lst .nil) .nil))))
 (.cons (.for_ (.nm 5) (.rng1 (.loc 2)) (.cons (.asg 4 (.bin .add (.loc 4) (.lc (.tup (.cons (.loc 5) (.cons (.loc 6) .nil))) (.nm 6) (.rng2 (.bin .add (.loc 5) (.cst (.int 1))) (.loc 2)) (.cons (.and (.cmp .lt (.loc 3) (.cst (.int 3))) (.cmp .eq (.callr 10 (.cons (.cst (.int 2)) .nil)) (.cst (.int 0)))) .nil) [6])))
 .nil))
 (.cons (.ite (.cmp .gt (.loc 3) (.cst (.int 2))) (.cons (.asg 4 (.bin .add (.lc (.tup (.cons (.loc 5) (.cons (.bin .add (.loc 5) (.cst (.int 1))) .nil))) (.nm 5) (.rng1 (.bin .sub (.loc 2) (.cst (.int 1)))) .nil [5]) (.ite (.and (.cmp .gt (.loc 2) (.cst (.int 2))) (.cmp .eq (.loc 3) (.cst (.int 4)))) (.lst (.cons (.tup (.cons (.cst (.int 0)) (.cons (.bin .sub (.loc 2) (.cst (.int 1))) .nil))) .nil)) (.lst .nil))))
 .nil) .nil)
 (.cons (.ret (.tup (.cons (.loc 2) (.cons (.bi .tuple (.cons (.bi .sorted (.cons (.loc 4) .nil)) .nil)) .nil))))
 .nil))))⟩
def c_l_kinds : Fd := ⟨3, 4, true,
 (.cons (.ret (.bi .tuple (.cons (.lc (.callr 10 (.cons (.loc 2) .nil)) (.nm 3) (.rng1 (.loc 1)) .nil [3]) .nil)))
 .nil)⟩
def c_l_moves : Fd := ⟨3, 9, false,
 (.cons (.own 3 (.lst .nil))
 (.cons (.for_ (.tp [(.nm 4), (.nm 5)]) (.seq (.ix (.loc 1) (.cst (.int 1)))) (.cons (.for_ (.nm 6) (.seq (.call 15 (.cons (.loc 0) (.cons (.tup (.cons (.ix (.loc 2) (.loc 4)) (.cons (.ix (.loc 2) (.loc 5)) .nil))) .nil)))) (.cons (.asg 7 (.bi .tuple (.cons (.lc (.ite (.cmp .eq (.loc 8) (.loc 4)) (.ix (.loc 6) (.cst (.int 0))) (.ite (.cmp .eq (.loc 8) (.loc 5)) (.ix (.loc 6) (.cst (.int 1))) (.ix (.loc 2) (.loc 8)))) (.nm 8) (.rng1 (.ix (.loc 1) (.cst (.int 0)))) .nil [8]) .nil)))
 (.cons (.app 3 (.tup (.cons (.tup (.cons (.tup (.cons (.loc 4) (.cons (.loc 5) .nil))) (.cons (.loc 6) .nil))) (.cons (.loc 7) .nil))))
 .nil)))
 .nil))
 (.cons (.frz [3])
 (.cons (.ret (.loc 3))
 .nil))))⟩
def c_l_every : Fd := ⟨2, 7, false,
 (.cons (.asg 2 (.lst (.cons (.tup .nil) .nil)))
 (.cons (.for_ (.nm 3) (.rng1 (.loc 0)) (.cons (.asg 4 (.lst .nil))
 (.cons (.for_ (.nm 5) (.seq (.loc 2)) (.cons (.asg 4 (.bin .add (.loc 4) (.lc (.bin .add (.loc 5) (.tup (.cons (.loc 6) .nil))) (.nm 6) (.rng1 (.loc 1)) .nil [6])))
 .nil))
 (.cons (.asg 2 (.loc 4))
 .nil))))
 (.cons (.ret (.loc 2))
 .nil)))⟩
def c_come_in : Fd := ⟨3, 7, false,
 (.cons (.asgP [(3, true), (4, true)] (.cons .emp (.cons (.lst (.cons (.loc 2) .nil)) .nil)))
 (.cons (.wh (.cmp .ne (.bor 4) (.lst .nil)) (.cons (.pop 5 4)
 (.cons (.ite (.cmp .notin (.loc 5) (.bor 3)) (.cons (.setx 3 (.loc 5) (.lc (.call 30 (.cons (.loc 5) (.cons (.loc 6) .nil))) (.nm 6) (.seq (.call 28 (.cons (.loc 0) (.cons (.loc 1) (.cons (.loc 5) .nil))))) .nil [6]))
 (.cons (.ite (.cmp .gt (.bi .len (.cons (.bor 3) .nil)) (.cst (.int 2000))) (.cons (.rais 15 (.cons (.cst (.int 2000)) .nil))
 .nil) .nil)
 (.cons (.own 4 (.bin .add (.bor 4) (.ix (.bor 3) (.loc 5))))
 .nil))) .nil)
 .nil)))
 (.cons (.frz [3])
 (.cons (.ret (.loc 3))
 .nil))))⟩
def c_all_come : Fd := ⟨3, 3, false,
 (.cons (.ex (.call 27 (.cons (.loc 0) (.cons (.loc 1) (.cons (.loc 2) .nil)))))
 (.cons (.ret (.bi .skeys (.cons (.call 41 (.cons (.loc 0) (.cons (.loc 1) (.cons (.loc 2) .nil)))) .nil)))
 .nil))⟩
def c_rests_in : Fd := ⟨3, 5, false,
 (.cons (.asg 3 (.call 41 (.cons (.loc 0) (.cons (.loc 1) (.cons (.loc 2) .nil)))))
 (.cons (.ret (.bi .sorted (.cons (.lc (.loc 4) (.nm 4) (.keys (.loc 3)) (.cons (.cmp .eq (.ix (.loc 3) (.loc 4)) (.lst .nil)) .nil) [4]) .nil)))
 .nil))⟩
def c_walked_rests : Fd := ⟨3, 3, false,
 (.cons (.ex (.call 27 (.cons (.loc 0) (.cons (.loc 1) (.cons (.loc 2) .nil)))))
 (.cons (.ret (.call 43 (.cons (.loc 0) (.cons (.loc 1) (.cons (.loc 2) .nil)))))
 .nil))⟩
def c_order_in : Fd := ⟨1, 6, false,
 (.cons (.asgP [(1, false), (2, false)] (.cons (.lst .nil) (.cons (.bi .dictc (.cons (.loc 0) .nil)) .nil)))
 (.cons (.wh (.cmp .ne (.loc 2) .emp) (.cons (.asg 3 (.lc (.loc 4) (.nm 4) (.keys (.loc 2)) (.cons (.cmp .eq (.lc (.loc 5) (.nm 5) (.seq (.ix (.loc 2) (.loc 4))) (.cons (.cmp .isin (.loc 5) (.loc 2)) .nil) [5]) (.lst .nil)) .nil) [4]))
 (.cons (.ite (.cmp .eq (.loc 3) (.lst .nil)) (.cons (.ret (.cst .non))
 .nil) .nil)
 (.cons (.asg 1 (.bin .add (.loc 1) (.bi .sorted (.cons (.loc 3) .nil))))
 (.cons (.asg 2 (.bi .dictp (.cons (.lc (.tup (.cons (.loc 4) (.cons (.ix (.loc 2) (.loc 4)) .nil))) (.nm 4) (.keys (.loc 2)) (.cons (.cmp .notin (.loc 4) (.loc 3)) .nil) [4]) .nil)))
 .nil)))))
 (.cons (.ret (.loc 1))
 .nil)))⟩
def c_goes_on : Fd := ⟨3, 3, false,
 (.cons (.ex (.call 27 (.cons (.loc 0) (.cons (.loc 1) (.cons (.loc 2) .nil)))))
 (.cons (.ret (.cmp .is_ (.call 45 (.cons (.call 41 (.cons (.loc 0) (.cons (.loc 1) (.cons (.loc 2) .nil)))) .nil)) (.cst .non)))
 .nil))⟩
def c_l_walk : Fd := ⟨3, 8, false,
 (.cons (.asgP [(3, true), (4, false)] (.cons .emp (.cons (.lst (.cons (.loc 2) .nil)) .nil)))
 (.cons (.wh (.cmp .ne (.loc 4) (.lst .nil)) (.cons (.asg 5 (.ix (.loc 4) (.cst (.int 0))))
 (.cons (.asg 4 (.sl (.loc 4) true (.cst (.int 1)) false (.cst .non)))
 (.cons (.ite (.cmp .notin (.loc 5) (.bor 3)) (.cons (.setx 3 (.loc 5) (.lc (.loc 7) (.tp [(.nm 6), (.nm 7)]) (.seq (.call 39 (.cons (.loc 0) (.cons (.loc 1) (.cons (.loc 5) .nil))))) .nil [6, 7]))
 (.cons (.asg 4 (.bin .add (.loc 4) (.ix (.bor 3) (.loc 5))))
 .nil)) .nil)
 .nil))))
 (.cons (.frz [3])
 (.cons (.ret (.loc 3))
 .nil))))⟩
def c_l_rests : Fd := ⟨1, 2, false,
 (.cons (.ret (.bi .sorted (.cons (.lc (.loc 1) (.nm 1) (.keys (.loc 0)) (.cons (.cmp .eq (.ix (.loc 0) (.loc 1)) (.lst .nil)) .nil) [1]) .nil)))
 .nil)⟩
def c_l_layers : Fd := ⟨1, 6, false,
 (.cons (.asgP [(1, false), (2, false)] (.cons (.lst .nil) (.cons (.bi .lkeys (.cons (.loc 0) .nil)) .nil)))
 (.cons (.wh (.cmp .ne (.loc 2) (.lst .nil)) (.cons (.asg 3 (.lc (.loc 4) (.nm 4) (.seq (.loc 2)) (.cons (.cmp .eq (.lc (.loc 5) (.nm 5) (.seq (.ix (.loc 0) (.loc 4))) (.cons (.cmp .isin (.loc 5) (.loc 2)) .nil) [5]) (.lst .nil)) .nil) [4]))
 (.cons (.ite (.cmp .eq (.loc 3) (.lst .nil)) (.cons (.ret (.cst .non))
 .nil) .nil)
 (.cons (.asgP [(1, false), (2, false)] (.cons (.bin .add (.loc 1) (.loc 3)) (.cons (.lc (.loc 4) (.nm 4) (.seq (.loc 2)) (.cons (.cmp .notin (.loc 4) (.loc 3)) .nil) [4]) .nil)))
 .nil))))
 (.cons (.ret (.loc 1))
 .nil)))⟩
def c_gcd : Fd := ⟨2, 2, false,
 (.cons (.asgP [(0, false), (1, false)] (.cons (.bi .abs (.cons (.loc 0) .nil)) (.cons (.bi .abs (.cons (.loc 1) .nil)) .nil)))
 (.cons (.wh (.cmp .ne (.loc 1) (.cst (.int 0))) (.cons (.asgP [(0, false), (1, false)] (.cons (.loc 1) (.cons (.bin .mod (.loc 0) (.loc 1)) .nil)))
 .nil))
 (.cons (.ret (.loc 0))
 .nil)))⟩
def c_reduced : Fd := ⟨2, 3, false,
 (.cons (.asg 2 (.call 50 (.cons (.loc 0) (.cons (.loc 1) .nil))))
 (.cons (.ite (.cmp .lt (.loc 1) (.cst (.int 0))) (.cons (.asg 2 (.neg (.loc 2)))
 .nil) .nil)
 (.cons (.ret (.tup (.cons (.bin .fdiv (.loc 0) (.loc 2)) (.cons (.bin .fdiv (.loc 1) (.loc 2)) .nil))))
 .nil)))⟩
def c_plus : Fd := ⟨2, 2, false,
 (.cons (.ret (.call 51 (.cons (.bin .add (.bin .mul (.ix (.loc 0) (.cst (.int 0))) (.ix (.loc 1) (.cst (.int 1)))) (.bin .mul (.ix (.loc 1) (.cst (.int 0))) (.ix (.loc 0) (.cst (.int 1))))) (.cons (.bin .mul (.ix (.loc 0) (.cst (.int 1))) (.ix (.loc 1) (.cst (.int 1)))) .nil))))
 .nil)⟩
def c_times : Fd := ⟨2, 2, false,
 (.cons (.ret (.call 51 (.cons (.bin .mul (.ix (.loc 0) (.cst (.int 0))) (.ix (.loc 1) (.cst (.int 0)))) (.cons (.bin .mul (.ix (.loc 0) (.cst (.int 1))) (.ix (.loc 1) (.cst (.int 1)))) .nil))))
 .nil)⟩
def c_walk_in : Fd := ⟨3, 5, false,
 (.cons (.ex (.call 27 (.cons (.loc 0) (.cons (.loc 1) (.cons (.loc 2) .nil)))))
 (.cons (.asg 3 (.call 41 (.cons (.loc 0) (.cons (.loc 1) (.cons (.loc 2) .nil)))))
 (.cons (.asg 4 (.call 45 (.cons (.loc 3) .nil)))
 (.cons (.ite (.cmp .is_ (.loc 4) (.cst .non)) (.cons (.rais 11 .nil)
 .nil) .nil)
 (.cons (.ret (.tup (.cons (.loc 3) (.cons (.loc 4) .nil))))
 .nil)))))⟩
def c_longest : Fd := ⟨3, 8, false,
 (.cons (.asgT (.tp [(.nm 3), (.nm 4)]) (.call 54 (.cons (.loc 0) (.cons (.loc 1) (.cons (.loc 2) .nil)))))
 (.cons (.own 5 .emp)
 (.cons (.for_ (.nm 6) (.seq (.loc 4)) (.cons (.setx 5 (.loc 6) (.bin .add (.bi .maxl (.cons (.bin .add (.lst (.cons (.neg (.cst (.int 1))) .nil)) (.lc (.ix (.bor 5) (.loc 7)) (.nm 7) (.seq (.ix (.loc 3) (.loc 6))) .nil [7])) .nil)) (.cst (.int 1))))
 .nil))
 (.cons (.ret (.ix (.bor 5) (.loc 2)))
 .nil))))⟩
def c_shortest : Fd := ⟨3, 8, false,
 (.cons (.asgT (.tp [(.nm 3), (.nm 4)]) (.call 54 (.cons (.loc 0) (.cons (.loc 1) (.cons (.loc 2) .nil)))))
 (.cons (.own 5 .emp)
 (.cons (.for_ (.nm 6) (.seq (.loc 4)) (.cons (.setx 5 (.loc 6) (.ite (.cmp .ne (.ix (.loc 3) (.loc 6)) (.lst .nil)) (.bin .add (.bi .minl (.cons (.lc (.ix (.bor 5) (.loc 7)) (.nm 7) (.seq (.ix (.loc 3) (.loc 6))) .nil [7]) .nil)) (.cst (.int 1))) (.cst (.int 0))))
 .nil))
 (.cons (.ret (.ix (.bor 5) (.loc 2)))
 .nil))))⟩
def c_run_count : Fd := ⟨3, 8, false,
 (.cons (.asgT (.tp [(.nm 3), (.nm 4)]) (.call 54 (.cons (.loc 0) (.cons (.loc 1) (.cons (.loc 2) .nil)))))
 (.cons (.own 5 .emp)
 (.cons (.for_ (.nm 6) (.seq (.loc 4)) (.cons (.setx 5 (.loc 6) (.ite (.cmp .ne (.ix (.loc 3) (.loc 6)) (.lst .nil)) (.bi .sum (.cons (.lc (.ix (.bor 5) (.loc 7)) (.nm 7) (.seq (.ix (.loc 3) (.loc 6))) .nil [7]) .nil)) (.cst (.int 1))))
 .nil))
 (.cons (.ret (.ix (.bor 5) (.loc 2)))
 .nil))))⟩
def c_mean_moves : Fd := ⟨3, 9, false,
 (.cons (.asgT (.tp [(.nm 3), (.nm 4)]) (.call 54 (.cons (.loc 0) (.cons (.loc 1) (.cons (.loc 2) .nil)))))
 (.cons (.own 5 .emp)
 (.cons (.for_ (.nm 6) (.seq (.loc 4)) (.cons (.asg 7 (.tup (.cons (.cst (.int 0)) (.cons (.cst (.int 1)) .nil))))
 (.cons (.for_ (.nm 8) (.seq (.ix (.loc 3) (.loc 6))) (.cons (.asg 7 (.call 52 (.cons (.loc 7) (.cons (.call 53 (.cons (.ix (.bor 5) (.loc 8)) (.cons (.call 51 (.cons (.cst (.int 1)) (.cons (.bi .len (.cons (.ix (.loc 3) (.loc 6)) .nil)) .nil))) .nil))) .nil))))
 .nil))
 (.cons (.setx 5 (.loc 6) (.ite (.cmp .ne (.ix (.loc 3) (.loc 6)) (.lst .nil)) (.call 52 (.cons (.loc 7) (.cons (.tup (.cons (.cst (.int 1)) (.cons (.cst (.int 1)) .nil))) .nil))) (.loc 7)))
 .nil))))
 (.cons (.ret (.ix (.bor 5) (.loc 2)))
 .nil))))⟩
def c_l_falling : Fd := ⟨2, 10, true,
 (.cons (.asgP [(2, false), (3, true)] (.cons (.bin .add (.cst (.int 2)) (.callr 10 (.cons (.bin .sub (.loc 1) (.cst (.int 1))) .nil))) (.cons .emp .nil)))
 (.cons (.asgP [(4, false), (5, false)] (.cons (.callr 11 (.cons (.loc 2) .nil)) (.cons (.callr 10 (.cons (.cst (.int 3)) .nil)) .nil)))
 (.cons (.for_ (.nm 6) (.rng1 (.bin .add (.cst (.int 1)) (.callr 10 (.cons (.cst (.int 5)) .nil)))) (.cons (.asg 7 (.tup (.cons (.callr 10 (.cons (.loc 2) .nil)) (.cons (.callr 10 (.cons (.loc 2) .nil)) .nil))))
 (.cons (.asg 8 (.tup (.cons (.callr 10 (.cons (.loc 2) .nil)) (.cons (.callr 10 (.cons (.loc 2) .nil)) .nil))))
 (.cons (.ite (.cmp .eq (.loc 5) (.cst (.int 0))) (.cons (.asg 9 (.bi .min2 (.cons (.ix (.loc 4) (.ix (.loc 7) (.cst (.int 0)))) (.cons (.ix (.loc 4) (.ix (.loc 7) (.cst (.int 1)))) .nil))))
 (.cons (.asg 8 (.tup (.cons (.bi .index (.cons (.loc 4) (.cons (.loc 9) .nil))) (.cons (.bi .index (.cons (.loc 4) (.cons (.loc 9) .nil))) .nil))))
 .nil)) .nil)
 (.cons (.ite (.cmp .gt (.bin .add (.ix (.loc 4) (.ix (.loc 8) (.cst (.int 0)))) (.ix (.loc 4) (.ix (.loc 8) (.cst (.int 1))))) (.bin .add (.ix (.loc 4) (.ix (.loc 7) (.cst (.int 0)))) (.ix (.loc 4) (.ix (.loc 7) (.cst (.int 1)))))) (.cons (.asgP [(7, false), (8, false)] (.cons (.loc 8) (.cons (.loc 7) .nil)))
 .nil) .nil)
 (.cons (.ite (.cmp .lt (.bin .add (.ix (.loc 4) (.ix (.loc 8) (.cst (.int 0)))) (.ix (.loc 4) (.ix (.loc 8) (.cst (.int 1))))) (.bin .add (.ix (.loc 4) (.ix (.loc 7) (.cst (.int 0)))) (.ix (.loc 4) (.ix (.loc 7) (.cst (.int 1)))))) (.cons (.setx 3 (.call 12 (.cons (.loc 7) (.cons (.loc 8) .nil))) (.cst (.bl true)))
 .nil) .nil)
 .nil))))))
 (.cons (.ret (.tup (.cons (.loc 2) (.cons (.bi .tuple (.cons (.bi .skeys (.cons (.bor 3) .nil)) .nil)) .nil))))
 .nil))))⟩
def c_l_gcd : Fd := ⟨2, 2, false,
 (.cons (.asgP [(0, false), (1, false)] (.cons (.bi .abs (.cons (.loc 0) .nil)) (.cons (.bi .abs (.cons (.loc 1) .nil)) .nil)))
 (.cons (.wh (.cmp .ne (.loc 1) (.cst (.int 0))) (.cons (.asgP [(0, false), (1, false)] (.cons (.loc 1) (.cons (.bin .mod (.bi .int (.cons (.loc 0) .nil)) (.loc 1)) .nil)))
 .nil))
 (.cons (.ret (.loc 0))
 .nil)))⟩
def c_l_ratio : Fd := ⟨2, 3, false,
 (.cons (.asg 2 (.call 60 (.cons (.loc 0) (.cons (.loc 1) .nil))))
 (.cons (.asg 2 (.ite (.cmp .lt (.loc 1) (.cst (.int 0))) (.bin .sub (.cst (.int 0)) (.loc 2)) (.loc 2)))
 (.cons (.ret (.tup (.cons (.bin .fdiv (.loc 0) (.loc 2)) (.cons (.bin .fdiv (.loc 1) (.loc 2)) .nil))))
 .nil)))⟩
def c_l_plus : Fd := ⟨2, 2, false,
 (.cons (.ret (.call 61 (.cons (.bin .add (.bin .mul (.ix (.loc 0) (.cst (.int 0))) (.ix (.loc 1) (.cst (.int 1)))) (.bin .mul (.ix (.loc 1) (.cst (.int 0))) (.ix (.loc 0) (.cst (.int 1))))) (.cons (.bin .mul (.ix (.loc 0) (.cst (.int 1))) (.ix (.loc 1) (.cst (.int 1)))) .nil))))
 .nil)⟩
def c_minus : Fd := ⟨2, 2, false,
 (.cons (.ret (.call 51 (.cons (.bin .sub (.bin .mul (.ix (.loc 0) (.cst (.int 0))) (.ix (.loc 1) (.cst (.int 1)))) (.bin .mul (.ix (.loc 1) (.cst (.int 0))) (.ix (.loc 0) (.cst (.int 1))))) (.cons (.bin .mul (.ix (.loc 0) (.cst (.int 1))) (.ix (.loc 1) (.cst (.int 1)))) .nil))))
 .nil)⟩
def c_over : Fd := ⟨2, 2, false,
 (.cons (.ret (.call 51 (.cons (.bin .mul (.ix (.loc 0) (.cst (.int 0))) (.ix (.loc 1) (.cst (.int 1)))) (.cons (.bin .mul (.ix (.loc 0) (.cst (.int 1))) (.ix (.loc 1) (.cst (.int 0)))) .nil))))
 .nil)⟩
def c_less : Fd := ⟨2, 2, false,
 (.cons (.ret (.cmp .lt (.bin .mul (.ix (.loc 0) (.cst (.int 0))) (.ix (.loc 1) (.cst (.int 1)))) (.bin .mul (.ix (.loc 1) (.cst (.int 0))) (.ix (.loc 0) (.cst (.int 1))))))
 .nil)⟩
def c_whole : Fd := ⟨1, 5, false,
 (.cons (.asgP [(1, false), (2, false)] (.cons (.cst (.int 1)) (.cons (.cst (.int 0)) .nil)))
 (.cons (.for_ (.nm 3) (.seq (.loc 0)) (.cons (.asg 1 (.bin .fdiv (.bin .mul (.loc 1) (.ix (.loc 3) (.cst (.int 1)))) (.call 50 (.cons (.loc 1) (.cons (.ix (.loc 3) (.cst (.int 1))) .nil)))))
 .nil))
 (.cons (.asg 4 (.lc (.bin .fdiv (.bin .mul (.ix (.loc 3) (.cst (.int 0))) (.loc 1)) (.ix (.loc 3) (.cst (.int 1)))) (.nm 3) (.seq (.loc 0)) .nil [3]))
 (.cons (.for_ (.nm 3) (.seq (.loc 4)) (.cons (.asg 2 (.call 50 (.cons (.loc 2) (.cons (.loc 3) .nil))))
 .nil))
 (.cons (.ret (.ite (.cmp .gt (.loc 2) (.cst (.int 0))) (.lc (.bin .fdiv (.loc 3) (.loc 2)) (.nm 3) (.seq (.loc 4)) .nil [3]) (.loc 4)))
 .nil)))))⟩
def c_changes : Fd := ⟨1, 6, false,
 (.cons (.own 1 (.lst .nil))
 (.cons (.for_ (.nm 2) (.seq (.ix (.loc 0) (.cst (.int 1)))) (.cons (.own 3 (.bin .mul (.lst (.cons (.cst (.int 0)) .nil)) (.ix (.loc 0) (.cst (.int 0)))))
 (.cons (.for_ (.tp [(.nm 4), (.nm 5)]) (.enum (.loc 2)) (.cons (.augx 3 (.loc 5) .add (.ite (.cmp .lt (.loc 4) (.cst (.int 2))) (.neg (.cst (.int 1))) (.cst (.int 1))))
 .nil))
 (.cons (.frz [3])
 (.cons (.app 1 (.loc 3))
 .nil)))))
 (.cons (.frz [1])
 (.cons (.ret (.loc 1))
 .nil))))⟩
def c_tableau : Fd := ⟨2, 8, false,
 (.cons (.own 2 (.lst .nil))
 (.cons (.for_ (.nm 3) (.rng1 (.loc 1)) (.cons (.asg 4 (.lc (.tup (.cons (.bi .int (.cons (.cmp .eq (.loc 5) (.loc 3)) .nil)) (.cons (.cst (.int 1)) .nil))) (.nm 5) (.rng1 (.loc 1)) .nil [5]))
 (.cons (.app 2 (.bin .add (.bin .add (.lc (.tup (.cons (.ix (.loc 6) (.loc 3)) (.cons (.cst (.int 1)) .nil))) (.nm 6) (.seq (.loc 0)) .nil [6]) (.loc 4)) (.lst (.cons (.tup (.cons (.bi .int (.cons (.cmp .eq (.loc 3) (.bin .sub (.loc 1) (.cst (.int 1)))) .nil)) (.cons (.cst (.int 1)) .nil))) .nil))))
 .nil)))
 (.cons (.asg 7 (.bin .add (.bin .add (.lc (.tup (.cons (.neg (.bi .sum (.cons (.loc 6) .nil))) (.cons (.cst (.int 1)) .nil))) (.nm 6) (.seq (.loc 0)) .nil [6]) (.bin .mul (.lst (.cons (.tup (.cons (.cst (.int 0)) (.cons (.cst (.int 1)) .nil))) .nil)) (.loc 1))) (.lst (.cons (.tup (.cons (.neg (.cst (.int 1))) (.cons (.cst (.int 1)) .nil))) .nil))))
 (.cons (.frz [2])
 (.cons (.ret (.tup (.cons (.loc 2) (.cons (.loc 7) .nil))))
 .nil)))))⟩
def c_taken_off : Fd := ⟨3, 5, false,
 (.cons (.ret (.lc (.call 63 (.cons (.loc 4) (.cons (.call 53 (.cons (.loc 2) (.cons (.ix (.loc 1) (.loc 3)) .nil))) .nil))) (.tp [(.nm 3), (.nm 4)]) (.enum (.loc 0)) .nil [3, 4]))
 .nil)⟩
def c_turned : Fd := ⟨5, 9, false,
 (.cons (.asg 5 (.ix (.ix (.loc 0) (.loc 3)) (.loc 4)))
 (.cons (.asg 6 (.lc (.call 64 (.cons (.loc 7) (.cons (.loc 5) .nil))) (.nm 7) (.seq (.ix (.loc 0) (.loc 3))) .nil [7]))
 (.cons (.asg 0 (.lc (.ite (.cmp .eq (.loc 8) (.loc 3)) (.loc 6) (.call 69 (.cons (.loc 7) (.cons (.loc 6) (.cons (.ix (.loc 7) (.loc 4)) .nil))))) (.tp [(.nm 8), (.nm 7)]) (.enum (.loc 0)) .nil [8, 7]))
 (.cons (.ret (.tup (.cons (.loc 0) (.cons (.call 69 (.cons (.loc 1) (.cons (.loc 6) (.cons (.ix (.loc 1) (.loc 4)) .nil)))) (.cons (.bin .add (.bin .add (.sl (.loc 2) false (.cst .non) true (.loc 3)) (.lst (.cons (.loc 4) .nil))) (.sl (.loc 2) true (.bin .add (.loc 3) (.cst (.int 1))) false (.cst .non))) .nil)))))
 .nil))))⟩
def c_solved : Fd := ⟨1, 11, false,
 (.cons (.asg 0 (.lc (.bin .add (.loc 1) (.lst (.cons (.cst (.int 1)) .nil))) (.nm 1) (.seq (.loc 0)) .nil [1]))
 (.cons (.asg 2 (.bi .len (.cons (.ix (.loc 0) (.cst (.int 0))) .nil)))
 (.cons (.asgT (.tp [(.nm 3), (.nm 4)]) (.call 68 (.cons (.loc 0) (.cons (.loc 2) .nil))))
 (.cons (.asg 5 (.lc (.bin .add (.bi .len (.cons (.loc 0) .nil)) (.loc 6)) (.nm 6) (.rng1 (.loc 2)) .nil [6]))
 (.cons (.wh (.cst (.bl true)) (.cons (.asg 7 (.lc (.loc 6) (.nm 6) (.rng1 (.bi .len (.cons (.loc 0) .nil))) (.cons (.call 65 (.cons (.ix (.loc 4) (.loc 6)) (.cons (.tup (.cons (.cst (.int 0)) (.cons (.cst (.int 1)) .nil))) .nil))) .nil) [6]))
 (.cons (.ite (.cmp .eq (.loc 7) (.lst .nil)) (.cons (.ret (.tup (.cons (.loc 3) (.cons (.loc 4) (.cons (.loc 5) .nil)))))
 .nil) .nil)
 (.cons (.asg 8 (.cst .non))
 (.cons (.for_ (.tp [(.nm 6), (.nm 9)]) (.enum (.loc 3)) (.cons (.ite (.call 65 (.cons (.tup (.cons (.cst (.int 0)) (.cons (.cst (.int 1)) .nil))) (.cons (.ix (.loc 9) (.ix (.loc 7) (.cst (.int 0)))) .nil))) (.cons (.asg 10 (.call 64 (.cons (.ix (.loc 9) (.neg (.cst (.int 1)))) (.cons (.ix (.loc 9) (.ix (.loc 7) (.cst (.int 0)))) .nil))))
 (.cons (.ite (.or (.cmp .is_ (.loc 8) (.cst .non)) (.or (.call 65 (.cons (.loc 10) (.cons (.ix (.loc 8) (.cst (.int 0))) .nil))) (.and (.cmp .eq (.loc 10) (.ix (.loc 8) (.cst (.int 0)))) (.cmp .lt (.ix (.loc 5) (.loc 6)) (.ix (.loc 8) (.cst (.int 1))))))) (.cons (.asg 8 (.tup (.cons (.loc 10) (.cons (.ix (.loc 5) (.loc 6)) (.cons (.loc 6) .nil)))))
 .nil) .nil)
 .nil)) .nil)
 .nil))
 (.cons (.asgT (.tp [(.nm 3), (.nm 4), (.nm 5)]) (.call 70 (.cons (.loc 3) (.cons (.loc 4) (.cons (.loc 5) (.cons (.ix (.loc 8) (.cst (.int 2))) (.cons (.ix (.loc 7) (.cst (.int 0))) .nil)))))))
 .nil))))))
 .nil)))))⟩
def c_weights_in : Fd := ⟨1, 6, false,
 (.cons (.asg 1 (.call 67 (.cons (.loc 0) .nil)))
 (.cons (.ite (.cmp .eq (.loc 1) (.lst .nil)) (.cons (.ret (.bin .mul (.tup (.cons (.cst (.int 0)) .nil)) (.ix (.loc 0) (.cst (.int 0)))))
 .nil) .nil)
 (.cons (.asgT (.tp [(.nm 2), (.nm 3), (.nm 4)]) (.call 71 (.cons (.loc 1) .nil)))
 (.cons (.ite (.cmp .eq (.ix (.ix (.loc 3) (.neg (.cst (.int 1)))) (.cst (.int 0))) (.cst (.int 0))) (.cons (.ret (.cst .non))
 .nil) .nil)
 (.cons (.ret (.bi .tuple (.cons (.call 66 (.cons (.lc (.call 63 (.cons (.tup (.cons (.cst (.int 1)) (.cons (.cst (.int 1)) .nil))) (.cons (.ix (.loc 3) (.bin .add (.bi .len (.cons (.loc 1) .nil)) (.loc 5))) .nil))) (.nm 5) (.rng1 (.ix (.loc 0) (.cst (.int 0)))) .nil [5]) .nil)) .nil)))
 .nil)))))⟩
def c_weights : Fd := ⟨1, 1, false,
 (.cons (.ex (.call 2 (.cons (.loc 0) .nil)))
 (.cons (.ret (.call 72 (.cons (.loc 0) .nil)))
 .nil))⟩
def c_ends : Fd := ⟨1, 1, false,
 (.cons (.ex (.call 2 (.cons (.loc 0) .nil)))
 (.cons (.ret (.cmp .isnot (.call 72 (.cons (.loc 0) .nil)) (.cst .non)))
 .nil))⟩
def c_lowered : Fd := ⟨2, 5, false,
 (.cons (.for_ (.nm 2) (.seq (.call 67 (.cons (.loc 0) .nil))) (.cons (.ite (.cmp .ge (.bi .sum (.cons (.lc (.bin .mul (.ix (.loc 1) (.loc 3)) (.loc 4)) (.tp [(.nm 3), (.nm 4)]) (.enum (.loc 2)) .nil [3, 4]) .nil)) (.cst (.int 0))) (.cons (.ret (.cst (.bl false)))
 .nil) .nil)
 .nil))
 (.cons (.ret (.cst (.bl true)))
 .nil))⟩
def c_shows_weights : Fd := ⟨2, 3, false,
 (.cons (.ex (.call 2 (.cons (.loc 0) .nil)))
 (.cons (.ite (.cmp .is_ (.call 72 (.cons (.loc 0) .nil)) (.cst .non)) (.cons (.ret (.cmp .is_ (.loc 1) (.cst .non)))
 .nil) .nil)
 (.cons (.ite (.or (.not (.bi (.isi [.tuple]) (.cons (.loc 1) .nil))) (.cmp .ne (.bi .len (.cons (.loc 1) .nil)) (.ix (.loc 0) (.cst (.int 0))))) (.cons (.ret (.cst (.bl false)))
 .nil) .nil)
 (.cons (.ite (.cmp .ne (.lc (.loc 2) (.nm 2) (.seq (.loc 1)) (.cons (.or (.not (.bi (.isi [.int]) (.cons (.loc 2) .nil))) (.bi (.isi [.bool]) (.cons (.loc 2) .nil))) .nil) [2]) (.lst .nil)) (.cons (.ret (.cst (.bl false)))
 .nil) .nil)
 (.cons (.ret (.call 75 (.cons (.loc 0) (.cons (.loc 1) .nil))))
 .nil)))))⟩
def c_shares_in : Fd := ⟨1, 8, false,
 (.cons (.asg 1 (.call 67 (.cons (.loc 0) .nil)))
 (.cons (.ite (.cmp .eq (.loc 1) (.lst .nil)) (.cons (.ret (.cst .non))
 .nil) .nil)
 (.cons (.asgT (.tp [(.nm 2), (.nm 3), (.nm 4)]) (.call 71 (.cons (.loc 1) .nil)))
 (.cons (.ite (.cmp .ne (.ix (.ix (.loc 3) (.neg (.cst (.int 1)))) (.cst (.int 0))) (.cst (.int 0))) (.cons (.ret (.cst .non))
 .nil) .nil)
 (.cons (.own 5 (.bin .mul (.lst (.cons (.tup (.cons (.cst (.int 0)) (.cons (.cst (.int 1)) .nil))) .nil)) (.bi .len (.cons (.loc 1) .nil))))
 (.cons (.for_ (.tp [(.nm 6), (.nm 7)]) (.enum (.loc 4)) (.cons (.ite (.cmp .lt (.loc 7) (.bi .len (.cons (.loc 1) .nil))) (.cons (.setx 5 (.loc 7) (.ix (.ix (.loc 2) (.loc 6)) (.neg (.cst (.int 1)))))
 .nil) .nil)
 .nil))
 (.cons (.frz [5])
 (.cons (.ret (.call 66 (.cons (.loc 5) .nil)))
 .nil))))))))⟩
def c_shares : Fd := ⟨1, 2, false,
 (.cons (.ex (.call 2 (.cons (.loc 0) .nil)))
 (.cons (.asg 1 (.call 77 (.cons (.loc 0) .nil)))
 (.cons (.ret (.ite (.cmp .is_ (.loc 1) (.cst .non)) (.cst .non) (.bi .tuple (.cons (.loc 1) .nil))))
 .nil)))⟩
def c_shows_shares : Fd := ⟨2, 6, false,
 (.cons (.ex (.call 2 (.cons (.loc 0) .nil)))
 (.cons (.ite (.cmp .isnot (.call 72 (.cons (.loc 0) .nil)) (.cst .non)) (.cons (.ret (.cmp .is_ (.loc 1) (.cst .non)))
 .nil) .nil)
 (.cons (.ite (.or (.not (.bi (.isi [.tuple]) (.cons (.loc 1) .nil))) (.cmp .ne (.bi .len (.cons (.loc 1) .nil)) (.bi .len (.cons (.ix (.loc 0) (.cst (.int 1))) .nil)))) (.cons (.ret (.cst (.bl false)))
 .nil) .nil)
 (.cons (.ite (.or (.cmp .ne (.lc (.loc 2) (.nm 2) (.seq (.loc 1)) (.cons (.or (.not (.bi (.isi [.int]) (.cons (.loc 2) .nil))) (.or (.bi (.isi [.bool]) (.cons (.loc 2) .nil)) (.cmp .lt (.loc 2) (.cst (.int 0))))) .nil) [2]) (.lst .nil)) (.cmp .eq (.bi .sum (.cons (.loc 1) .nil)) (.cst (.int 0)))) (.cons (.ret (.cst (.bl false)))
 .nil) .nil)
 (.cons (.asg 3 (.call 67 (.cons (.loc 0) .nil)))
 (.cons (.ret (.cmp .eq (.lc (.loc 4) (.nm 4) (.rng1 (.ix (.loc 0) (.cst (.int 0)))) (.cons (.cmp .ne (.bi .sum (.cons (.lc (.bin .mul (.loc 2) (.ix (.ix (.loc 3) (.loc 5)) (.loc 4))) (.tp [(.nm 5), (.nm 2)]) (.enum (.loc 1)) .nil [5, 2]) .nil)) (.cst (.int 0))) .nil) [4]) (.lst .nil)))
 .nil))))))⟩
def c_l_delta : Fd := ⟨1, 4, false,
 (.cons (.own 1 (.lst .nil))
 (.cons (.for_ (.nm 2) (.seq (.ix (.loc 0) (.cst (.int 1)))) (.cons (.app 1 (.lc (.bin .sub (.bi .count (.cons (.sl (.loc 2) true (.cst (.int 2)) false (.cst .non)) (.cons (.loc 3) .nil))) (.bi .count (.cons (.sl (.loc 2) false (.cst .non) true (.cst (.int 2))) (.cons (.loc 3) .nil)))) (.nm 3) (.rng1 (.ix (.loc 0) (.cst (.int 0)))) .nil [3]))
 .nil))
 (.cons (.frz [1])
 (.cons (.ret (.loc 1))
 .nil))))⟩
def c_l_is_vector : Fd := ⟨2, 3, false,
 (.cons (.ite (.or (.not (.bi (.isi [.tuple]) (.cons (.loc 0) .nil))) (.cmp .ne (.bi .len (.cons (.loc 0) .nil)) (.loc 1))) (.cons (.ret (.cst (.bl false)))
 .nil) .nil)
 (.cons (.ret (.cmp .eq (.lc (.loc 2) (.nm 2) (.seq (.loc 0)) (.cons (.or (.not (.bi (.isi [.int]) (.cons (.loc 2) .nil))) (.bi (.isi [.bool]) (.cons (.loc 2) .nil))) .nil) [2]) (.lst .nil)))
 .nil))⟩
def c_full_web : Fd := ⟨1, 4, false,
 (.cons (.asg 1 (.lst .nil))
 (.cons (.for_ (.nm 2) (.rng1 (.loc 0)) (.cons (.asg 1 (.bin .add (.loc 1) (.lc (.tup (.cons (.loc 2) (.cons (.loc 3) .nil))) (.nm 3) (.rng2 (.bin .add (.loc 2) (.cst (.int 1))) (.loc 0)) .nil [3])))
 .nil))
 (.cons (.ret (.tup (.cons (.loc 0) (.cons (.bi .tuple (.cons (.loc 1) .nil)) .nil))))
 .nil)))⟩
def c_round_run : Fd := ⟨1, 7, false,
 (.cons (.ex (.call 2 (.cons (.loc 0) .nil)))
 (.cons (.asg 1 (.call 77 (.cons (.loc 0) .nil)))
 (.cons (.ite (.cmp .is_ (.loc 1) (.cst .non)) (.cons (.ret (.cst .non))
 .nil) .nil)
 (.cons (.ite (.cmp .gt (.bin .mul (.cst (.int 2)) (.bi .sum (.cons (.loc 1) .nil))) (.cst (.int 8))) (.cons (.rais 15 (.cons (.cst (.int 8)) .nil))
 .nil) .nil)
 (.cons (.asgP [(2, false), (3, false)] (.cons (.tup .nil) (.cons (.tup .nil) .nil)))
 (.cons (.for_ (.tp [(.nm 4), (.nm 5)]) (.zip (.ix (.loc 0) (.cst (.int 1))) (.loc 1)) (.cons (.for_ (.nm 6) (.rng1 (.loc 5)) (.cons (.asg 3 (.bin .add (.loc 3) (.tup (.cons (.tup (.cons (.tup (.cons (.bi .len (.cons (.loc 2) .nil)) (.cons (.bin .add (.bi .len (.cons (.loc 2) .nil)) (.cst (.int 1))) .nil))) (.cons (.sl (.loc 4) true (.cst (.int 2)) false (.cst .non)) .nil))) .nil))))
 (.cons (.asg 2 (.bin .add (.loc 2) (.sl (.loc 4) false (.cst .non) true (.cst (.int 2)))))
 .nil)))
 .nil))
 (.cons (.ret (.tup (.cons (.loc 2) (.cons (.loc 3) .nil))))
 .nil)))))))⟩
def c_shows_round : Fd := ⟨2, 7, false,
 (.cons (.ex (.call 2 (.cons (.loc 0) .nil)))
 (.cons (.ite (.or (.not (.bi (.isi [.tuple]) (.cons (.loc 1) .nil))) (.or (.cmp .ne (.bi .len (.cons (.loc 1) .nil)) (.cst (.int 2))) (.not (.bi (.isi [.tuple]) (.cons (.ix (.loc 1) (.cst (.int 0))) .nil))))) (.cons (.ret (.cst (.bl false)))
 .nil) .nil)
 (.cons (.asgT (.tp [(.nm 2), (.nm 3)]) (.loc 1))
 (.cons (.ite (.or (.not (.chain .le .le (.cst (.int 1)) (.bi .len (.cons (.loc 2) .nil)) (.cst (.int 8)))) (.cmp .ne (.lc (.loc 4) (.nm 4) (.seq (.loc 2)) (.cons (.not (.call 0 (.cons (.loc 4) (.cons (.cst (.int 0)) (.cons (.bin .sub (.ix (.loc 0) (.cst (.int 0))) (.cst (.int 1))) .nil))))) .nil) [4]) (.lst .nil))) (.cons (.ret (.cst (.bl false)))
 .nil) .nil)
 (.cons (.asg 5 (.call 82 (.cons (.bi .len (.cons (.loc 2) .nil)) .nil)))
 (.cons (.ite (.or (.not (.bi (.isi [.tuple]) (.cons (.loc 3) .nil))) (.not (.chain .le .le (.cst (.int 1)) (.bi .len (.cons (.loc 3) .nil)) (.cst (.int 100))))) (.cons (.ret (.cst (.bl false)))
 .nil) .nil)
 (.cons (.ite (.cmp .ne (.lc (.loc 4) (.nm 4) (.seq (.loc 3)) (.cons (.not (.call 31 (.cons (.loc 0) (.cons (.loc 5) (.cons (.loc 4) .nil))))) .nil) [4]) (.lst .nil)) (.cons (.ret (.cst (.bl false)))
 .nil) .nil)
 (.cons (.asg 6 (.call 34 (.cons (.loc 0) (.cons (.loc 5) (.cons (.loc 2) (.cons (.loc 3) .nil))))))
 (.cons (.ret (.and (.cmp .gt (.bi .len (.cons (.loc 6) .nil)) (.bi .len (.cons (.loc 3) .nil))) (.cmp .eq (.bi .sorted (.cons (.ix (.loc 6) (.neg (.cst (.int 1)))) .nil)) (.bi .sorted (.cons (.loc 2) .nil)))))
 .nil)))))))))⟩
def c_l_loops : Fd := ⟨1, 6, false,
 (.cons (.for_ (.nm 1) (.seq (.lst (.cons (.cst (.int 2)) (.cons (.cst (.int 3)) (.cons (.cst (.int 4)) .nil))))) (.cons (.asg 2 (.lst .nil))
 (.cons (.for_ (.nm 3) (.rng1 (.loc 1)) (.cons (.asg 2 (.bin .add (.loc 2) (.lc (.tup (.cons (.loc 3) (.cons (.loc 4) .nil))) (.nm 4) (.rng2 (.bin .add (.loc 3) (.cst (.int 1))) (.loc 1)) .nil [4])))
 .nil))
 (.cons (.for_ (.nm 5) (.seq (.call 40 (.cons (.loc 1) (.cons (.ix (.loc 0) (.cst (.int 0))) .nil)))) (.cons (.ite (.and (.cmp .eq (.bi .list (.cons (.loc 5) .nil)) (.bi .sorted (.cons (.loc 5) .nil))) (.cmp .is_ (.call 49 (.cons (.call 47 (.cons (.loc 0) (.cons (.tup (.cons (.loc 1) (.cons (.bi .tuple (.cons (.loc 2) .nil)) .nil))) (.cons (.loc 5) .nil)))) .nil)) (.cst .non))) (.cons (.ret (.cst (.bl true)))
 .nil) .nil)
 .nil))
 .nil))))
 (.cons (.ret (.cst (.bl false)))
 .nil))⟩
def c_l_signed : Fd := ⟨2, 2, true,
 (.cons (.ret (.bin .sub (.callr 10 (.cons (.bin .add (.bin .mul (.cst (.int 2)) (.loc 1)) (.cst (.int 1))) .nil)) (.loc 1)))
 .nil)⟩
def c_row_web : Fd := ⟨1, 2, false,
 (.cons (.ret (.tup (.cons (.loc 0) (.cons (.bi .tuple (.cons (.lc (.tup (.cons (.loc 1) (.cons (.bin .add (.loc 1) (.cst (.int 1))) .nil))) (.nm 1) (.rng1 (.bin .sub (.loc 0) (.cst (.int 1)))) .nil [1]) .nil)) .nil))))
 .nil)⟩
def c_need_ending : Fd := ⟨1, 1, false,
 (.cons (.ex (.call 2 (.cons (.loc 0) .nil)))
 (.cons (.ite (.cmp .is_ (.call 72 (.cons (.loc 0) .nil)) (.cst .non)) (.cons (.rais 11 .nil)
 .nil) .nil)
 .nil))⟩
def c_starts : Fd := ⟨2, 7, false,
 (.cons (.asg 2 (.lst (.cons (.tup .nil) .nil)))
 (.cons (.for_ (.nm 3) (.rng1 (.loc 1)) (.cons (.asg 4 (.lst .nil))
 (.cons (.for_ (.nm 5) (.seq (.loc 2)) (.cons (.asg 4 (.bin .add (.loc 4) (.lc (.bin .add (.loc 5) (.tup (.cons (.loc 6) .nil))) (.nm 6) (.rng1 (.ix (.loc 0) (.cst (.int 0)))) .nil [6])))
 .nil))
 (.cons (.asg 2 (.loc 4))
 .nil))))
 (.cons (.ret (.loc 2))
 .nil)))⟩
def c_clash_in : Fd := ⟨1, 4, false,
 (.cons (.for_ (.nm 1) (.seq (.tup (.cons (.cst (.int 2)) (.cons (.cst (.int 3)) .nil)))) (.cons (.for_ (.nm 2) (.seq (.call 89 (.cons (.loc 0) (.cons (.loc 1) .nil)))) (.cons (.asg 3 (.call 43 (.cons (.loc 0) (.cons (.call 87 (.cons (.loc 1) .nil)) (.cons (.loc 2) .nil)))))
 (.cons (.ite (.cmp .gt (.bi .len (.cons (.loc 3) .nil)) (.cst (.int 1))) (.cons (.ret (.tup (.cons (.loc 2) (.cons (.ix (.loc 3) (.cst (.int 0))) (.cons (.ix (.loc 3) (.cst (.int 1))) .nil)))))
 .nil) .nil)
 .nil)))
 .nil))
 (.cons (.ret (.cst .non))
 .nil))⟩
def c_clash : Fd := ⟨1, 1, false,
 (.cons (.ex (.call 88 (.cons (.loc 0) .nil)))
 (.cons (.ret (.call 90 (.cons (.loc 0) .nil)))
 .nil))⟩
def c_has_one_rest : Fd := ⟨1, 1, false,
 (.cons (.ex (.call 88 (.cons (.loc 0) .nil)))
 (.cons (.ret (.cmp .is_ (.call 90 (.cons (.loc 0) .nil)) (.cst .non)))
 .nil))⟩
def c_l_clash : Fd := ⟨1, 4, false,
 (.cons (.for_ (.nm 1) (.seq (.lst (.cons (.cst (.int 2)) (.cons (.cst (.int 3)) .nil)))) (.cons (.for_ (.nm 2) (.seq (.call 40 (.cons (.loc 1) (.cons (.ix (.loc 0) (.cst (.int 0))) .nil)))) (.cons (.asg 3 (.call 48 (.cons (.call 47 (.cons (.loc 0) (.cons (.call 87 (.cons (.loc 1) .nil)) (.cons (.loc 2) .nil)))) .nil)))
 (.cons (.ite (.cmp .gt (.bi .len (.cons (.loc 3) .nil)) (.cst (.int 1))) (.cons (.ret (.tup (.cons (.loc 2) (.cons (.ix (.loc 3) (.cst (.int 0))) (.cons (.ix (.loc 3) (.cst (.int 1))) .nil)))))
 .nil) .nil)
 .nil)))
 .nil))
 (.cons (.ret (.cst .non))
 .nil))⟩
def c_l_calm : Fd := ⟨2, 8, true,
 (.cons (.for_ (.nm 2) (.rng1 (.cst (.int 5))) (.cons (.asg 3 (.callr 59 (.cons (.loc 1) .nil)))
 (.cons (.ite (.and (.cmp .ne (.ix (.loc 3) (.cst (.int 1))) (.tup .nil)) (.cmp .is_ (.call 93 (.cons (.loc 3) .nil)) (.cst .non))) (.cons (.ret (.loc 3))
 .nil) .nil)
 .nil)))
 (.cons (.asgP [(4, false), (5, false)] (.cons (.bin .add (.cst (.int 2)) (.callr 10 (.cons (.bin .sub (.loc 1) (.cst (.int 1))) .nil))) (.cons (.lst .nil) .nil)))
 (.cons (.for_ (.nm 6) (.rng1 (.loc 4)) (.cons (.asg 5 (.bin .add (.loc 5) (.lc (.tup (.cons (.loc 6) (.cons (.loc 7) (.cons (.loc 7) (.cons (.loc 7) .nil))))) (.nm 7) (.rng2 (.bin .add (.loc 6) (.cst (.int 1))) (.loc 4)) .nil [7])))
 .nil))
 (.cons (.ret (.tup (.cons (.loc 4) (.cons (.bi .tuple (.cons (.loc 5) .nil)) .nil))))
 .nil))))⟩
def c_need_one_rest : Fd := ⟨1, 1, false,
 (.cons (.ex (.call 88 (.cons (.loc 0) .nil)))
 (.cons (.ite (.cmp .isnot (.call 90 (.cons (.loc 0) .nil)) (.cst .non)) (.cons (.rais 12 .nil)
 .nil) .nil)
 .nil))⟩
def c_rested : Fd := ⟨3, 8, false,
 (.cons (.asgP [(3, true), (4, false)] (.cons (.bi .list (.cons (.loc 2) .nil)) (.cons (.cst (.bl true)) .nil)))
 (.cons (.wh (.loc 4) (.cons (.asg 4 (.cst (.bl false)))
 (.cons (.for_ (.tp [(.nm 5), (.nm 6)]) (.seq (.loc 1)) (.cons (.asg 7 (.call 4 (.cons (.loc 0) (.cons (.tup (.cons (.ix (.bor 3) (.loc 5)) (.cons (.ix (.bor 3) (.loc 6)) .nil))) .nil))))
 (.cons (.wh (.cmp .ne (.loc 7) (.lst .nil)) (.cons (.set2 3 (.loc 5) (.loc 6) (.ix (.loc 7) (.cst (.int 0))))
 (.cons (.asg 4 (.cst (.bl true)))
 (.cons (.asg 7 (.call 4 (.cons (.loc 0) (.cons (.tup (.cons (.ix (.bor 3) (.loc 5)) (.cons (.ix (.bor 3) (.loc 6)) .nil))) .nil))))
 .nil))))
 .nil)))
 .nil)))
 (.cons (.ret (.bi .tuple (.cons (.bor 3) .nil)))
 .nil)))⟩
def c_rest : Fd := ⟨3, 3, false,
 (.cons (.ex (.call 95 (.cons (.loc 0) .nil)))
 (.cons (.ex (.call 25 (.cons (.loc 1) .nil)))
 (.cons (.ex (.call 26 (.cons (.loc 0) (.cons (.ix (.loc 1) (.cst (.int 0))) (.cons (.loc 2) .nil)))))
 (.cons (.ret (.call 96 (.cons (.loc 0) (.cons (.ix (.loc 1) (.cst (.int 1))) (.cons (.loc 2) .nil)))))
 .nil))))⟩
def c_need_row : Fd := ⟨3, 3, false,
 (.cons (.ite (.or (.not (.bi (.isi [.tuple]) (.cons (.loc 1) .nil))) (.not (.chain .le .le (.loc 2) (.bi .len (.cons (.loc 1) .nil)) (.cst (.int 30))))) (.cons (.rais 10 .nil)
 .nil) .nil)
 (.cons (.ex (.call 26 (.cons (.loc 0) (.cons (.bi .len (.cons (.loc 1) .nil)) (.cons (.loc 1) .nil)))))
 .nil))⟩
def c_row_rest : Fd := ⟨2, 2, false,
 (.cons (.ex (.call 95 (.cons (.loc 0) .nil)))
 (.cons (.ex (.call 98 (.cons (.loc 0) (.cons (.loc 1) (.cons (.cst (.int 1)) .nil)))))
 (.cons (.ret (.call 96 (.cons (.loc 0) (.cons (.ix (.call 87 (.cons (.bi .len (.cons (.loc 1) .nil)) .nil)) (.cst (.int 1))) (.cons (.loc 1) .nil)))))
 .nil)))⟩
def c_ring_rest : Fd := ⟨2, 2, false,
 (.cons (.ex (.call 95 (.cons (.loc 0) .nil)))
 (.cons (.ex (.call 98 (.cons (.loc 0) (.cons (.loc 1) (.cons (.cst (.int 3)) .nil)))))
 (.cons (.ret (.call 96 (.cons (.loc 0) (.cons (.bin .add (.ix (.call 87 (.cons (.bi .len (.cons (.loc 1) .nil)) .nil)) (.cst (.int 1))) (.tup (.cons (.tup (.cons (.cst (.int 0)) (.cons (.bin .sub (.bi .len (.cons (.loc 1) .nil)) (.cst (.int 1))) .nil))) .nil))) (.cons (.loc 1) .nil)))))
 .nil)))⟩
def c_calm_sum : Fd := ⟨3, 5, false,
 (.cons (.ret (.bi .sum (.cons (.lc (.loc 4) (.tp [(.nm 3), (.nm 4)]) (.enum (.loc 1)) (.cons (.cmp .eq (.call 4 (.cons (.loc 0) (.cons (.tup (.cons (.loc 3) (.cons (.loc 2) .nil))) .nil))) (.lst .nil)) .nil) [3, 4]) .nil)))
 .nil)⟩
def c_rest_ring_count : Fd := ⟨2, 7, false,
 (.cons (.ex (.call 2 (.cons (.loc 0) .nil)))
 (.cons (.ite (.not (.call 0 (.cons (.loc 1) (.cons (.cst (.int 3)) (.cons (.cst (.int 30)) .nil))))) (.cons (.rais 10 .nil)
 .nil) .nil)
 (.cons (.asg 2 (.cst (.int 0)))
 (.cons (.for_ (.nm 3) (.rng1 (.ix (.loc 0) (.cst (.int 0)))) (.cons (.asg 4 (.lc (.bi .int (.cons (.cmp .eq (.loc 5) (.loc 3)) .nil)) (.nm 5) (.rng1 (.ix (.loc 0) (.cst (.int 0)))) .nil [5]))
 (.cons (.for_ (.nm 6) (.rng1 (.bin .sub (.loc 1) (.cst (.int 1)))) (.cons (.asg 4 (.lc (.call 101 (.cons (.loc 0) (.cons (.loc 4) (.cons (.loc 5) .nil)))) (.nm 5) (.rng1 (.ix (.loc 0) (.cst (.int 0)))) .nil [5]))
 .nil))
 (.cons (.aug 2 .add (.call 101 (.cons (.loc 0) (.cons (.loc 4) (.cons (.loc 3) .nil)))))
 .nil))))
 (.cons (.ret (.loc 2))
 .nil)))))⟩
def c_l_rest : Fd := ⟨3, 4, false,
 (.cons (.asg 3 (.loc 2))
 (.cons (.wh (.cmp .ne (.call 39 (.cons (.loc 0) (.cons (.loc 1) (.cons (.loc 3) .nil)))) (.lst .nil)) (.cons (.asg 3 (.ix (.ix (.call 39 (.cons (.loc 0) (.cons (.loc 1) (.cons (.loc 3) .nil)))) (.neg (.cst (.int 1)))) (.cst (.int 1))))
 .nil))
 (.cons (.ret (.loc 3))
 .nil)))⟩
def c_least_in : Fd := ⟨1, 4, false,
 (.cons (.own 1 (.lst .nil))
 (.cons (.for_ (.nm 2) (.seq (.call 89 (.cons (.loc 0) (.cons (.cst (.int 2)) .nil)))) (.cons (.asg 3 (.call 96 (.cons (.loc 0) (.cons (.tup (.cons (.tup (.cons (.cst (.int 0)) (.cons (.cst (.int 1)) .nil))) .nil)) (.cons (.loc 2) .nil)))))
 (.cons (.ite (.and (.cmp .le (.ix (.loc 2) (.cst (.int 0))) (.ix (.loc 2) (.cst (.int 1)))) (.cmp .ne (.loc 3) (.loc 2))) (.cons (.app 1 (.call 6 (.cons (.loc 2) (.cons (.loc 3) .nil))))
 .nil) .nil)
 .nil)))
 (.cons (.ret (.tup (.cons (.ix (.loc 0) (.cst (.int 0))) (.cons (.bi .tuple (.cons (.bi .sorted (.cons (.bor 1) .nil)) .nil)) .nil))))
 .nil)))⟩
def c_least_table : Fd := ⟨1, 1, false,
 (.cons (.ex (.call 95 (.cons (.loc 0) .nil)))
 (.cons (.ret (.call 104 (.cons (.loc 0) .nil)))
 .nil))⟩
def c_alike : Fd := ⟨2, 2, false,
 (.cons (.ex (.call 95 (.cons (.loc 0) .nil)))
 (.cons (.ex (.call 95 (.cons (.loc 1) .nil)))
 (.cons (.ret (.cmp .eq (.call 104 (.cons (.loc 0) .nil)) (.call 104 (.cons (.loc 1) .nil))))
 .nil)))⟩
def c_rest_row_count : Fd := ⟨2, 5, false,
 (.cons (.ex (.call 2 (.cons (.loc 0) .nil)))
 (.cons (.ite (.not (.call 0 (.cons (.loc 1) (.cons (.cst (.int 1)) (.cons (.cst (.int 30)) .nil))))) (.cons (.rais 10 .nil)
 .nil) .nil)
 (.cons (.asg 2 (.bin .mul (.lst (.cons (.cst (.int 1)) .nil)) (.ix (.loc 0) (.cst (.int 0)))))
 (.cons (.for_ (.nm 3) (.rng1 (.bin .sub (.loc 1) (.cst (.int 1)))) (.cons (.asg 2 (.lc (.call 101 (.cons (.loc 0) (.cons (.loc 2) (.cons (.loc 4) .nil)))) (.nm 4) (.rng1 (.ix (.loc 0) (.cst (.int 0)))) .nil [4]))
 .nil))
 (.cons (.ret (.bi .sum (.cons (.loc 2) .nil)))
 .nil)))))⟩
def c_off : Fd := ⟨3, 5, false,
 (.cons (.ret (.lc (.call 63 (.cons (.loc 4) (.cons (.call 53 (.cons (.ix (.loc 0) (.loc 2)) (.cons (.ix (.loc 1) (.loc 3)) .nil))) .nil))) (.tp [(.nm 3), (.nm 4)]) (.enum (.loc 0)) .nil [3, 4]))
 .nil)⟩
def c_keeps : Fd := ⟨2, 6, false,
 (.cons (.ex (.call 2 (.cons (.loc 0) .nil)))
 (.cons (.ite (.or (.not (.bi (.isi [.tuple]) (.cons (.loc 1) .nil))) (.cmp .ne (.bi .len (.cons (.loc 1) .nil)) (.ix (.loc 0) (.cst (.int 0))))) (.cons (.rais 9 .nil)
 .nil) .nil)
 (.cons (.ite (.cmp .ne (.lc (.loc 2) (.nm 2) (.seq (.loc 1)) (.cons (.or (.not (.bi (.isi [.int]) (.cons (.loc 2) .nil))) (.bi (.isi [.bool]) (.cons (.loc 2) .nil))) .nil) [2]) (.lst .nil)) (.cons (.rais 9 .nil)
 .nil) .nil)
 (.cons (.for_ (.nm 3) (.seq (.call 67 (.cons (.loc 0) .nil))) (.cons (.ite (.cmp .ne (.bi .sum (.cons (.lc (.bin .mul (.ix (.loc 1) (.loc 4)) (.loc 5)) (.tp [(.nm 4), (.nm 5)]) (.enum (.loc 3)) .nil [4, 5]) .nil)) (.cst (.int 0))) (.cons (.ret (.cst (.bl false)))
 .nil) .nil)
 .nil))
 (.cons (.ret (.cst (.bl true)))
 .nil)))))⟩
def c_rows_of : Fd := ⟨1, 11, false,
 (.cons (.asg 1 (.lc (.lc (.tup (.cons (.loc 2) (.cons (.cst (.int 1)) .nil))) (.nm 2) (.seq (.loc 3)) .nil [2]) (.nm 3) (.seq (.call 67 (.cons (.loc 0) .nil))) .nil [3]))
 (.cons (.asgP [(4, false), (5, true)] (.cons (.lst .nil) (.cons (.lst .nil) .nil)))
 (.cons (.for_ (.nm 6) (.rng1 (.ix (.loc 0) (.cst (.int 0)))) (.cons (.asg 7 (.lc (.loc 8) (.nm 8) (.seq (.loc 1)) (.cons (.cmp .ne (.ix (.ix (.loc 8) (.loc 6)) (.cst (.int 0))) (.cst (.int 0))) .nil) [8]))
 (.cons (.ite (.cmp .ne (.loc 7) (.lst .nil)) (.cons (.asg 9 (.lc (.call 64 (.cons (.loc 10) (.cons (.ix (.ix (.loc 7) (.cst (.int 0))) (.loc 6)) .nil))) (.nm 10) (.seq (.ix (.loc 7) (.cst (.int 0)))) .nil [10]))
 (.cons (.asg 1 (.lc (.call 108 (.cons (.loc 8) (.cons (.loc 9) (.cons (.loc 6) .nil)))) (.nm 8) (.seq (.loc 1)) (.cons (.cmp .ne (.loc 8) (.ix (.loc 7) (.cst (.int 0)))) .nil) [8]))
 (.cons (.asg 4 (.bin .add (.lc (.call 108 (.cons (.loc 8) (.cons (.loc 9) (.cons (.loc 6) .nil)))) (.nm 8) (.seq (.loc 4)) .nil [8]) (.lst (.cons (.loc 9) .nil))))
 (.cons (.app 5 (.loc 6))
 .nil)))) .nil)
 .nil)))
 (.cons (.frz [5])
 (.cons (.ret (.tup (.cons (.loc 4) (.cons (.loc 5) .nil))))
 .nil)))))⟩
def c_kept_sums : Fd := ⟨1, 9, false,
 (.cons (.ex (.call 2 (.cons (.loc 0) .nil)))
 (.cons (.asgT (.tp [(.nm 1), (.nm 2)]) (.call 110 (.cons (.loc 0) .nil)))
 (.cons (.own 3 (.lst .nil))
 (.cons (.for_ (.nm 4) (.seq (.lc (.loc 5) (.nm 5) (.rng1 (.ix (.loc 0) (.cst (.int 0)))) (.cons (.cmp .notin (.loc 5) (.loc 2)) .nil) [5])) (.cons (.own 6 (.lc (.tup (.cons (.bi .int (.cons (.cmp .eq (.loc 5) (.loc 4)) .nil)) (.cons (.cst (.int 1)) .nil))) (.nm 5) (.rng1 (.ix (.loc 0) (.cst (.int 0)))) .nil [5]))
 (.cons (.for_ (.tp [(.nm 7), (.nm 8)]) (.zip (.loc 1) (.loc 2)) (.cons (.setx 6 (.loc 8) (.call 63 (.cons (.tup (.cons (.cst (.int 0)) (.cons (.cst (.int 1)) .nil))) (.cons (.ix (.loc 7) (.loc 4)) .nil))))
 .nil))
 (.cons (.frz [6])
 (.cons (.app 3 (.bi .tuple (.cons (.call 66 (.cons (.loc 6) .nil)) .nil)))
 .nil)))))
 (.cons (.ret (.bi .tuple (.cons (.bor 3) .nil)))
 .nil)))))⟩
def c_may_come : Fd := ⟨2, 9, false,
 (.cons (.ex (.call 2 (.cons (.loc 0) .nil)))
 (.cons (.ite (.or (.not (.bi (.isi [.tuple]) (.cons (.loc 1) .nil))) (.cmp .ne (.lc (.loc 2) (.nm 2) (.seq (.loc 1)) (.cons (.not (.call 0 (.cons (.loc 2) (.cons (.cst (.int 0)) (.cons (.bin .sub (.ix (.loc 0) (.cst (.int 0))) (.cst (.int 1))) .nil))))) .nil) [2]) (.lst .nil))) (.cons (.rais 8 .nil)
 .nil) .nil)
 (.cons (.ite (.cmp .ne (.bi .list (.cons (.loc 1) .nil)) (.bi .sset (.cons (.loc 1) .nil))) (.cons (.rais 8 .nil)
 .nil) .nil)
 (.cons (.asgP [(3, false), (4, false)] (.cons (.bi .list (.cons (.loc 1) .nil)) (.cons (.cst (.bl true)) .nil)))
 (.cons (.wh (.loc 4) (.cons (.asg 4 (.cst (.bl false)))
 (.cons (.for_ (.tp [(.nm 5), (.nm 6), (.nm 7), (.nm 8)]) (.seq (.ix (.loc 0) (.cst (.int 1)))) (.cons (.ite (.and (.cmp .isin (.loc 5) (.loc 3)) (.and (.cmp .isin (.loc 6) (.loc 3)) (.or (.cmp .notin (.loc 7) (.loc 3)) (.cmp .notin (.loc 8) (.loc 3))))) (.cons (.asgP [(3, false), (4, false)] (.cons (.bi .sset (.cons (.bin .add (.loc 3) (.lst (.cons (.loc 7) (.cons (.loc 8) .nil)))) .nil)) (.cons (.cst (.bl true)) .nil)))
 .nil) .nil)
 .nil))
 .nil)))
 (.cons (.ret (.bi .tuple (.cons (.loc 3) .nil)))
 .nil))))))⟩
def c_all_rules : Fd := ⟨0, 5, false,
 (.cons (.own 0 (.lst .nil))
 (.cons (.for_ (.tp [(.nm 1), (.nm 2)]) (.seq (.tup (.cons (.tup (.cons (.cst (.int 0)) (.cons (.cst (.int 0)) .nil))) (.cons (.tup (.cons (.cst (.int 0)) (.cons (.cst (.int 1)) .nil))) (.cons (.tup (.cons (.cst (.int 1)) (.cons (.cst (.int 1)) .nil))) .nil))))) (.cons (.for_ (.tp [(.nm 3), (.nm 4)]) (.seq (.tup (.cons (.tup (.cons (.cst (.int 0)) (.cons (.cst (.int 0)) .nil))) (.cons (.tup (.cons (.cst (.int 0)) (.cons (.cst (.int 1)) .nil))) (.cons (.tup (.cons (.cst (.int 1)) (.cons (.cst (.int 0)) .nil))) (.cons (.tup (.cons (.cst (.int 1)) (.cons (.cst (.int 1)) .nil))) .nil)))))) (.cons (.ite (.and (.cmp .ne (.tup (.cons (.loc 3) (.cons (.loc 4) .nil))) (.tup (.cons (.loc 1) (.cons (.loc 2) .nil)))) (.or (.cmp .lt (.loc 1) (.loc 2)) (.cmp .le (.loc 3) (.loc 4)))) (.cons (.app 0 (.tup (.cons (.loc 1) (.cons (.loc 2) (.cons (.loc 3) (.cons (.loc 4) .nil))))))
 .nil) .nil)
 .nil))
 .nil))
 (.cons (.frz [0])
 (.cons (.ret (.loc 0))
 .nil))))⟩
def c_two_kinds : Fd := ⟨0, 5, false,
 (.cons (.asgP [(0, false), (1, true)] (.cons (.lst (.cons (.tup .nil) .nil)) (.cons (.lst (.cons (.cst (.int 0)) (.cons (.cst (.int 0)) (.cons (.cst (.int 0)) .nil)))) .nil)))
 (.cons (.for_ (.nm 2) (.seq (.call 113 .nil)) (.cons (.asg 0 (.bin .add (.loc 0) (.lc (.bin .add (.loc 3) (.tup (.cons (.loc 2) .nil))) (.nm 3) (.seq (.loc 0)) .nil [3])))
 .nil))
 (.cons (.for_ (.nm 3) (.seq (.loc 0)) (.cons (.asg 4 (.tup (.cons (.cst (.int 2)) (.cons (.loc 3) .nil))))
 (.cons (.ite (.cmp .is_ (.call 72 (.cons (.loc 4) .nil)) (.cst .non)) (.cons (.augx 1 (.cst (.int 2)) .add (.cst (.int 1)))
 .nil) (.cons (.augx 1 (.ite (.cmp .is_ (.call 90 (.cons (.loc 4) .nil)) (.cst .non)) (.cst (.int 0)) (.cst (.int 1))) .add (.cst (.int 1)))
 .nil))
 .nil)))
 (.cons (.ret (.bi .tuple (.cons (.bor 1) .nil)))
 .nil))))⟩
def GG : List Fd := [c_is_in, c_is_rule, c_need_table, c_need_pair, c_results_in, c_results, c_as_rule, c_renamed, c_joined, c_without_rule, c_l_taken, c_l_order, c_l_rule, c_l_table, c_l_alike, c_l_results, c_l_pick, c_write_table, c_skip, c_digit] ++ [c_rule_at, c_read_table, c_l_skip, c_l_text_due, c_is_edge, c_need_web, c_need_kinds, c_need_start, c_moves_in, c_moves, c_moved, c_is_move, c_done, c_is_run, c_line_in, c_after, c_at_rest, c_l_web, c_l_kinds, c_l_moves] ++ [c_l_every, c_come_in, c_all_come, c_rests_in, c_walked_rests, c_order_in, c_goes_on, c_l_walk, c_l_rests, c_l_layers, c_gcd, c_reduced, c_plus, c_times, c_walk_in, c_longest, c_shortest, c_run_count, c_mean_moves, c_l_falling] ++ [c_l_gcd, c_l_ratio, c_l_plus, c_minus, c_over, c_less, c_whole, c_changes, c_tableau, c_taken_off, c_turned, c_solved, c_weights_in, c_weights, c_ends, c_lowered, c_shows_weights, c_shares_in, c_shares, c_shows_shares] ++ [c_l_delta, c_l_is_vector, c_full_web, c_round_run, c_shows_round, c_l_loops, c_l_signed, c_row_web, c_need_ending, c_starts, c_clash_in, c_clash, c_has_one_rest, c_l_clash, c_l_calm, c_need_one_rest, c_rested, c_rest, c_need_row, c_row_rest] ++ [c_ring_rest, c_calm_sum, c_rest_ring_count, c_l_rest, c_least_in, c_least_table, c_alike, c_rest_row_count, c_off, c_keeps, c_rows_of, c_kept_sums, c_may_come, c_all_rules, c_two_kinds]
def GL (c : Fd) : List Fd := GG ++ [c]
end PL

set_option Elab.async false
set_option linter.all false
set_option maxRecDepth 100000
set_option autoImplicit false
set_option maxHeartbeats 400000
namespace PLX
open PySem PL
/-! ### the evaluator's equations -/
section
variable {α β : Type} {cl : Cl} {env : Env'} {r : D}
@[simp] theorem b_ok (a : α) (f : α → R β) : R.bind (.ok a) f = f a := rfl
@[simp] theorem b_ex (c : Nat) (d : D) (f : α → R β) : R.bind (.ex c d) f = .ex c d := rfl
@[simp] theorem b_no (f : α → R β) : R.bind (.no) f = .no := rfl
theorem b_ite {p : Prop} [Decidable p] (x y : R α) (f : α → R β) : R.bind (if p then x else y) f = if p then R.bind x f else R.bind y f := by split <;> rfl
theorem b_assoc {γ : Type} (x : R α) (f : α → R β) (g : β → R γ) : (x.bind f).bind g = x.bind fun a => (f a).bind g := by cases x <;> rfl
@[simp] theorem c_ok (a : α) : R.calm (.ok a) = .ok a := rfl
@[simp] theorem ofO_some (a : α) : R.ofO (some a) = .ok a := rfl
@[simp] theorem asB_bl (b : Bool) : asB (.bl b) = .ok b := rfl
@[simp] theorem ite_and {p : Prop} [Decidable p] (q : Bool) (r : D) : (if p then R.ok (D.bl q, r) else R.ok (D.bl false, r)) = R.ok (D.bl (decide p && q), r) := by by_cases h : p <;> simp [h]
@[simp] theorem ite_or {p : Prop} [Decidable p] (q : Bool) (r : D) : (if p then R.ok (D.bl true, r) else R.ok (D.bl q, r)) = R.ok (D.bl (decide p || q), r) := by by_cases h : p <;> simp [h]
def locR (o : Option Sl) (r : D) : R (D × D) := match o with
    | some (.fr d) => .ok (d, r)
    | _ => .no
def borR (o : Option Sl) (r : D) : R (D × D) := match o with
    | some (.ow d) => .ok (d, r)
    | some (.fr d) => .ok (d, r)
    | _ => .no
@[simp] theorem locR_fr (d r : D) : locR (some (.fr d)) r = .ok (d, r) := rfl
@[simp] theorem borR_fr (d r : D) : borR (some (.fr d)) r = .ok (d, r) := rfl
@[simp] theorem borR_ow (d r : D) : borR (some (.ow d)) r = .ok (d, r) := rfl
def owR (o : Option Sl) : R D := match o with
    | some (.ow d) => .ok d
    | _ => .no
def owL (o : Option Sl) : R (List D) := match o with
    | some (.ow (.lst d)) => .ok d
    | _ => .no
def intR (d : D) : R Int := match d with
    | .int i => .ok i
    | _ => .no
@[simp] theorem owR_ow (d : D) : owR (some (.ow d)) = .ok d := rfl
@[simp] theorem owL_ow (d : List D) : owL (some (.ow (.lst d))) = .ok d := rfl
@[simp] theorem intR_int (i : Int) : intR (.int i) = .ok i := rfl
@[simp] theorem e_loc (i : Nat) : evE cl (.loc i) env r = locR env[i]? r := rfl
@[simp] theorem e_bor (i : Nat) : evE cl (.bor i) env r = borR env[i]? r := rfl
@[simp] theorem e_rw : evE cl .rw env r = if rowOk r then .ok (r, r) else .no := rfl
@[simp] theorem e_cst (d : D) : evE cl (.cst d) env r = .ok (d, r) := rfl
@[simp] theorem e_tup (es : Es) : evE cl (.tup es) env r = (evEs cl es env r).bind fun p => .ok (.tup p.1, p.2) := rfl
@[simp] theorem e_lst (es : Es) : evE cl (.lst es) env r = (evEs cl es env r).bind fun p => .ok (.lst p.1, p.2) := rfl
@[simp] theorem e_emp : evE cl .emp env r = .ok (.dic [], r) := rfl
@[simp] theorem e_bin (o : Op2) (a b : E) : evE cl (.bin o a b) env r = (evE cl a env r).bind fun p => (evE cl b env p.2).bind fun q => (op2D o p.1 q.1).bind fun z => .ok (z, q.2) := rfl
@[simp] theorem e_neg (a : E) : evE cl (.neg a) env r = (evE cl a env r).bind fun p => match p.1 with
    | .int i => .ok (.int (-i), p.2)
    | _ => .no := rfl
@[simp] theorem e_not (a : E) : evE cl (.not a) env r = (evE cl a env r).bind fun p => (asB p.1).bind fun b => .ok (.bl (!b), p.2) := rfl
@[simp] theorem e_and (a b : E) : evE cl (.and a b) env r = (evE cl a env r).bind fun p => (asB p.1).bind fun c => if c then (evE cl b env p.2).bind fun q => (asB q.1).bind fun c => .ok (.bl c, q.2) else .ok (.bl false, p.2) := rfl
@[simp] theorem e_or (a b : E) : evE cl (.or a b) env r = (evE cl a env r).bind fun p => (asB p.1).bind fun c => if c then .ok (.bl true, p.2) else (evE cl b env p.2).bind fun q => (asB q.1).bind fun c => .ok (.bl c, q.2) := rfl
@[simp] theorem e_cmp (o : Cm) (a b : E) : evE cl (.cmp o a b) env r = (evE cl a env r).bind fun p => (evE cl b env p.2).bind fun q => (cmpD o p.1 q.1).bind fun c => .ok (.bl c, q.2) := rfl
@[simp] theorem e_chain (o o2 : Cm) (a b c : E) : evE cl (.chain o o2 a b c) env r = (evE cl a env r).bind fun p => (evE cl b env p.2).bind fun q => (cmpD o p.1 q.1).bind fun k =>
      if k then (evE cl c env q.2).bind fun z => (cmpD o2 q.1 z.1).bind fun k => .ok (.bl k, z.2) else .ok (.bl false, q.2) := rfl
@[simp] theorem e_ite (c a b : E) : evE cl (.ite c a b) env r = (evE cl c env r).bind fun p => (asB p.1).bind fun k => if k then evE cl a env p.2 else evE cl b env p.2 := rfl
@[simp] theorem e_ix (a i : E) : evE cl (.ix a i) env r = (evE cl a env r).bind fun p => (evE cl i env p.2).bind fun q => (ixD p.1 q.1).bind fun z => .ok (z, q.2) := rfl
@[simp] theorem e_sl (a l h : E) (hl hh : Bool) : evE cl (.sl a hl l hh h) env r = (evE cl a env r).bind fun p => (if hl then (evE cl l env p.2).bind fun q => asI q.1 q.2 else .ok (none, p.2)).bind fun q =>
      (if hh then (evE cl h env q.2).bind fun z => asI z.1 z.2 else .ok (none, q.2)).bind fun z => (slD p.1 q.1 z.1).bind fun w => .ok (w, z.2) := rfl
@[simp] theorem e_rev (a : E) : evE cl (.rev a) env r = (evE cl a env r).bind fun p => (revD p.1).bind fun z => .ok (z, p.2) := rfl
@[simp] theorem e_bi (f : Bi) (es : Es) : evE cl (.bi f es) env r = (evEs cl es env r).bind fun p => (biD f p.1).bind fun z => .ok (z, p.2) := rfl
@[simp] theorem e_call (f : Nat) (es : Es) : evE cl (.call f es) env r = (evEs cl es env r).bind fun p => (cl f .non p.1).bind fun z => .ok (z.1, p.2) := rfl
@[simp] theorem e_callr (f : Nat) (es : Es) : evE cl (.callr f es) env r = if rowOk r then (evEs cl es env r).bind fun p => if rowOk p.2 then cl f p.2 p.1 else .no else .no := rfl
@[simp] theorem es_nil : evEs cl .nil env r = .ok ([], r) := rfl
@[simp] theorem es_cons (e : E) (es : Es) : evEs cl (.cons e es) env r = (evE cl e env r).bind fun p => (evEs cl es env p.2).bind fun q => .ok (p.1 :: q.1, q.2) := rfl
@[simp] theorem ec_nil : evC cl .nil env r = .ok (true, r) := rfl
@[simp] theorem ec_cons (e : E) (es : Es) : evC cl (.cons e es) env r = (evE cl e env r).bind fun p => (asB p.1).bind fun b => if b then evC cl es env p.2 else .ok (false, p.2) := rfl
theorem e_lc (elt : E) (tg : Tg) (it : It) (ifs : Es) (own : List Nat) : evE cl (.lc elt tg it ifs own) env r = (evIt cl it env r).bind fun p => if p.1.length ≤ LIM then
      (lcD (fun d r => (bindT tg d (wipeE env own)).bind fun env => (evC cl ifs env r).bind fun q => if q.1 then (evE cl elt env q.2).bind fun x => .ok (some x.1, x.2) else .ok (none, q.2)) p.1 p.2).calm.bind fun q => .ok (.lst q.1, q.2)
    else .no := rfl
@[simp] theorem i_seq (e : E) : evIt cl (.seq e) env r = (evE cl e env r).bind fun p => match seqD p.1 with
    | some ds => .ok (ds, p.2)
    | none => .no := rfl
@[simp] theorem i_rng1 (e : E) : evIt cl (.rng1 e) env r = (evE cl e env r).bind fun p => match p.1 with
    | .int n => if n ≤ LIM ∧ -1000000 ≤ n then .ok (rgD 0 n, p.2) else .no
    | _ => .no := rfl
@[simp] theorem i_rng2 (a b : E) : evIt cl (.rng2 a b) env r = (evE cl a env r).bind fun p => (evE cl b env p.2).bind fun q => match p.1, q.1 with
    | .int m, .int n => if n ≤ LIM ∧ -1000000 ≤ n ∧ m ≤ LIM ∧ -1000000 ≤ m then .ok (rgD m n, q.2) else .no
    | _, _ => .no := rfl
@[simp] theorem i_enum (e : E) : evIt cl (.enum e) env r = (evE cl e env r).bind fun p => match seqD p.1 with
    | some ds => .ok (enumD 0 ds, p.2)
    | none => .no := rfl
@[simp] theorem i_zip (a b : E) : evIt cl (.zip a b) env r = (evE cl a env r).bind fun p => (evE cl b env p.2).bind fun q => match p.1, q.1 with
    | .lst ds, .lst es => .ok (zipD ds es, q.2)
    | .tup ds, .tup es => .ok (zipD ds es, q.2)
    | .tup ds, .lst es => .ok (zipD ds es, q.2)
    | _, _ => .no := rfl
@[simp] theorem i_keys (e : E) : evIt cl (.keys e) env r = (evE cl e env r).bind fun p => match p.1 with
    | .dic es => .ok ((es.map (·.1)).map tI, p.2)
    | _ => .no := rfl
@[simp] theorem s_asg (i : Nat) (e : E) : evS cl (.asg i e) env r = (evE cl e env r).bind fun p => .ok (.nx (env.set i (.fr p.1)) p.2) := rfl
@[simp] theorem s_own (i : Nat) (e : E) : evS cl (.own i e) env r = (evE cl e env r).bind fun p => if objD p.1 then .ok (.nx (env.set i (.ow p.1)) p.2) else .no := rfl
@[simp] theorem s_asgT (t : Tg) (e : E) : evS cl (.asgT t e) env r = (evE cl e env r).bind fun p => (bindT t p.1 env).bind fun env => .ok (.nx env p.2) := rfl
@[simp] theorem s_asgP (is : List (Nat × Bool)) (es : Es) : evS cl (.asgP is es) env r = (evEs cl es env r).bind fun p => (storeP is p.1 env).bind fun env => .ok (.nx env p.2) := rfl
@[simp] theorem s_mkrow (e : E) : evS cl (.mkrow e) env .non = (evE cl e env .non).bind fun p => if rowOk p.1 then .ok (.nx env p.1) else .no := rfl
@[simp] theorem s_frz (is : List Nat) : evS cl (.frz is) env r = .ok (.nx (frzE is env) r) := rfl
@[simp] theorem s_setx (i : Nat) (k v : E) : evS cl (.setx i k v) env r = (evE cl v env r).bind fun p => (owR env[i]?).bind fun d => (evE cl k env p.2).bind fun q => (setD d q.1 p.1).bind fun d => .ok (.nx (env.set i (.ow d)) q.2) := by
  conv => lhs; unfold evS
  congr 1; funext p
  cases env[i]? with
  | none => rfl
  | some x => cases x <;> rfl
@[simp] theorem s_setr (k v : E) : evS cl (.setr k v) env r = (evE cl v env r).bind fun p => if rowOk p.2 then (evE cl k env p.2).bind fun q => if rowOk q.2 then (setD q.2 q.1 p.1).bind fun d => .ok (.nx env d) else .no else .no := rfl
@[simp] theorem s_aug (i : Nat) (o : Op2) (e : E) : evS cl (.aug i o e) env r = (locR env[i]? r).bind fun x => (evE cl e env r).bind fun p => (intR x.1).bind fun a => (intR p.1).bind fun b => (op2D o (.int a) (.int b)).bind fun z => .ok (.nx (env.set i (.fr z)) p.2) := by
  conv => lhs; unfold evS
  cases h : env[i]? with
  | none => rfl
  | some x =>
    cases x with
    | fr d =>
      simp only [locR_fr, b_ok]
      congr 1; funext p
      cases d <;> first | rfl | (cases p.1 <;> rfl)
    | _ => rfl
@[simp] theorem s_app (i : Nat) (e : E) : evS cl (.app i e) env r = (owL env[i]?).bind fun ds => (evE cl e env r).bind fun p => if ds.length < LIM then .ok (.nx (env.set i (.ow (.lst (ds ++ [p.1])))) p.2) else .no := by
  conv => lhs; unfold evS
  cases h : env[i]? with
  | none => rfl
  | some x =>
    cases x with
    | ow d => cases d <;> rfl
    | _ => rfl
@[simp] theorem s_ex (e : E) : evS cl (.ex e) env r = (evE cl e env r).bind fun p => .ok (.nx env p.2) := rfl
@[simp] theorem s_ite (c : E) (a b : Ss) : evS cl (.ite c a b) env r = (evE cl c env r).bind fun p => (asB p.1).bind fun k => if k then evSs cl a env p.2 else evSs cl b env p.2 := rfl
theorem s_for (tg : Tg) (it : It) (body : Ss) : evS cl (.for_ tg it body) env r = (evIt cl it env r).bind fun p => forD (fun d env r => (bindT tg d env).bind fun env => evSs cl body env r) p.1 env p.2 := rfl
theorem s_wh (c : E) (body : Ss) : evS cl (.wh c body) env r = whD (fun env r => (evE cl c env r).bind fun p => (asB p.1).bind fun b => .ok (b, p.2)) (fun env r => evSs cl body env r) WF env r := rfl
@[simp] theorem s_ret (e : E) : evS cl (.ret e) env r = (evE cl e env r).bind fun p => .ok (.rt p.1 p.2) := rfl
@[simp] theorem s_retN : evS cl .retN env r = .ok (.rt .non r) := rfl
@[simp] theorem s_rais (c : Nat) (es : Es) : evS cl (.rais c es) env r = (evEs cl es env r).bind fun p => match p.1 with
    | [] => .ex c .non
    | [x] => .ex c x
    | _ => .no := rfl
@[simp] theorem ss_nil : evSs cl .nil env r = .ok (.nx env r) := rfl
@[simp] theorem ss_cons (s : S) (ss : Ss) : evSs cl (.cons s ss) env r = (evS cl s env r).bind fun x => match x with
    | .nx env r => evSs cl ss env r
    | .rt d r => .ok (.rt d r) := rfl
end
@[simp] theorem t_nm (i : Nat) (d : D) (env : Env') : bindT (.nm i) d env = .ok (env.set i (.fr d)) := by unfold bindT; rfl
@[simp] theorem t_tp (ts : List Tg) (ds : List D) (env : Env') : bindT (.tp ts) (.tup ds) env = bindTs ts ds env := by unfold bindT; rfl
@[simp] theorem t_nil (env : Env') : bindTs [] [] env = .ok env := by unfold bindTs; rfl
@[simp] theorem t_cons (t : Tg) (ts : List Tg) (d : D) (ds : List D) (env : Env') : bindTs (t :: ts) (d :: ds) env = (bindT t d env).bind fun env => bindTs ts ds env := by conv => lhs; unfold bindTs
@[simp] theorem sp_nil (env : Env') : storeP [] [] env = .ok env := rfl
@[simp] theorem sp_fr (i : Nat) (is : List (Nat × Bool)) (d : D) (ds : List D) (env : Env') : storeP ((i, false) :: is) (d :: ds) env = storeP is ds (env.set i (.fr d)) := rfl
@[simp] theorem sp_ow (i : Nat) (is : List (Nat × Bool)) (d : D) (ds : List D) (env : Env') : storeP ((i, true) :: is) (d :: ds) env = if objD d then storeP is ds (env.set i (.ow d)) else .no := rfl
@[simp] theorem get0 {α : Type} (a : α) (l : List α) : (a :: l)[0]? = some a := rfl
/-! values -/
@[simp] theorem c_eq (a b : D) : cmpD .eq a b = eqG a b := rfl
@[simp] theorem c_ne (a b : D) : cmpD .ne a b = (eqG a b).bind fun c => .ok (!c) := by
  show (match eqG a b with
    | .ok c => R.ok (!c)
    | r => r) = _
  cases eqG a b <;> rfl
@[simp] theorem c_lt (a b : Int) : cmpD .lt (.int a) (.int b) = .ok (decide (a < b)) := rfl
@[simp] theorem c_le (a b : Int) : cmpD .le (.int a) (.int b) = .ok (decide (a ≤ b)) := rfl
@[simp] theorem c_gt (a b : Int) : cmpD .gt (.int a) (.int b) = .ok (decide (b < a)) := rfl
@[simp] theorem c_ge (a b : Int) : cmpD .ge (.int a) (.int b) = .ok (decide (b ≤ a)) := rfl
@[simp] theorem c_isin (a b : D) : cmpD .isin a b = isinD a b := rfl
@[simp] theorem c_notin (a b : D) : cmpD .notin a b = (isinD a b).bind fun c => .ok (!c) := by
  show (match isinD a b with
    | .ok c => R.ok (!c)
    | r => r) = _
  cases isinD a b <;> rfl
@[simp] theorem c_is (a : D) : cmpD .is_ a .non = .ok (isNonD a) := by cases a <;> rfl
@[simp] theorem c_isnot (a : D) : cmpD .isnot a .non = .ok (!isNonD a) := by cases a <;> rfl
@[simp] theorem q_int (a b : Int) : eqG (.int a) (.int b) = .ok (decide (a = b)) := by
  show (R.ok (a == b)) = _
  congr 1
@[simp] theorem o_add (a b : Int) : op2D .add (.int a) (.int b) = .ok (.int (a + b)) := rfl
@[simp] theorem o_sub (a b : Int) : op2D .sub (.int a) (.int b) = .ok (.int (a - b)) := rfl
@[simp] theorem o_addL (a b : List D) : op2D .add (.lst a) (.lst b) = if a.length + b.length ≤ LIM then .ok (.lst (a ++ b)) else .no := rfl
@[simp] theorem o_addT (a b : List D) : op2D .add (.tup a) (.tup b) = if a.length + b.length ≤ LIM then .ok (.tup (a ++ b)) else .no := rfl
/-! the table -/
@[simp] theorem G0 (c : Fd) : (GL c)[0]? = some c_is_in := rfl
@[simp] theorem G1 (c : Fd) : (GL c)[1]? = some c_is_rule := rfl
@[simp] theorem G2 (c : Fd) : (GL c)[2]? = some c_need_table := rfl
@[simp] theorem G3 (c : Fd) : (GL c)[3]? = some c_need_pair := rfl
@[simp] theorem G4 (c : Fd) : (GL c)[4]? = some c_results_in := rfl
@[simp] theorem G5 (c : Fd) : (GL c)[5]? = some c_results := rfl
@[simp] theorem G6 (c : Fd) : (GL c)[6]? = some c_as_rule := rfl
@[simp] theorem G7 (c : Fd) : (GL c)[7]? = some c_renamed := rfl
@[simp] theorem G8 (c : Fd) : (GL c)[8]? = some c_joined := rfl
@[simp] theorem G9 (c : Fd) : (GL c)[9]? = some c_without_rule := rfl
@[simp] theorem G10 (c : Fd) : (GL c)[10]? = some c_l_taken := rfl
@[simp] theorem G11 (c : Fd) : (GL c)[11]? = some c_l_order := rfl
@[simp] theorem G12 (c : Fd) : (GL c)[12]? = some c_l_rule := rfl
@[simp] theorem G13 (c : Fd) : (GL c)[13]? = some c_l_table := rfl
@[simp] theorem G14 (c : Fd) : (GL c)[14]? = some c_l_alike := rfl
@[simp] theorem G15 (c : Fd) : (GL c)[15]? = some c_l_results := rfl
@[simp] theorem G16 (c : Fd) : (GL c)[16]? = some c_l_pick := rfl
@[simp] theorem G17 (c : Fd) : (GL c)[17]? = some c_write_table := rfl
@[simp] theorem G18 (c : Fd) : (GL c)[18]? = some c_skip := rfl
@[simp] theorem G19 (c : Fd) : (GL c)[19]? = some c_digit := rfl
@[simp] theorem G20 (c : Fd) : (GL c)[20]? = some c_rule_at := rfl
@[simp] theorem G21 (c : Fd) : (GL c)[21]? = some c_read_table := rfl
@[simp] theorem G22 (c : Fd) : (GL c)[22]? = some c_l_skip := rfl
@[simp] theorem G23 (c : Fd) : (GL c)[23]? = some c_l_text_due := rfl
@[simp] theorem G24 (c : Fd) : (GL c)[24]? = some c_is_edge := rfl
@[simp] theorem G25 (c : Fd) : (GL c)[25]? = some c_need_web := rfl
@[simp] theorem G26 (c : Fd) : (GL c)[26]? = some c_need_kinds := rfl
@[simp] theorem G27 (c : Fd) : (GL c)[27]? = some c_need_start := rfl
@[simp] theorem G28 (c : Fd) : (GL c)[28]? = some c_moves_in := rfl
@[simp] theorem G29 (c : Fd) : (GL c)[29]? = some c_moves := rfl
@[simp] theorem G30 (c : Fd) : (GL c)[30]? = some c_moved := rfl
@[simp] theorem G31 (c : Fd) : (GL c)[31]? = some c_is_move := rfl
@[simp] theorem G32 (c : Fd) : (GL c)[32]? = some c_done := rfl
@[simp] theorem G33 (c : Fd) : (GL c)[33]? = some c_is_run := rfl
@[simp] theorem G34 (c : Fd) : (GL c)[34]? = some c_line_in := rfl
@[simp] theorem G35 (c : Fd) : (GL c)[35]? = some c_after := rfl
@[simp] theorem G36 (c : Fd) : (GL c)[36]? = some c_at_rest := rfl
@[simp] theorem G37 (c : Fd) : (GL c)[37]? = some c_l_web := rfl
@[simp] theorem G38 (c : Fd) : (GL c)[38]? = some c_l_kinds := rfl
@[simp] theorem G39 (c : Fd) : (GL c)[39]? = some c_l_moves := rfl
@[simp] theorem G40 (c : Fd) : (GL c)[40]? = some c_l_every := rfl
@[simp] theorem G41 (c : Fd) : (GL c)[41]? = some c_come_in := rfl
@[simp] theorem G42 (c : Fd) : (GL c)[42]? = some c_all_come := rfl
@[simp] theorem G43 (c : Fd) : (GL c)[43]? = some c_rests_in := rfl
@[simp] theorem G44 (c : Fd) : (GL c)[44]? = some c_walked_rests := rfl
@[simp] theorem G45 (c : Fd) : (GL c)[45]? = some c_order_in := rfl
@[simp] theorem G46 (c : Fd) : (GL c)[46]? = some c_goes_on := rfl
@[simp] theorem G47 (c : Fd) : (GL c)[47]? = some c_l_walk := rfl
@[simp] theorem G48 (c : Fd) : (GL c)[48]? = some c_l_rests := rfl
@[simp] theorem G49 (c : Fd) : (GL c)[49]? = some c_l_layers := rfl
@[simp] theorem G50 (c : Fd) : (GL c)[50]? = some c_gcd := rfl
@[simp] theorem G51 (c : Fd) : (GL c)[51]? = some c_reduced := rfl
@[simp] theorem G52 (c : Fd) : (GL c)[52]? = some c_plus := rfl
@[simp] theorem G53 (c : Fd) : (GL c)[53]? = some c_times := rfl
@[simp] theorem G54 (c : Fd) : (GL c)[54]? = some c_walk_in := rfl
@[simp] theorem G55 (c : Fd) : (GL c)[55]? = some c_longest := rfl
@[simp] theorem G56 (c : Fd) : (GL c)[56]? = some c_shortest := rfl
@[simp] theorem G57 (c : Fd) : (GL c)[57]? = some c_run_count := rfl
@[simp] theorem G58 (c : Fd) : (GL c)[58]? = some c_mean_moves := rfl
@[simp] theorem G59 (c : Fd) : (GL c)[59]? = some c_l_falling := rfl
@[simp] theorem G60 (c : Fd) : (GL c)[60]? = some c_l_gcd := rfl
@[simp] theorem G61 (c : Fd) : (GL c)[61]? = some c_l_ratio := rfl
@[simp] theorem G62 (c : Fd) : (GL c)[62]? = some c_l_plus := rfl
@[simp] theorem G63 (c : Fd) : (GL c)[63]? = some c_minus := rfl
@[simp] theorem G64 (c : Fd) : (GL c)[64]? = some c_over := rfl
@[simp] theorem G65 (c : Fd) : (GL c)[65]? = some c_less := rfl
@[simp] theorem G66 (c : Fd) : (GL c)[66]? = some c_whole := rfl
@[simp] theorem G67 (c : Fd) : (GL c)[67]? = some c_changes := rfl
@[simp] theorem G68 (c : Fd) : (GL c)[68]? = some c_tableau := rfl
@[simp] theorem G69 (c : Fd) : (GL c)[69]? = some c_taken_off := rfl
@[simp] theorem G70 (c : Fd) : (GL c)[70]? = some c_turned := rfl
@[simp] theorem G71 (c : Fd) : (GL c)[71]? = some c_solved := rfl
@[simp] theorem G72 (c : Fd) : (GL c)[72]? = some c_weights_in := rfl
@[simp] theorem G73 (c : Fd) : (GL c)[73]? = some c_weights := rfl
@[simp] theorem G74 (c : Fd) : (GL c)[74]? = some c_ends := rfl
@[simp] theorem G75 (c : Fd) : (GL c)[75]? = some c_lowered := rfl
@[simp] theorem G76 (c : Fd) : (GL c)[76]? = some c_shows_weights := rfl
@[simp] theorem G77 (c : Fd) : (GL c)[77]? = some c_shares_in := rfl
@[simp] theorem G78 (c : Fd) : (GL c)[78]? = some c_shares := rfl
@[simp] theorem G79 (c : Fd) : (GL c)[79]? = some c_shows_shares := rfl
@[simp] theorem G80 (c : Fd) : (GL c)[80]? = some c_l_delta := rfl
@[simp] theorem G81 (c : Fd) : (GL c)[81]? = some c_l_is_vector := rfl
@[simp] theorem G82 (c : Fd) : (GL c)[82]? = some c_full_web := rfl
@[simp] theorem G83 (c : Fd) : (GL c)[83]? = some c_round_run := rfl
@[simp] theorem G84 (c : Fd) : (GL c)[84]? = some c_shows_round := rfl
@[simp] theorem G85 (c : Fd) : (GL c)[85]? = some c_l_loops := rfl
@[simp] theorem G86 (c : Fd) : (GL c)[86]? = some c_l_signed := rfl
@[simp] theorem G87 (c : Fd) : (GL c)[87]? = some c_row_web := rfl
@[simp] theorem G88 (c : Fd) : (GL c)[88]? = some c_need_ending := rfl
@[simp] theorem G89 (c : Fd) : (GL c)[89]? = some c_starts := rfl
@[simp] theorem G90 (c : Fd) : (GL c)[90]? = some c_clash_in := rfl
@[simp] theorem G91 (c : Fd) : (GL c)[91]? = some c_clash := rfl
@[simp] theorem G92 (c : Fd) : (GL c)[92]? = some c_has_one_rest := rfl
@[simp] theorem G93 (c : Fd) : (GL c)[93]? = some c_l_clash := rfl
@[simp] theorem G94 (c : Fd) : (GL c)[94]? = some c_l_calm := rfl
@[simp] theorem G95 (c : Fd) : (GL c)[95]? = some c_need_one_rest := rfl
@[simp] theorem G96 (c : Fd) : (GL c)[96]? = some c_rested := rfl
@[simp] theorem G97 (c : Fd) : (GL c)[97]? = some c_rest := rfl
@[simp] theorem G98 (c : Fd) : (GL c)[98]? = some c_need_row := rfl
@[simp] theorem G99 (c : Fd) : (GL c)[99]? = some c_row_rest := rfl
@[simp] theorem G100 (c : Fd) : (GL c)[100]? = some c_ring_rest := rfl
@[simp] theorem G101 (c : Fd) : (GL c)[101]? = some c_calm_sum := rfl
@[simp] theorem G102 (c : Fd) : (GL c)[102]? = some c_rest_ring_count := rfl
@[simp] theorem G103 (c : Fd) : (GL c)[103]? = some c_l_rest := rfl
@[simp] theorem G104 (c : Fd) : (GL c)[104]? = some c_least_in := rfl
@[simp] theorem G105 (c : Fd) : (GL c)[105]? = some c_least_table := rfl
@[simp] theorem G106 (c : Fd) : (GL c)[106]? = some c_alike := rfl
@[simp] theorem G107 (c : Fd) : (GL c)[107]? = some c_rest_row_count := rfl
@[simp] theorem G108 (c : Fd) : (GL c)[108]? = some c_off := rfl
@[simp] theorem G109 (c : Fd) : (GL c)[109]? = some c_keeps := rfl
@[simp] theorem G110 (c : Fd) : (GL c)[110]? = some c_rows_of := rfl
@[simp] theorem G111 (c : Fd) : (GL c)[111]? = some c_kept_sums := rfl
@[simp] theorem G112 (c : Fd) : (GL c)[112]? = some c_may_come := rfl
@[simp] theorem G113 (c : Fd) : (GL c)[113]? = some c_all_rules := rfl
@[simp] theorem G114 (c : Fd) : (GL c)[114]? = some c_two_kinds := rfl
@[simp] theorem G115 (c : Fd) : (GL c)[115]? = some c := rfl
end PLX

set_option Elab.async false
set_option linter.all false
set_option maxRecDepth 100000
set_option autoImplicit false
set_option maxHeartbeats 400000
namespace PLX
open PySem PL
/-! ### rules of inference -/
def Ok {α : Type} (x : R α) (k : α → Prop) : Prop := ∃ a, x = .ok a ∧ k a
theorem Ok.ok {α : Type} {a : α} {k : α → Prop} (h : k a) : Ok (.ok a) k := ⟨a, rfl, h⟩
theorem Ok.bind {α β : Type} {x : R α} {f : α → R β} {k : β → Prop} (h : Ok x fun a => Ok (f a) k) : Ok (x.bind f) k := by
  obtain ⟨a, rfl, b, e, h⟩ := h
  exact ⟨b, e, h⟩
theorem Ok.mono {α : Type} {x : R α} {k k' : α → Prop} (h : Ok x k) (q : ∀ a, k a → k' a) : Ok x k' := by
  obtain ⟨a, e, h⟩ := h
  exact ⟨a, e, q a h⟩
theorem lcD_pure {f : D → D → R (Option D × D)} {g : D → Option D} {r : D} : ∀ {ds : List D}, (∀ d ∈ ds, f d r = .ok (g d, r)) → lcD f ds r = .ok (ds.filterMap g, r)
  | [], _ => rfl
  | d :: ds, h => by
    unfold lcD
    rw [h d List.mem_cons_self]
    simp only [b_ok]
    rw [lcD_pure fun x hx => h x (List.mem_cons_of_mem _ hx)]
    simp only [b_ok, List.filterMap_cons]
    cases g d <;> rfl
theorem forD_inv {f : D → Env' → D → R Fl} (I : Nat → Env' → D → Prop) : ∀ {ds : List D} {env : Env'} {r : D} (k : Nat), I k env r → (∀ i d env r, ds[i]? = some d → I (k + i) env r → Ok (f d env r) fun x => ∃ env' r', x = .nx env' r' ∧ I (k + i + 1) env' r') →
    Ok (forD f ds env r) fun x => ∃ env' r', x = .nx env' r' ∧ I (k + ds.length) env' r'
  | [], env, r, k, h, _ => ⟨_, rfl, env, r, rfl, h⟩
  | d :: ds, env, r, k, h, t => by
    unfold forD
    refine Ok.bind ((t 0 d env r rfl h).mono fun x hx => ?_)
    obtain ⟨env', r', rfl, h'⟩ := hx
    refine (forD_inv I (k + 1) h' fun i d' e r hd hi => ?_).mono fun x hx => ?_
    · have := t (i + 1) d' e r hd (by rw [show k + (i + 1) = k + 1 + i from by omega]; exact hi)
      rw [show k + (i + 1) + 1 = k + 1 + i + 1 from by omega] at this
      exact this
    · obtain ⟨e, r, q, h⟩ := hx
      refine ⟨e, r, q, ?_⟩
      rw [List.length_cons, show k + (ds.length + 1) = k + 1 + ds.length from by omega]
      exact h
theorem Ok.inj {α : Type} {x : R α} {a : α} (h : Ok x fun y => y = a) : x = .ok a := by
  obtain ⟨b, e, rfl⟩ := h
  exact e
/-! ### statements, one at a time -/
section
variable {cl : Cl} {env env' : Env'} {r r' : D} {s : S} {ss : Ss} {x : R Fl}
theorem st_nx (h : evS cl s env r = .ok (.nx env' r')) (k : evSs cl ss env' r' = x) : evSs cl (.cons s ss) env r = x := by
  rw [ss_cons, h]; exact k
theorem st_rt {d : D} (h : evS cl s env r = .ok (.rt d r')) : evSs cl (.cons s ss) env r = .ok (.rt d r') := by
  rw [ss_cons, h]; rfl
theorem st_ok {k : Fl → Prop} (h : Ok (evS cl s env r) fun x => match x with
    | .nx env r => Ok (evSs cl ss env r) k
    | .rt d r => k (.rt d r)) : Ok (evSs cl (.cons s ss) env r) k := by
  rw [ss_cons]
  refine Ok.bind (h.mono fun x hx => ?_)
  cases x with
  | nx e r => exact hx
  | rt d r => exact Ok.ok hx
end
section
variable {cl : Cl} {env env' : Env'} {r r' r1 : D} {s : S} {ss body : Ss} {K : Fl → Prop} {tg : Tg} {it : It}
theorem ok_nx (h : evS cl s env r = .ok (.nx env' r')) (k : Ok (evSs cl ss env' r') K) : Ok (evSs cl (.cons s ss) env r) K := by
  rw [ss_cons, h]; exact k
theorem ok_rt {d : D} (h : evS cl s env r = .ok (.rt d r')) (k : K (.rt d r')) : Ok (evSs cl (.cons s ss) env r) K := by
  rw [ss_cons, h]; exact Ok.ok k
theorem ok_bindT {d : D} {e e1 : Env'} (h : bindT tg d e = .ok e1) (k : Ok (evSs cl body e1 r) K) : Ok ((bindT tg d e).bind fun e => evSs cl body e r) K := by
  rw [h]; exact k
theorem ok_nil (k : K (.nx env r)) : Ok (evSs cl .nil env r) K := Ok.ok k
def thenK (cl : Cl) (ss : Ss) (K : Fl → Prop) : Fl → Prop
  | .nx env r => Ok (evSs cl ss env r) K
  | .rt d r => K (.rt d r)
theorem ok_ite {c : E} {a b : Ss} {p : Bool} (h : evE cl c env r = .ok (.bl p, r1)) (ht : p = true → Ok (evSs cl a env r1) (thenK cl ss K)) (hf : p = false → Ok (evSs cl b env r1) (thenK cl ss K)) : Ok (evSs cl (.cons (.ite c a b) ss) env r) K := by
  refine st_ok ?_
  rw [s_ite, h]
  simp only [b_ok, asB_bl]
  cases p with
  | true => exact (ht rfl).mono fun x hx => by cases x <;> exact hx
  | false => exact (hf rfl).mono fun x hx => by cases x <;> exact hx
theorem ok_for (I : Nat → Env' → D → Prop) {ds : List D} (hi : evIt cl it env r = .ok (ds, r1)) (h0 : I 0 env r1) (h : ∀ (i : Nat) d e r, ds[i]? = some d → I i e r → Ok ((bindT tg d e).bind fun e => evSs cl body e r) fun x => ∃ e' r', x = .nx e' r' ∧ I (i + 1) e' r')
    (k : ∀ e r, I ds.length e r → Ok (evSs cl ss e r) K) : Ok (evSs cl (.cons (.for_ tg it body) ss) env r) K := by
  refine st_ok ?_
  rw [s_for, hi]
  refine (forD_inv I (f := fun d env r => (bindT tg d env).bind fun env => evSs cl body env r) 0 h0 fun i d e r hd hI => ?_).mono fun x hx => ?_
  · rw [Nat.zero_add] at hI ⊢
    exact h i d e r hd hI
  · obtain ⟨e, r, rfl, hI⟩ := hx
    rw [Nat.zero_add] at hI
    exact k e r hI
/-- a loop that does nothing lasting -/
theorem ok_skip (I : Env' → Prop) {ds : List D} (hi : evIt cl it env r = .ok (ds, r)) (h0 : I env) (h : ∀ (i : Nat) d e, ds[i]? = some d → I e → ∃ e', I e' ∧ ((bindT tg d e).bind fun e => evSs cl body e r) = .ok (.nx e' r))
    (k : ∀ e, I e → Ok (evSs cl ss e r) K) : Ok (evSs cl (.cons (.for_ tg it body) ss) env r) K :=
  ok_for (fun _ e r' => I e ∧ r' = r) hi ⟨h0, rfl⟩ (fun i d e r' hd hI => by
    obtain ⟨hI, rfl⟩ := hI
    obtain ⟨e', h1, h2⟩ := h i d e hd hI
    exact ⟨_, h2, e', _, rfl, h1, rfl⟩) fun e r' hI => by
    obtain ⟨hI, rfl⟩ := hI
    exact k e hI
end
/-- the call of a def -/
def outK (k : D × D → Prop) : Fl → Prop
  | .rt d r => k (d, r)
  | .nx _ r => k (.non, r)
theorem call_ok {G : List Fd} {n f : Nat} {fd : Fd} {ds : List D} {row : D} {k : D × D → Prop} (h : G[f]? = some fd) {env : Env'} (hr : rowOk row = fd.row) (hl : ds.length + (if fd.row then 1 else 0) = fd.np) (he : startE fd ds = env)
    (hb : Ok (evSs (callD G n) fd.body env row) (outK k)) : Ok (callD G (n + 1) f row ds) k := by
  unfold callD
  rw [h]
  dsimp only
  rw [if_pos ⟨hl, hr⟩, he]
  refine Ok.bind (hb.mono fun x hx => ?_)
  cases x <;> exact Ok.ok hx
theorem call_eq {G : List Fd} {n f : Nat} {fd : Fd} {ds : List D} {row : D} {v r : D} (h : G[f]? = some fd) {env : Env'} (hr : rowOk row = fd.row) (hl : ds.length + (if fd.row then 1 else 0) = fd.np) (he : startE fd ds = env)
    (hb : Ok (evSs (callD G n) fd.body env row) (outK fun p => p = (v, r))) : callD G (n + 1) f row ds = .ok (v, r) := (call_ok h hr hl he hb).inj
/-! ### plain data -/
mutual
theorem eqD_refl : ∀ {n : Nat} {x : D}, shD n x = true → eqD x x = true
  | _, .non, _ => rfl
  | _, .bl b, _ => by unfold eqD; simp
  | _, .int i, _ => by unfold eqD; simp
  | _, .str x, _ => by unfold eqD; simp
  | 0, .lst xs, h => by unfold shD at h; cases h
  | 0, .tup xs, h => by unfold shD at h; cases h
  | n + 1, .lst xs, h => by unfold shD at h; unfold eqD; exact eqDs_refl h
  | n + 1, .tup xs, h => by unfold shD at h; unfold eqD; exact eqDs_refl h
  | 0, .dic _, h => by unfold shD at h; cases h
  | n + 1, .dic _, h => by unfold shD at h; cases h
  | 0, .scr _, h => by unfold shD at h; cases h
  | n + 1, .scr _, h => by unfold shD at h; cases h
theorem eqDs_refl : ∀ {n : Nat} {xs : List D}, shDs n xs = true → eqDs xs xs = true
  | _, [], _ => rfl
  | n, x :: xs, h => by
    unfold shDs at h
    rw [Bool.and_eq_true] at h
    unfold eqDs
    rw [eqD_refl h.1, eqDs_refl h.2]; rfl
end
theorem sh_ints (n : Nat) : ∀ k : List Int, shDs n (k.map D.int) = true
  | [] => by unfold shDs; rfl
  | x :: k => by
    rw [List.map_cons]
    unfold shDs
    rw [sh_ints n k]
    cases n <;> rfl
theorem sh_tI (n : Nat) (k : List Int) : shD (n + 1) (tI k) = true := by unfold shD; exact sh_ints n k
theorem sh_tIs (n : Nat) : ∀ ks : List (List Int), shDs (n + 1) (ks.map tI) = true
  | [] => by unfold shDs; rfl
  | k :: ks => by
    rw [List.map_cons]
    unfold shDs
    rw [sh_tIs n ks, sh_tI]; rfl
theorem eq_ints : ∀ k j : List Int, eqDs (k.map D.int) (j.map D.int) = decide (k = j)
  | [], [] => rfl
  | [], _ :: _ => rfl
  | _ :: _, [] => rfl
  | x :: k, y :: j => by
    rw [List.map_cons, List.map_cons]
    unfold eqDs
    rw [eq_ints k j]
    have : eqD (.int x) (.int y) = decide (x = y) := by
      show (x == y) = decide (x = y)
      rfl
    rw [this]
    simp
theorem tI4 (a b c d : Int) : tI [a, b, c, d] = .tup [.int a, .int b, .int c, .int d] := rfl
theorem tI2 (a b : Int) : tI [a, b] = .tup [.int a, .int b] := rfl
theorem eqG_tI (k j : List Int) : eqG (tI k) (tI j) = .ok (decide (k = j)) := by
  show (if shD 60 (tI k) && shD 60 (tI j) then R.ok (eqD (tI k) (tI j)) else .no) = _
  rw [sh_tI, sh_tI]
  show R.ok (eqDs (k.map D.int) (j.map D.int)) = _
  rw [eq_ints]
theorem eqG_lst0 {ds : List D} (h : shDs 59 ds = true) : eqG (.lst ds) (.lst []) = .ok ds.isEmpty := by
  show (if shD 60 (.lst ds) && shD 60 (.lst []) then R.ok (eqD (.lst ds) (.lst [])) else .no) = _
  have : shD 60 (.lst ds) = true := by unfold shD; exact h
  rw [this]
  show R.ok (eqDs ds []) = _
  cases ds with
  | nil => rfl
  | cons x xs => rfl
@[simp] theorem eqG_pair (a b c d : Int) : eqG (.tup [.int a, .int b]) (.tup [.int c, .int d]) = .ok (decide ([a, b] = [c, d])) := eqG_tI [a, b] [c, d]
@[simp] theorem eqG_00 : eqG (.lst []) (.lst []) = .ok true := rfl
theorem cut_to {α : Type} (ds : List α) {i : Int} (h : 0 ≤ i) : cutD ds none (some i) = ds.take i.toNat := by
  unfold cutD sIxD
  simp only
  rw [if_neg (by omega)]
  simp only [List.drop_zero, Nat.sub_zero]
  rw [Nat.min_def]
  split
  · rfl
  · rw [List.take_length, List.take_of_length_le (by omega)]
theorem cut_from {α : Type} (ds : List α) {i : Int} (h : 0 ≤ i) : cutD ds (some i) none = ds.drop i.toNat := by
  unfold cutD sIxD
  simp only
  rw [if_neg (by omega), Nat.min_def]
  split
  · rw [List.take_of_length_le (by rw [List.length_drop]; omega)]
  · rw [List.drop_length, List.drop_eq_nil_of_le (by omega)]; simp
theorem slT_to (ds : List D) {i : Int} (h : 0 ≤ i) : slD (.tup ds) none (some i) = .ok (.tup (ds.take i.toNat)) := by show R.ok (D.tup (cutD ds none (some i))) = _; rw [cut_to ds h]
theorem slT_from (ds : List D) {i : Int} (h : 0 ≤ i) : slD (.tup ds) (some i) none = .ok (.tup (ds.drop i.toNat)) := by show R.ok (D.tup (cutD ds (some i) none)) = _; rw [cut_from ds h]
theorem slL_to (ds : List D) {i : Int} (h : 0 ≤ i) : slD (.lst ds) none (some i) = .ok (.lst (ds.take i.toNat)) := by show R.ok (D.lst (cutD ds none (some i))) = _; rw [cut_to ds h]
theorem slL_from (ds : List D) {i : Int} (h : 0 ≤ i) : slD (.lst ds) (some i) none = .ok (.lst (ds.drop i.toNat)) := by show R.ok (D.lst (cutD ds (some i) none)) = _; rw [cut_from ds h]
@[simp] theorem asI_int (i : Int) (r : D) : asI (.int i) r = .ok (some i, r) := rfl
theorem ixT (ds : List D) {i : Int} (h : 0 ≤ i) : ixD (.tup ds) (.int i) = R.ofO ds[i.toNat]? := by
  show (match idxN ds.length i with
    | some j => R.ofO ds[j]?
    | none => .no) = _
  unfold idxN
  rw [if_pos h]
  by_cases q : i < (ds.length : Int)
  · rw [if_pos q]
  · rw [if_neg q, List.getElem?_eq_none (by omega)]; rfl
theorem ixL (ds : List D) {i : Int} (h : 0 ≤ i) : ixD (.lst ds) (.int i) = R.ofO ds[i.toNat]? := by
  show (match idxN ds.length i with
    | some j => R.ofO ds[j]?
    | none => .no) = _
  unfold idxN
  rw [if_pos h]
  by_cases q : i < (ds.length : Int)
  · rw [if_pos q]
  · rw [if_neg q, List.getElem?_eq_none (by omega)]; rfl
@[simp] theorem ixT_0 (a : D) (ds : List D) : ixD (.tup (a :: ds)) (.int 0) = .ok a := by rw [ixT _ (by decide)]; rfl
@[simp] theorem ixT_1 (a b : D) (ds : List D) : ixD (.tup (a :: b :: ds)) (.int 1) = .ok b := by rw [ixT _ (by decide)]; rfl
@[simp] theorem ixT_2 (a b e : D) (ds : List D) : ixD (.tup (a :: b :: e :: ds)) (.int 2) = .ok e := by rw [ixT _ (by decide)]; rfl
@[simp] theorem ixT_3 (a b e f : D) (ds : List D) : ixD (.tup (a :: b :: e :: f :: ds)) (.int 3) = .ok f := by rw [ixT _ (by decide)]; rfl
@[simp] theorem ixL_0 (a : D) (ds : List D) : ixD (.lst (a :: ds)) (.int 0) = .ok a := by rw [ixL _ (by decide)]; rfl
@[simp] theorem ixL_1 (a b : D) (ds : List D) : ixD (.lst (a :: b :: ds)) (.int 1) = .ok b := by rw [ixL _ (by decide)]; rfl
@[simp] theorem ixL_2 (a b e : D) (ds : List D) : ixD (.lst (a :: b :: e :: ds)) (.int 2) = .ok e := by rw [ixL _ (by decide)]; rfl
@[simp] theorem ixL_3 (a b e f : D) (ds : List D) : ixD (.lst (a :: b :: e :: f :: ds)) (.int 3) = .ok f := by rw [ixL _ (by decide)]; rfl
@[simp] theorem len_tup (ds : List D) : biD .len [.tup ds] = .ok (.int ds.length) := rfl
@[simp] theorem len_lst (ds : List D) : biD .len [.lst ds] = .ok (.int ds.length) := rfl
@[simp] theorem len_scr (ns : List Int) : biD .len [.scr ns] = .ok (.int ns.length) := rfl
@[simp] theorem int_int (i : Int) : biD .int [.int i] = .ok (.int i) := rfl
@[simp] theorem isi_tup (ts : List Ty) (ds : List D) : biD (.isi ts) [.tup ds] = .ok (.bl (ts.any fun t => isiT .tuple t)) := rfl
@[simp] theorem isi_lst (ts : List Ty) (ds : List D) : biD (.isi ts) [.lst ds] = .ok (.bl (ts.any fun t => isiT .list t)) := rfl
@[simp] theorem isi_int (ts : List Ty) (i : Int) : biD (.isi ts) [.int i] = .ok (.bl (ts.any fun t => isiT .int t)) := rfl
@[simp] theorem isi_bl (ts : List Ty) (i : Bool) : biD (.isi ts) [.bl i] = .ok (.bl (ts.any fun t => isiT .bool t)) := rfl
@[simp] theorem isi_non (ts : List Ty) : biD (.isi ts) [.non] = .ok (.bl (ts.any fun t => isiT .ntyp t)) := rfl
@[simp] theorem tuple_lst (ds : List D) : biD .tuple [.lst ds] = .ok (.tup ds) := rfl
@[simp] theorem list_tup (ds : List D) : biD .list [.tup ds] = .ok (.lst ds) := rfl
@[simp] theorem list_lst (ds : List D) : biD .list [.lst ds] = .ok (.lst ds) := rfl
/-- [x for x in e if not p]: none -/
theorem lc_none {cl : Cl} {env : Env'} {r x : D} {e pe : E} {i : Nat} {ds : List D} (he : evE cl e env r = .ok (x, r)) (hs : seqD x = some ds) (hl : ds.length ≤ LIM) (h : ∀ d ∈ ds, evE cl pe ((wipeE env [i]).set i (.fr d)) r = .ok (.bl true, r)) :
    evE cl (.lc (.loc i) (.nm i) (.seq e) (.cons (.not pe) .nil) [i]) env r = .ok (.lst [], r) := by
  rw [e_lc, i_seq, he]
  simp only [b_ok, hs]
  rw [if_pos hl, lcD_pure (g := fun _ => none) (fun d hd => by simp [h d hd])]
  simp
/-! ### tables -/
structure RuleOk (m : Int) (k : List Int) : Prop where
  ex : ∃ a b c d, k = [a, b, c, d] ∧ (0 ≤ a ∧ a < m) ∧ (0 ≤ b ∧ b < m) ∧ (0 ≤ c ∧ c < m) ∧ (0 ≤ d ∧ d < m) ∧ a ≤ b ∧ (a = b → c ≤ d) ∧ ¬ (a = c ∧ b = d)
structure TabOk (m : Int) (rs : List (List Int)) : Prop where
  lo : 1 ≤ m
  hi : m ≤ 5
  len : rs.length ≤ 20
  ru : ∀ k ∈ rs, RuleOk m k
  asc : rs.Pairwise (fun x y => lexLe y x = false)
def tb (m : Int) (rs : List (List Int)) : D := .tup [.int m, .tup (rs.map tI)]
section
variable {c : Fd} {n : Nat}
theorem ev_is_in (x a b : Int) : callD (GL c) (n + 1) 0 .non [.int x, .int a, .int b] = .ok (.bl (decide (a ≤ x) && decide (x ≤ b)), .non) := by
  simp [callD, c_is_in, startE, biD, biIsi, tyD, isiT, rowOk]
theorem ev_in {x a b : Int} (h1 : a ≤ x) (h2 : x ≤ b) : callD (GL c) (n + 1) 0 .non [.int x, .int a, .int b] = .ok (.bl true, .non) := by
  rw [ev_is_in]; simp [h1, h2]
theorem ev_is_rule {m : Int} {k : List Int} (h : RuleOk m k) : callD (GL c) (n + 2) 1 .non [tI k, .int m] = .ok (.bl true, .non) := by
  obtain ⟨a, b, c', d, rfl, ha, hb, hc, hd, h1, h2, h3⟩ := h
  have h1' : ¬ b < a := by omega
  refine call_eq (G1 c) (env := [.fr (tI [a, b, c', d]), .fr (.int m), .no]) rfl rfl rfl ?_
  have hlc : evE (callD (GL c) (n + 1)) (.lc (.loc 2) (.nm 2) (.seq (.loc 0)) (.cons (.not (.call 0 (.cons (.loc 2) (.cons (.cst (.int 0)) (.cons (.bin .sub (.loc 1) (.cst (.int 1))) .nil))))) .nil) [2]) [.fr (tI [a, b, c', d]), .fr (.int m), .no] .non = .ok (.lst [], .non) := by
    refine lc_none (ds := [.int a, .int b, .int c', .int d]) rfl rfl (by show (4 : Nat) ≤ _; decide) fun d hd => ?_
    simp only [List.mem_cons, List.not_mem_nil, or_false] at hd
    rcases hd with rfl | rfl | rfl | rfl <;> simp (disch := omega) [wipeE, ev_in]
  refine ok_nx (env' := [.fr (tI [a, b, c', d]), .fr (.int m), .no]) (r' := .non) ?_ (ok_nx (env' := [.fr (tI [a, b, c', d]), .fr (.int m), .no]) (r' := .non) ?_ (ok_rt (d := .bl true) (r' := .non) ?_ rfl))
  · simp [isiT, hlc]
  · by_cases e : a = b
    · have := h2 e
      simp [tI4, e, show ¬ d < c' from by omega]
    · simp [tI4, e, h1']
  · simp [tI4, slT_to, slT_from]
    omega
theorem enum_get : ∀ (ds : List D) (k i : Nat) (d : D), (enumD k ds)[i]? = some d → ∃ x, ds[i]? = some x ∧ d = .tup [.int (k + i : Nat), x]
  | [], k, i, d, h => by unfold enumD at h; simp at h
  | x :: xs, k, 0, d, h => by
    unfold enumD at h
    simp at h
    exact ⟨x, rfl, h.symm⟩
  | x :: xs, k, i + 1, d, h => by
    unfold enumD at h
    rw [List.getElem?_cons_succ] at h
    obtain ⟨y, h1, h2⟩ := enum_get xs (k + 1) i d h
    exact ⟨y, by simpa using h1, by rw [h2]; congr 4; omega⟩
theorem intsD_map : ∀ k : List Int, intsD (k.map D.int) = some k := fun k => by
    induction k with
    | nil => rfl
    | cons a k ih => rw [List.map_cons]; unfold intsD; rw [ih]; rfl
theorem cmp_le (x y : List Int) : cmpD .le (tI x) (tI y) = .ok (lexLe x y) := by
  show (match intsD (x.map D.int), intsD (y.map D.int) with
    | some x, some y => R.ok (lexLe x y)
    | _, _ => .no) = _
  rw [intsD_map, intsD_map]
theorem get_tI {rs : List (List Int)} {i : Nat} {d : D} (h : (rs.map tI)[i]? = some d) : ∃ k, rs[i]? = some k ∧ d = tI k := by
  rw [List.getElem?_map] at h
  obtain ⟨k, hk, rfl⟩ := Option.map_eq_some_iff.mp h
  exact ⟨k, hk, rfl⟩
theorem ev_need_table {m : Int} {rs : List (List Int)} (h : TabOk m rs) : callD (GL c) (n + 3) 2 .non [tb m rs] = .ok (.non, .non) := by
  have t1 := h.lo; have t2 := h.hi; have t3 := h.len
  refine call_eq (G2 c) (env := [.fr (tb m rs), .no, .no]) rfl rfl rfl ?_
  refine ok_nx (env' := [.fr (tb m rs), .no, .no]) (r' := .non) ?_ (ok_nx (env' := [.fr (tb m rs), .no, .no]) (r' := .non) ?_ (ok_skip (ds := enumD 0 (rs.map tI)) (fun e => ∃ a b, e = [.fr (tb m rs), a, b]) ?_ ⟨_, _, rfl⟩ (fun i d e hd he => ?_) fun e he => ?_))
  · simp (disch := omega) [tb, isiT, ev_in]
  · simp [tb, isiT]; omega
  · simp [tb, seqD]
  · obtain ⟨a, b, rfl⟩ := he
    obtain ⟨x, h1, rfl⟩ := enum_get _ _ _ _ hd
    obtain ⟨k, hk, rfl⟩ := get_tI h1
    refine ⟨_, ⟨.fr (.int (0 + i : Nat)), .fr (tI k), rfl⟩, ?_⟩
    have mem : k ∈ rs := List.mem_of_getElem? hk
    cases i with
    | zero => simp [tb, ev_is_rule (h.ru k mem)]
    | succ j =>
      have hj : j < rs.length := by have := (List.getElem?_eq_some_iff.mp hk).1; omega
      have lt := List.pairwise_iff_getElem.mp h.asc j (j + 1) hj (List.getElem?_eq_some_iff.mp hk).1 (by omega)
      rw [(List.getElem?_eq_some_iff.mp hk).2] at lt
      have e1 : ((0 + (j + 1) : Nat) : Int) - 1 = (j : Int) := by omega
      simp [tb, ev_is_rule (h.ru k mem), ixT, cmp_le, lt, List.getElem?_eq_getElem hj]
  · exact ⟨_, rfl, rfl⟩
theorem ev_need_pair {m : Int} {rs : List (List Int)} {x y : Int} (hx : 0 ≤ x ∧ x < m) (hy : 0 ≤ y ∧ y < m) : callD (GL c) (n + 2) 3 .non [tb m rs, tI [x, y]] = .ok (.non, .non) := by
  refine call_eq (G3 c) (env := [.fr (tb m rs), .fr (tI [x, y]), .no]) rfl rfl rfl ?_
  have hlc : evE (callD (GL c) (n + 1)) (.lc (.loc 2) (.nm 2) (.seq (.loc 1)) (.cons (.not (.call 0 (.cons (.loc 2) (.cons (.cst (.int 0)) (.cons (.bin .sub (.ix (.loc 0) (.cst (.int 0))) (.cst (.int 1))) .nil))))) .nil) [2]) [.fr (tb m rs), .fr (tI [x, y]), .no] .non = .ok (.lst [], .non) := by
    refine lc_none (ds := [.int x, .int y]) rfl rfl (by show (2 : Nat) ≤ _; decide) fun d hd => ?_
    simp only [List.mem_cons, List.not_mem_nil, or_false] at hd
    rcases hd with rfl | rfl <;> simp (disch := omega) [wipeE, ev_in, tb]
  refine ok_nx (env' := [.fr (tb m rs), .fr (tI [x, y]), .no]) (r' := .non) ?_ ⟨_, rfl, rfl⟩
  simp [isiT, hlc]
/-! the results of a pair -/
def putIf (b : Bool) (k : List Int) (es : List (List Int × D)) : List (List Int × D) := if b then putD k (.bl true) es else es
def resStep (x y : Int) (es : List (List Int × D)) (k : List Int) : List (List Int × D) := match k with
  | [a, b, u, v] => putIf (decide (b = x ∧ a = y)) [v, u] (putIf (decide (a = x ∧ b = y)) [u, v] es)
  | _ => es
def resE (rs : List (List Int)) (x y : Int) : List (List Int × D) := rs.foldl (resStep x y) []
def resS (rs : List (List Int)) (x y : Int) : List (List Int) := sortT ((resE rs x y).map (·.1))
theorem putD_keys (k : List Int) (v : D) (es : List (List Int × D)) : (putD k v es).map (·.1) = if k ∈ es.map (·.1) then es.map (·.1) else es.map (·.1) ++ [k] := by
  unfold putD
  by_cases h : k ∈ es.map (·.1)
  · rw [if_pos h, if_pos]
    · rw [List.map_map]
      refine List.map_congr_left fun e _ => ?_
      simp only [Function.comp]
      split <;> rfl
    · obtain ⟨e, he, rfl⟩ := List.mem_map.mp h
      exact List.any_eq_true.mpr ⟨e, he, by simp⟩
  · rw [if_neg h, if_neg]
    · rw [List.map_append]; rfl
    · intro q
      obtain ⟨e, he, q⟩ := List.any_eq_true.mp q
      exact h (List.mem_map.mpr ⟨e, he, by simpa using q⟩)
theorem putD_mem (k z : List Int) (v : D) (es : List (List Int × D)) : z ∈ (putD k v es).map (·.1) ↔ z = k ∨ z ∈ es.map (·.1) := by
  rw [putD_keys]
  split
  · rename_i h
    constructor
    · exact .inr
    · rintro (rfl | q)
      · exact h
      · exact q
  · simp only [List.mem_append, List.mem_singleton]
    constructor
    · rintro (q | q)
      · exact .inr q
      · exact .inl q
    · rintro (q | q)
      · exact .inr q
      · exact .inl q
theorem putD_nodup (k : List Int) (v : D) {es : List (List Int × D)} (h : (es.map (·.1)).Nodup) : ((putD k v es).map (·.1)).Nodup := by
  rw [putD_keys]
  split
  · exact h
  · rename_i q
    exact List.nodup_append.mpr ⟨h, List.pairwise_singleton _ _, fun a ha b hb => by
      rw [List.mem_singleton.mp hb]
      rintro rfl
      exact q ha⟩
theorem putD_len (k : List Int) (v : D) (es : List (List Int × D)) : (putD k v es).length ≤ es.length + 1 := by
  have := congrArg List.length (putD_keys k v es)
  rw [List.length_map] at this
  rw [this]
  split <;> simp
theorem putIf_len (b : Bool) (k : List Int) (es : List (List Int × D)) : (putIf b k es).length ≤ es.length + 1 := by
  unfold putIf
  split
  · exact putD_len _ _ _
  · omega
theorem putIf_mem (b : Bool) (k z : List Int) (es : List (List Int × D)) : z ∈ (putIf b k es).map (·.1) ↔ (b = true ∧ z = k) ∨ z ∈ es.map (·.1) := by
  unfold putIf
  cases b
  · simp
  · simp only [if_true, putD_mem, true_and]
theorem putIf_nodup (b : Bool) (k : List Int) {es : List (List Int × D)} (h : (es.map (·.1)).Nodup) : ((putIf b k es).map (·.1)).Nodup := by
  unfold putIf
  split
  · exact putD_nodup _ _ h
  · exact h
theorem foldl_take {α β : Type} (f : β → α → β) (b : β) {l : List α} {i : Nat} {x : α} (h : l[i]? = some x) : (l.take (i + 1)).foldl f b = f ((l.take i).foldl f b) x := by
  rw [List.take_succ, h, List.foldl_append]; rfl
theorem foldl_ind {α β : Type} (P : β → Prop) (f : β → α → β) : ∀ (l : List α) (b : β), P b → (∀ b, ∀ x ∈ l, P b → P (f b x)) → P (l.foldl f b)
  | [], _, h, _ => h
  | x :: l, b, h, s => foldl_ind P f l _ (s b x List.mem_cons_self h) fun b y hy => s b y (List.mem_cons_of_mem _ hy)
theorem resE_len (x y : Int) : ∀ (rs : List (List Int)) (es : List (List Int × D)), (rs.foldl (resStep x y) es).length ≤ es.length + 2 * rs.length
  | [], es => by simp
  | k :: rs, es => by
    rw [List.foldl_cons]
    refine Nat.le_trans (resE_len x y rs _) ?_
    have : (resStep x y es k).length ≤ es.length + 2 := by
      unfold resStep
      split
      · exact Nat.le_trans (putIf_len _ _ _) (Nat.succ_le_succ (putIf_len _ _ _))
      · omega
    rw [List.length_cons]; omega
theorem resE_nodup (rs : List (List Int)) (x y : Int) : ((resE rs x y).map (·.1)).Nodup := by
  refine foldl_ind (fun es : List (List Int × D) => (es.map (·.1)).Nodup) _ rs [] (by simp) fun es k _ h => ?_
  unfold resStep
  split
  · exact putIf_nodup _ _ (putIf_nodup _ _ h)
  · exact h
def Turns (rs : List (List Int)) (x y u v : Int) : Prop := [x, y, u, v] ∈ rs ∨ [y, x, v, u] ∈ rs
theorem resE_mem (x y : Int) : ∀ (rs : List (List Int)) (es : List (List Int × D)) (z : List Int), z ∈ (rs.foldl (resStep x y) es).map (·.1) ↔ (∃ u v, z = [u, v] ∧ Turns rs x y u v) ∨ z ∈ es.map (·.1)
  | [], es, z => by simp [Turns]
  | k :: rs, es, z => by
    rw [List.foldl_cons, resE_mem x y rs]
    have : z ∈ (resStep x y es k).map (·.1) ↔ (∃ u v, z = [u, v] ∧ (k = [x, y, u, v] ∨ k = [y, x, v, u])) ∨ z ∈ es.map (·.1) := by
      unfold resStep
      split
      · rename_i a b u v
        rw [putIf_mem, putIf_mem]
        simp only [decide_eq_true_eq]
        constructor
        · rintro (⟨⟨rfl, rfl⟩, rfl⟩ | ⟨⟨rfl, rfl⟩, rfl⟩ | h)
          · exact .inl ⟨_, _, rfl, .inr rfl⟩
          · exact .inl ⟨_, _, rfl, .inl rfl⟩
          · exact .inr h
        · rintro (⟨p, q, rfl, h | h⟩ | h)
          · cases h; exact .inr (.inl ⟨⟨rfl, rfl⟩, rfl⟩)
          · cases h; exact .inl ⟨⟨rfl, rfl⟩, rfl⟩
          · exact .inr (.inr h)
      · rename_i hk
        constructor
        · exact .inr
        · rintro (⟨p, q, rfl, h | h⟩ | h)
          · exact absurd h (hk _ _ _ _)
          · exact absurd h (hk _ _ _ _)
          · exact h
    rw [this]
    constructor
    · rintro (⟨u, v, rfl, h⟩ | ⟨u, v, rfl, h⟩ | h)
      · exact .inl ⟨u, v, rfl, h.imp (List.mem_cons_of_mem _) (List.mem_cons_of_mem _)⟩
      · exact .inl ⟨u, v, rfl, h.imp (fun h => by rw [h]; exact List.mem_cons_self) (fun h => by rw [h]; exact List.mem_cons_self)⟩
      · exact .inr h
    · rintro (⟨u, v, rfl, h⟩ | h)
      · rcases h with h | h
        · rcases List.mem_cons.mp h with h | h
          · exact .inr (.inl ⟨u, v, rfl, .inl h.symm⟩)
          · exact .inl ⟨u, v, rfl, .inl h⟩
        · rcases List.mem_cons.mp h with h | h
          · exact .inr (.inl ⟨u, v, rfl, .inr h.symm⟩)
          · exact .inl ⟨u, v, rfl, .inr h⟩
      · exact .inr (.inr h)
theorem resS_mem {rs : List (List Int)} {x y : Int} {z : List Int} : z ∈ resS rs x y ↔ ∃ u v, z = [u, v] ∧ Turns rs x y u v := by
  unfold resS
  rw [(sortT_perm _).mem_iff]
  unfold resE
  rw [resE_mem]; simp
@[simp] theorem setD_dic {es : List (List Int × D)} {k : List Int} {v : D} (h : es.length < LIM) : setD (.dic es) (tI k) v = .ok (.dic (putD k v es)) := by
  show (match intsD (k.map D.int) with
    | some k => if es.length < LIM then R.ok (D.dic (putD k v es)) else .no
    | none => .no) = _
  rw [intsD_map]
  exact if_pos h
theorem setD_dic2 {es : List (List Int × D)} {a b : Int} {v : D} (h : es.length < LIM) : setD (.dic es) (.tup [.int a, .int b]) v = .ok (.dic (putD [a, b] v es)) := setD_dic (k := [a, b]) h
theorem skeys_of {es : List (List Int × D)} (h : es.length ≤ LIM) (q : ∀ e ∈ es, e.1 ≠ []) : biD .skeys [.dic es] = .ok (.lst ((sortT (es.map (·.1))).map tI)) := by
  show (if es.length ≤ LIM ∧ (es.all fun e => !e.1.isEmpty) = true then R.ok (D.lst ((sortT (es.map (·.1))).map tI)) else .no) = _
  rw [if_pos ⟨h, List.all_eq_true.mpr fun e he => by
    have := q e he
    cases hh : e.1 with
    | nil => exact absurd hh this
    | cons _ _ => rfl⟩]
theorem ev_results_in {m : Int} {rs : List (List Int)} {x y : Int} (h : ∀ k ∈ rs, RuleOk m k) (hl : rs.length ≤ 1000) : callD (GL c) (n + 1) 4 .non [tb m rs, tI [x, y]] = .ok (.lst ((resS rs x y).map tI), .non) := by
  refine call_eq (G4 c) (env := [.fr (tb m rs), .fr (tI [x, y]), .no, .no, .no, .no, .no]) rfl rfl rfl ?_
  refine ok_nx (env' := [.fr (tb m rs), .fr (tI [x, y]), .ow (.dic []), .no, .no, .no, .no]) (r' := .non) (by simp [objD]) ?_
  refine ok_for (r1 := .non) (ds := rs.map tI) (fun i e r => r = .non ∧ ∃ p q s t, e = [.fr (tb m rs), .fr (tI [x, y]), .ow (.dic (resE (rs.take i) x y)), p, q, s, t]) (by simp [tb, seqD]) ⟨rfl, _, _, _, _, rfl⟩ (fun i d e r hd hI => ?_) fun e r hI => ?_
  · obtain ⟨rfl, p, q, s, t, rfl⟩ := hI
    obtain ⟨k, hk, rfl⟩ := get_tI hd
    have mem : k ∈ rs := List.mem_of_getElem? hk
    obtain ⟨a, b, u, v, rfl, _⟩ := (h k mem).ex
    have len := resE_len x y (rs.take i) []
    have lt : (rs.take i).length ≤ 1000 := by rw [List.length_take]; omega
    have hlen : (resE (rs.take i) x y).length < LIM := by unfold resE LIM; simp at len; omega
    have hlen2 : (putIf (decide (a = x ∧ b = y)) [u, v] (resE (rs.take i) x y)).length < LIM := by
      have := putIf_len (decide (a = x ∧ b = y)) [u, v] (resE (rs.take i) x y)
      unfold resE LIM at *; simp at len; omega
    have e1 : resE (rs.take (i + 1)) x y = resStep x y (resE (rs.take i) x y) [a, b, u, v] := foldl_take _ _ hk
    refine ok_bindT (e1 := [.fr (tb m rs), .fr (tI [x, y]), .ow (.dic (resE (rs.take i) x y)), .fr (.int a), .fr (.int b), .fr (.int u), .fr (.int v)]) (by simp [tI4]) ?_
    refine ok_nx (env' := [.fr (tb m rs), .fr (tI [x, y]), .ow (.dic (putIf (decide (a = x ∧ b = y)) [u, v] (resE (rs.take i) x y))), .fr (.int a), .fr (.int b), .fr (.int u), .fr (.int v)]) (r' := .non) ?_
      (ok_nx (env' := [.fr (tb m rs), .fr (tI [x, y]), .ow (.dic (resE (rs.take (i + 1)) x y)), .fr (.int a), .fr (.int b), .fr (.int u), .fr (.int v)]) (r' := .non) ?_ (ok_nil ⟨_, _, rfl, rfl, _, _, _, _, rfl⟩))
    · by_cases c1 : a = x ∧ b = y <;> simp [tI2, c1, putIf, setD_dic2 hlen]
    · rw [e1]
      have : resStep x y (resE (rs.take i) x y) [a, b, u, v] = putIf (decide (b = x ∧ a = y)) [v, u] (putIf (decide (a = x ∧ b = y)) [u, v] (resE (rs.take i) x y)) := rfl
      rw [this]
      generalize putIf (decide (a = x ∧ b = y)) [u, v] (resE (rs.take i) x y) = es at hlen2
      by_cases c2 : b = x ∧ a = y <;> simp [tI2, c2, putIf, setD_dic2 hlen2]
  · obtain ⟨rfl, p, q, s, t, rfl⟩ := hI
    rw [List.length_map, List.take_length]
    refine ok_rt (r' := .non) ?_ rfl
    have len := resE_len x y rs []
    have hlen : (resE rs x y).length ≤ LIM := by unfold resE LIM; simp at len; omega
    have hne : ∀ e ∈ resE rs x y, e.1 ≠ [] := fun e he q => by
      have := (resE_mem x y rs [] e.1).mp (List.mem_map_of_mem he)
      rw [q] at this
      simp at this
    simp [skeys_of hlen hne, resS]
end
end PLX

set_option Elab.async false
set_option linter.all false
set_option maxRecDepth 100000
set_option autoImplicit false
set_option maxHeartbeats 400000
namespace PLX
open PySem PL
section
variable {c : Fd} {n : Nat}
theorem ev_results {m : Int} {rs : List (List Int)} {x y : Int} (h : TabOk m rs) (hx : 0 ≤ x ∧ x < m) (hy : 0 ≤ y ∧ y < m) : callD (GL c) (n + 4) 5 .non [tb m rs, tI [x, y]] = .ok (.tup ((resS rs x y).map tI), .non) := by
  have hl := h.len
  refine call_eq (G5 c) (env := [.fr (tb m rs), .fr (tI [x, y])]) rfl rfl rfl ?_
  refine ok_nx (env' := [.fr (tb m rs), .fr (tI [x, y])]) (r' := .non) (by simp [ev_need_table h]) (ok_nx (env' := [.fr (tb m rs), .fr (tI [x, y])]) (r' := .non) ?_ (ok_rt (r' := .non) ?_ rfl))
  · simp [ev_need_pair hx hy]
  · simp [ev_results_in h.ru (by omega : rs.length ≤ 1000)]
theorem ev_l_results {m : Int} {rs : List (List Int)} {x y : Int} (h : ∀ k ∈ rs, RuleOk m k) (hl : rs.length ≤ 1000) : callD (GL c) (n + 1) 15 .non [tb m rs, tI [x, y]] = .ok (.lst ((resS rs x y).map tI), .non) := by
  refine call_eq (G15 c) (env := [.fr (tb m rs), .fr (tI [x, y]), .no, .no, .no, .no, .no]) rfl rfl rfl ?_
  refine ok_nx (env' := [.fr (tb m rs), .fr (tI [x, y]), .ow (.dic []), .no, .no, .no, .no]) (r' := .non) (by simp [objD]) ?_
  refine ok_for (r1 := .non) (ds := rs.map tI) (fun i e r => r = .non ∧ ∃ p q s t, e = [.fr (tb m rs), .fr (tI [x, y]), .ow (.dic (resE (rs.take i) x y)), p, q, s, t]) (by simp [tb, seqD]) ⟨rfl, _, _, _, _, rfl⟩ (fun i d e r hd hI => ?_) fun e r hI => ?_
  · obtain ⟨rfl, p, q, s, t, rfl⟩ := hI
    obtain ⟨k, hk, rfl⟩ := get_tI hd
    have mem : k ∈ rs := List.mem_of_getElem? hk
    obtain ⟨a, b, u, v, rfl, _⟩ := (h k mem).ex
    have len := resE_len x y (rs.take i) []
    have lt : (rs.take i).length ≤ 1000 := by rw [List.length_take]; omega
    have hlen : (resE (rs.take i) x y).length < LIM := by unfold resE LIM; simp at len; omega
    have hlen2 : (putIf (decide (a = x ∧ b = y)) [u, v] (resE (rs.take i) x y)).length < LIM := by
      have := putIf_len (decide (a = x ∧ b = y)) [u, v] (resE (rs.take i) x y)
      unfold resE LIM at *; simp at len; omega
    have e1 : resE (rs.take (i + 1)) x y = resStep x y (resE (rs.take i) x y) [a, b, u, v] := foldl_take _ _ hk
    refine ok_bindT (e1 := [.fr (tb m rs), .fr (tI [x, y]), .ow (.dic (resE (rs.take i) x y)), .fr (.int a), .fr (.int b), .fr (.int u), .fr (.int v)]) (by simp [tI4]) ?_
    refine ok_nx (env' := [.fr (tb m rs), .fr (tI [x, y]), .ow (.dic (putIf (decide (a = x ∧ b = y)) [u, v] (resE (rs.take i) x y))), .fr (.int a), .fr (.int b), .fr (.int u), .fr (.int v)]) (r' := .non) ?_
      (ok_nx (env' := [.fr (tb m rs), .fr (tI [x, y]), .ow (.dic (resE (rs.take (i + 1)) x y)), .fr (.int a), .fr (.int b), .fr (.int u), .fr (.int v)]) (r' := .non) ?_ (ok_nil ⟨_, _, rfl, rfl, _, _, _, _, rfl⟩))
    · by_cases c1 : a = x ∧ b = y
      · simp [tI2, c1, putIf, setD_dic2 hlen]
      · have : ¬ (x = a ∧ y = b) := fun ⟨p, q⟩ => c1 ⟨p.symm, q.symm⟩
        simp [tI2, c1, this, putIf, setD_dic2 hlen]
    · rw [e1]
      have : resStep x y (resE (rs.take i) x y) [a, b, u, v] = putIf (decide (b = x ∧ a = y)) [v, u] (putIf (decide (a = x ∧ b = y)) [u, v] (resE (rs.take i) x y)) := rfl
      rw [this]
      generalize putIf (decide (a = x ∧ b = y)) [u, v] (resE (rs.take i) x y) = es at hlen2
      by_cases c2 : b = x ∧ a = y
      · simp [tI2, c2, putIf, setD_dic2 hlen2]
      · have : ¬ (x = b ∧ y = a) := fun ⟨p, q⟩ => c2 ⟨p.symm, q.symm⟩
        simp [tI2, c2, this, putIf, setD_dic2 hlen2]
  · obtain ⟨rfl, p, q, s, t, rfl⟩ := hI
    rw [List.length_map, List.take_length]
    refine ok_rt (r' := .non) ?_ rfl
    have len := resE_len x y rs []
    have hlen : (resE rs x y).length ≤ LIM := by unfold resE LIM; simp at len; omega
    have hne : ∀ e ∈ resE rs x y, e.1 ≠ [] := fun e he q => by
      have := (resE_mem x y rs [] e.1).mp (List.mem_map_of_mem he)
      rw [q] at this
      simp at this
    simp [skeys_of hlen hne, resS]
/-! a rule of two pairs -/
def asRule (a b u v : Int) : List Int := if b < a then [b, a, v, u] else if a = b ∧ v < u then [a, b, v, u] else [a, b, u, v]
theorem ev_as_rule (a b u v : Int) : callD (GL c) (n + 1) 6 .non [tI [a, b], tI [u, v]] = .ok (tI (asRule a b u v), .non) := by
  refine call_eq (G6 c) (env := [.fr (tI [a, b]), .fr (tI [u, v])]) rfl rfl rfl ?_
  have e1 : ∀ x y : Int, revD (.tup [.int x, .int y]) = .ok (.tup [.int y, .int x]) := fun _ _ => rfl
  by_cases h1 : b < a
  · refine ok_nx (env' := [.fr (tI [b, a]), .fr (tI [v, u])]) (r' := .non) (by simp [tI2, h1, e1]) ?_
    have h2 : ¬ b = a := by omega
    refine ok_nx (env' := [.fr (tI [b, a]), .fr (tI [v, u])]) (r' := .non) (by simp [tI2, h2]) (ok_rt (d := tI (asRule a b u v)) (r' := .non) ?_ rfl)
    simp [tI2, asRule, h1, LIM]
  · refine ok_nx (env' := [.fr (tI [a, b]), .fr (tI [u, v])]) (r' := .non) (by simp [tI2, h1]) ?_
    by_cases h2 : a = b ∧ v < u
    · refine ok_nx (env' := [.fr (tI [a, b]), .fr (tI [v, u])]) (r' := .non) (by simp [tI2, h2, e1]) (ok_rt (d := tI (asRule a b u v)) (r' := .non) ?_ rfl)
      simp [tI2, asRule, h1, h2, LIM]
    · refine ok_nx (env' := [.fr (tI [a, b]), .fr (tI [u, v])]) (r' := .non) ?_ (ok_rt (d := tI (asRule a b u v)) (r' := .non) ?_ rfl)
      · by_cases h3 : a = b
        · simp [tI2, h3, show ¬ v < u from fun q => h2 ⟨h3, q⟩]
        · simp [tI2, h3]
      · simp [tI2, asRule, h1, h2, LIM]
theorem ev_l_rule (a b u v : Int) : callD (GL c) (n + 1) 12 .non [tI [a, b], tI [u, v]] = .ok (tI (asRule a b u v), .non) := by
  refine call_eq (G12 c) (env := [.fr (tI [a, b]), .fr (tI [u, v]), .no, .no]) rfl rfl rfl ?_
  refine ok_nx (env' := [.fr (tI [a, b]), .fr (tI [u, v]), .fr (tI [a, b]), .fr (tI [u, v])]) (r' := .non) (by simp [tI2]) ?_
  by_cases h1 : b < a
  · refine ok_nx (env' := [.fr (tI [a, b]), .fr (tI [u, v]), .fr (tI [b, a]), .fr (tI [v, u])]) (r' := .non) (by simp [tI2, h1]) (ok_rt (d := tI (asRule a b u v)) (r' := .non) ?_ rfl)
    simp [tI2, asRule, h1, LIM]
  · by_cases h2 : a = b ∧ v < u
    · refine ok_nx (env' := [.fr (tI [a, b]), .fr (tI [u, v]), .fr (tI [b, a]), .fr (tI [v, u])]) (r' := .non) (by simp [tI2, h2]) (ok_rt (d := tI (asRule a b u v)) (r' := .non) ?_ rfl)
      simp [tI2, asRule, h1, h2, LIM]
    · refine ok_nx (env' := [.fr (tI [a, b]), .fr (tI [u, v]), .fr (tI [a, b]), .fr (tI [u, v])]) (r' := .non) ?_ (ok_rt (d := tI (asRule a b u v)) (r' := .non) ?_ rfl)
      · by_cases h3 : a = b
        · simp [tI2, h1, h3, show ¬ v < u from fun q => h2 ⟨h3, q⟩]
        · simp [tI2, h1, h3]
      · simp [tI2, asRule, h1, h2, LIM]
/-! sorted -/
theorem tupsD_map : ∀ ks : List (List Int), tupsD (ks.map tI) = some ks
  | [] => rfl
  | k :: ks => by
    rw [List.map_cons]
    unfold tupsD
    rw [tupsD_map ks]
    show (match intsD (k.map D.int), some ks with
      | some k, some ks => some (k :: ks)
      | _, _ => none) = _
    rw [intsD_map]
theorem sortD_tI {ks : List (List Int)} (h : ∀ k ∈ ks, k ≠ []) : sortD (ks.map tI) = .ok ((sortT ks).map tI) := by
  unfold sortD
  cases ks with
  | nil => rfl
  | cons k ks =>
    have : intsD ((k :: ks).map tI) = none := rfl
    rw [this]
    dsimp only
    rw [tupsD_map]
    dsimp only
    rw [if_pos]
    refine List.all_eq_true.mpr fun k hk => ?_
    have := h k hk
    cases k with
    | nil => exact absurd rfl this
    | cons _ _ => rfl
theorem sorted_tI {ks : List (List Int)} (h : ∀ k ∈ ks, k ≠ []) (hl : ks.length ≤ LIM) : biD .sorted [.lst (ks.map tI)] = .ok (.lst ((sortT ks).map tI)) := by
  show (if (ks.map tI).length ≤ LIM then (sortD (ks.map tI)).bind fun r => R.ok (D.lst r) else .no) = _
  rw [if_pos (by rw [List.length_map]; exact hl), sortD_tI h]; rfl
theorem sorted_ints {ns : List Int} (hl : ns.length ≤ LIM) : biD .sorted [.lst (ns.map D.int)] = .ok (.lst ((sortI ns).map D.int)) := by
  show (if (ns.map D.int).length ≤ LIM then (sortD (ns.map D.int)).bind fun r => R.ok (D.lst r) else .no) = _
  rw [if_pos (by rw [List.length_map]; exact hl)]
  unfold sortD
  rw [intsD_map]; rfl
theorem sorted_intsT {ns : List Int} (hl : ns.length ≤ LIM) : biD .sorted [tI ns] = .ok (.lst ((sortI ns).map D.int)) := by
  show (if (ns.map D.int).length ≤ LIM then (sortD (ns.map D.int)).bind fun r => R.ok (D.lst r) else .no) = _
  rw [if_pos (by rw [List.length_map]; exact hl)]
  unfold sortD
  rw [intsD_map]; rfl
theorem sortI_perm_eq {a b : List Int} (h : a.Perm b) : sortI a = sortI b := by
  refine srt_unique (le := fun a b => decide (a ≤ b)) (fun {x y} a b => by simp only [decide_eq_true_eq] at a b; omega) ?_ (sortI_sorted a) (sortI_sorted b)
  exact (sortI_perm a).trans (h.trans (sortI_perm b).symm)
theorem sortT_perm_eq {a b : List (List Int)} (h : a.Perm b) : sortT a = sortT b := srt_unique lexLe_anti ((sortT_perm a).trans (h.trans (sortT_perm b).symm)) (sortT_sorted a) (sortT_sorted b)
/-- [x for x in l if q] -/
theorem lc_filter {cl : Cl} {env : Env'} {r x : D} {e pe : E} {i : Nat} {ds : List D} (p : D → Bool) (he : evE cl e env r = .ok (x, r)) (hs : seqD x = some ds) (hl : ds.length ≤ LIM) (h : ∀ d ∈ ds, evE cl pe ((wipeE env [i]).set i (.fr d)) r = .ok (.bl (p d), r))
    (hi : ∀ d, locR ((wipeE env [i]).set i (.fr d))[i]? r = .ok (d, r)) : evE cl (.lc (.loc i) (.nm i) (.seq e) (.cons pe .nil) [i]) env r = .ok (.lst (ds.filter p), r) := by
  rw [e_lc, i_seq, he]
  simp only [b_ok, hs]
  rw [if_pos hl, lcD_pure (g := fun d => if p d then some d else none) (fun d hd => by
    simp [h d hd]
    cases p d <;> simp [hi])]
  simp only [c_ok, b_ok]
  congr 3
  clear h hs he hl
  induction ds with
  | nil => rfl
  | cons d ds ih =>
    rw [List.filterMap_cons, List.filter_cons]
    cases p d <;> simp [ih]
/-- [f(x) for x in l] -/
theorem lc_map {cl : Cl} {env : Env'} {r x : D} {e el : E} {tg : Tg} {own : List Nat} {ds : List D} (g : D → D) (he : evE cl e env r = .ok (x, r)) (hs : seqD x = some ds) (hl : ds.length ≤ LIM)
    (h : ∀ d ∈ ds, ((bindT tg d (wipeE env own)).bind fun env => evE cl el env r) = .ok (g d, r)) : evE cl (.lc el tg (.seq e) .nil own) env r = .ok (.lst (ds.map g), r) := by
  rw [e_lc, i_seq, he]
  simp only [b_ok, hs]
  rw [if_pos hl, lcD_pure (g := fun d => some (g d)) (fun d hd => by
    have := h d hd
    cases hb : bindT tg d (wipeE env own) with
    | ok e1 =>
      rw [hb] at this
      simp only [b_ok] at this
      simp [this]
    | ex _ _ => rw [hb] at this; cases this
    | no => rw [hb] at this; cases this)]
  simp
end
end PLX

set_option Elab.async false
set_option linter.all false
set_option maxRecDepth 100000
set_option autoImplicit false
set_option maxHeartbeats 400000
namespace PLX
open PySem PL
/-! ### the row of draws -/
def RowI (r : D) : Prop := ∃ (ns : List Int) (i s c : Int), r = .lst [.scr ns, .int i, .int s, .int c] ∧ 0 ≤ i ∧ 0 ≤ s ∧ s < 2147483647
@[simp] theorem rowOk_lst (ds : List D) : rowOk (.lst ds) = true := rfl
@[simp] theorem setL4_1 (a b c d v : D) : setD (.lst [a, b, c, d]) (.int 1) v = .ok (.lst [a, v, c, d]) := rfl
@[simp] theorem setL4_2 (a b c d v : D) : setD (.lst [a, b, c, d]) (.int 2) v = .ok (.lst [a, b, v, d]) := rfl
@[simp] theorem setL4_3 (a b c d v : D) : setD (.lst [a, b, c, d]) (.int 3) v = .ok (.lst [a, b, c, v]) := rfl
@[simp] theorem pow_18 : op2D .pow (.int 10) (.int 18) = .ok (.int 1000000000000000000) := by rfl
theorem o_mod (a : Int) {b : Int} (h : 1 ≤ b) : op2D .mod (.int a) (.int b) = .ok (.int (a.fmod b)) := by
  show (if b ≠ 0 then R.ok (D.int (a.fmod b)) else .no) = _
  rw [if_pos (by omega)]
theorem log_small {b : Int} (h1 : 1 ≤ b) (h2 : b ≤ 4294967296) : b.natAbs.log2 < 9000 := by
  have hb : b.natAbs ≠ 0 := by omega
  refine (Nat.log2_lt hb).mpr (Nat.lt_of_lt_of_le (m := 2 ^ 33) (by omega) (Nat.pow_le_pow_right (by decide) (by decide)))
theorem o_fdiv (a : Int) {b : Int} (h1 : 1 ≤ b) (h2 : b ≤ 4294967296) : op2D .fdiv (.int a) (.int b) = .ok (.int (a.fdiv b)) := by
  show (if b ≠ 0 ∧ b.natAbs.log2 < 9000 then R.ok (D.int (a.fdiv b)) else .no) = _
  rw [if_pos ⟨by omega, log_small h1 h2⟩]
theorem log_lt {a : Int} {k : Nat} (h1 : -(2 ^ k : Nat) < a) (h2 : a < (2 ^ k : Nat)) : a.natAbs.log2 ≤ k := by
  by_cases hb : a.natAbs = 0
  · rw [hb]; simp
  · have : a.natAbs.log2 < k + 1 := (Nat.log2_lt hb).mpr (by rw [Nat.pow_succ]; omega)
    omega
theorem o_mul {a b : Int} (h1 : -1152921504606846976 < a) (h2 : a < 1152921504606846976) (h3 : -1152921504606846976 < b) (h4 : b < 1152921504606846976) : op2D .mul (.int a) (.int b) = .ok (.int (a * b)) := by
  show (if a.natAbs.log2 + b.natAbs.log2 < 1000000 then R.ok (D.int (a * b)) else .no) = _
  have e : ((2 ^ 60 : Nat) : Int) = 1152921504606846976 := by decide
  have l1 := log_lt (a := a) (k := 60) (by rw [e]; omega) (by rw [e]; omega)
  have l2 := log_lt (a := b) (k := 60) (by rw [e]; omega) (by rw [e]; omega)
  rw [if_pos (by omega)]
theorem ixS (ns : List Int) {i : Int} (h : 0 ≤ i) : ixD (.scr ns) (.int i) = R.ofO (ns[i.toNat]?.map D.int) := by
  show (match idxN ns.length i with
    | some j => R.ofO (ns[j]?.map D.int)
    | none => .no) = _
  unfold idxN
  rw [if_pos h]
  by_cases q : i < (ns.length : Int)
  · rw [if_pos q]
  · rw [if_neg q, List.getElem?_eq_none (by omega)]; rfl
theorem fmod_bd (a : Int) {b : Int} (h : 1 ≤ b) : 0 ≤ a.fmod b ∧ a.fmod b < b := ⟨Int.fmod_nonneg_of_pos a (by omega), Int.fmod_lt_of_pos a (by omega)⟩
section
variable {c : Fd} {n : Nat}
theorem ev_taken {r : D} {m : Int} (hr : RowI r) (h1 : 1 ≤ m) (h2 : m ≤ 1000) : Ok (callD (GL c) (n + 1) 10 r [.int m]) fun p => ∃ v, p.1 = .int v ∧ (0 ≤ v ∧ v < m) ∧ RowI p.2 := by
  obtain ⟨ns, i, s, x, rfl, hi, hs, hs2⟩ := hr
  refine call_ok (G10 c) (env := [.no, .fr (.int m), .no, .no]) rfl rfl rfl ?_
  have big : (2147483647 : Int) ≤ 4294967296 := by decide
  refine ok_ite (p := decide (0 < x)) (r1 := .lst [.scr ns, .int i, .int s, .int x]) (by simp) (fun hp => ?_) fun hp => ?_
  · refine ok_nx (env' := [.no, .fr (.int m), .fr (.int (x.fmod m)), .no]) (r' := .lst [.scr ns, .int i, .int s, .int x]) (by simp (disch := omega) [o_mod]) ?_
    refine ok_nx (env' := [.no, .fr (.int m), .fr (.int (x.fmod m)), .no]) (r' := .lst [.scr ns, .int i, .int s, .int (x.fdiv m)]) (by simp (disch := omega) [o_fdiv]) ?_
    refine ok_rt (d := .int (x.fmod m)) (r' := .lst [.scr ns, .int i, .int s, .int (x.fdiv m)]) (by simp) ?_
    exact ⟨_, rfl, fmod_bd x h1, _, _, _, _, rfl, hi, hs, hs2⟩
  · refine ok_nil ?_
    refine ok_nx (env' := [.no, .fr (.int m), .no, .no]) (r' := .lst [.scr ns, .int (i + 1), .int s, .int x]) (by simp) ?_
    have l48 : ∀ z : Int, 0 ≤ z → z < 2147483647 → op2D .mul (.int z) (.int 48271) = .ok (.int (z * 48271)) := fun z a b => o_mul (by omega) (by omega) (by decide) (by decide)
    refine ok_ite (p := decide ((ns.length : Int) < i + 1)) (r1 := .lst [.scr ns, .int (i + 1), .int s, .int x]) (by simp) (fun hq => ?_) fun hq => ?_
    · have b2 := fmod_bd (s * 48271 + 11) (b := 2147483647) (by decide)
      refine ok_nx (env' := [.no, .fr (.int m), .no, .no]) (r' := .lst [.scr ns, .int (i + 1), .int ((s * 48271 + 11).fmod 2147483647), .int x]) (by simp (disch := omega) [l48, o_mod]) ?_
      refine ok_rt (d := .int ((((s * 48271 + 11).fmod 2147483647).fdiv 7).fmod m)) (r' := .lst [.scr ns, .int (i + 1), .int ((s * 48271 + 11).fmod 2147483647), .int x]) (by simp (disch := omega) [o_mod, o_fdiv]) ?_
      exact ⟨_, rfl, fmod_bd _ h1, _, _, _, _, rfl, by omega, b2.1, b2.2⟩
    · have hq : ¬ (ns.length : Int) < i + 1 := by simpa using hq
      refine ok_nil ?_
      have lt : i.toNat < ns.length := by omega
      refine ok_nx (env' := [.no, .fr (.int m), .no, .fr (.int ns[i.toNat])]) (r' := .lst [.scr ns, .int (i + 1), .int s, .int x]) ?_ ?_
      · have e : i + 1 - 1 = i := by omega
        simp (disch := omega) [e, ixS, List.getElem?_eq_getElem lt]
      generalize ns[i.toNat] = z
      have b2 := fmod_bd (s * 48271 + z + 11) (b := 2147483647) (by decide)
      refine ok_nx (env' := [.no, .fr (.int m), .no, .fr (.int z)]) (r' := .lst [.scr ns, .int (i + 1), .int ((s * 48271 + z + 11).fmod 2147483647), .int x]) (by simp (disch := omega) [l48, o_mod]) ?_
      generalize (s * 48271 + z + 11).fmod 2147483647 = s' at b2
      have last : ∀ y, Ok (evSs (callD (GL c) n) (.cons (.ret (.bin .mod (.bi .int (.cons (.loc 3) .nil)) (.loc 1))) .nil) [.no, .fr (.int m), .no, .fr (.int z)] (.lst [.scr ns, .int (i + 1), .int s', .int y])) (outK fun p => ∃ v, p.1 = .int v ∧ (0 ≤ v ∧ v < m) ∧ RowI p.2) := fun y =>
        ok_rt (d := .int (z.fmod m)) (r' := .lst [.scr ns, .int (i + 1), .int s', .int y]) (by simp (disch := omega) [o_mod]) ⟨_, rfl, fmod_bd _ h1, _, _, _, _, rfl, by omega, b2.1, b2.2⟩
      refine ok_ite (p := decide (1000000000000000000 ≤ z)) (r1 := .lst [.scr ns, .int (i + 1), .int s', .int x]) (by simp) (fun _ => ?_) fun _ => ?_
      · exact ok_nx (env' := [.no, .fr (.int m), .no, .fr (.int z)]) (r' := .lst [.scr ns, .int (i + 1), .int s', .int (z.fdiv m)]) (by simp (disch := omega) [o_fdiv]) (ok_nil (last _))
      · exact ok_nil (last _)
end
end PLX

set_option Elab.async false
set_option linter.all false
set_option maxRecDepth 100000
set_option autoImplicit false
set_option maxHeartbeats 400000
namespace PLX
open PySem PL
def rgI (a b : Int) : List Int := (List.range (b - a).toNat).map fun i => a + (i : Nat)
theorem rgD_I (a b : Int) : rgD a b = (rgI a b).map D.int := by
  unfold rgD rgI
  rw [List.map_map]; rfl
theorem rgI_len (a b : Int) : (rgI a b).length = (b - a).toNat := by unfold rgI; simp
theorem rgI_mem {a b z : Int} : z ∈ rgI a b ↔ a ≤ z ∧ z < b := by
  unfold rgI
  rw [List.mem_map]
  constructor
  · rintro ⟨i, hi, rfl⟩
    rw [List.mem_range] at hi
    omega
  · intro h
    exact ⟨(z - a).toNat, List.mem_range.mpr (by omega), by omega⟩
theorem rgI_get {a b : Int} {i : Nat} (h : i < (b - a).toNat) : (rgI a b)[i]? = some (a + (i : Nat)) := by
  unfold rgI
  rw [List.getElem?_map, List.getElem?_range h]; rfl
theorem rgI_nodup (a b : Int) : (rgI a b).Nodup := by
  unfold rgI
  refine List.pairwise_map.mpr (List.nodup_range.imp fun {x y} h q => h (by omega))
theorem rgl1_of {m : Int} (h1 : 0 ≤ m) (h2 : m ≤ 1000000) : biD .rgl1 [.int m] = .ok (.lst ((rgI 0 m).map D.int)) := by
  show (if m ≤ LIM ∧ -1000000 ≤ m then R.ok (D.lst (rgD 0 m)) else .no) = _
  rw [if_pos ⟨by show m ≤ ((1000000 : Nat) : Int); omega, by omega⟩, rgD_I]
theorem rng1_of {m : Int} (h1 : 0 ≤ m) (h2 : m ≤ 1000000) {r : D} : (match D.int m with
    | .int n => if n ≤ LIM ∧ -1000000 ≤ n then R.ok (rgD 0 n, r) else .no
    | _ => .no) = .ok ((rgI 0 m).map D.int, r) := by
  show (if m ≤ LIM ∧ -1000000 ≤ m then R.ok (rgD 0 m, r) else .no) = _
  rw [if_pos ⟨by show m ≤ ((1000000 : Nat) : Int); omega, by omega⟩, rgD_I]
theorem it_rng1 {cl : Cl} {env : Env'} {r r1 : D} {e : E} {m : Int} (h1 : 0 ≤ m) (h2 : m ≤ 1000000) (h : evE cl e env r = .ok (.int m, r1)) : evIt cl (.rng1 e) env r = .ok ((rgI 0 m).map D.int, r1) := by
  rw [i_rng1, h]
  simp only [b_ok]
  exact rng1_of h1 h2
/-! an expression that draws -/
section
variable {cl : Cl} {env : Env'} {r : D} {ss : Ss} {K : Fl → Prop}
theorem ok_asg {i : Nat} {e : E} (h : Ok (evE cl e env r) fun p => Ok (evSs cl ss (env.set i (.fr p.1)) p.2) K) : Ok (evSs cl (.cons (.asg i e) ss) env r) K := by
  refine st_ok ?_
  rw [s_asg]
  exact Ok.bind (h.mono fun p hp => Ok.ok hp)
theorem ok_asgP {is : List (Nat × Bool)} {es : Es} (h : Ok (evEs cl es env r) fun p => ∃ env', storeP is p.1 env = .ok env' ∧ Ok (evSs cl ss env' p.2) K) : Ok (evSs cl (.cons (.asgP is es) ss) env r) K := by
  refine st_ok ?_
  rw [s_asgP]
  refine Ok.bind (h.mono fun p hp => ?_)
  obtain ⟨e, h1, h2⟩ := hp
  rw [h1]
  exact Ok.ok h2
theorem oe_cons {e : E} {es : Es} {k : List D × D → Prop} (h : Ok (evE cl e env r) fun p => Ok (evEs cl es env p.2) fun q => k (p.1 :: q.1, q.2)) : Ok (evEs cl (.cons e es) env r) k := by
  rw [es_cons]
  exact Ok.bind (h.mono fun p hp => Ok.bind (hp.mono fun q hq => Ok.ok hq))
theorem oe_nil {k : List D × D → Prop} (h : k ([], r)) : Ok (evEs cl .nil env r) k := Ok.ok h
theorem oe_tup {es : Es} {k : D × D → Prop} (h : Ok (evEs cl es env r) fun p => k (.tup p.1, p.2)) : Ok (evE cl (.tup es) env r) k := by
  rw [e_tup]
  exact Ok.bind (h.mono fun p hp => Ok.ok hp)
theorem oe_bin {o : Op2} {a b : E} {k : D × D → Prop} (h : Ok (evE cl a env r) fun p => Ok (evE cl b env p.2) fun q => Ok (op2D o p.1 q.1) fun z => k (z, q.2)) : Ok (evE cl (.bin o a b) env r) k := by
  rw [e_bin]
  exact Ok.bind (h.mono fun p hp => Ok.bind (hp.mono fun q hq => Ok.bind (hq.mono fun z hz => Ok.ok hz)))
theorem oe_ix {a b : E} {k : D × D → Prop} (h : Ok (evE cl a env r) fun p => Ok (evE cl b env p.2) fun q => Ok (ixD p.1 q.1) fun z => k (z, q.2)) : Ok (evE cl (.ix a b) env r) k := by
  rw [e_ix]
  exact Ok.bind (h.mono fun p hp => Ok.bind (hp.mono fun q hq => Ok.bind (hq.mono fun z hz => Ok.ok hz)))
theorem oe_of {x : R (D × D)} {d r' : D} {k : D × D → Prop} (h : x = .ok (d, r')) (q : k (d, r')) : Ok x k := ⟨_, h, q⟩
theorem Ok.of {α : Type} {x : R α} {a : α} {k : α → Prop} (h : x = .ok a) (q : k a) : Ok x k := ⟨_, h, q⟩
theorem oe_callr {f : Nat} {es : Es} {k : D × D → Prop} {ds : List D} (hr : rowOk r = true) (he : evEs cl es env r = .ok (ds, r)) (h : Ok (cl f r ds) k) : Ok (evE cl (.callr f es) env r) k := by
  rw [e_callr, if_pos hr, he]
  simp only [b_ok]
  rw [if_pos hr]
  exact h
end
theorem RowI.ok {r : D} (h : RowI r) : rowOk r = true := by
  obtain ⟨_, _, _, _, rfl, _⟩ := h
  rfl
section
variable {c : Fd} {n : Nat}
/-- a draw -/
theorem oe_take {e : E} {env : Env'} {r : D} {m : Int} {k : D × D → Prop} (hr : RowI r) (h1 : 1 ≤ m) (h2 : m ≤ 1000) (he : evE (callD (GL c) (n + 1)) e env r = .ok (.int m, r)) (h : ∀ v r', 0 ≤ v → v < m → RowI r' → k (.int v, r')) :
    Ok (evE (callD (GL c) (n + 1)) (.callr 10 (.cons e .nil)) env r) k := by
  refine oe_callr hr.ok (ds := [.int m]) (by simp [he]) ?_
  refine (ev_taken hr h1 h2).mono fun p hp => ?_
  obtain ⟨v, e, ⟨a, b⟩, q⟩ := hp
  have := h v p.2 a b q
  rw [← e] at this
  exact this
theorem ev_order {r : D} {m : Int} (hr : RowI r) (h1 : 0 ≤ m) (h2 : m ≤ 1000) : Ok (callD (GL c) (n + 2) 11 r [.int m]) fun p => ∃ os : List Int, p.1 = .lst (os.map D.int) ∧ os.Perm (rgI 0 m) ∧ RowI p.2 := by
  refine call_ok (G11 c) (env := [.no, .fr (.int m), .no, .no, .no, .no]) (by rw [hr.ok]; rfl) rfl rfl ?_
  refine ok_nx (env' := [.no, .fr (.int m), .fr (.lst ((rgI 0 m).map D.int)), .ow (.lst []), .no, .no]) (r' := r) (by simp [rgl1_of h1 (show m ≤ 1000000 by omega), objD]) ?_
  refine ok_for (r1 := r) (ds := (rgI 0 m).map D.int) (fun i e r => RowI r ∧ ∃ (le fo : List Int) (p q : Sl), e = [.no, .fr (.int m), .fr (.lst (le.map D.int)), .ow (.lst (fo.map D.int)), p, q] ∧ (fo ++ le).Perm (rgI 0 m) ∧ le.length + i = m.toNat) (it_rng1 h1 (by omega) (by simp)) ⟨hr, rgI 0 m, [], .no, .no, rfl, .refl _, by rw [rgI_len]; omega⟩ (fun i d e r hd hI => ?_) fun e r hI => ?_
  · obtain ⟨hr, le, fo, p, q, rfl, pm, ln⟩ := hI
    have hi : i < ((rgI 0 m).map D.int).length := (List.getElem?_eq_some_iff.mp hd).1
    rw [List.length_map, rgI_len] at hi
    have fl : fo.length = i := by have := pm.length_eq; rw [List.length_append, rgI_len] at this; omega
    refine ok_bindT (e1 := [.no, .fr (.int m), .fr (.lst (le.map D.int)), .ow (.lst (fo.map D.int)), .fr d, q]) (by simp) ?_
    refine ok_asg (oe_take (m := le.length) hr (by omega) (by omega) (by simp) fun v r' v0 v1 hr' => ?_)
    have hv : v.toNat < le.length := by omega
    refine ok_nx (env' := [.no, .fr (.int m), .fr (.lst (le.map D.int)), .ow (.lst ((fo ++ [le[v.toNat]]).map D.int)), .fr d, .fr (.int v)]) (r' := r') ?_ ?_
    · have : fo.length < LIM := by unfold LIM; omega
      simp [ixL _ v0, List.getElem?_eq_getElem hv, this]
    refine ok_nx (env' := [.no, .fr (.int m), .fr (.lst ((le.take v.toNat ++ le.drop (v.toNat + 1)).map D.int)), .ow (.lst ((fo ++ [le[v.toNat]]).map D.int)), .fr d, .fr (.int v)]) (r' := r') ?_ (ok_nil ⟨_, _, rfl, hr', _, _, _, _, rfl, ?_, ?_⟩)
    · have e1 : (v + 1).toNat = v.toNat + 1 := by omega
      have : (min v.toNat le.length) + (le.length - (v.toNat + 1)) ≤ LIM := by unfold LIM; omega
      simp [slL_to _ v0, slL_from _ (show 0 ≤ v + 1 by omega), e1, this]
    · have sp : le = le.take v.toNat ++ le[v.toNat] :: le.drop (v.toNat + 1) := by
        conv => lhs; rw [← List.take_append_drop v.toNat le]
        rw [List.drop_eq_getElem_cons hv]
      refine List.Perm.trans ?_ pm
      rw [List.append_assoc]
      refine List.Perm.append_left fo ?_
      conv => rhs; rw [sp]
      exact (List.perm_middle (a := le[v.toNat]) (l₁ := le.take v.toNat) (l₂ := le.drop (v.toNat + 1))).symm
    · rw [List.length_append, List.length_take, List.length_drop]; omega
  · obtain ⟨hr, le, fo, p, q, rfl, pm, ln⟩ := hI
    rw [List.length_map, rgI_len] at ln
    have : le = [] := List.length_eq_zero_iff.mp (by omega)
    subst this
    refine ok_nx (env' := [.no, .fr (.int m), .fr (.lst []), .fr (.lst (fo.map D.int)), p, q]) (r' := r) (by simp [frzE]) (ok_rt (d := .lst (fo.map D.int)) (r' := r) (by simp) ⟨fo, rfl, by simpa using pm, hr⟩)
end
end PLX

set_option Elab.async false
set_option linter.all false
set_option maxRecDepth 100000
set_option autoImplicit false
set_option maxHeartbeats 400000
namespace PLX
open PySem PL
section
variable {cl : Cl} {env : Env'} {r r1 : D} {ss a b : Ss} {c : E} {K : Fl → Prop}
/-- a test: both ways lead to what J says -/
theorem ok_if (J : Env' → D → Prop) {p : Bool} (hc : evE cl c env r = .ok (.bl p, r1)) (ht : p = true → Ok (evSs cl a env r1) fun x => ∃ e r, x = .nx e r ∧ J e r) (hf : p = false → Ok (evSs cl b env r1) fun x => ∃ e r, x = .nx e r ∧ J e r)
    (k : ∀ e r, J e r → Ok (evSs cl ss e r) K) : Ok (evSs cl (.cons (.ite c a b) ss) env r) K :=
  ok_ite hc (fun h => (ht h).mono fun x hx => by
    obtain ⟨e, r, rfl, hj⟩ := hx
    exact k e r hj) fun h => (hf h).mono fun x hx => by
    obtain ⟨e, r, rfl, hj⟩ := hx
    exact k e r hj
end
theorem eqD_int (a b : Int) : eqD (.int a) (.int b) = decide (a = b) := rfl
theorem index_spec (x : Int) : ∀ (os : List Int) (k : Nat), x ∈ os → ∃ j, j < os.length ∧ indexD (.int x) (os.map D.int) k = some (k + j) ∧ os[j]? = some x
  | [], k, h => by cases h
  | y :: os, k, h => by
    rw [List.map_cons]
    unfold indexD
    rw [eqD_int]
    by_cases e : y = x
    · exact ⟨0, by simp, by simp [e], by simp [e]⟩
    · obtain ⟨j, h1, h2, h3⟩ := index_spec x os (k + 1) ((List.mem_cons.mp h).resolve_left (Ne.symm e))
      refine ⟨j + 1, by simpa using h1, ?_, by simpa using h3⟩
      rw [if_neg (by simpa using e), h2]
      congr 1; omega
theorem index_of {x : Int} {os : List Int} (h : x ∈ os) : ∃ j : Nat, j < os.length ∧ os[j]? = some x ∧ biD .index [.lst (os.map D.int), .int x] = .ok (.int j) := by
  obtain ⟨j, h1, h2, h3⟩ := index_spec x os 0 h
  refine ⟨j, h1, h3, ?_⟩
  show (if shD 60 (.int x) && shD 60 (.lst (os.map D.int)) then (match indexD (.int x) (os.map D.int) 0 with
    | some n => R.ok (D.int n)
    | none => .no) else .no) = _
  have : shD 60 (.lst (os.map D.int)) = true := by unfold shD; exact sh_ints _ _
  rw [this, h2]
  simp
  rfl
theorem asRule_ok {m a b u v : Int} (ha : 0 ≤ a ∧ a < m) (hb : 0 ≤ b ∧ b < m) (hu : 0 ≤ u ∧ u < m) (hv : 0 ≤ v ∧ v < m) (ne : (asRule a b u v).take 2 ≠ (asRule a b u v).drop 2) : RuleOk m (asRule a b u v) := by
  unfold asRule at *
  split
  · rename_i h
    rw [if_pos h] at ne
    exact ⟨_, _, _, _, rfl, hb, ha, hv, hu, by omega, fun q => by omega, fun q => ne (by simp [q])⟩
  · rename_i h
    rw [if_neg h] at ne
    split
    · rename_i h2
      rw [if_pos h2] at ne
      exact ⟨_, _, _, _, rfl, ha, hb, hv, hu, by omega, fun q => by omega, fun q => ne (by simp [q])⟩
    · rename_i h2
      rw [if_neg h2] at ne
      exact ⟨_, _, _, _, rfl, ha, hb, hu, hv, by omega, fun q => by omega, fun q => ne (by simp [q])⟩
theorem asRule_len (a b u v : Int) : ∃ w x y z, asRule a b u v = [w, x, y, z] := by
  unfold asRule
  split
  · exact ⟨_, _, _, _, rfl⟩
  · split <;> exact ⟨_, _, _, _, rfl⟩
theorem sortT_asc {ks : List (List Int)} (h : ks.Nodup) : (sortT ks).Pairwise (fun x y => lexLe y x = false) := by
  have h1 := sortT_sorted ks
  have h2 : (sortT ks).Nodup := (sortT_perm ks).nodup_iff.mpr h
  refine (h1.and h2).imp fun {a b} ⟨p, q⟩ => ?_
  cases e : lexLe b a with
  | false => rfl
  | true => exact absurd (lexLe_anti p e) q
section
variable {c : Fd} {n : Nat}
theorem ev_table {r : D} {most : Int} (hr : RowI r) (h1 : 2 ≤ most) (h2 : most ≤ 5) : Ok (callD (GL c) (n + 3) 13 r [.int most]) fun p => ∃ m rs, p.1 = tb m rs ∧ 2 ≤ m ∧ m ≤ most ∧ TabOk m rs ∧ rs.length ≤ 4 ∧ RowI p.2 := by
  refine call_ok (G13 c) (env := [.no, .fr (.int most), .no, .no, .no, .no, .no, .no, .no, .no, .no]) (by rw [hr.ok]; rfl) rfl rfl ?_
  refine ok_asgP (oe_cons (oe_bin (Ok.of (e_cst _) (oe_take (m := most - 1) hr (by omega) (by omega) (by simp) fun w r w0 w1 hr => Ok.of (o_add _ _) (oe_cons (oe_take (m := 5) hr (by omega) (by omega) (by simp) fun way r y0 y1 hr => ?_))))))
  refine oe_cons (Ok.of e_emp (oe_nil ⟨[.no, .fr (.int most), .fr (.int (2 + w)), .fr (.int way), .ow (.dic []), .no, .no, .no, .no, .no, .no], by simp [objD], ?_⟩))
  have m2 : 2 ≤ 2 + w := by omega
  have m5 : 2 + w ≤ most := by omega
  generalize 2 + w = m at m2 m5
  refine ok_asg (oe_callr hr.ok (ds := [.int m]) (by simp) ((ev_order hr (by omega) (by omega)).mono fun p hp => ?_))
  obtain ⟨d5, r⟩ := p
  obtain ⟨os, e, pm, hr⟩ := hp
  have e : d5 = _ := e
  subst e
  have osl : os.length = m.toNat := by rw [pm.length_eq, rgI_len]; omega
  have osm : ∀ z ∈ os, 0 ≤ z ∧ z < m := fun z hz => rgI_mem.mp (pm.mem_iff.mp hz)
  have osg : ∀ {a : Int}, 0 ≤ a → a < m → ∃ z, ixD (.lst (os.map D.int)) (.int a) = .ok (.int z) ∧ z ∈ os := fun {a} a0 a1 => by
    have lt : a.toNat < os.length := by omega
    exact ⟨os[a.toNat], by simp [ixL _ a0, List.getElem?_eq_getElem lt], List.getElem_mem lt⟩
  refine st_ok ?_
  rw [s_for]
  refine Ok.bind ?_
  rw [i_rng1]
  refine Ok.bind (oe_bin (Ok.of (e_cst _) (oe_take (m := 4) hr (by omega) (by omega) (by simp) fun t r t0 t1 hr => Ok.of (o_add _ _) ?_)))
  simp only
  rw [if_pos ⟨by show 1 + t ≤ ((1000000 : Nat) : Int); omega, by omega⟩, rgD_I]
  refine Ok.ok ?_
  let I : Nat → Env' → D → Prop := fun i e r => RowI r ∧ ∃ (es : List (List Int × D)) (a6 a7 a8 a9 a10 : Sl), e = [.no, .fr (.int most), .fr (.int m), .fr (.int way), .ow (.dic es), .fr (.lst (os.map D.int)), a6, a7, a8, a9, a10] ∧ (∀ k ∈ es.map (·.1), RuleOk m k) ∧ (es.map (·.1)).Nodup ∧ es.length ≤ i
  refine (forD_inv I (f := fun d env r => (bindT _ d env).bind fun env => evSs _ _ env r) 0 ⟨hr, [], .no, .no, .no, .no, .no, rfl, by simp, by simp, by simp⟩ fun i d e r hd hI => ?_).mono fun x hx => ?_
  · rw [Nat.zero_add] at hI ⊢
    obtain ⟨hr, es, a6, a7, a8, a9, a10, rfl, k1, k2, k3⟩ := hI
    have hi : i < ((rgI 0 (1 + t)).map D.int).length := (List.getElem?_eq_some_iff.mp hd).1
    rw [List.length_map, rgI_len] at hi
    refine ok_bindT (e1 := [.no, .fr (.int most), .fr (.int m), .fr (.int way), .ow (.dic es), .fr (.lst (os.map D.int)), .fr d, a7, a8, a9, a10]) (by simp) ?_
    refine ok_asg (oe_tup (oe_cons (oe_take (m := m) hr (by omega) (by omega) (by simp) fun a r a0 a1 hr => oe_cons (oe_take (m := m) hr (by omega) (by omega) (by simp) fun b r b0 b1 hr => oe_nil ?_))))
    refine ok_asg (oe_tup (oe_cons (oe_take (m := m) hr (by omega) (by omega) (by simp) fun u r u0 u1 hr => oe_cons (oe_take (m := m) hr (by omega) (by omega) (by simp) fun v r v0 v1 hr => oe_nil ?_))))
    let J : Env' → D → Prop := fun e r' => r' = r ∧ ∃ a b u v s9, e = [.no, .fr (.int most), .fr (.int m), .fr (.int way), .ow (.dic es), .fr (.lst (os.map D.int)), .fr d, .fr (tI [a, b]), .fr (tI [u, v]), s9, a10] ∧ (0 ≤ a ∧ a < m) ∧ (0 ≤ b ∧ b < m) ∧ (0 ≤ u ∧ u < m) ∧ (0 ≤ v ∧ v < m)
    have j0 : J [.no, .fr (.int most), .fr (.int m), .fr (.int way), .ow (.dic es), .fr (.lst (os.map D.int)), .fr d, .fr (tI [a, b]), .fr (tI [u, v]), a9, a10] r := ⟨rfl, a, b, u, v, a9, rfl, ⟨a0, a1⟩, ⟨b0, b1⟩, ⟨u0, u1⟩, ⟨v0, v1⟩⟩
    refine ok_if J (p := decide (way = 0)) (r1 := r) (by simp) (fun _ => ?_) (fun _ => ok_nil ⟨_, _, rfl, j0⟩) fun e r' hj => ?_
    · obtain ⟨z1, e1, m1⟩ := osg a0 a1
      obtain ⟨z2, e2, m2⟩ := osg b0 b1
      have mx : (if z1 < z2 then z2 else z1) ∈ os := by split <;> assumption
      obtain ⟨j, hj, _, ej⟩ := index_of mx
      refine ok_nx (env' := [.no, .fr (.int most), .fr (.int m), .fr (.int way), .ow (.dic es), .fr (.lst (os.map D.int)), .fr d, .fr (tI [a, b]), .fr (tI [u, v]), .fr (.int (if z1 < z2 then z2 else z1)), a10]) (r' := r) ?_ ?_
      · simp [e1, e2, biD, biMax2]
      · refine ok_nx (env' := [.no, .fr (.int most), .fr (.int m), .fr (.int way), .ow (.dic es), .fr (.lst (os.map D.int)), .fr d, .fr (tI [a, b]), .fr (tI [(j : Int), (j : Int)]), .fr (.int (if z1 < z2 then z2 else z1)), a10]) (r' := r) (by simp [ej, tI2]) (ok_nil ⟨_, _, rfl, rfl, a, b, j, j, _, rfl, ⟨a0, a1⟩, ⟨b0, b1⟩, by omega, by omega⟩)
    · obtain ⟨rfl, a, b, u, v, s9, rfl, ha, hb, hu, hv⟩ := hj
      refine ok_if J (p := decide (way = 1)) (r1 := r') (by simp) (fun _ => ?_) (fun _ => ok_nil ⟨_, _, rfl, rfl, a, b, u, v, s9, rfl, ha, hb, hu, hv⟩) fun e r hj => ?_
      · refine ok_nx (env' := [.no, .fr (.int most), .fr (.int m), .fr (.int way), .ow (.dic es), .fr (.lst (os.map D.int)), .fr d, .fr (tI [a, b]), .fr (tI [a, if u < a then u else a]), s9, a10]) (r' := r') (by simp [tI2, biD, biMin2]) (ok_nil ⟨_, _, rfl, rfl, a, b, a, _, _, rfl, ha, hb, ha, by split <;> omega⟩)
      · obtain ⟨rfl, a, b, u, v, s9, rfl, ha, hb, hu, hv⟩ := hj
        obtain ⟨z1, e1, m1⟩ := osg ha.1 ha.2
        obtain ⟨z2, e2, m2⟩ := osg hb.1 hb.2
        obtain ⟨z3, e3, m3⟩ := osg hu.1 hu.2
        obtain ⟨z4, e4, m4⟩ := osg hv.1 hv.2
        refine ok_if J (p := decide (way = 2) && decide (z1 + z2 < z3 + z4)) (r1 := r) ?_ (fun _ => ?_) (fun _ => ok_nil ⟨_, _, rfl, rfl, a, b, u, v, s9, rfl, ha, hb, hu, hv⟩) fun e r' hj => ?_
        · by_cases hw : way = 2 <;> simp [hw, tI2, e1, e2, e3, e4]
        · exact ok_nx (env' := [.no, .fr (.int most), .fr (.int m), .fr (.int way), .ow (.dic es), .fr (.lst (os.map D.int)), .fr d, .fr (tI [u, v]), .fr (tI [a, b]), s9, a10]) (r' := r) (by simp) (ok_nil ⟨_, _, rfl, rfl, u, v, a, b, _, rfl, hu, hv, ha, hb⟩)
        · obtain ⟨rfl, a, b, u, v, s9, rfl, ha, hb, hu, hv⟩ := hj
          refine ok_nx (env' := [.no, .fr (.int most), .fr (.int m), .fr (.int way), .ow (.dic es), .fr (.lst (os.map D.int)), .fr d, .fr (tI [a, b]), .fr (tI [u, v]), s9, .fr (tI (asRule a b u v))]) (r' := r') (by simp [ev_l_rule]) ?_
          obtain ⟨w1, w2, w3, w4, ew⟩ := asRule_len a b u v
          have ok := asRule_ok ha hb hu hv
          rw [ew] at ok ⊢
          refine ok_if (fun e r => r = r' ∧ ∃ es', e = [.no, .fr (.int most), .fr (.int m), .fr (.int way), .ow (.dic es'), .fr (.lst (os.map D.int)), .fr d, .fr (tI [a, b]), .fr (tI [u, v]), s9, .fr (tI [w1, w2, w3, w4])] ∧ (∀ k ∈ es'.map (·.1), RuleOk m k) ∧ (es'.map (·.1)).Nodup ∧ es'.length ≤ i + 1)
            (p := !decide ([w1, w2] = [w3, w4])) (r1 := r') (by simp [tI4, slT_to, slT_from]) (fun hp => ?_) (fun _ => ok_nil ⟨_, _, rfl, rfl, es, rfl, k1, k2, by omega⟩) fun e r hj => ?_
          · have hlen : es.length < LIM := by unfold LIM; omega
            refine ok_nx (env' := [.no, .fr (.int most), .fr (.int m), .fr (.int way), .ow (.dic (putD [w1, w2, w3, w4] (.bl true) es)), .fr (.lst (os.map D.int)), .fr d, .fr (tI [a, b]), .fr (tI [u, v]), s9, .fr (tI [w1, w2, w3, w4])]) (r' := r') (by simp [setD_dic hlen]) (ok_nil ⟨_, _, rfl, rfl, _, rfl, fun k hk => ?_, putD_nodup _ _ k2, Nat.le_trans (putD_len _ _ _) (by omega)⟩)
            rcases (putD_mem _ _ _ _).mp hk with rfl | hk
            · exact ok fun q => by
                simp at q hp
                omega
            · exact k1 k hk
          · obtain ⟨rfl, es', rfl, q1, q2, q3⟩ := hj
            exact ok_nil ⟨_, _, rfl, hr, es', _, _, _, _, _, rfl, q1, q2, q3⟩
  · obtain ⟨e, r, rfl, hr, es, a6, a7, a8, a9, a10, rfl, k1, k2, k3⟩ := hx
    rw [List.length_map, rgI_len] at k3
    have hlen : es.length ≤ LIM := by unfold LIM; omega
    have hne : ∀ e ∈ es, e.1 ≠ [] := fun e he q => by
      obtain ⟨_, _, _, _, q2, _⟩ := (k1 e.1 (List.mem_map_of_mem he)).ex
      rw [q] at q2; cases q2
    refine ok_rt (d := tb m (sortT (es.map (·.1)))) (r' := r) (by simp [skeys_of hlen hne, tb]) ⟨m, sortT (es.map (·.1)), rfl, m2, m5, ⟨by omega, by omega, ?_, fun k hk => k1 k ((sortT_perm _).mem_iff.mp hk), sortT_asc k2⟩, ?_, hr⟩
    · rw [(sortT_perm _).length_eq, List.length_map]; omega
    · rw [(sortT_perm _).length_eq, List.length_map]; omega
end
end PLX

set_option Elab.async false
set_option linter.all false
set_option maxRecDepth 100000
set_option autoImplicit false
set_option maxHeartbeats 400000
namespace PLX
open PySem PL
/-! ### alike -/
inductive Sm : Nat → D → Prop
  | non (n : Nat) : Sm n .non
  | bl (n : Nat) (b : Bool) : Sm n (.bl b)
  | int (n : Nat) (i : Int) : Sm n (.int i)
  | str (n : Nat) (x : Str) : PyData.strOk x = true → Sm n (.str x)
  | lst {n : Nat} {ds : List D} : (∀ d ∈ ds, Sm n d) → ds.length ≤ 1000000 → Sm (n + 1) (.lst ds)
  | tup {n : Nat} {ds : List D} : (∀ d ∈ ds, Sm n d) → ds.length ≤ 1000000 → Sm (n + 1) (.tup ds)
theorem Sm.ints (n : Nat) {k : List Int} (h : k.length ≤ 1000000) : Sm (n + 1) (tI k) := .tup (fun d hd => by
  obtain ⟨i, _, rfl⟩ := List.mem_map.mp hd
  exact .int _ _) (by rw [List.length_map]; exact h)
theorem lc_rng {cl : Cl} {env : Env'} {r : D} {e pe : E} {i : Nat} {m : Int} (p : Int → Bool) (h1 : 0 ≤ m) (h2 : m ≤ 1000000) (he : evE cl e env r = .ok (.int m, r)) (h : ∀ j, 0 ≤ j → j < m → evE cl pe ((wipeE env [i]).set i (.fr (.int j))) r = .ok (.bl (p j), r))
    (hi : ∀ d, locR ((wipeE env [i]).set i (.fr d))[i]? r = .ok (d, r)) : evE cl (.lc (.loc i) (.nm i) (.rng1 e) (.cons pe .nil) [i]) env r = .ok (.lst (((rgI 0 m).filter p).map D.int), r) := by
  rw [e_lc, it_rng1 h1 h2 he]
  simp only [b_ok]
  rw [if_pos (by rw [List.length_map, rgI_len]; show (m - 0).toNat ≤ (1000000 : Nat); omega), lcD_pure (g := fun d => match d with
    | .int j => if p j then some d else none
    | _ => none) (fun d hd => by
    obtain ⟨j, hj, rfl⟩ := List.mem_map.mp hd
    obtain ⟨j0, j1⟩ := rgI_mem.mp hj
    simp [h j j0 j1]
    cases p j <;> simp [hi])]
  simp only [c_ok, b_ok]
  congr 3
  clear h he
  induction rgI 0 m with
  | nil => rfl
  | cons d ds ih =>
    rw [List.map_cons, List.filterMap_cons, List.filter_cons]
    cases hp : p d <;> simp [hp, ih]
section
variable {c : Fd} {n : Nat}
@[simp] theorem q_bl (a b : Bool) : eqG (.bl a) (.bl b) = .ok (a == b) := rfl
theorem alike_int (a b : Int) : callD (GL c) (n + 1) 14 .non [.int a, .int b] = .ok (.bl (decide (a = b)), .non) := by
  refine call_eq (G14 c) (env := [.fr (.int a), .fr (.int b), .no]) rfl rfl rfl ?_
  refine ok_nx (env' := [.fr (.int a), .fr (.int b), .no]) (r' := .non) (by simp [isiT]) (ok_nx (env' := [.fr (.int a), .fr (.int b), .no]) (r' := .non) (by simp [isiT, isNonD]) (ok_rt (d := .bl (decide (a = b))) (r' := .non) (by simp [isiT]) rfl))
theorem alike_bl (a b : Bool) : callD (GL c) (n + 1) 14 .non [.bl a, .bl b] = .ok (.bl (a == b), .non) := by
  refine call_eq (G14 c) (env := [.fr (.bl a), .fr (.bl b), .no]) rfl rfl rfl ?_
  refine ok_nx (env' := [.fr (.bl a), .fr (.bl b), .no]) (r' := .non) (by simp [isiT]) (ok_nx (env' := [.fr (.bl a), .fr (.bl b), .no]) (r' := .non) (by simp [isiT, isNonD]) (ok_rt (d := .bl (a == b)) (r' := .non) (by simp [isiT]) rfl))
theorem alike_nn : callD (GL c) (n + 1) 14 .non [.non, .non] = .ok (.bl true, .non) := by
  refine call_eq (G14 c) (env := [.fr .non, .fr .non, .no]) rfl rfl rfl ?_
  exact ok_nx (env' := [.fr .non, .fr .non, .no]) (r' := .non) (by simp [isiT]) (ok_ite (p := true) (r1 := .non) (by simp [isNonD]) (fun _ => ok_rt (d := .bl true) (r' := .non) (by simp [isiT]; rfl) rfl) fun h => by cases h)
theorem alike_tn (ds : List D) (h : shD 60 (.tup ds) = true) : callD (GL c) (n + 1) 14 .non [.tup ds, .non] = .ok (.bl false, .non) := by
  refine call_eq (G14 c) (env := [.fr (.tup ds), .fr .non, .no]) rfl rfl rfl ?_
  have e : eqG (.tup ds) .non = .ok false := by
    show (if shD 60 (.tup ds) && shD 60 .non then R.ok (eqD (.tup ds) .non) else .no) = _
    rw [h]; rfl
  exact ok_nx (env' := [.fr (.tup ds), .fr .non, .no]) (r' := .non) (by simp [isiT]) (ok_ite (p := true) (r1 := .non) (by simp [isNonD]) (fun _ => ok_rt (d := .bl false) (r' := .non) (by simp [isiT, e]) rfl) fun h => by cases h)
/-- two sequences of the same kind: item by item -/
theorem alike_seq {xs ys : List D} (t : Bool) (p : Int → Bool) (hl : xs.length = ys.length) (hs : ys.length ≤ 1000000) (h : ∀ (j : Nat) x y, xs[j]? = some x → ys[j]? = some y → callD (GL c) n 14 .non [x, y] = .ok (.bl (p j), .non)) :
    callD (GL c) (n + 1) 14 .non [if t then .tup xs else .lst xs, if t then .tup ys else .lst ys] = .ok (.bl ((rgI 0 ys.length).all p), .non) := by
  have key : ∀ X Y : D, (∀ (i : Int), 0 ≤ i → ixD X (.int i) = R.ofO xs[i.toNat]?) → (∀ (i : Int), 0 ≤ i → ixD Y (.int i) = R.ofO ys[i.toNat]?) → biD .len [Y] = .ok (.int ys.length) →
      evE (callD (GL c) n) (.cmp .eq (.lc (.loc 2) (.nm 2) (.rng1 (.bi .len (.cons (.loc 1) .nil))) (.cons (.not (.call 14 (.cons (.ix (.loc 0) (.loc 2)) (.cons (.ix (.loc 1) (.loc 2)) .nil)))) .nil) [2]) (.lst .nil)) [.fr X, .fr Y, .no] .non = .ok (.bl ((rgI 0 ys.length).all p), .non) := fun X Y hX hY hL => by
    have := lc_rng (cl := callD (GL c) n) (env := [.fr X, .fr Y, .no]) (r := .non) (e := .bi .len (.cons (.loc 1) .nil)) (pe := .not (.call 14 (.cons (.ix (.loc 0) (.loc 2)) (.cons (.ix (.loc 1) (.loc 2)) .nil)))) (i := 2) (m := ys.length) (fun j => !p j) (by omega) (by omega) (by simp [hL]) (fun j j0 j1 => by
      have ly : j.toNat < ys.length := by omega
      have lx : j.toNat < xs.length := by omega
      have := h j.toNat _ _ (List.getElem?_eq_getElem lx) (List.getElem?_eq_getElem ly)
      have ej : ((j.toNat : Nat) : Int) = j := by omega
      rw [ej] at this
      simp [wipeE, hX j j0, hY j j0, List.getElem?_eq_getElem lx, List.getElem?_eq_getElem ly, this]) (fun d => by simp [wipeE])
    rw [e_cmp, this]
    simp only [b_ok, e_lst, es_nil]
    rw [c_eq, eqG_lst0 (sh_ints _ _)]
    simp only [b_ok]
    congr 3
    rw [Bool.eq_iff_iff]
    simp [List.isEmpty_iff, List.filter_eq_nil_iff]
  cases t with
  | true =>
    refine call_eq (G14 c) (env := [.fr (.tup xs), .fr (.tup ys), .no]) rfl rfl rfl (ok_ite (p := true) (r1 := .non) (by simp [isiT]) (fun _ => ?_) fun h => by cases h)
    refine ok_nx (env' := [.fr (.tup xs), .fr (.tup ys), .no]) (r' := .non) (by simp [isiT]) (ok_nx (env' := [.fr (.tup xs), .fr (.tup ys), .no]) (r' := .non) (by simp [hl]) (ok_rt (d := .bl ((rgI 0 ys.length).all p)) (r' := .non) ?_ rfl))
    rw [s_ret, key _ _ (fun i => ixT xs) (fun i => ixT ys) rfl]; rfl
  | false =>
    refine call_eq (G14 c) (env := [.fr (.lst xs), .fr (.lst ys), .no]) rfl rfl rfl (ok_ite (p := true) (r1 := .non) (by simp [isiT]) (fun _ => ?_) fun h => by cases h)
    refine ok_nx (env' := [.fr (.lst xs), .fr (.lst ys), .no]) (r' := .non) (by simp [isiT]) (ok_nx (env' := [.fr (.lst xs), .fr (.lst ys), .no]) (r' := .non) (by simp [hl]) (ok_rt (d := .bl ((rgI 0 ys.length).all p)) (r' := .non) ?_ rfl))
    rw [s_ret, key _ _ (fun i => ixL xs) (fun i => ixL ys) rfl]; rfl
theorem alike_str (x : Str) (hx : PyData.strOk x = true) : callD (GL c) (n + 1) 14 .non [.str x, .str x] = .ok (.bl true, .non) := by
  refine call_eq (G14 c) (env := [.fr (.str x), .fr (.str x), .no]) rfl rfl rfl ?_
  have e : eqG (.str x) (.str x) = .ok true := by
    show (if shD 60 (.str x) && shD 60 (.str x) then R.ok (eqD (.str x) (.str x)) else .no) = _
    have : shD 60 (.str x) = true := hx
    rw [this]
    show R.ok (x == x) = _
    simp
  have i1 : ∀ ts, biD (.isi ts) [.str x] = .ok (.bl (ts.any fun t => isiT .str t)) := fun _ => rfl
  exact ok_nx (env' := [.fr (.str x), .fr (.str x), .no]) (r' := .non) (by simp [i1, isiT]) (ok_ite (p := true) (r1 := .non) (by simp [i1, isiT, isNonD]) (fun _ => ok_rt (d := .bl true) (r' := .non) (by simp [i1, isiT, e]) rfl) fun h => by cases h)
theorem alike_refl (n k : Nat) : ∀ x : D, Sm k x → callD (GL c) (n + k + 1) 14 .non [x, x] = .ok (.bl true, .non) := by
  have all : ∀ l : List Int, (l.all fun _ => true) = true := fun l => List.all_eq_true.mpr fun _ _ => rfl
  induction k with
  | zero =>
    intro x h
    cases h with
    | non => exact alike_nn
    | bl _ b => rw [alike_bl]; simp
    | int _ i => rw [alike_int]; simp
    | str _ x hx => exact alike_str x hx
  | succ k ih =>
    intro x h
    cases h with
    | non => exact alike_nn
    | bl _ b => rw [alike_bl]; simp
    | int _ i => rw [alike_int]; simp
    | str _ x hx => exact alike_str x hx
    | lst h hl =>
      rename_i ds
      have := alike_seq (c := c) (n := n + k + 1) (xs := ds) (ys := ds) false (fun _ => true) rfl hl (fun j x y hx hy => by
        rw [hx] at hy; cases hy
        exact ih x (h x (List.mem_of_getElem? hx)))
      rw [all] at this
      exact this
    | tup h hl =>
      rename_i ds
      have := alike_seq (c := c) (n := n + k + 1) (xs := ds) (ys := ds) true (fun _ => true) rfl hl (fun j x y hx hy => by
        rw [hx] at hy; cases hy
        exact ih x (h x (List.mem_of_getElem? hx)))
      rw [all] at this
      exact this
end
end PLX

set_option Elab.async false
set_option linter.all false
set_option maxRecDepth 100000
set_option autoImplicit false
set_option maxHeartbeats 400000
namespace PLX
open PySem PL
@[simp] theorem tb_0 (m : Int) (rs : List (List Int)) : ixD (tb m rs) (.int 0) = .ok (.int m) := rfl
@[simp] theorem tb_1 (m : Int) (rs : List (List Int)) : ixD (tb m rs) (.int 1) = .ok (.tup (rs.map tI)) := rfl
theorem oe_bi {cl : Cl} {env : Env'} {r : D} {f : Bi} {es : Es} {k : D × D → Prop} (h : Ok (evEs cl es env r) fun p => Ok (biD f p.1) fun z => k (z, p.2)) : Ok (evE cl (.bi f es) env r) k := by
  rw [e_bi]
  exact Ok.bind (h.mono fun p hp => Ok.bind (hp.mono fun z hz => Ok.ok hz))
theorem oe_cmp {cl : Cl} {env : Env'} {r : D} {o : Cm} {a b : E} {k : D × D → Prop} (h : Ok (evE cl a env r) fun p => Ok (evE cl b env p.2) fun q => Ok (cmpD o p.1 q.1) fun z => k (.bl z, q.2)) : Ok (evE cl (.cmp o a b) env r) k := by
  rw [e_cmp]
  exact Ok.bind (h.mono fun p hp => Ok.bind (hp.mono fun q hq => Ok.bind (hq.mono fun z hz => Ok.ok hz)))
theorem eqG_lI (k j : List Int) : eqG (.lst (k.map D.int)) (.lst (j.map D.int)) = .ok (decide (k = j)) := by
  show (if shD 60 (.lst (k.map D.int)) && shD 60 (.lst (j.map D.int)) then R.ok (eqD (.lst (k.map D.int)) (.lst (j.map D.int))) else .no) = _
  have : ∀ k : List Int, shD 60 (.lst (k.map D.int)) = true := fun k => by unfold shD; exact sh_ints _ k
  rw [this, this]
  show R.ok (eqDs (k.map D.int) (j.map D.int)) = _
  rw [eq_ints]
theorem eqG_tn (k : List Int) : eqG (tI k) .non = .ok false := by
  show (if shD 60 (tI k) && shD 60 .non then R.ok (eqD (tI k) .non) else .no) = _
  rw [sh_tI]; rfl
theorem sortI_id {l : List Int} (h : l.Pairwise (· < ·)) : sortI l = l :=
  srt_unique (le := fun a b => decide (a ≤ b)) (fun {x y} a b => by simp only [decide_eq_true_eq] at a b; omega) (sortI_perm l) (sortI_sorted l) (h.imp fun h => by simp only [decide_eq_true_eq]; omega)
theorem rgI_asc (a b : Int) : (rgI a b).Pairwise (· < ·) := by
  unfold rgI
  rw [List.pairwise_map]
  exact List.pairwise_lt_range.imp fun {x y} h => by omega
section
variable {c : Fd} {n : Nat}
theorem alike_tI (k j : List Int) (h : j.length ≤ 1000000) : callD (GL c) (n + 2) 14 .non [tI k, tI j] = .ok (.bl (decide (k = j)), .non) := by
  by_cases hl : k.length = j.length
  · have := alike_seq (c := c) (n := n + 1) (xs := k.map D.int) (ys := j.map D.int) true (fun i => decide (k[i.toNat]? = j[i.toNat]?)) (by simp [hl]) (by simpa using h) (fun i x y hx hy => by
      rw [List.getElem?_map] at hx hy
      obtain ⟨a, ha, rfl⟩ := Option.map_eq_some_iff.mp hx
      obtain ⟨b, hb, rfl⟩ := Option.map_eq_some_iff.mp hy
      rw [alike_int]
      simp [ha, hb])
    refine this.trans ?_
    congr 3
    rw [Bool.eq_iff_iff, List.all_eq_true, decide_eq_true_eq]
    constructor
    · intro q
      refine List.ext_getElem? fun i => ?_
      by_cases hi : i < j.length
      · have := q i (rgI_mem.mpr ⟨by omega, by rw [List.length_map]; omega⟩)
        simpa using this
      · rw [List.getElem?_eq_none (by omega), List.getElem?_eq_none (by omega)]
    · rintro rfl i _
      simp
  · refine call_eq (G14 c) (env := [.fr (tI k), .fr (tI j), .no]) rfl rfl rfl (ok_ite (p := true) (r1 := .non) (by simp [isiT]) (fun _ => ?_) fun h => by cases h)
    have ne : k ≠ j := fun q => hl (by rw [q])
    have nl : ¬ (k.length : Int) = j.length := by omega
    exact ok_nx (env' := [.fr (tI k), .fr (tI j), .no]) (r' := .non) (by simp [isiT]) (ok_ite (p := true) (r1 := .non) (by simp [nl]) (fun _ => ok_rt (d := .bl (decide (k = j))) (r' := .non) (by simp [ne]) rfl) fun h => by cases h)
theorem ev_pick {r : D} {ds : List D} (hr : RowI r) (h1 : ds ≠ []) (h2 : ds.length ≤ 1000) : Ok (callD (GL c) (n + 2) 16 r [.lst ds]) fun p => ∃ v : Nat, ds[v]? = some p.1 ∧ RowI p.2 := by
  have l1 : 1 ≤ ds.length := by
    cases ds with
    | nil => exact absurd rfl h1
    | cons _ _ => simp
  refine call_ok (G16 c) (env := [.no, .fr (.lst ds)]) (by rw [hr.ok]; rfl) rfl rfl ?_
  refine st_ok ?_
  rw [s_ret]
  refine Ok.bind (oe_ix (Ok.of (e_loc 1) (oe_take (m := ds.length) hr (by omega) (by omega) (by simp) fun v r v0 v1 hr => ?_)))
  have lt : v.toNat < ds.length := by omega
  refine Ok.of (a := ds[v.toNat]) (by simp [ixL _ v0, List.getElem?_eq_getElem lt]) (Ok.ok ⟨v.toNat, List.getElem?_eq_getElem lt, hr⟩)
theorem ev_as_rule2 (a b u v : Int) : callD (GL c) (n + 1) 6 .non [.tup [.int a, .int b], .tup [.int u, .int v]] = .ok (tI (asRule a b u v), .non) := ev_as_rule a b u v
theorem ev_l_rule2 (a b u v : Int) : callD (GL c) (n + 1) 12 .non [.tup [.int a, .int b], .tup [.int u, .int v]] = .ok (tI (asRule a b u v), .non) := ev_l_rule a b u v
def osAt (os : List Int) (a : Int) : Int := os.getD a.toNat 0
def renR (os k : List Int) : List Int := match k with
  | [a, b, u, v] => asRule (osAt os a) (osAt os b) (osAt os u) (osAt os v)
  | k => k
theorem os_get {m : Int} {os : List Int} (pm : os.Perm (rgI 0 m)) {a : Int} (a0 : 0 ≤ a) (a1 : a < m) : os[a.toNat]? = some (osAt os a) ∧ 0 ≤ osAt os a ∧ osAt os a < m := by
  have hl := pm.length_eq
  rw [rgI_len] at hl
  have lt : a.toNat < os.length := by omega
  have e : osAt os a = os[a.toNat] := by
    unfold osAt
    rw [List.getD_eq_getElem?_getD, List.getElem?_eq_getElem lt]; rfl
  rw [e]
  exact ⟨List.getElem?_eq_getElem lt, rgI_mem.mp (pm.mem_iff.mp (List.getElem_mem lt))⟩
theorem renR_four (os k : List Int) (h : ∃ a b u v, k = [a, b, u, v]) : ∃ a b u v, renR os k = [a, b, u, v] := by
  obtain ⟨a, b, u, v, rfl⟩ := h
  exact asRule_len _ _ _ _
theorem renR_len (os k : List Int) (h : ∃ a b u v, k = [a, b, u, v]) : renR os k ≠ [] := by
  obtain ⟨a, b, u, v, rfl⟩ := h
  unfold renR
  obtain ⟨_, _, _, _, e⟩ := asRule_len (osAt os a) (osAt os b) (osAt os u) (osAt os v)
  simp only [e]
  simp
theorem RuleOk.four {m : Int} {k : List Int} (h : RuleOk m k) : ∃ a b u v, k = [a, b, u, v] := by
  obtain ⟨a, b, u, v, e, _⟩ := h.ex
  exact ⟨a, b, u, v, e⟩
theorem ev_renamed {m : Int} {rs : List (List Int)} {os : List Int} (h : TabOk m rs) (pm : os.Perm (rgI 0 m)) : callD (GL c) (n + 4) 7 .non [tb m rs, tI os] = .ok (tb m (sortT (rs.map (renR os))), .non) := by
  have t1 := h.lo; have t2 := h.hi; have t3 := h.len
  have hl := pm.length_eq
  rw [rgI_len] at hl
  refine call_eq (G7 c) (env := [.fr (tb m rs), .fr (tI os), .no, .no, .no, .no, .no, .no]) rfl rfl rfl ?_
  refine ok_nx (env' := [.fr (tb m rs), .fr (tI os), .no, .no, .no, .no, .no, .no]) (r' := .non) (by simp [ev_need_table h]) ?_
  have hlc : evE (callD (GL c) (n + 3)) (.lc (.loc 2) (.nm 2) (.seq (.loc 1)) (.cons (.not (.call 0 (.cons (.loc 2) (.cons (.cst (.int 0)) (.cons (.bin .sub (.ix (.loc 0) (.cst (.int 0))) (.cst (.int 1))) .nil))))) .nil) [2]) [.fr (tb m rs), .fr (tI os), .no, .no, .no, .no, .no, .no] .non = .ok (.lst [], .non) := by
    refine lc_none (ds := os.map D.int) rfl rfl (by rw [List.length_map]; show _ ≤ (1000000 : Nat); omega) fun d hd => ?_
    obtain ⟨z, hz, rfl⟩ := List.mem_map.mp hd
    have := rgI_mem.mp (pm.mem_iff.mp hz)
    simp (disch := omega) [wipeE, ev_in, tb]
  have es : sortI os = rgI 0 m := by rw [sortI_perm_eq pm, sortI_id (rgI_asc 0 m)]
  refine ok_nx (env' := [.fr (tb m rs), .fr (tI os), .no, .no, .no, .no, .no, .no]) (r' := .non) (by simp [isiT, hlc]) ?_
  refine ok_nx (env' := [.fr (tb m rs), .fr (tI os), .no, .no, .no, .no, .no, .no]) (r' := .non) ?_ ?_
  · simp [sorted_intsT (show os.length ≤ LIM by unfold LIM; omega), tb, rgl1_of (show 0 ≤ m by omega) (show m ≤ 1000000 by omega), es, eqG_lI]
  have hmap := lc_map (cl := callD (GL c) (n + 3)) (env := [.fr (tb m rs), .fr (tI os), .no, .no, .no, .no, .no, .no]) (r := .non) (x := .tup (rs.map tI)) (e := .ix (.loc 0) (.cst (.int 1))) (ds := rs.map tI)
    (el := .call 6 (.cons (.tup (.cons (.ix (.loc 1) (.loc 4)) (.cons (.ix (.loc 1) (.loc 5)) .nil))) (.cons (.tup (.cons (.ix (.loc 1) (.loc 6)) (.cons (.ix (.loc 1) (.loc 7)) .nil))) .nil))) (tg := .tp [.nm 4, .nm 5, .nm 6, .nm 7]) (own := [4, 5, 6, 7])
    (fun d => match keyD d with
      | some k => tI (renR os k)
      | none => .non) (by simp [tb]) rfl (by rw [List.length_map]; show _ ≤ (1000000 : Nat); omega) (fun d hd => by
        obtain ⟨k, hk, rfl⟩ := List.mem_map.mp hd
        obtain ⟨a, b, u, v, rfl, ha, hb, hu, hv, _⟩ := (h.ru k hk).ex
        have kd : keyD (.tup [.int a, .int b, .int u, .int v]) = some [a, b, u, v] := rfl
        simp [tI4, wipeE, ixT _ ha.1, ixT _ hb.1, ixT _ hu.1, ixT _ hv.1, (os_get pm ha.1 ha.2).1, (os_get pm hb.1 hb.2).1, (os_get pm hu.1 hu.2).1, (os_get pm hv.1 hv.2).1, ev_as_rule2, kd, renR])
  have emap : (rs.map tI).map (fun d => match keyD d with
      | some k => tI (renR os k)
      | none => .non) = (rs.map (renR os)).map tI := by
    rw [List.map_map, List.map_map]
    refine List.map_congr_left fun k _ => ?_
    show (match intsD (k.map D.int) with
      | some k => tI (renR os k)
      | none => .non) = _
    rw [intsD_map]; rfl
  rw [emap] at hmap
  refine ok_nx (env' := [.fr (tb m rs), .fr (tI os), .no, .fr (.lst ((rs.map (renR os)).map tI)), .no, .no, .no, .no]) (r' := .non) (by rw [s_asg, hmap]; rfl) ?_
  refine ok_rt (d := tb m (sortT (rs.map (renR os)))) (r' := .non) ?_ rfl
  have ne : ∀ k ∈ rs.map (renR os), k ≠ [] := fun k hk => by
    obtain ⟨j, hj, rfl⟩ := List.mem_map.mp hk
    exact renR_len os j (h.ru j hj).four
  simp only [s_ret, e_tup, es_cons, e_ix, e_loc, e_bi, es_nil, e_cst]
  simp only [get0, List.getElem?_cons_succ, locR_fr, b_ok, tb, ixT_0]
  rw [sorted_tI ne (by rw [List.length_map]; unfold LIM; omega)]
  rfl
def onKey (f : List Int → Bool) (d : D) : Bool := match keyD d with
  | some k => f k
  | none => false
@[simp] theorem onKey_tI (f : List Int → Bool) (k : List Int) : onKey f (tI k) = f k := by
  show (match intsD (k.map D.int) with
    | some k => f k
    | none => false) = _
  rw [intsD_map]
theorem filter_key (f : List Int → Bool) (rs : List (List Int)) : (rs.map tI).filter (onKey f) = (rs.filter f).map tI := by
  rw [List.filter_map]
  congr 1
  exact List.filter_congr fun k _ => onKey_tI f k
theorem ev_without {m : Int} {rs : List (List Int)} {x : D} (p : List Int → Bool) (h : TabOk m rs) (hx : ∀ k, cmpD .ne (tI k) x = .ok (p k)) : callD (GL c) (n + 4) 9 .non [tb m rs, x] = .ok (tb m (rs.filter p), .non) := by
  have t3 := h.len
  refine call_eq (G9 c) (env := [.fr (tb m rs), .fr x, .no]) rfl rfl rfl ?_
  refine ok_nx (env' := [.fr (tb m rs), .fr x, .no]) (r' := .non) (by simp [ev_need_table h]) ?_
  refine ok_rt (d := tb m (rs.filter p)) (r' := .non) ?_ rfl
  have hf := lc_filter (cl := callD (GL c) (n + 3)) (env := [.fr (tb m rs), .fr x, .no]) (r := .non) (x := .tup (rs.map tI)) (e := .ix (.loc 0) (.cst (.int 1))) (ds := rs.map tI) (pe := .cmp .ne (.loc 2) (.loc 1)) (i := 2)
    (onKey p) (by simp [tb]) rfl (by rw [List.length_map]; show _ ≤ (1000000 : Nat); omega) (fun d hd => by
        obtain ⟨k, hk, rfl⟩ := List.mem_map.mp hd
        rw [e_cmp]
        simp only [e_loc, wipeE, List.set_cons_succ, List.set_cons_zero, get0, List.getElem?_cons_succ, locR_fr, b_ok]
        rw [hx k, onKey_tI]; rfl) (fun d => by simp [wipeE])
  rw [filter_key] at hf
  simp [hf]
  rfl
theorem sset_tI {ks : List (List Int)} {d : Nat} (h : ∀ k ∈ ks, k.length = d + 1 ∧ ∀ z ∈ k, 0 ≤ z ∧ z < 64) (hl : ks.length < 64) : biD .sset [.tup (ks.map tI)] = .ok (.lst ((dedT (sortT ks)).map tI)) := by
  show (ssetD (ks.map tI)).bind (fun r => R.ok (D.lst r)) = _
  unfold ssetD
  rw [if_pos (by rw [List.length_map]; exact hl)]
  cases ks with
  | nil => rfl
  | cons k ks =>
    have : intsD ((k :: ks).map tI) = none := rfl
    rw [this]
    dsimp only
    rw [tupsD_map]
    dsimp only
    rw [if_pos]
    · rfl
    · refine List.all_eq_true.mpr fun j hj => ?_
      have h1 := h j hj
      have h2 := h k List.mem_cons_self
      simp only [Bool.and_eq_true, decide_eq_true_eq, List.all_eq_true]
      refine ⟨⟨by simp [h1.1, h2.1], ?_⟩, h1.2⟩
      cases j with
      | nil => simp at h1
      | cons _ _ => rfl
theorem RuleOk.small {m : Int} {k : List Int} (h : RuleOk m k) (hm : m ≤ 5) : k.length = 3 + 1 ∧ ∀ z ∈ k, 0 ≤ z ∧ z < 64 := by
  obtain ⟨a, b, u, v, rfl, ha, hb, hu, hv, _⟩ := h.ex
  refine ⟨rfl, fun z hz => ?_⟩
  simp only [List.mem_cons, List.not_mem_nil, or_false] at hz
  rcases hz with rfl | rfl | rfl | rfl <;> omega
theorem ev_joined {m m2 : Int} {rs rs2 : List (List Int)} (h : TabOk m rs) (h2 : TabOk m2 rs2) (hl : rs.length + rs2.length ≤ 20) : callD (GL c) (n + 4) 8 .non [tb m rs, tb m2 rs2] = .ok (tb (if m < m2 then m2 else m) (dedT (sortT (rs ++ rs2))), .non) := by
  refine call_eq (G8 c) (env := [.fr (tb m rs), .fr (tb m2 rs2), .no]) rfl rfl rfl ?_
  refine ok_nx (env' := [.fr (tb m rs), .fr (tb m2 rs2), .no]) (r' := .non) (by simp [ev_need_table h]) ?_
  refine ok_nx (env' := [.fr (tb m rs), .fr (tb m2 rs2), .no]) (r' := .non) (by simp [ev_need_table h2]) ?_
  have e : biD .sset [.tup (rs.map tI ++ rs2.map tI)] = .ok (.lst ((dedT (sortT (rs ++ rs2))).map tI)) := by
    rw [← List.map_append]
    refine sset_tI (d := 3) (fun k hk => ?_) (by rw [List.length_append]; omega)
    rcases List.mem_append.mp hk with hk | hk
    · exact (h.ru k hk).small h.hi
    · exact (h2.ru k hk).small h2.hi
  have hl2 : rs.length + rs2.length ≤ LIM := by unfold LIM; omega
  refine ok_nx (env' := [.fr (tb m rs), .fr (tb m2 rs2), .fr (.tup ((dedT (sortT (rs ++ rs2))).map tI))]) (r' := .non) (by simp [tb, hl2, e]) ?_
  have dl : ∀ l : List (List Int), (dedT l).length ≤ l.length := fun l => by
    induction l with
    | nil => unfold dedT; exact Nat.le_refl _
    | cons x l ih =>
      cases l with
      | nil => unfold dedT; exact Nat.le_refl _
      | cons y l =>
        unfold dedT
        split
        · exact Nat.le_trans ih (by simp)
        · simpa using ih
  have l20 : ¬ (20 : Int) < (dedT (sortT (rs ++ rs2))).length := by
    have := dl (sortT (rs ++ rs2))
    rw [(sortT_perm _).length_eq, List.length_append] at this
    omega
  refine ok_nx (env' := [.fr (tb m rs), .fr (tb m2 rs2), .fr (.tup ((dedT (sortT (rs ++ rs2))).map tI))]) (r' := .non) (by simp [l20]) ?_
  exact ok_rt (d := tb (if m < m2 then m2 else m) (dedT (sortT (rs ++ rs2)))) (r' := .non) (by simp [tb, biD, biMax2]) rfl
end
end PLX

set_option Elab.async false
set_option linter.all false
set_option maxRecDepth 100000
set_option autoImplicit false
set_option maxHeartbeats 400000
namespace PLX
open PySem PL
/-! ### webs, moves -/
def EdgeOk (k : Int) (e : List Int) : Prop := ∃ i j, e = [i, j] ∧ 0 ≤ i ∧ i < j ∧ j < k
structure WebOk (k : Int) (es : List (List Int)) : Prop where
  lo : 1 ≤ k
  hi : k ≤ 8
  len : es.length ≤ 100
  ed : ∀ e ∈ es, EdgeOk k e
  asc : es.Pairwise (fun x y => lexLe y x = false)
structure StaOk (m k : Int) (st : List Int) : Prop where
  len : (st.length : Int) = k
  bd : ∀ z ∈ st, 0 ≤ z ∧ z < m
theorem StaOk.get {m k : Int} {st : List Int} (h : StaOk m k st) {i : Int} (h0 : 0 ≤ i) (h1 : i < k) : st[i.toNat]? = some (osAt st i) ∧ 0 ≤ osAt st i ∧ osAt st i < m := by
  have hl := h.len
  have lt : i.toNat < st.length := by omega
  have e : osAt st i = st[i.toNat] := by
    unfold osAt
    rw [List.getD_eq_getElem?_getD, List.getElem?_eq_getElem lt]; rfl
  rw [e]
  exact ⟨List.getElem?_eq_getElem lt, h.bd _ (List.getElem_mem lt)⟩
def mvOf (rs : List (List Int)) (st e : List Int) : List (List Int × List Int) := match e with
  | [i, j] => (resS rs (osAt st i) (osAt st j)).map fun p => (e, p)
  | _ => []
def mvS (rs es : List (List Int)) (st : List Int) : List (List Int × List Int) := es.flatMap (mvOf rs st)
def mvD (x : List Int × List Int) : D := .tup [tI x.1, tI x.2]
def movedS (st : List Int) (x : List Int × List Int) : List Int := match x with
  | ([i, j], [u, v]) => (st.set i.toNat u).set j.toNat v
  | _ => st
def nexts (rs es : List (List Int)) (st : List Int) : List (List Int) := (mvS rs es st).map (movedS st)
theorem resS_len {rs : List (List Int)} {x y : Int} : (resS rs x y).length ≤ 2 * rs.length := by
  unfold resS
  rw [(sortT_perm _).length_eq, List.length_map]
  have := resE_len x y rs []
  unfold resE; simpa using this
theorem flat_len {α β : Type} (f : α → List β) (b : Nat) : ∀ (l : List α), (∀ x ∈ l, (f x).length ≤ b) → (l.flatMap f).length ≤ l.length * b
  | [], _ => by simp
  | x :: l, h => by
    rw [List.flatMap_cons, List.length_append, List.length_cons, Nat.add_mul, Nat.one_mul]
    have h1 := h x List.mem_cons_self
    have h2 := flat_len f b l fun y hy => h y (List.mem_cons_of_mem _ hy)
    omega
theorem mvOf_len (rs : List (List Int)) (st e : List Int) : (mvOf rs st e).length ≤ 2 * rs.length := by
  unfold mvOf
  split
  · rw [List.length_map]; exact resS_len
  · simp
theorem mvS_len (rs es : List (List Int)) (st : List Int) : (mvS rs es st).length ≤ es.length * (2 * rs.length) := flat_len _ _ _ fun e _ => mvOf_len rs st e
theorem mvS_mem {rs es : List (List Int)} {st : List Int} {x : List Int × List Int} : x ∈ mvS rs es st ↔ ∃ i j u v, x = ([i, j], [u, v]) ∧ [i, j] ∈ es ∧ Turns rs (osAt st i) (osAt st j) u v := by
  unfold mvS
  rw [List.mem_flatMap]
  constructor
  · rintro ⟨e, he, hx⟩
    unfold mvOf at hx
    split at hx
    · rename_i i j
      obtain ⟨p, hp, rfl⟩ := List.mem_map.mp hx
      obtain ⟨u, v, rfl, ht⟩ := resS_mem.mp hp
      exact ⟨i, j, u, v, rfl, he, ht⟩
    · cases hx
  · rintro ⟨i, j, u, v, rfl, he, ht⟩
    exact ⟨[i, j], he, List.mem_map.mpr ⟨[u, v], resS_mem.mpr ⟨u, v, rfl, ht⟩, rfl⟩⟩
theorem turns_bd {m : Int} {rs : List (List Int)} (h : ∀ k ∈ rs, RuleOk m k) {x y u v : Int} (t : Turns rs x y u v) : (0 ≤ x ∧ x < m) ∧ (0 ≤ y ∧ y < m) ∧ (0 ≤ u ∧ u < m) ∧ (0 ≤ v ∧ v < m) := by
  rcases t with t | t
  · obtain ⟨a, b, c, d, e, h1, h2, h3, h4, _⟩ := (h _ t).ex
    cases e
    exact ⟨h1, h2, h3, h4⟩
  · obtain ⟨a, b, c, d, e, h1, h2, h3, h4, _⟩ := (h _ t).ex
    cases e
    exact ⟨h2, h1, h4, h3⟩
theorem movedS_ok {m k : Int} {rs es : List (List Int)} {st : List Int} (h : ∀ k ∈ rs, RuleOk m k) (s : StaOk m k st) {x : List Int × List Int} (hx : x ∈ mvS rs es st) : StaOk m k (movedS st x) := by
  obtain ⟨i, j, u, v, rfl, _, t⟩ := mvS_mem.mp hx
  obtain ⟨_, _, h3, h4⟩ := turns_bd h t
  have hl := s.len
  refine ⟨by show (((st.set i.toNat u).set j.toNat v).length : Int) = k; rw [List.length_set, List.length_set]; exact hl, fun z hz => ?_⟩
  have hz : z ∈ (st.set i.toNat u).set j.toNat v := hz
  rcases List.mem_or_eq_of_mem_set hz with hz | rfl
  · rcases List.mem_or_eq_of_mem_set hz with hz | rfl
    · exact s.bd z hz
    · exact h3
  · exact h4
theorem nexts_ok {m k : Int} {rs es : List (List Int)} {st t : List Int} (h : ∀ k ∈ rs, RuleOk m k) (s : StaOk m k st) (ht : t ∈ nexts rs es st) : StaOk m k t := by
  obtain ⟨x, hx, rfl⟩ := List.mem_map.mp ht
  exact movedS_ok h s hx
section
variable {cl : Cl} {env : Env'} {r r1 : D} {ss body : Ss} {c : E} {K : Fl → Prop}
theorem whD_inv {cn : Env' → D → R (Bool × D)} {f : Env' → D → R Fl} (I : Nat → Env' → D → Prop) (hs : ∀ N env r, I N env r → ∃ b r1, cn env r = .ok (b, r1) ∧ (b = true → Ok (f env r1) fun x => ∃ N' e' r', x = .nx e' r' ∧ N' < N ∧ I N' e' r') ∧ (b = false → K (.nx env r1))) :
    ∀ (n N : Nat) (env : Env') (r : D), N < n → I N env r → Ok (whD cn f n env r) K
  | 0, N, env, r, h, _ => absurd h (Nat.not_lt_zero _)
  | n + 1, N, env, r, h, hI => by
    unfold whD
    obtain ⟨b, r1, e, ht, hf⟩ := hs N env r hI
    rw [e]
    simp only [b_ok]
    cases b with
    | true =>
      rw [if_pos rfl]
      refine Ok.bind ((ht rfl).mono fun x hx => ?_)
      obtain ⟨N', e', r', rfl, hn, hI'⟩ := hx
      exact whD_inv I hs n N' e' r' (by omega) hI'
    | false =>
      rw [if_neg (by decide)]
      exact Ok.ok (hf rfl)
theorem ok_wh (I : Nat → Env' → D → Prop) (N : Nat) (hN : N < WF) (h0 : I N env r) (hs : ∀ N env r, I N env r → ∃ b r1, evE cl c env r = .ok (.bl b, r1) ∧ (b = true → Ok (evSs cl body env r1) fun x => ∃ N' e' r', x = .nx e' r' ∧ N' < N ∧ I N' e' r') ∧ (b = false → Ok (evSs cl ss env r1) K)) :
    Ok (evSs cl (.cons (.wh c body) ss) env r) K := by
  refine st_ok ?_
  rw [s_wh]
  refine whD_inv I (fun N env r hI => ?_) WF N env r hN h0
  obtain ⟨b, r1, e, ht, hf⟩ := hs N env r hI
  refine ⟨b, r1, by rw [e]; rfl, ht, fun h => ?_⟩
  exact hf h
end
section
variable {c : Fd} {n : Nat}
theorem ev_is_edge {k : Int} {e : List Int} (h : EdgeOk k e) : callD (GL c) (n + 2) 24 .non [tI e, .int k] = .ok (.bl true, .non) := by
  obtain ⟨i, j, rfl, h0, h1, h2⟩ := h
  refine call_eq (G24 c) (env := [.fr (tI [i, j]), .fr (.int k), .no]) rfl rfl rfl ?_
  have hlc : evE (callD (GL c) (n + 1)) (.lc (.loc 2) (.nm 2) (.seq (.loc 0)) (.cons (.not (.call 0 (.cons (.loc 2) (.cons (.cst (.int 0)) (.cons (.bin .sub (.loc 1) (.cst (.int 1))) .nil))))) .nil) [2]) [.fr (tI [i, j]), .fr (.int k), .no] .non = .ok (.lst [], .non) := by
    refine lc_none (ds := [.int i, .int j]) rfl rfl (by show (2 : Nat) ≤ _; decide) fun d hd => ?_
    simp only [List.mem_cons, List.not_mem_nil, or_false] at hd
    rcases hd with rfl | rfl <;> simp (disch := omega) [wipeE, ev_in]
  refine ok_nx (env' := [.fr (tI [i, j]), .fr (.int k), .no]) (r' := .non) (by simp [isiT]) (ok_rt (d := .bl true) (r' := .non) ?_ rfl)
  have : i < j := h1
  simp [hlc]
  simp [tI2, this]
theorem ev_need_web {m : Int} {rs : List (List Int)} (h : WebOk m rs) : callD (GL c) (n + 3) 25 .non [tb m rs] = .ok (.non, .non) := by
  have t1 := h.lo; have t2 := h.hi; have t3 := h.len
  refine call_eq (G25 c) (env := [.fr (tb m rs), .no, .no]) rfl rfl rfl ?_
  refine ok_nx (env' := [.fr (tb m rs), .no, .no]) (r' := .non) ?_ (ok_nx (env' := [.fr (tb m rs), .no, .no]) (r' := .non) ?_ (ok_skip (ds := enumD 0 (rs.map tI)) (fun e => ∃ a b, e = [.fr (tb m rs), a, b]) ?_ ⟨_, _, rfl⟩ (fun i d e hd he => ?_) fun e he => ?_))
  · simp (disch := omega) [tb, isiT, ev_in]
  · simp [tb, isiT]
  · simp [tb, seqD]
  · obtain ⟨a, b, rfl⟩ := he
    obtain ⟨x, h1, rfl⟩ := enum_get _ _ _ _ hd
    obtain ⟨k, hk, rfl⟩ := get_tI h1
    refine ⟨_, ⟨.fr (.int (0 + i : Nat)), .fr (tI k), rfl⟩, ?_⟩
    have mem : k ∈ rs := List.mem_of_getElem? hk
    cases i with
    | zero => simp [ev_is_edge (h.ed k mem)]
    | succ j =>
      have hj : j < rs.length := by have := (List.getElem?_eq_some_iff.mp hk).1; omega
      have lt := List.pairwise_iff_getElem.mp h.asc j (j + 1) hj (List.getElem?_eq_some_iff.mp hk).1 (by omega)
      rw [(List.getElem?_eq_some_iff.mp hk).2] at lt
      simp [ev_is_edge (h.ed k mem), ixT, cmp_le, lt, List.getElem?_eq_getElem hj]
  · exact ⟨_, rfl, rfl⟩
theorem ev_need_kinds {m k : Int} {rs : List (List Int)} {st : List Int} (h : StaOk m k st) : callD (GL c) (n + 2) 26 .non [tb m rs, .int k, tI st] = .ok (.non, .non) := by
  have hl := h.len
  refine call_eq (G26 c) (env := [.fr (tb m rs), .fr (.int k), .fr (tI st), .no, .no]) rfl rfl rfl ?_
  refine ok_nx (env' := [.fr (tb m rs), .fr (.int k), .fr (tI st), .no, .no]) (r' := .non) ?_ (ok_skip (ds := enumD 0 (st.map D.int)) (fun e => ∃ a b, e = [.fr (tb m rs), .fr (.int k), .fr (tI st), a, b]) ?_ ⟨_, _, rfl⟩ (fun i d e hd he => ?_) fun e he => ?_)
  · simp [isiT, hl]
  · simp [seqD]
  · obtain ⟨a, b, rfl⟩ := he
    obtain ⟨x, h1, rfl⟩ := enum_get _ _ _ _ hd
    rw [List.getElem?_map] at h1
    obtain ⟨z, hz, rfl⟩ := Option.map_eq_some_iff.mp h1
    have := h.bd z (List.mem_of_getElem? hz)
    refine ⟨_, ⟨.fr (.int (0 + i : Nat)), .fr (.int z), rfl⟩, ?_⟩
    simp (disch := omega) [ev_in]
  · exact ⟨_, rfl, rfl⟩
theorem ev_need_start {m k : Int} {rs es : List (List Int)} {st : List Int} (T : TabOk m rs) (W : WebOk k es) (h : StaOk m k st) : callD (GL c) (n + 4) 27 .non [tb m rs, tb k es, tI st] = .ok (.non, .non) := by
  refine call_eq (G27 c) (env := [.fr (tb m rs), .fr (tb k es), .fr (tI st)]) rfl rfl rfl ?_
  refine ok_nx (env' := [.fr (tb m rs), .fr (tb k es), .fr (tI st)]) (r' := .non) (by simp [ev_need_table T]) (ok_nx (env' := [.fr (tb m rs), .fr (tb k es), .fr (tI st)]) (r' := .non) (by simp [ev_need_web W]) (ok_nx (env' := [.fr (tb m rs), .fr (tb k es), .fr (tI st)]) (r' := .non) (by simp [ev_need_kinds h]) (ok_nil rfl)))
theorem ev_moves_in {m k : Int} {rs es : List (List Int)} {st : List Int} (T : ∀ k ∈ rs, RuleOk m k) (hl : rs.length ≤ 100) (W : ∀ e ∈ es, EdgeOk k e) (hw : es.length ≤ 100) (s : StaOk m k st) : callD (GL c) (n + 2) 28 .non [tb m rs, tb k es, tI st] = .ok (.lst ((mvS rs es st).map mvD), .non) := by
  refine call_eq (G28 c) (env := [.fr (tb m rs), .fr (tb k es), .fr (tI st), .no, .no, .no]) rfl rfl rfl ?_
  refine ok_nx (env' := [.fr (tb m rs), .fr (tb k es), .fr (tI st), .fr (.lst []), .no, .no]) (r' := .non) (by simp) ?_
  refine ok_for (r1 := .non) (ds := es.map tI) (fun i e r => r = .non ∧ ∃ a b, e = [.fr (tb m rs), .fr (tb k es), .fr (tI st), .fr (.lst ((mvS rs (es.take i) st).map mvD)), a, b]) (by simp [seqD]) ⟨rfl, _, _, rfl⟩ (fun i d e r hd hI => ?_) fun e r hI => ?_
  · obtain ⟨rfl, a, b, rfl⟩ := hI
    obtain ⟨x, hx, rfl⟩ := get_tI hd
    obtain ⟨i1, j1, rfl, h0, h1, h2⟩ := W x (List.mem_of_getElem? hx)
    refine ok_bindT (e1 := [.fr (tb m rs), .fr (tb k es), .fr (tI st), .fr (.lst ((mvS rs (es.take i) st).map mvD)), .fr (tI [i1, j1]), b]) (by simp) ?_
    have g1 := (s.get h0 (by omega : i1 < k)).1
    have g2 := (s.get (by omega : 0 ≤ j1) h2).1
    have er : callD (GL c) (n + 1) 4 .non [tb m rs, .tup [.int (osAt st i1), .int (osAt st j1)]] = .ok (.lst ((resS rs (osAt st i1) (osAt st j1)).map tI), .non) := ev_results_in T (by omega)
    have rl := resS_len (rs := rs) (x := osAt st i1) (y := osAt st j1)
    have hm := lc_map (cl := callD (GL c) (n + 1)) (env := [.fr (tb m rs), .fr (tb k es), .fr (tI st), .fr (.lst ((mvS rs (es.take i) st).map mvD)), .fr (tI [i1, j1]), b]) (r := .non) (x := .lst ((resS rs (osAt st i1) (osAt st j1)).map tI))
      (e := .call 4 (.cons (.loc 0) (.cons (.tup (.cons (.ix (.loc 2) (.ix (.loc 4) (.cst (.int 0)))) (.cons (.ix (.loc 2) (.ix (.loc 4) (.cst (.int 1)))) .nil))) .nil))) (el := .tup (.cons (.loc 4) (.cons (.loc 5) .nil))) (tg := .nm 5) (own := [5]) (ds := (resS rs (osAt st i1) (osAt st j1)).map tI)
      (fun d => .tup [tI [i1, j1], d]) (by simp [tI2, ixT _ h0, ixT _ (show 0 ≤ j1 by omega), g1, g2, er]) rfl (by rw [List.length_map]; show _ ≤ (1000000 : Nat); omega) (fun d _ => by simp [wipeE])
    have e2 : mvS rs (es.take (i + 1)) st = mvS rs (es.take i) st ++ mvOf rs st [i1, j1] := by
      unfold mvS
      rw [List.take_succ, hx, List.flatMap_append]
      simp
    have e3 : ((resS rs (osAt st i1) (osAt st j1)).map tI).map (fun d => D.tup [tI [i1, j1], d]) = (mvOf rs st [i1, j1]).map mvD := by
      unfold mvOf
      rw [List.map_map, List.map_map]; rfl
    rw [e3] at hm
    have l1 := mvS_len rs (es.take i) st
    have l2 := mvOf_len rs st [i1, j1]
    have l3 : (es.take i).length ≤ 100 := by rw [List.length_take]; omega
    have l4 : (es.take i).length * (2 * rs.length) ≤ 100 * 200 := Nat.mul_le_mul l3 (by omega)
    have l5 : (mvS rs (es.take i) st).length + (mvOf rs st [i1, j1]).length ≤ LIM := by unfold LIM; omega
    refine ok_nx (env' := [.fr (tb m rs), .fr (tb k es), .fr (tI st), .fr (.lst ((mvS rs (es.take (i + 1)) st).map mvD)), .fr (tI [i1, j1]), b]) (r' := .non) ?_ (ok_nil ⟨_, _, rfl, rfl, _, _, rfl⟩)
    rw [e2, List.map_append]
    simp [hm, l5]
  · obtain ⟨rfl, a, b, rfl⟩ := hI
    rw [List.length_map, List.take_length]
    exact ok_rt (r' := .non) (by simp) rfl
theorem ev_moved {m k : Int} {rs es : List (List Int)} {st : List Int} (W : ∀ e ∈ es, EdgeOk k e) (s : StaOk m k st) {x : List Int × List Int} (hx : x ∈ mvS rs es st) : callD (GL c) (n + 1) 30 .non [tI st, mvD x] = .ok (tI (movedS st x), .non) := by
  obtain ⟨i, j, u, v, rfl, he, t⟩ := mvS_mem.mp hx
  obtain ⟨i', j', e, h0, h1, h2⟩ := W _ he
  cases e
  have hl := s.len
  have st_ : ∀ (l : List Int) (i z : Int), 0 ≤ i → i < l.length → setD (.lst (l.map D.int)) (.int i) (.int z) = .ok (.lst ((l.set i.toNat z).map D.int)) := fun l i z a b => by
    show (match idxN (l.map D.int).length i with
      | some j => R.ok (D.lst ((l.map D.int).set j (.int z)))
      | none => .no) = _
    unfold idxN
    rw [if_pos a, if_pos (by rw [List.length_map]; exact b)]
    simp only
    rw [List.map_set]
  refine call_eq (G30 c) (env := [.fr (tI st), .fr (mvD ([i, j], [u, v])), .no, .no, .no]) rfl rfl rfl ?_
  refine ok_nx (env' := [.fr (tI st), .fr (mvD ([i, j], [u, v])), .ow (.lst (st.map D.int)), .no, .no]) (r' := .non) (by simp [objD]) ?_
  refine ok_nx (env' := [.fr (tI st), .fr (mvD ([i, j], [u, v])), .ow (.lst (((st.set i.toNat u).set j.toNat v).map D.int)), .fr (.int j), .fr (.int v)]) (r' := .non) ?_ (ok_rt (d := tI (movedS st ([i, j], [u, v]))) (r' := .non) (by simp [-List.map_set]; rfl) rfl)
  rw [s_for]
  have s1 := st_ st i u h0 (by omega)
  have s2 := st_ (st.set i.toNat u) j v (by omega) (by rw [List.length_set]; omega)
  simp [-List.map_set, mvD, tI2, zipD, forD]
  simp [-List.map_set, s1, s2]
end
end PLX

set_option Elab.async false
set_option linter.all false
set_option maxRecDepth 100000
set_option autoImplicit false
set_option maxHeartbeats 400000
namespace PLX
open PySem PL
/-! ### all that comes -/
def nxD (rs es : List (List Int)) (s : List Int) : D := .lst ((nexts rs es s).map tI)
def entS (rs es : List (List Int)) (s : List Int) : List Int × D := (s, nxD rs es s)
theorem look_ent {rs es : List (List Int)} (s : List Int) : ∀ ks : List (List Int), lookD s (ks.map (entS rs es)) = if s ∈ ks then some (nxD rs es s) else none
  | [] => rfl
  | k :: ks => by
    rw [List.map_cons]
    show (if k = s then some (nxD rs es k) else lookD s (ks.map (entS rs es))) = _
    rw [look_ent s ks]
    by_cases h : k = s
    · subst h; simp
    · rw [if_neg h]
      simp [Ne.symm h]
theorem put_ent {rs es : List (List Int)} {s : List Int} {ks : List (List Int)} (h : s ∉ ks) : putD s (nxD rs es s) (ks.map (entS rs es)) = (ks ++ [s]).map (entS rs es) := by
  unfold putD
  rw [if_neg]
  · rw [List.map_append]; rfl
  · intro q
    obtain ⟨e, he, q⟩ := List.any_eq_true.mp q
    obtain ⟨k, hk, rfl⟩ := List.mem_map.mp he
    have q : decide (k = s) = true := q
    have : k = s := of_decide_eq_true q
    exact h (this ▸ hk)
structure Come (rs es : List (List Int)) (st : List Int) (ks : List (List Int)) : Prop where
  nd : ks.Nodup
  here : st ∈ ks
  cl : ∀ s ∈ ks, ∀ t ∈ nexts rs es s, t ∈ ks
  ind : ∀ P : List Int → Prop, P st → (∀ s, P s → ∀ t ∈ nexts rs es s, P t) → ∀ s ∈ ks, P s
/-- what may come, and bounds for the walk -/
structure Uni (m k : Int) (rs es : List (List Int)) (U : List (List Int)) (B : Nat) : Prop where
  len : U.length ≤ 2000
  ok : ∀ s ∈ U, StaOk m k s
  ne : ∀ s ∈ U, s ≠ []
  cl : ∀ s ∈ U, ∀ t ∈ nexts rs es s, t ∈ U
  b : ∀ s ∈ U, (nexts rs es s).length ≤ B
  sm : U.length * (B + 1) ≤ 900000
theorem eqG_rows {ks : List (List Int)} : eqG (.lst (ks.map tI)) (.lst []) = .ok ks.isEmpty := by
  rw [eqG_lst0 (sh_tIs 58 ks)]
  cases ks <;> rfl
section
variable {c : Fd} {n : Nat}
theorem isin_dic (s : List Int) (es : List (List Int × D)) : isinD (tI s) (.dic es) = .ok (lookD s es).isSome := by
  show (match intsD (s.map D.int) with
    | some k => R.ok (lookD k es).isSome
    | none => .no) = _
  rw [intsD_map]
theorem ixDic {s : List Int} {es : List (List Int × D)} {d : D} (h : lookD s es = some d) : ixD (.dic es) (tI s) = .ok d := by
  show (match intsD (s.map D.int) with
    | some k => R.ofO (lookD k es)
    | none => .no) = _
  rw [intsD_map]
  show R.ofO (lookD s es) = _
  rw [h]; rfl
theorem dropLast_map {α β : Type} (f : α → β) (l : List α) : (l.map f).dropLast = l.dropLast.map f := by
  rw [List.map_dropLast]
theorem s_pop {cl : Cl} {env : Env'} {r : D} {t i : Nat} {rows : List (List Int)} {s : List Int} (h : env[i]? = some (.ow (.lst ((rows ++ [s]).map tI)))) : evS cl (.pop t i) env r = .ok (.nx ((env.set i (.ow (.lst (rows.map tI)))).set t (.fr (tI s))) r) := by
  unfold evS
  rw [h]
  have e : ((rows ++ [s]).map tI)[((rows ++ [s]).map tI).length - 1]? = some (tI s) := by
    rw [List.map_append]
    simp
  simp only [e]
  rw [dropLast_map]; simp
theorem ev_come_in {m k : Int} {rs es U : List (List Int)} {B : Nat} {st : List Int} (T : ∀ k ∈ rs, RuleOk m k) (hl : rs.length ≤ 100) (W : ∀ e ∈ es, EdgeOk k e) (hw : es.length ≤ 100) (u : Uni m k rs es U B) (hst : st ∈ U) :
    ∃ ks, callD (GL c) (n + 3) 41 .non [tb m rs, tb k es, tI st] = .ok (.dic (ks.map (entS rs es)), .non) ∧ Come rs es st ks := by
  suffices h : Ok (callD (GL c) (n + 3) 41 .non [tb m rs, tb k es, tI st]) fun p => ∃ ks, p = (.dic (ks.map (entS rs es)), .non) ∧ Come rs es st ks by
    obtain ⟨p, e, ks, rfl, hc⟩ := h
    exact ⟨ks, e, hc⟩
  refine call_ok (G41 c) (env := [.fr (tb m rs), .fr (tb k es), .fr (tI st), .no, .no, .no, .no]) rfl rfl rfl ?_
  refine ok_nx (env' := [.fr (tb m rs), .fr (tb k es), .fr (tI st), .ow (.dic []), .ow (.lst [tI st]), .no, .no]) (r' := .non) (by simp [objD]) ?_
  let I : Nat → Env' → D → Prop := fun N e r => r = .non ∧ ∃ (ks rows : List (List Int)) (a5 a6 : Sl), e = [.fr (tb m rs), .fr (tb k es), .fr (tI st), .ow (.dic (ks.map (entS rs es))), .ow (.lst (rows.map tI)), a5, a6] ∧
    ks.Nodup ∧ (∀ s ∈ ks, s ∈ U) ∧ (∀ s ∈ rows, s ∈ U) ∧ (∀ s ∈ ks, ∀ t ∈ nexts rs es s, t ∈ ks ∨ t ∈ rows) ∧ (st ∈ ks ∨ st ∈ rows) ∧
    (∀ P : List Int → Prop, P st → (∀ s, P s → ∀ t ∈ nexts rs es s, P t) → (∀ s ∈ ks, P s) ∧ ∀ s ∈ rows, P s) ∧ N = (U.length - ks.length) * (B + 1) + rows.length ∧ N ≤ 950000
  have ul := u.len
  have us := u.sm
  refine ok_wh I (U.length * (B + 1) + 1) (by show _ < 1000000000; omega) ⟨rfl, [], [st], .no, .no, rfl, by simp, by simp, by simpa using hst, by simp, by simp, fun P h _ => ⟨by simp, by simpa using h⟩, by simp, by omega⟩ fun N e r hI => ?_
  obtain ⟨rfl, ks, rows, a5, a6, rfl, nd, k1, k2, k3, k4, k5, k6, k7⟩ := hI
  refine ⟨!rows.isEmpty, .non, by simp [eqG_rows], fun hb => ?_, fun hb => ?_⟩
  · have ne : rows ≠ [] := by
      intro q; rw [q] at hb; cases hb
    obtain ⟨rows', s, rfl⟩ : ∃ rows' s, rows = rows' ++ [s] := ⟨rows.dropLast, rows.getLast ne, (List.dropLast_concat_getLast ne).symm⟩
    have sU : s ∈ U := k2 s (by simp)
    have ksl : ks.length ≤ U.length := List.Nodup.length_le_of_subset nd k1
    rw [List.length_append] at k6
    refine ok_nx (env' := [.fr (tb m rs), .fr (tb k es), .fr (tI st), .ow (.dic (ks.map (entS rs es))), .ow (.lst (rows'.map tI)), .fr (tI s), a6]) (r' := .non) (s_pop rfl) ?_
    refine ok_if (fun e r => ∃ N', N' < N ∧ I N' e r) (p := !decide (s ∈ ks)) (r1 := .non) ?_ (fun hp => ?_) (fun hp => ?_) fun e r hj => ?_
    · simp [isin_dic, look_ent]
      by_cases hs : s ∈ ks <;> simp [hs]
    · have hs : s ∉ ks := by simpa using hp
      have ss := u.ok s sU
      have e1 : callD (GL c) (n + 2) 28 .non [tb m rs, tb k es, tI s] = .ok (.lst ((mvS rs es s).map mvD), .non) := ev_moves_in T hl W hw ss
      have ml := u.b s sU
      have ml2 : (nexts rs es s).length = (mvS rs es s).length := by unfold nexts; rw [List.length_map]
      have hb1 : B ≤ 900000 := by
        have : 1 * (B + 1) ≤ U.length * (B + 1) := Nat.mul_le_mul_right _ (List.length_pos_of_mem sU)
        omega
      have hm := lc_map (cl := callD (GL c) (n + 2)) (env := [.fr (tb m rs), .fr (tb k es), .fr (tI st), .ow (.dic (ks.map (entS rs es))), .ow (.lst (rows'.map tI)), .fr (tI s), a6]) (r := .non) (x := .lst ((mvS rs es s).map mvD))
        (e := .call 28 (.cons (.loc 0) (.cons (.loc 1) (.cons (.loc 5) .nil)))) (el := .call 30 (.cons (.loc 5) (.cons (.loc 6) .nil))) (tg := .nm 6) (own := [6]) (ds := (mvS rs es s).map mvD)
        (fun d => match callD (GL c) (n + 2) 30 .non [tI s, d] with
          | .ok (d, _) => d
          | _ => .non) (by simp [e1]) rfl (by rw [List.length_map]; show _ ≤ (1000000 : Nat); omega) (fun d hd => by
            obtain ⟨x, hx, rfl⟩ := List.mem_map.mp hd
            have e2 : callD (GL c) (n + 2) 30 .non [tI s, mvD x] = .ok (tI (movedS s x), .non) := ev_moved W ss hx
            simp [wipeE, e2])
      have e3 : ((mvS rs es s).map mvD).map (fun d => match callD (GL c) (n + 2) 30 .non [tI s, d] with
          | .ok (d, _) => d
          | _ => .non) = (nexts rs es s).map tI := by
        unfold nexts
        rw [List.map_map, List.map_map]
        refine List.map_congr_left fun x hx => ?_
        have e2 : callD (GL c) (n + 2) 30 .non [tI s, mvD x] = .ok (tI (movedS s x), .non) := ev_moved W ss hx
        simp only [Function.comp, e2]
      rw [e3] at hm
      have kl : (ks.map (entS rs es)).length < LIM := by rw [List.length_map]; unfold LIM; omega
      have nd2 : (ks ++ [s]).Nodup := List.nodup_append.mpr ⟨nd, List.pairwise_singleton _ _, fun a ha b hb => by
        rw [List.mem_singleton.mp hb]
        rintro rfl
        exact hs ha⟩
      have in2 : ∀ t ∈ ks ++ [s], t ∈ U := fun t ht => by
        rcases List.mem_append.mp ht with ht | ht
        · exact k1 t ht
        · rw [List.mem_singleton.mp ht]; exact sU
      have ksl2 : (ks ++ [s]).length ≤ U.length := List.Nodup.length_le_of_subset nd2 in2
      rw [List.length_append] at ksl2
      have ksl2 : ks.length + 1 ≤ U.length := ksl2
      have e6 : (ks ++ [s]).length = ks.length + 1 := by simp
      have k6' : N = (U.length - (ks.length + 1)) * (B + 1) + (B + 1) + (rows'.length + 1) := by
        have e5 : U.length - ks.length = (U.length - (ks.length + 1)) + 1 := by omega
        rw [e5, Nat.add_mul, Nat.one_mul] at k6
        simpa using k6
      refine ok_nx (env' := [.fr (tb m rs), .fr (tb k es), .fr (tI st), .ow (.dic ((ks ++ [s]).map (entS rs es))), .ow (.lst (rows'.map tI)), .fr (tI s), a6]) (r' := .non) ?_ ?_
      · rw [s_setx, hm]
        simp only [b_ok, get0, List.getElem?_cons_succ, owR_ow, e_loc, locR_fr]
        rw [setD_dic kl, show D.lst ((nexts rs es s).map tI) = nxD rs es s from rfl, put_ent hs]
        rfl
      refine ok_nx (env' := [.fr (tb m rs), .fr (tb k es), .fr (tI st), .ow (.dic ((ks ++ [s]).map (entS rs es))), .ow (.lst (rows'.map tI)), .fr (tI s), a6]) (r' := .non) ?_ ?_
      · have : biD .len [.dic ((ks ++ [s]).map (entS rs es))] = .ok (.int (ks.length + 1 : Nat)) := by
          show R.ok (D.int (((ks ++ [s]).map (entS rs es)).length : Nat)) = _
          rw [List.length_map, List.length_append]; rfl
        have l2 : ¬ (2000 : Int) < (ks.length + 1 : Nat) := by omega
        simp only [s_ite, e_cmp, e_bi, es_cons, es_nil, e_bor, get0, List.getElem?_cons_succ, borR_ow, b_ok, this, e_cst, c_gt, l2, asB_bl, decide_false, Bool.false_eq_true, if_false, ss_nil]
      refine ok_nx (env' := [.fr (tb m rs), .fr (tb k es), .fr (tI st), .ow (.dic ((ks ++ [s]).map (entS rs es))), .ow (.lst ((rows' ++ nexts rs es s).map tI)), .fr (tI s), a6]) (r' := .non) ?_ (ok_nil ⟨_, _, rfl, (U.length - (ks ++ [s]).length) * (B + 1) + (rows' ++ nexts rs es s).length, ?_, rfl, ks ++ [s], _, _, _, rfl, nd2, in2, ?_, ?_, ?_, ?_, rfl, ?_⟩)
      · have lk : ixD (.dic ((ks ++ [s]).map (entS rs es))) (tI s) = .ok (nxD rs es s) := ixDic (by rw [look_ent, if_pos (by simp)])
        have ll : rows'.length + (nexts rs es s).length ≤ LIM := by unfold LIM; omega
        simp only [s_own, e_bin, e_bor, e_ix, e_loc, get0, List.getElem?_cons_succ, borR_ow, locR_fr, b_ok, lk, nxD, o_addL, List.length_map]
        rw [if_pos ll]
        simp [objD]
      · rw [e6, List.length_append]
        omega
      · intro t ht
        rcases List.mem_append.mp ht with ht | ht
        · exact k2 t (List.mem_append_left _ ht)
        · exact u.cl s sU t ht
      · intro t ht x hx
        rcases List.mem_append.mp ht with ht | ht
        · rcases k3 t ht x hx with q | q
          · exact .inl (List.mem_append_left _ q)
          · rcases List.mem_append.mp q with q | q
            · exact .inr (List.mem_append_left _ q)
            · exact .inl (List.mem_append_right _ q)
        · rw [List.mem_singleton.mp ht] at hx
          exact .inr (List.mem_append_right _ hx)
      · rcases k4 with q | q
        · exact .inl (List.mem_append_left _ q)
        · rcases List.mem_append.mp q with q | q
          · exact .inr (List.mem_append_left _ q)
          · exact .inl (List.mem_append_right _ q)
      · intro P h0 h1
        obtain ⟨p1, p2⟩ := k5 P h0 h1
        have ps : P s := p2 s (by simp)
        refine ⟨fun t ht => ?_, fun t ht => ?_⟩
        · rcases List.mem_append.mp ht with ht | ht
          · exact p1 t ht
          · rw [List.mem_singleton.mp ht]; exact ps
        · rcases List.mem_append.mp ht with ht | ht
          · exact p2 t (List.mem_append_left _ ht)
          · exact h1 s ps t ht
      · rw [e6, List.length_append]
        omega
    · have hs : s ∈ ks := by simpa using hp
      refine ok_nil ⟨_, _, rfl, (U.length - ks.length) * (B + 1) + rows'.length, by simp only [List.length_cons, List.length_nil] at k6; omega, rfl, ks, rows', _, _, rfl, nd, k1, fun t ht => k2 t (List.mem_append_left _ ht), ?_, ?_, ?_, rfl, by simp only [List.length_cons, List.length_nil] at k6; omega⟩
      · intro t ht x hx
        rcases k3 t ht x hx with q | q
        · exact .inl q
        · rcases List.mem_append.mp q with q | q
          · exact .inr q
          · rw [List.mem_singleton.mp q]; exact .inl hs
      · rcases k4 with q | q
        · exact .inl q
        · rcases List.mem_append.mp q with q | q
          · exact .inr q
          · rw [List.mem_singleton.mp q]; exact .inl hs
      · intro P h0 h1
        obtain ⟨p1, p2⟩ := k5 P h0 h1
        exact ⟨p1, fun t ht => p2 t (List.mem_append_left _ ht)⟩
    · obtain ⟨N', hn, hI⟩ := hj
      exact ok_nil ⟨N', e, r, rfl, hn, hI⟩
  · have e : rows = [] := by
      cases rows with
      | nil => rfl
      | cons _ _ => cases hb
    subst e
    refine ok_nx (env' := [.fr (tb m rs), .fr (tb k es), .fr (tI st), .fr (.dic (ks.map (entS rs es))), .ow (.lst []), a5, a6]) (r' := .non) (by simp [frzE]) (ok_rt (d := .dic (ks.map (entS rs es))) (r' := .non) (by simp) ⟨ks, rfl, nd, ?_, ?_, ?_⟩)
    · exact k4.resolve_right (by simp)
    · exact fun s hs t ht => (k3 s hs t ht).resolve_right (by simp)
    · exact fun P h0 h1 => (k5 P h0 h1).1
end
end PLX

set_option Elab.async false
set_option linter.all false
set_option maxRecDepth 100000
set_option autoImplicit false
set_option maxHeartbeats 400000
namespace PLX
open PySem PL
theorem inD_I (a : Int) : ∀ fo : List Int, inD (.int a) (fo.map D.int) = decide (a ∈ fo)
  | [] => rfl
  | z :: fo => by
    rw [List.map_cons]
    unfold inD
    rw [inD_I a fo, eqD_int]
    simp [eq_comm]
theorem isin_I (a : Int) (fo : List Int) : isinD (.int a) (.lst (fo.map D.int)) = .ok (decide (a ∈ fo)) := by
  show (if shD 60 (.int a) && shD 60 (.lst (fo.map D.int)) then R.ok (inD (.int a) (fo.map D.int)) else .no) = _
  have : shD 60 (.lst (fo.map D.int)) = true := by unfold shD; exact sh_ints _ _
  rw [this, inD_I]; rfl
theorem sset_L {l : List Int} (h : l.length < 64) : biD .sset [.lst (l.map D.int)] = .ok (.lst ((dedI (sortI l)).map D.int)) := by
  show (ssetD (l.map D.int)).bind (fun r => R.ok (D.lst r)) = _
  unfold ssetD
  rw [if_pos (by rw [List.length_map]; exact h), intsD_map]; rfl
theorem sset_T {l : List Int} (h : l.length < 64) : biD .sset [tI l] = .ok (.lst ((dedI (sortI l)).map D.int)) := by
  show (ssetD (l.map D.int)).bind (fun r => R.ok (D.lst r)) = _
  unfold ssetD
  rw [if_pos (by rw [List.length_map]; exact h), intsD_map]; rfl
abbrev setI (l : List Int) : List Int := dedI (sortI l)
theorem setI_mem {l : List Int} {z : Int} : z ∈ setI l ↔ z ∈ l := by rw [dedI_mem]; exact (sortI_perm l).mem_iff
theorem setI_asc (l : List Int) : (setI l).Pairwise (· < ·) := dedI_lt (sortI_sorted l)
theorem setI_eq {l ms : List Int} (h : ms.Pairwise (· < ·)) (q : ∀ k, k ∈ ms ↔ k ∈ l) : setI l = ms := (dedI_eq h q).symm
theorem setI_id {l : List Int} (h : l.Pairwise (· < ·)) : setI l = l := setI_eq h fun _ => .rfl
theorem asc_nd {l : List Int} (h : l.Pairwise (· < ·)) : l.Nodup := h.imp fun h => Int.ne_of_lt h
theorem asc_ext {l ms : List Int} (h : l.Pairwise (· < ·)) (h2 : ms.Pairwise (· < ·)) (q : ∀ k, k ∈ ms ↔ k ∈ l) : l = ms := by
  rw [← setI_id h]; exact setI_eq h2 q
theorem nd_len {l : List Int} {m : Int} (h : l.Nodup) (q : ∀ z ∈ l, 0 ≤ z ∧ z < m) : l.length ≤ m.toNat := by
  have := List.Nodup.length_le_of_subset (l₂ := rgI 0 m) h fun z hz => rgI_mem.mpr (q z hz)
  rw [rgI_len] at this; omega
/-! ### kinds that can come -/
def Clos (rs : List (List Int)) (S : Int → Prop) : Prop := ∀ a b u v, [a, b, u, v] ∈ rs → S a → S b → S u ∧ S v
structure May (rs : List (List Int)) (kd R : List Int) : Prop where
  sub : ∀ z ∈ kd, z ∈ R
  cl : Clos rs (· ∈ R)
  ind : ∀ S : Int → Prop, (∀ z ∈ kd, S z) → Clos rs S → ∀ z ∈ R, S z
  asc : R.Pairwise (· < ·)
theorem May.uniq {rs : List (List Int)} {kd R R' : List Int} (h : May rs kd R) (h' : May rs kd R') : R = R' :=
  asc_ext h.asc h'.asc fun z => ⟨h'.ind _ h.sub h.cl z, h.ind _ h'.sub h'.cl z⟩
theorem May.bd {m : Int} {rs : List (List Int)} {kd R : List Int} (h : May rs kd R) (T : ∀ k ∈ rs, RuleOk m k) (hk : ∀ z ∈ kd, 0 ≤ z ∧ z < m) : ∀ z ∈ R, 0 ≤ z ∧ z < m :=
  h.ind _ hk fun a b u v hr _ _ => by
    obtain ⟨_, _, _, _, e, _, _, h3, h4, _⟩ := (T _ hr).ex
    cases e
    exact ⟨h3, h4⟩
section
variable {c : Fd} {n : Nat}
theorem ev_may_come {m : Int} {rs : List (List Int)} {kd : List Int} (T : TabOk m rs) (hk : ∀ z ∈ kd, 0 ≤ z ∧ z < m) (ha : kd.Pairwise (· < ·)) : ∃ R, callD (GL c) (n + 4) 112 .non [tb m rs, tI kd] = .ok (tI R, .non) ∧ May rs kd R := by
  have t1 := T.lo; have t2 := T.hi; have t3 := T.len
  suffices h : Ok (callD (GL c) (n + 4) 112 .non [tb m rs, tI kd]) fun p => ∃ R, p = (tI R, .non) ∧ May rs kd R by
    obtain ⟨p, e, R, rfl, hR⟩ := h
    exact ⟨R, e, hR⟩
  have kl := nd_len (asc_nd ha) hk
  refine call_ok (G112 c) (env := [.fr (tb m rs), .fr (tI kd), .no, .no, .no, .no, .no, .no, .no]) rfl rfl rfl ?_
  refine ok_nx (env' := [.fr (tb m rs), .fr (tI kd), .no, .no, .no, .no, .no, .no, .no]) (r' := .non) (by simp [ev_need_table T]) ?_
  have hlc : evE (callD (GL c) (n + 3)) (.lc (.loc 2) (.nm 2) (.seq (.loc 1)) (.cons (.not (.call 0 (.cons (.loc 2) (.cons (.cst (.int 0)) (.cons (.bin .sub (.ix (.loc 0) (.cst (.int 0))) (.cst (.int 1))) .nil))))) .nil) [2]) [.fr (tb m rs), .fr (tI kd), .no, .no, .no, .no, .no, .no, .no] .non = .ok (.lst [], .non) := by
    refine lc_none (ds := kd.map D.int) rfl rfl (by rw [List.length_map]; show _ ≤ (1000000 : Nat); omega) fun d hd => ?_
    obtain ⟨z, hz, rfl⟩ := List.mem_map.mp hd
    have := hk z hz
    simp (disch := omega) [wipeE, ev_in]
  refine ok_nx (env' := [.fr (tb m rs), .fr (tI kd), .no, .no, .no, .no, .no, .no, .no]) (r' := .non) (by simp [isiT, hlc]) ?_
  have es : dedI (sortI kd) = kd := setI_id ha
  refine ok_nx (env' := [.fr (tb m rs), .fr (tI kd), .no, .no, .no, .no, .no, .no, .no]) (r' := .non) ?_ ?_
  · simp [sset_T (show kd.length < 64 by omega), es, eqG_lI]
  refine ok_nx (env' := [.fr (tb m rs), .fr (tI kd), .no, .fr (.lst (kd.map D.int)), .fr (.bl true), .no, .no, .no, .no]) (r' := .non) (by simp) ?_
  let J : List Int → Prop := fun fo => fo.Pairwise (· < ·) ∧ (∀ z ∈ fo, 0 ≤ z ∧ z < m) ∧ (∀ z ∈ kd, z ∈ fo) ∧ ∀ S : Int → Prop, (∀ z ∈ kd, S z) → Clos rs S → ∀ z ∈ fo, S z
  have J0 : J kd := ⟨ha, hk, fun _ h => h, fun S h _ => h⟩
  let I : Nat → Env' → D → Prop := fun N e r => r = .non ∧ ∃ (fo : List Int) (mv : Bool) (p q s t : Sl), e = [.fr (tb m rs), .fr (tI kd), .no, .fr (.lst (fo.map D.int)), .fr (.bl mv), p, q, s, t] ∧ J fo ∧ (mv = false → Clos rs (· ∈ fo)) ∧ N = 2 * (m.toNat - fo.length) + (if mv then 1 else 0)
  refine ok_wh I (2 * (m.toNat - kd.length) + 1) (by show _ < 1000000000; omega) ⟨rfl, kd, true, _, _, _, _, rfl, J0, (fun h => nomatch h), rfl⟩ fun N e r hI => ?_
  obtain ⟨rfl, fo, mv, p, q, s, t, rfl, j, cl, hN⟩ := hI
  refine ⟨mv, .non, by simp, fun hm => ?_, fun hm => ?_⟩
  · subst hm
    refine ok_nx (env' := [.fr (tb m rs), .fr (tI kd), .no, .fr (.lst (fo.map D.int)), .fr (.bl false), p, q, s, t]) (r' := .non) (by simp) ?_
    refine ok_for (r1 := .non) (ds := rs.map tI) (fun i e r => r = .non ∧ ∃ (fo' : List Int) (mv : Bool) (p q s t : Sl), e = [.fr (tb m rs), .fr (tI kd), .no, .fr (.lst (fo'.map D.int)), .fr (.bl mv), p, q, s, t] ∧ J fo' ∧ (mv = false → fo' = fo ∧ Clos (rs.take i) (· ∈ fo)) ∧ (mv = true → fo.length + 1 ≤ fo'.length)) (by simp [seqD]) ⟨rfl, fo, false, _, _, _, _, rfl, j, fun _ => ⟨rfl, fun _ _ _ _ h => by simp at h⟩, (fun h => nomatch h)⟩ (fun i d e r hd hI => ?_) fun e r hI => ?_
    · obtain ⟨rfl, fo', mv, p, q, s, t, rfl, j', c1, c2⟩ := hI
      obtain ⟨x, hx, rfl⟩ := get_tI hd
      have mem : x ∈ rs := List.mem_of_getElem? hx
      obtain ⟨a, b, u, v, rfl, _, _, hu, hv, _⟩ := (T.ru x mem).ex
      refine ok_bindT (e1 := [.fr (tb m rs), .fr (tI kd), .no, .fr (.lst (fo'.map D.int)), .fr (.bl mv), .fr (.int a), .fr (.int b), .fr (.int u), .fr (.int v)]) (by simp [tI4]) ?_
      refine ok_if (fun e r => r = .non ∧ ∃ (fo' : List Int) (mv : Bool), e = [.fr (tb m rs), .fr (tI kd), .no, .fr (.lst (fo'.map D.int)), .fr (.bl mv), .fr (.int a), .fr (.int b), .fr (.int u), .fr (.int v)] ∧ J fo' ∧ (mv = false → fo' = fo ∧ Clos (rs.take (i + 1)) (· ∈ fo)) ∧ (mv = true → fo.length + 1 ≤ fo'.length))
        (p := decide (a ∈ fo') && (decide (b ∈ fo') && (!decide (u ∈ fo') || !decide (v ∈ fo')))) (r1 := .non) ?_ (fun hp => ?_) (fun hp => ?_) fun e r hj => ?_
      · by_cases h1 : a ∈ fo'
        · by_cases h2 : b ∈ fo'
          · by_cases h3 : u ∈ fo' <;> simp [isin_I, h1, h2, h3]
          · simp [isin_I, h1, h2]
        · simp [isin_I, h1]
      · simp only [Bool.and_eq_true, decide_eq_true_eq, Bool.or_eq_true, Bool.not_eq_true', decide_eq_false_iff_not] at hp
        obtain ⟨h1, h2, h3⟩ := hp
        have fl := nd_len (asc_nd j'.1) j'.2.1
        have ll : (fo' ++ [u, v]).length < 64 := by simp; omega
        have ss := sset_L ll
        have l2 : fo'.length + 2 ≤ LIM := by unfold LIM; omega
        have mem2 : ∀ z, z ∈ setI (fo' ++ [u, v]) ↔ z ∈ fo' ∨ z = u ∨ z = v := fun z => by rw [setI_mem]; simp
        refine ok_nx (env' := [.fr (tb m rs), .fr (tI kd), .no, .fr (.lst ((setI (fo' ++ [u, v])).map D.int)), .fr (.bl true), .fr (.int a), .fr (.int b), .fr (.int u), .fr (.int v)]) (r' := .non) ?_ (ok_nil ⟨_, _, rfl, rfl, _, true, rfl, ⟨setI_asc _, fun z hz => ?_, fun z hz => (mem2 z).mpr (.inl (j'.2.2.1 z hz)), fun S h hc z hz => ?_⟩, (fun h => nomatch h), fun _ => ?_⟩)
        · rw [List.map_append] at ss
          simp [l2]
          have ss : biD .sset [.lst (fo'.map D.int ++ [.int u, .int v])] = .ok (.lst ((dedI (sortI (fo' ++ [u, v]))).map D.int)) := ss
          rw [ss]
          simp
        · rcases (mem2 z).mp hz with hz | rfl | rfl
          · exact j'.2.1 z hz
          · exact hu
          · exact hv
        · have k1 := j'.2.2.2 S h hc
          have k2 := hc a b u v mem (k1 a h1) (k1 b h2)
          rcases (mem2 z).mp hz with hz | rfl | rfl
          · exact k1 z hz
          · exact k2.1
          · exact k2.2
        · have big : fo'.length + 1 ≤ (setI (fo' ++ [u, v])).length := by
            rcases h3 with h3 | h3
            · exact List.Nodup.length_le_of_subset (l₁ := u :: fo') (List.nodup_cons.mpr ⟨h3, asc_nd j'.1⟩) fun z hz => (mem2 z).mpr (by
                rcases List.mem_cons.mp hz with rfl | hz
                · exact .inr (.inl rfl)
                · exact .inl hz)
            · exact List.Nodup.length_le_of_subset (l₁ := v :: fo') (List.nodup_cons.mpr ⟨h3, asc_nd j'.1⟩) fun z hz => (mem2 z).mpr (by
                rcases List.mem_cons.mp hz with rfl | hz
                · exact .inr (.inr rfl)
                · exact .inl hz)
          cases mv with
          | true => have := c2 rfl; omega
          | false => rw [(c1 rfl).1] at big ⊢; exact big
      · refine ok_nil ⟨_, _, rfl, rfl, fo', mv, rfl, j', fun hm => ⟨(c1 hm).1, fun a' b' u' v' hr ha hb => ?_⟩, c2⟩
        rw [List.take_succ, hx] at hr
        rcases List.mem_append.mp hr with hr | hr
        · exact (c1 hm).2 a' b' u' v' hr ha hb
        · have e : [a', b', u', v'] = [a, b, u, v] := by simpa using hr
          cases e
          rw [(c1 hm).1] at hp
          by_cases h3 : u ∈ fo
          · by_cases h4 : v ∈ fo
            · exact ⟨h3, h4⟩
            · simp [ha, hb, h4] at hp
          · simp [ha, hb, h3] at hp
      · obtain ⟨rfl, fo', mv, rfl, q1, q2, q3⟩ := hj
        exact ok_nil ⟨_, _, rfl, rfl, fo', mv, _, _, _, _, rfl, q1, q2, q3⟩
    · obtain ⟨rfl, fo', mv, p, q, s, t, rfl, j', c1, c2⟩ := hI
      rw [List.length_map, List.take_length] at c1
      have fl := nd_len (asc_nd j'.1) j'.2.1
      refine ok_nil ⟨_, _, _, rfl, ?_, rfl, fo', mv, _, _, _, _, rfl, j', fun hm => ?_, rfl⟩
      · rw [hN]
        cases mv with
        | true => have := c2 rfl; simp; omega
        | false => rw [(c1 rfl).1]; simp
      · rw [(c1 hm).1]; exact (c1 hm).2
  · exact ok_rt (d := tI fo) (r' := .non) (by simp) ⟨fo, rfl, j.2.2.1, cl hm, j.2.2.2, j.1⟩
theorem ev_all_come {m k : Int} {rs es U : List (List Int)} {B : Nat} {st : List Int} (T : TabOk m rs) (W : WebOk k es) (u : Uni m k rs es U B) (hst : st ∈ U) : ∃ ks, callD (GL c) (n + 5) 42 .non [tb m rs, tb k es, tI st] = .ok (.lst ((sortT ks).map tI), .non) ∧ Come rs es st ks := by
  have t3 := T.len; have w3 := W.len
  obtain ⟨ks, e, h⟩ := ev_come_in (c := c) (n := n + 1) T.ru (by omega) W.ed w3 u hst
  refine ⟨ks, ?_, h⟩
  refine call_eq (G42 c) (env := [.fr (tb m rs), .fr (tb k es), .fr (tI st)]) rfl rfl rfl ?_
  refine ok_nx (env' := [.fr (tb m rs), .fr (tb k es), .fr (tI st)]) (r' := .non) (by simp [ev_need_start T W (u.ok st hst)]) (ok_rt (d := .lst ((sortT ks).map tI)) (r' := .non) ?_ rfl)
  have inU : ∀ s ∈ ks, s ∈ U := h.ind (fun s => s ∈ U) hst fun s hs t ht => u.cl s hs t ht
  have ln := List.Nodup.length_le_of_subset h.nd inU
  have ul := u.len
  have ek : (ks.map (entS rs es)).map (·.1) = ks := by rw [List.map_map]; exact List.map_id _
  have sk := skeys_of (es := ks.map (entS rs es)) (by rw [List.length_map]; unfold LIM; omega) (fun x hx q => by
    obtain ⟨s, hs, rfl⟩ := List.mem_map.mp hx
    exact u.ne s (inU s hs) q)
  rw [ek] at sk
  simp [e, sk]
end
end PLX

set_option Elab.async false
set_option linter.all false
set_option maxRecDepth 100000
set_option autoImplicit false
set_option maxHeartbeats 400000
namespace PLX
open PySem PL
theorem isin_T (a : Int) (fo : List Int) : isinD (.int a) (tI fo) = .ok (decide (a ∈ fo)) := by
  show (if shD 60 (.int a) && shD 60 (tI fo) then R.ok (inD (.int a) (fo.map D.int)) else .no) = _
  rw [sh_tI, inD_I]; rfl
/-- a comprehension that draws -/
theorem lcD_inv {f : D → D → R (Option D × D)} (I : Nat → List D → D → Prop) : ∀ {ds : List D} {r : D} (k : Nat) (acc : List D), I k acc r → (∀ i d acc r, ds[i]? = some d → I (k + i) acc r → Ok (f d r) fun p => I (k + i + 1) (acc ++ p.1.toList) p.2) →
    Ok (lcD f ds r) fun p => I (k + ds.length) (acc ++ p.1) p.2
  | [], r, k, acc, h, _ => ⟨_, rfl, by simpa using h⟩
  | d :: ds, r, k, acc, h, t => by
    unfold lcD
    refine Ok.bind ((t 0 d acc r rfl h).mono fun p hp => ?_)
    refine Ok.bind ((lcD_inv I (k + 1) (acc ++ p.1.toList) hp fun i d' acc r hd hi => ?_).mono fun q hq => Ok.ok ?_)
    · have := t (i + 1) d' acc r hd (by rw [show k + (i + 1) = k + 1 + i from by omega]; exact hi)
      rw [show k + (i + 1) + 1 = k + 1 + i + 1 from by omega] at this
      exact this
    · rw [List.length_cons, show k + (ds.length + 1) = k + 1 + ds.length from by omega]
      obtain ⟨o, r'⟩ := p
      cases o with
      | none => simpa using hq
      | some x => simpa using hq
theorem oe_lc {cl : Cl} {env : Env'} {r r1 : D} {elt : E} {tg : Tg} {it : It} {ifs : Es} {own : List Nat} {ds : List D} {k : D × D → Prop} (I : Nat → List D → D → Prop) (hi : evIt cl it env r = .ok (ds, r1)) (hl : ds.length ≤ LIM) (h0 : I 0 [] r1)
    (hs : ∀ i d acc r, ds[i]? = some d → I i acc r → Ok ((bindT tg d (wipeE env own)).bind fun env => (evC cl ifs env r).bind fun q => if q.1 then (evE cl elt env q.2).bind fun x => .ok (some x.1, x.2) else .ok (none, q.2)) fun p => I (i + 1) (acc ++ p.1.toList) p.2)
    (hk : ∀ out r, I ds.length out r → k (.lst out, r)) : Ok (evE cl (.lc elt tg it ifs own) env r) k := by
  rw [e_lc, hi]
  simp only [b_ok]
  rw [if_pos hl]
  have := lcD_inv I (f := fun d r => (bindT tg d (wipeE env own)).bind fun env => (evC cl ifs env r).bind fun q => if q.1 then (evE cl elt env q.2).bind fun x => .ok (some x.1, x.2) else .ok (none, q.2)) (ds := ds) (r := r1) 0 [] h0 fun i d acc r hd hI => by
    rw [Nat.zero_add] at hI ⊢
    exact hs i d acc r hd hI
  obtain ⟨p, e, hp⟩ := this
  rw [e]
  rw [Nat.zero_add, List.nil_append] at hp
  exact Ok.ok (hk _ _ hp)
theorem lc_mapI {cl : Cl} {env : Env'} {r : D} {el : E} {tg : Tg} {it : It} {own : List Nat} {ds : List D} (g : D → D) (hi : evIt cl it env r = .ok (ds, r)) (hl : ds.length ≤ LIM)
    (h : ∀ d ∈ ds, ((bindT tg d (wipeE env own)).bind fun env => evE cl el env r) = .ok (g d, r)) : evE cl (.lc el tg it .nil own) env r = .ok (.lst (ds.map g), r) := by
  rw [e_lc, hi]
  simp only [b_ok]
  rw [if_pos hl, lcD_pure (g := fun d => some (g d)) (fun d hd => by
    have := h d hd
    cases hb : bindT tg d (wipeE env own) with
    | ok e1 =>
      rw [hb] at this
      simp only [b_ok] at this
      simp [this]
    | ex _ _ => rw [hb] at this; cases this
    | no => rw [hb] at this; cases this)]
  simp
/-- [z for z in l if p z], l ints -/
theorem lc_ints {cl : Cl} {env : Env'} {r x : D} {e pe : E} {i : Nat} {l : List Int} (p : Int → Bool) (he : evE cl e env r = .ok (x, r)) (hs : seqD x = some (l.map D.int)) (hl : l.length ≤ 1000000) (h : ∀ z ∈ l, evE cl pe ((wipeE env [i]).set i (.fr (.int z))) r = .ok (.bl (p z), r))
    (hi : ∀ d, locR ((wipeE env [i]).set i (.fr d))[i]? r = .ok (d, r)) : evE cl (.lc (.loc i) (.nm i) (.seq e) (.cons pe .nil) [i]) env r = .ok (.lst ((l.filter p).map D.int), r) := by
  rw [lc_filter (fun d => match d with
    | .int z => p z
    | _ => false) he hs (by rw [List.length_map]; exact hl) (fun d hd => by
      obtain ⟨z, hz, rfl⟩ := List.mem_map.mp hd
      exact h z hz) hi]
  congr 3
  rw [List.filter_map]; rfl
/-! ### all starts -/
def evS : Nat → Int → List (List Int)
  | 0, _ => [[]]
  | k + 1, m => (evS k m).flatMap fun one => (rgI 0 m).map fun z => one ++ [z]
theorem evS_mem {m : Int} : ∀ {k : Nat} {s : List Int}, s ∈ evS k m ↔ s.length = k ∧ ∀ z ∈ s, 0 ≤ z ∧ z < m
  | 0, s => by
    unfold evS
    simp
    rintro rfl z hz
    simp at hz
  | k + 1, s => by
    unfold evS
    rw [List.mem_flatMap]
    constructor
    · rintro ⟨one, h1, h2⟩
      obtain ⟨z, hz, rfl⟩ := List.mem_map.mp h2
      obtain ⟨l1, l2⟩ := evS_mem.mp h1
      refine ⟨by simp [l1], fun y hy => ?_⟩
      rcases List.mem_append.mp hy with hy | hy
      · exact l2 y hy
      · rw [List.mem_singleton.mp hy]; exact rgI_mem.mp hz
    · rintro ⟨l1, l2⟩
      have ne : s ≠ [] := fun q => by rw [q] at l1; simp at l1
      refine ⟨s.dropLast, evS_mem.mpr ⟨by rw [List.length_dropLast]; omega, fun z hz => l2 z (List.dropLast_subset _ hz)⟩, List.mem_map.mpr ⟨s.getLast ne, rgI_mem.mpr (l2 _ (List.getLast_mem ne)), List.dropLast_concat_getLast ne⟩⟩
theorem flat_len_eq {α β : Type} (f : α → List β) (b : Nat) : ∀ (l : List α), (∀ x ∈ l, (f x).length = b) → (l.flatMap f).length = l.length * b
  | [], _ => by simp
  | x :: l, h => by
    rw [List.flatMap_cons, List.length_append, List.length_cons, Nat.add_mul, Nat.one_mul, h x List.mem_cons_self, flat_len_eq f b l fun y hy => h y (List.mem_cons_of_mem _ hy)]
    omega
theorem evS_len (m : Int) : ∀ k, (evS k m).length = m.toNat ^ k
  | 0 => rfl
  | k + 1 => by
    unfold evS
    rw [flat_len_eq _ m.toNat _ fun x _ => by rw [List.length_map, rgI_len]; simp, evS_len m k, Nat.pow_succ]
theorem it_rng2 {cl : Cl} {env : Env'} {r r1 r2 : D} {e e2 : E} {a b : Int} (h1 : -1000000 ≤ a ∧ a ≤ 1000000) (h2 : -1000000 ≤ b ∧ b ≤ 1000000) (h : evE cl e env r = .ok (.int a, r1)) (h' : evE cl e2 env r1 = .ok (.int b, r2)) : evIt cl (.rng2 e e2) env r = .ok ((rgI a b).map D.int, r2) := by
  rw [i_rng2, h]
  simp only [b_ok]
  rw [h']
  simp only [b_ok]
  rw [if_pos ⟨h2.2, h2.1, h1.2, h1.1⟩, rgD_I]
section
variable {c : Fd} {n : Nat}
theorem ev_every {k m : Int} (k0 : 0 ≤ k) (k1 : k ≤ 100) (m0 : 1 ≤ m) (m1 : m ≤ 100) (hb : m.toNat ^ k.toNat ≤ 400000) : callD (GL c) (n + 1) 40 .non [.int k, .int m] = .ok (.lst ((evS k.toNat m).map tI), .non) := by
  refine call_eq (G40 c) (env := [.fr (.int k), .fr (.int m), .no, .no, .no, .no, .no]) rfl rfl rfl ?_
  refine ok_nx (env' := [.fr (.int k), .fr (.int m), .fr (.lst [tI []]), .no, .no, .no, .no]) (r' := .non) (by simp) ?_
  have pw : ∀ i, i ≤ k.toNat → m.toNat ^ i ≤ 400000 := fun i hi => Nat.le_trans (Nat.pow_le_pow_right (by omega) hi) hb
  refine ok_for (r1 := .non) (ds := (rgI 0 k).map D.int) (fun i e r => r = .non ∧ ∃ a b c d, e = [.fr (.int k), .fr (.int m), .fr (.lst ((evS i m).map tI)), a, b, c, d]) (it_rng1 k0 (by omega) (by simp)) ⟨rfl, _, _, _, _, rfl⟩ (fun i d e r hd hI => ?_) fun e r hI => ?_
  · obtain ⟨rfl, a, b, c', d', rfl⟩ := hI
    have hi : i < ((rgI 0 k).map D.int).length := (List.getElem?_eq_some_iff.mp hd).1
    rw [List.length_map, rgI_len] at hi
    refine ok_bindT (e1 := [.fr (.int k), .fr (.int m), .fr (.lst ((evS i m).map tI)), .fr d, b, c', d']) (by simp) ?_
    refine ok_nx (env' := [.fr (.int k), .fr (.int m), .fr (.lst ((evS i m).map tI)), .fr d, .fr (.lst []), c', d']) (r' := .non) (by simp) ?_
    have tot : (evS (i + 1) m).length ≤ 400000 := by rw [evS_len]; exact pw _ (by omega)
    refine ok_for (r1 := .non) (ds := (evS i m).map tI) (fun j e r => r = .non ∧ ∃ c d', e = [.fr (.int k), .fr (.int m), .fr (.lst ((evS i m).map tI)), .fr d, .fr (.lst ((((evS i m).take j).flatMap fun one => (rgI 0 m).map fun z => one ++ [z]).map tI)), c, d']) (by simp [seqD]) ⟨rfl, _, _, rfl⟩ (fun j d2 e r hd2 hI => ?_) fun e r hI => ?_
    · obtain ⟨rfl, c', d', rfl⟩ := hI
      obtain ⟨one, ho, rfl⟩ := get_tI hd2
      refine ok_bindT (e1 := [.fr (.int k), .fr (.int m), .fr (.lst ((evS i m).map tI)), .fr d, .fr (.lst ((((evS i m).take j).flatMap fun one => (rgI 0 m).map fun z => one ++ [z]).map tI)), .fr (tI one), d']) (by simp) ?_
      have ol : one.length = i := (evS_mem.mp (List.mem_of_getElem? ho)).1
      have hm := lc_mapI (cl := callD (GL c) n) (env := [.fr (.int k), .fr (.int m), .fr (.lst ((evS i m).map tI)), .fr d, .fr (.lst ((((evS i m).take j).flatMap fun one => (rgI 0 m).map fun z => one ++ [z]).map tI)), .fr (tI one), d']) (r := .non)
        (el := .bin .add (.loc 5) (.tup (.cons (.loc 6) .nil))) (tg := .nm 6) (it := .rng1 (.loc 1)) (own := [6]) (ds := (rgI 0 m).map D.int) (fun d => match d with
          | .int z => tI (one ++ [z])
          | _ => .non) (it_rng1 (by omega) (by omega) (by simp)) (by rw [List.length_map, rgI_len]; show _ ≤ (1000000 : Nat); omega) (fun d hd => by
            obtain ⟨z, _, rfl⟩ := List.mem_map.mp hd
            have : one.length + 1 ≤ LIM := by unfold LIM; omega
            simp [wipeE, this])
      have e1 : ((rgI 0 m).map D.int).map (fun d => match d with
          | .int z => tI (one ++ [z])
          | _ => .non) = ((rgI 0 m).map fun z => one ++ [z]).map tI := by
        rw [List.map_map, List.map_map]; rfl
      rw [e1] at hm
      have e2 : ((evS i m).take (j + 1)).flatMap (fun one => (rgI 0 m).map fun z => one ++ [z]) = ((evS i m).take j).flatMap (fun one => (rgI 0 m).map fun z => one ++ [z]) ++ (rgI 0 m).map fun z => one ++ [z] := by
        rw [List.take_succ, ho, List.flatMap_append]
        simp
      have l1 : (((evS i m).take (j + 1)).flatMap (fun one => (rgI 0 m).map fun z => one ++ [z])).length ≤ 400000 := by
        refine Nat.le_trans ?_ tot
        show _ ≤ ((evS i m).flatMap _).length
        conv => rhs; rw [← List.take_append_drop (j + 1) (evS i m)]
        rw [List.flatMap_append, List.length_append]
        exact Nat.le_add_right _ _
      rw [e2, List.length_append] at l1
      refine ok_nx (env' := [.fr (.int k), .fr (.int m), .fr (.lst ((evS i m).map tI)), .fr d, .fr (.lst ((((evS i m).take (j + 1)).flatMap fun one => (rgI 0 m).map fun z => one ++ [z]).map tI)), .fr (tI one), d']) (r' := .non) ?_ (ok_nil ⟨_, _, rfl, rfl, _, _, rfl⟩)
      rw [e2, List.map_append, s_asg, e_bin]
      simp only [e_loc, get0, List.getElem?_cons_succ, locR_fr, b_ok]
      rw [hm]
      simp only [b_ok, o_addL]
      rw [if_pos (by rw [List.length_map, List.length_map]; unfold LIM; omega)]
      rfl
    · obtain ⟨rfl, c', d', rfl⟩ := hI
      rw [List.length_map, List.take_length]
      exact ok_nx (env' := [.fr (.int k), .fr (.int m), .fr (.lst ((evS (i + 1) m).map tI)), .fr d, .fr (.lst ((evS (i + 1) m).map tI)), c', d']) (r' := .non) (by rw [s_asg]; rfl) (ok_nil ⟨_, _, rfl, rfl, _, _, _, _, rfl⟩)
  · obtain ⟨rfl, a, b, c', d', rfl⟩ := hI
    rw [List.length_map, rgI_len]
    refine ok_rt (r' := .non) (by simp; rfl) ?_
    show (_, _) = _
    rfl
end
/-! ### the complete web -/
def fullE (k : Int) : List (List Int) := (rgI 0 k).flatMap fun i => (rgI (i + 1) k).map fun j => [i, j]
def edB (k : Int) (e : List Int) : Bool := match e with
  | [i, j] => decide (0 ≤ i) && decide (i < j) && decide (j < k)
  | _ => false
theorem edB_ok {k : Int} {e : List Int} (h : edB k e = true) : EdgeOk k e := by
  unfold edB at h
  split at h
  · simp only [Bool.and_eq_true, decide_eq_true_eq] at h
    exact ⟨_, _, rfl, h.1.1, h.1.2, h.2⟩
  · cases h
def webB (k : Int) (es : List (List Int)) : Bool := es.all (edB k) && decide (es.length ≤ 100) && decide (es.Pairwise fun x y => lexLe y x = false)
theorem webB_ok {k : Int} {es : List (List Int)} (h1 : 1 ≤ k) (h2 : k ≤ 8) (h : webB k es = true) : WebOk k es := by
  unfold webB at h
  simp only [Bool.and_eq_true, decide_eq_true_eq, List.all_eq_true] at h
  exact ⟨h1, h2, h.1.2, fun e he => edB_ok (h.1.1 e he), h.2⟩
theorem fullE_ok {k : Int} (h1 : 1 ≤ k) (h2 : k ≤ 8) : WebOk k (fullE k) := by
  refine webB_ok h1 h2 ?_
  have : k = 1 ∨ k = 2 ∨ k = 3 ∨ k = 4 ∨ k = 5 ∨ k = 6 ∨ k = 7 ∨ k = 8 := by omega
  rcases this with rfl | rfl | rfl | rfl | rfl | rfl | rfl | rfl <;> decide +kernel
theorem fullE_mem {k i j : Int} (h0 : 0 ≤ i) (h1 : i < j) (h2 : j < k) : [i, j] ∈ fullE k := by
  unfold fullE
  rw [List.mem_flatMap]
  exact ⟨i, rgI_mem.mpr ⟨h0, by omega⟩, List.mem_map.mpr ⟨j, rgI_mem.mpr ⟨by omega, h2⟩, rfl⟩⟩
end PLX

set_option Elab.async false
set_option linter.all false
set_option maxRecDepth 100000
set_option autoImplicit false
set_option maxHeartbeats 400000
namespace PLX
open PySem PL
/-! ### rests; rows -/
def rowE (k : Int) : List (List Int) := (rgI 0 (k - 1)).map fun i => [i, i + 1]
theorem rowE_ok {k : Int} (h1 : 1 ≤ k) (h2 : k ≤ 8) : WebOk k (rowE k) := by
  refine webB_ok h1 h2 ?_
  have : k = 1 ∨ k = 2 ∨ k = 3 ∨ k = 4 ∨ k = 5 ∨ k = 6 ∨ k = 7 ∨ k = 8 := by omega
  rcases this with rfl | rfl | rfl | rfl | rfl | rfl | rfl | rfl <;> decide +kernel
theorem rowE_len (k : Int) : (rowE k).length = (k - 1).toNat := by unfold rowE; rw [List.length_map, rgI_len]; simp
def restsOf (rs es ks : List (List Int)) : List (List Int) := sortT (ks.filter fun s => (nexts rs es s).isEmpty)
theorem Come.same {rs es : List (List Int)} {st : List Int} {ks ks' : List (List Int)} (h : Come rs es st ks) (h' : Come rs es st ks') : ks.Perm ks' :=
  (List.perm_ext_iff_of_nodup h.nd h'.nd).mpr fun s => ⟨h.ind (fun s => s ∈ ks') h'.here h'.cl s, h'.ind (fun s => s ∈ ks) h.here h.cl s⟩
theorem Come.rests {rs es : List (List Int)} {st : List Int} {ks ks' : List (List Int)} (h : Come rs es st ks) (h' : Come rs es st ks') : restsOf rs es ks = restsOf rs es ks' := sortT_perm_eq ((h.same h').filter _)
open Classical in
noncomputable def restsF (rs es : List (List Int)) (st : List Int) : List (List Int) := if h : ∃ ks, Come rs es st ks then restsOf rs es h.choose else []
theorem restsF_eq {rs es : List (List Int)} {st : List Int} {ks : List (List Int)} (h : Come rs es st ks) : restsOf rs es ks = restsF rs es st := by
  have e : ∃ ks, Come rs es st ks := ⟨ks, h⟩
  unfold restsF
  rw [dif_pos e]
  exact h.rests e.choose_spec
theorem onKey_filter {rs es : List (List Int)} (ks : List (List Int)) (p : List Int → Bool) : ((ks.map (entS rs es)).map (·.1)).map tI = ks.map tI := by
  rw [List.map_map, List.map_map]; rfl
section
variable {c : Fd} {n : Nat}
/-- [here for here in told.keys() if told[here] == []], sorted -/
theorem lc_rests {cl : Cl} {env : Env'} {r : D} {i j : Nat} {rs es ks : List (List Int)} (hi : env[i]? = some (.fr (.dic (ks.map (entS rs es))))) (hw : ∀ d, ((wipeE env [j]).set j (.fr d))[i]? = some (.fr (.dic (ks.map (entS rs es))))) (hj : ∀ d, ((wipeE env [j]).set j (.fr d))[j]? = some (.fr d)) (hl : ks.length ≤ 1000000) (ne : ∀ s ∈ ks, s ≠ []) :
    evE cl (.bi .sorted (.cons (.lc (.loc j) (.nm j) (.keys (.loc i)) (.cons (.cmp .eq (.ix (.loc i) (.loc j)) (.lst .nil)) .nil) [j]) .nil)) env r = .ok (.lst ((restsOf rs es ks).map tI), r) := by
  have e : evE cl (.lc (.loc j) (.nm j) (.keys (.loc i)) (.cons (.cmp .eq (.ix (.loc i) (.loc j)) (.lst .nil)) .nil) [j]) env r = .ok (.lst ((ks.filter fun s => (nexts rs es s).isEmpty).map tI), r) := by
    rw [e_lc, i_keys, e_loc, hi]
    simp only [locR_fr, b_ok]
    rw [onKey_filter ks (fun _ => true), if_pos (by rw [List.length_map]; exact hl), lcD_pure (g := fun d => if onKey (fun s => (nexts rs es s).isEmpty) d then some d else none) (fun d hd => by
      obtain ⟨s, hs, rfl⟩ := List.mem_map.mp hd
      have lk : ixD (.dic (ks.map (entS rs es))) (tI s) = .ok (nxD rs es s) := ixDic (by rw [look_ent, if_pos hs])
      rw [t_nm]
      simp only [b_ok, ec_cons, e_cmp, e_ix, e_loc, hw, hj, locR_fr, lk, e_lst, es_nil, nxD, c_eq, eqG_rows, asB_bl, onKey_tI, ec_nil, List.isEmpty_map]
      cases (nexts rs es s).isEmpty <;> simp)]
    simp only [c_ok, b_ok]
    congr 3
    rw [← filter_key]
    induction ks.map tI with
    | nil => rfl
    | cons d ds ih =>
      rw [List.filterMap_cons, List.filter_cons]
      cases onKey (fun s => (nexts rs es s).isEmpty) d <;> simp [ih]
  have so := sorted_tI (ks := ks.filter fun s => (nexts rs es s).isEmpty) (fun k hk => ne k (List.mem_filter.mp hk).1) (Nat.le_trans (List.length_filter_le _ _) hl)
  rw [e_bi, es_cons, e]
  simp only [b_ok, es_nil, so]
  rfl
theorem ev_rests_in {m k : Int} {rs es U : List (List Int)} {B : Nat} {st : List Int} (T : ∀ k ∈ rs, RuleOk m k) (hl : rs.length ≤ 100) (W : ∀ e ∈ es, EdgeOk k e) (hw : es.length ≤ 100) (u : Uni m k rs es U B) (hst : st ∈ U) :
    callD (GL c) (n + 4) 43 .non [tb m rs, tb k es, tI st] = .ok (.lst ((restsF rs es st).map tI), .non) := by
  obtain ⟨ks, e, h⟩ := ev_come_in (c := c) (n := n) T hl W hw u hst
  have inU : ∀ s ∈ ks, s ∈ U := h.ind (fun s => s ∈ U) hst fun s hs t ht => u.cl s hs t ht
  have ln := List.Nodup.length_le_of_subset h.nd inU
  have ul := u.len
  refine call_eq (G43 c) (env := [.fr (tb m rs), .fr (tb k es), .fr (tI st), .no, .no]) rfl rfl rfl ?_
  refine ok_nx (env' := [.fr (tb m rs), .fr (tb k es), .fr (tI st), .fr (.dic (ks.map (entS rs es))), .no]) (r' := .non) (by simp [e]) (ok_rt (d := .lst ((restsF rs es st).map tI)) (r' := .non) ?_ rfl)
  rw [s_ret, lc_rests rfl (fun d => rfl) (fun d => rfl) (by omega) (fun s hs => u.ne s (inU s hs)), restsF_eq h]; rfl
theorem ev_row_web {k : Int} (h1 : 1 ≤ k) (h2 : k ≤ 100000) : callD (GL c) (n + 1) 87 .non [.int k] = .ok (tb k (rowE k), .non) := by
  refine call_eq (G87 c) (env := [.fr (.int k), .no]) rfl rfl rfl ?_
  refine ok_rt (d := tb k (rowE k)) (r' := .non) ?_ rfl
  have hm := lc_mapI (cl := callD (GL c) n) (env := [.fr (.int k), .no]) (r := .non) (el := .tup (.cons (.loc 1) (.cons (.bin .add (.loc 1) (.cst (.int 1))) .nil))) (tg := .nm 1) (it := .rng1 (.bin .sub (.loc 0) (.cst (.int 1)))) (own := [1]) (ds := (rgI 0 (k - 1)).map D.int) (fun d => match d with
    | .int z => tI [z, z + 1]
    | _ => .non) (it_rng1 (by omega) (by omega) (by simp)) (by rw [List.length_map, rgI_len]; show _ ≤ (1000000 : Nat); omega) (fun d hd => by
      obtain ⟨z, _, rfl⟩ := List.mem_map.mp hd
      simp [wipeE, tI2])
  have e1 : ((rgI 0 (k - 1)).map D.int).map (fun d => match d with
    | .int z => tI [z, z + 1]
    | _ => .non) = (rowE k).map tI := by
    unfold rowE
    rw [List.map_map, List.map_map]; rfl
  rw [e1] at hm
  simp only [s_ret, e_tup, es_cons, e_loc, get0, locR_fr, b_ok, e_bi, hm, es_nil, tuple_lst]
  rfl
theorem ev_starts {k m : Int} {rs : List (List Int)} (k0 : 0 ≤ k) (k1 : k ≤ 100) (m0 : 1 ≤ m) (m1 : m ≤ 100) (hb : m.toNat ^ k.toNat ≤ 400000) : callD (GL c) (n + 1) 89 .non [tb m rs, .int k] = .ok (.lst ((evS k.toNat m).map tI), .non) := by
  refine call_eq (G89 c) (env := [.fr (tb m rs), .fr (.int k), .no, .no, .no, .no, .no]) rfl rfl rfl ?_
  refine ok_nx (env' := [.fr (tb m rs), .fr (.int k), .fr (.lst [tI []]), .no, .no, .no, .no]) (r' := .non) (by simp) ?_
  have pw : ∀ i, i ≤ k.toNat → m.toNat ^ i ≤ 400000 := fun i hi => Nat.le_trans (Nat.pow_le_pow_right (by omega) hi) hb
  refine ok_for (r1 := .non) (ds := (rgI 0 k).map D.int) (fun i e r => r = .non ∧ ∃ a b c d, e = [.fr (tb m rs), .fr (.int k), .fr (.lst ((evS i m).map tI)), a, b, c, d]) (it_rng1 k0 (by omega) (by simp)) ⟨rfl, _, _, _, _, rfl⟩ (fun i d e r hd hI => ?_) fun e r hI => ?_
  · obtain ⟨rfl, a, b, c', d', rfl⟩ := hI
    have hi : i < ((rgI 0 k).map D.int).length := (List.getElem?_eq_some_iff.mp hd).1
    rw [List.length_map, rgI_len] at hi
    refine ok_bindT (e1 := [.fr (tb m rs), .fr (.int k), .fr (.lst ((evS i m).map tI)), .fr d, b, c', d']) (by simp) ?_
    refine ok_nx (env' := [.fr (tb m rs), .fr (.int k), .fr (.lst ((evS i m).map tI)), .fr d, .fr (.lst []), c', d']) (r' := .non) (by simp) ?_
    have tot : (evS (i + 1) m).length ≤ 400000 := by rw [evS_len]; exact pw _ (by omega)
    refine ok_for (r1 := .non) (ds := (evS i m).map tI) (fun j e r => r = .non ∧ ∃ c d', e = [.fr (tb m rs), .fr (.int k), .fr (.lst ((evS i m).map tI)), .fr d, .fr (.lst ((((evS i m).take j).flatMap fun one => (rgI 0 m).map fun z => one ++ [z]).map tI)), c, d']) (by simp [seqD]) ⟨rfl, _, _, rfl⟩ (fun j d2 e r hd2 hI => ?_) fun e r hI => ?_
    · obtain ⟨rfl, c', d', rfl⟩ := hI
      obtain ⟨one, ho, rfl⟩ := get_tI hd2
      refine ok_bindT (e1 := [.fr (tb m rs), .fr (.int k), .fr (.lst ((evS i m).map tI)), .fr d, .fr (.lst ((((evS i m).take j).flatMap fun one => (rgI 0 m).map fun z => one ++ [z]).map tI)), .fr (tI one), d']) (by simp) ?_
      have ol : one.length = i := (evS_mem.mp (List.mem_of_getElem? ho)).1
      have hm := lc_mapI (cl := callD (GL c) n) (env := [.fr (tb m rs), .fr (.int k), .fr (.lst ((evS i m).map tI)), .fr d, .fr (.lst ((((evS i m).take j).flatMap fun one => (rgI 0 m).map fun z => one ++ [z]).map tI)), .fr (tI one), d']) (r := .non)
        (el := .bin .add (.loc 5) (.tup (.cons (.loc 6) .nil))) (tg := .nm 6) (it := .rng1 (.ix (.loc 0) (.cst (.int 0)))) (own := [6]) (ds := (rgI 0 m).map D.int) (fun d => match d with
          | .int z => tI (one ++ [z])
          | _ => .non) (it_rng1 (by omega) (by omega) (by simp)) (by rw [List.length_map, rgI_len]; show _ ≤ (1000000 : Nat); omega) (fun d hd => by
            obtain ⟨z, _, rfl⟩ := List.mem_map.mp hd
            have : one.length + 1 ≤ LIM := by unfold LIM; omega
            simp [wipeE, this])
      have e1 : ((rgI 0 m).map D.int).map (fun d => match d with
          | .int z => tI (one ++ [z])
          | _ => .non) = ((rgI 0 m).map fun z => one ++ [z]).map tI := by
        rw [List.map_map, List.map_map]; rfl
      rw [e1] at hm
      have e2 : ((evS i m).take (j + 1)).flatMap (fun one => (rgI 0 m).map fun z => one ++ [z]) = ((evS i m).take j).flatMap (fun one => (rgI 0 m).map fun z => one ++ [z]) ++ (rgI 0 m).map fun z => one ++ [z] := by
        rw [List.take_succ, ho, List.flatMap_append]
        simp
      have l1 : (((evS i m).take (j + 1)).flatMap (fun one => (rgI 0 m).map fun z => one ++ [z])).length ≤ 400000 := by
        refine Nat.le_trans ?_ tot
        show _ ≤ ((evS i m).flatMap _).length
        conv => rhs; rw [← List.take_append_drop (j + 1) (evS i m)]
        rw [List.flatMap_append, List.length_append]
        exact Nat.le_add_right _ _
      rw [e2, List.length_append] at l1
      refine ok_nx (env' := [.fr (tb m rs), .fr (.int k), .fr (.lst ((evS i m).map tI)), .fr d, .fr (.lst ((((evS i m).take (j + 1)).flatMap fun one => (rgI 0 m).map fun z => one ++ [z]).map tI)), .fr (tI one), d']) (r' := .non) ?_ (ok_nil ⟨_, _, rfl, rfl, _, _, rfl⟩)
      rw [e2, List.map_append, s_asg, e_bin]
      simp only [e_loc, get0, List.getElem?_cons_succ, locR_fr, b_ok]
      rw [hm]
      simp only [b_ok, o_addL]
      rw [if_pos (by rw [List.length_map, List.length_map]; unfold LIM; omega)]
      rfl
    · obtain ⟨rfl, c', d', rfl⟩ := hI
      rw [List.length_map, List.take_length]
      exact ok_nx (env' := [.fr (tb m rs), .fr (.int k), .fr (.lst ((evS (i + 1) m).map tI)), .fr d, .fr (.lst ((evS (i + 1) m).map tI)), c', d']) (r' := .non) (by rw [s_asg]; rfl) (ok_nil ⟨_, _, rfl, rfl, _, _, _, _, rfl⟩)
  · obtain ⟨rfl, a, b, c', d', rfl⟩ := hI
    rw [List.length_map, rgI_len]
    refine ok_rt (r' := .non) (by simp; rfl) ?_
    show (_, _) = _
    rfl
/-! a search -/
theorem forD_find {f : D → Env' → D → R Fl} {r : D} (g : D → Option D) (I : Env' → Prop) : ∀ {ds : List D} {env : Env'}, I env → (∀ d ∈ ds, ∀ e, I e → (g d = none → ∃ e', f d e r = .ok (.nx e' r) ∧ I e') ∧ (∀ v, g d = some v → f d e r = .ok (.rt v r))) →
    (ds.findSome? g = none → ∃ e', forD f ds env r = .ok (.nx e' r) ∧ I e') ∧ (∀ v, ds.findSome? g = some v → forD f ds env r = .ok (.rt v r))
  | [], env, h, _ => ⟨fun _ => ⟨env, rfl, h⟩, fun v h => by simp at h⟩
  | d :: ds, env, h, s => by
    obtain ⟨s1, s2⟩ := s d List.mem_cons_self env h
    rw [List.findSome?_cons]
    cases hg : g d with
    | some v =>
      refine ⟨fun h => (by simp at h), fun w hw => ?_⟩
      have e : v = w := by simpa using hw
      subst e
      unfold forD
      rw [s2 v hg]; rfl
    | none =>
      obtain ⟨e', h1, h2⟩ := s1 hg
      have ih := forD_find g I (env := e') h2 fun x hx => s x (List.mem_cons_of_mem _ hx)
      unfold forD
      rw [h1]
      exact ih
end
noncomputable def clashG (rs : List (List Int)) (k : Int) (d : D) : Option D := match keyD d with
  | some st => match restsF rs (rowE k) st with
    | a :: b :: _ => some (.tup [tI st, tI a, tI b])
    | _ => none
  | none => none
noncomputable def clashK (m : Int) (rs : List (List Int)) (d : D) : Option D := match d with
  | .int k => ((evS k.toNat m).map tI).findSome? (clashG rs k)
  | _ => none
noncomputable def clashV (m : Int) (rs : List (List Int)) : D := ([D.int 2, D.int 3].findSome? (clashK m rs)).getD .non
theorem uniR {m k : Int} {rs : List (List Int)} (T : TabOk m rs) (k2 : 2 ≤ k) (k3 : k ≤ 3) : Uni m k rs (rowE k) (evS k.toNat m) 80 := by
  have t1 := T.lo; have t2 := T.hi; have t3 := T.len
  have pw : m.toNat ^ k.toNat ≤ 125 := Nat.le_trans (Nat.pow_le_pow_left (by omega : m.toNat ≤ 5) _) (Nat.le_trans (Nat.pow_le_pow_right (by decide) (by omega : k.toNat ≤ 3)) (by decide))
  have ok : ∀ s ∈ evS k.toNat m, StaOk m k s := fun s hs => by
    obtain ⟨h1, h2⟩ := evS_mem.mp hs
    exact ⟨by omega, h2⟩
  refine ⟨by rw [evS_len]; omega, ok, fun s hs q => ?_, fun s hs t ht => ?_, fun s hs => ?_, by rw [evS_len]; omega⟩
  · have := (evS_mem.mp hs).1
    rw [q] at this; simp at this; omega
  · have := nexts_ok T.ru (ok s hs) ht
    exact evS_mem.mpr ⟨by have := this.len; omega, this.bd⟩
  · unfold nexts
    rw [List.length_map]
    refine Nat.le_trans (mvS_len _ _ _) ?_
    rw [rowE_len]
    exact Nat.le_trans (Nat.mul_le_mul (by omega : (k - 1).toNat ≤ 2) (by omega : 2 * rs.length ≤ 40)) (by decide)
section
variable {c : Fd} {n : Nat}
theorem ev_clash_in {m : Int} {rs : List (List Int)} (T : TabOk m rs) : callD (GL c) (n + 5) 90 .non [tb m rs] = .ok (clashV m rs, .non) := by
  have t1 := T.lo; have t2 := T.hi; have t3 := T.len
  refine call_eq (G90 c) (env := [.fr (tb m rs), .no, .no, .no]) rfl rfl rfl ?_
  have body : ∀ (k : Int) (e : Env'), (k = 2 ∨ k = 3) → (∃ a b c, e = [.fr (tb m rs), a, b, c]) → (clashK m rs (.int k) = none → ∃ e', (bindT (.nm 1) (.int k) e).bind (fun env => evSs (callD (GL c) (n + 4)) (.cons (.for_ (.nm 2) (.seq (.call 89 (.cons (.loc 0) (.cons (.loc 1) .nil)))) (.cons (.asg 3 (.call 43 (.cons (.loc 0) (.cons (.call 87 (.cons (.loc 1) .nil)) (.cons (.loc 2) .nil)))))
 (.cons (.ite (.cmp .gt (.bi .len (.cons (.loc 3) .nil)) (.cst (.int 1))) (.cons (.ret (.tup (.cons (.loc 2) (.cons (.ix (.loc 3) (.cst (.int 0))) (.cons (.ix (.loc 3) (.cst (.int 1))) .nil)))))
 .nil) .nil)
 .nil))) .nil) env .non) = .ok (.nx e' .non) ∧ ∃ a b c, e' = [.fr (tb m rs), a, b, c]) ∧ (∀ v, clashK m rs (.int k) = some v → (bindT (.nm 1) (.int k) e).bind (fun env => evSs (callD (GL c) (n + 4)) (.cons (.for_ (.nm 2) (.seq (.call 89 (.cons (.loc 0) (.cons (.loc 1) .nil)))) (.cons (.asg 3 (.call 43 (.cons (.loc 0) (.cons (.call 87 (.cons (.loc 1) .nil)) (.cons (.loc 2) .nil)))))
 (.cons (.ite (.cmp .gt (.bi .len (.cons (.loc 3) .nil)) (.cst (.int 1))) (.cons (.ret (.tup (.cons (.loc 2) (.cons (.ix (.loc 3) (.cst (.int 0))) (.cons (.ix (.loc 3) (.cst (.int 1))) .nil)))))
 .nil) .nil)
 .nil))) .nil) env .non) = .ok (.rt v .non)) := by
    intro k e hk he
    obtain ⟨a, b, c', rfl⟩ := he
    have pw : m.toNat ^ k.toNat ≤ 400000 := Nat.le_trans (Nat.pow_le_pow_left (by omega : m.toNat ≤ 5) _) (Nat.le_trans (Nat.pow_le_pow_right (by decide) (by omega : k.toNat ≤ 3)) (by decide))
    have es : callD (GL c) (n + 4) 89 .non [tb m rs, .int k] = .ok (.lst ((evS k.toNat m).map tI), .non) := ev_starts (by omega) (by omega) t1 (by omega) pw
    have er : callD (GL c) (n + 4) 87 .non [.int k] = .ok (tb k (rowE k), .non) := ev_row_web (by omega) (by omega)
    have W := rowE_ok (k := k) (by omega) (by omega)
    have u := uniR T (by omega : 2 ≤ k) (by omega)
    have := forD_find (f := fun d env r => (bindT (.nm 2) d env).bind fun env => evSs (callD (GL c) (n + 4)) (.cons (.asg 3 (.call 43 (.cons (.loc 0) (.cons (.call 87 (.cons (.loc 1) .nil)) (.cons (.loc 2) .nil)))))
 (.cons (.ite (.cmp .gt (.bi .len (.cons (.loc 3) .nil)) (.cst (.int 1))) (.cons (.ret (.tup (.cons (.loc 2) (.cons (.ix (.loc 3) (.cst (.int 0))) (.cons (.ix (.loc 3) (.cst (.int 1))) .nil)))))
 .nil) .nil)
 .nil)) env r) (r := .non) (clashG rs k) (fun e => ∃ b c, e = [.fr (tb m rs), .fr (.int k), b, c]) (ds := (evS k.toNat m).map tI) (env := [.fr (tb m rs), .fr (.int k), b, c']) ⟨_, _, rfl⟩ fun d hd e he => by
      obtain ⟨b, c', rfl⟩ := he
      obtain ⟨st, hs, rfl⟩ := List.mem_map.mp hd
      have e1 : callD (GL c) (n + 4) 43 .non [tb m rs, tb k (rowE k), tI st] = .ok (.lst ((restsF rs (rowE k) st).map tI), .non) := ev_rests_in T.ru (by omega) W.ed W.len u hs
      have kd : keyD (tI st) = some st := intsD_map st
      have hg : clashG rs k (tI st) = match restsF rs (rowE k) st with
        | a :: b :: _ => some (.tup [tI st, tI a, tI b])
        | _ => none := by unfold clashG; rw [kd]
      rw [hg]
      cases hR : restsF rs (rowE k) st with
      | nil => exact ⟨fun _ => ⟨[.fr (tb m rs), .fr (.int k), .fr (tI st), .fr (.lst [])], by simp [er, e1, hR], _, _, rfl⟩, fun v h => nomatch h⟩
      | cons a l =>
        cases l with
        | nil => exact ⟨fun _ => ⟨[.fr (tb m rs), .fr (.int k), .fr (tI st), .fr (.lst [tI a])], by simp [er, e1, hR], _, _, rfl⟩, fun v h => nomatch h⟩
        | cons b l =>
          refine ⟨(fun h => nomatch h), fun v h => ?_⟩
          have h : D.tup [tI st, tI a, tI b] = v := by simpa using h
          subst h
          have : (1 : Int) < (l.length : Int) + 1 + 1 := by omega
          simp [er, e1, hR, this]
    obtain ⟨q1, q2⟩ := this
    have hK : clashK m rs (.int k) = ((evS k.toNat m).map tI).findSome? (clashG rs k) := rfl
    rw [hK]
    rw [t_nm]
    simp only [b_ok, List.set_cons_succ, List.set_cons_zero]
    rw [ss_cons, s_for, i_seq]
    simp only [e_call, es_cons, e_loc, get0, List.getElem?_cons_succ, locR_fr, b_ok, es_nil, es, seqD]
    refine ⟨fun h => ?_, fun v h => ?_⟩
    · obtain ⟨e', h1, h2⟩ := q1 h
      obtain ⟨b, c', rfl⟩ := h2
      exact ⟨_, by rw [h1]; rfl, _, _, _, rfl⟩
    · rw [q2 v h]; rfl
  have key := forD_find (f := fun d env r => (bindT (.nm 1) d env).bind fun env => evSs (callD (GL c) (n + 4)) (.cons (.for_ (.nm 2) (.seq (.call 89 (.cons (.loc 0) (.cons (.loc 1) .nil)))) (.cons (.asg 3 (.call 43 (.cons (.loc 0) (.cons (.call 87 (.cons (.loc 1) .nil)) (.cons (.loc 2) .nil)))))
 (.cons (.ite (.cmp .gt (.bi .len (.cons (.loc 3) .nil)) (.cst (.int 1))) (.cons (.ret (.tup (.cons (.loc 2) (.cons (.ix (.loc 3) (.cst (.int 0))) (.cons (.ix (.loc 3) (.cst (.int 1))) .nil)))))
 .nil) .nil)
 .nil))) .nil) env r) (r := .non) (clashK m rs) (fun e => ∃ a b c, e = [.fr (tb m rs), a, b, c]) (ds := [.int 2, .int 3]) (env := [.fr (tb m rs), .no, .no, .no]) ⟨_, _, _, rfl⟩ fun d hd e he => by
    simp only [List.mem_cons, List.not_mem_nil, or_false] at hd
    rcases hd with rfl | rfl
    · exact body 2 e (.inl rfl) he
    · exact body 3 e (.inr rfl) he
  obtain ⟨k1, k2⟩ := key
  refine st_ok ?_
  rw [s_for, i_seq]
  simp only [e_tup, es_cons, e_cst, b_ok, es_nil, seqD]
  unfold clashV
  cases hf : [D.int 2, D.int 3].findSome? (clashK m rs) with
  | some v =>
    rw [k2 v hf]
    exact Ok.ok rfl
  | none =>
    obtain ⟨e', h1, a, b, c', rfl⟩ := k1 hf
    rw [h1]
    exact Ok.ok (ok_rt (d := .non) (r' := .non) (by simp) rfl)
end
end PLX

set_option Elab.async false
set_option linter.all false
set_option maxRecDepth 100000
set_option autoImplicit false
set_option maxHeartbeats 400000
namespace PLX
open PySem PL
/-! ### the law's own walk -/
def lmD (st : List Int) (x : List Int × List Int) : D := .tup [mvD x, tI (movedS st x)]
theorem moved_list {k : Int} {st : List Int} (hl : (st.length : Int) = k) {a b u v : Int} (a0 : 0 ≤ a) (ab : a < b) (bk : b < k) : (rgI 0 k).map (fun z => if z = a then u else if z = b then v else osAt st z) = movedS st ([a, b], [u, v]) := by
  show _ = (st.set a.toNat u).set b.toNat v
  refine List.ext_getElem (by rw [List.length_map, rgI_len, List.length_set, List.length_set]; omega) fun i h1 h2 => ?_
  rw [List.length_map, rgI_len] at h1
  have hi : i < st.length := by rw [List.length_set, List.length_set] at h2; exact h2
  rw [List.getElem_map]
  have e : (rgI 0 k)[i]'(by rw [rgI_len]; exact h1) = (i : Int) := by
    have := rgI_get (a := 0) (b := k) h1
    rw [List.getElem?_eq_getElem (by rw [rgI_len]; exact h1)] at this
    have := Option.some.inj this
    rw [this]; omega
  rw [e, List.getElem_set, List.getElem_set]
  have eo : osAt st (i : Int) = st[i] := by
    unfold osAt
    rw [List.getD_eq_getElem?_getD, Int.toNat_natCast, List.getElem?_eq_getElem hi]; rfl
  by_cases c1 : (i : Int) = a
  · rw [if_pos c1, if_neg (by omega), if_pos (by omega)]
  · rw [if_neg c1]
    by_cases c2 : (i : Int) = b
    · rw [if_pos c2, if_pos (by omega)]
    · rw [if_neg c2, if_neg (by omega), if_neg (by omega), eo]
section
variable {c : Fd} {n : Nat}
theorem ev_l_moves {m k : Int} {rs es : List (List Int)} {st : List Int} (T : ∀ k ∈ rs, RuleOk m k) (hl : rs.length ≤ 100) (hk : k ≤ 100) (W : ∀ e ∈ es, EdgeOk k e) (hw : es.length ≤ 100) (s : StaOk m k st) : callD (GL c) (n + 2) 39 .non [tb m rs, tb k es, tI st] = .ok (.lst ((mvS rs es st).map (lmD st)), .non) := by
  have sl := s.len
  refine call_eq (G39 c) (env := [.fr (tb m rs), .fr (tb k es), .fr (tI st), .no, .no, .no, .no, .no, .no]) rfl rfl rfl ?_
  refine ok_nx (env' := [.fr (tb m rs), .fr (tb k es), .fr (tI st), .ow (.lst []), .no, .no, .no, .no, .no]) (r' := .non) (by simp [objD]) ?_
  refine ok_for (r1 := .non) (ds := es.map tI) (fun i e r => r = .non ∧ ∃ a b c d f, e = [.fr (tb m rs), .fr (tb k es), .fr (tI st), .ow (.lst ((mvS rs (es.take i) st).map (lmD st))), a, b, c, d, f]) (by simp [seqD]) ⟨rfl, _, _, _, _, _, rfl⟩ (fun i d e r hd hI => ?_) fun e r hI => ?_
  · obtain ⟨rfl, a, b, c', d', f', rfl⟩ := hI
    obtain ⟨x, hx, rfl⟩ := get_tI hd
    obtain ⟨i1, j1, rfl, h0, h1, h2⟩ := W x (List.mem_of_getElem? hx)
    refine ok_bindT (e1 := [.fr (tb m rs), .fr (tb k es), .fr (tI st), .ow (.lst ((mvS rs (es.take i) st).map (lmD st))), .fr (.int i1), .fr (.int j1), c', d', f']) (by simp [tI2]) ?_
    have g1 := (s.get h0 (by omega : i1 < k)).1
    have g2 := (s.get (by omega : 0 ≤ j1) h2).1
    have er : callD (GL c) (n + 1) 15 .non [tb m rs, .tup [.int (osAt st i1), .int (osAt st j1)]] = .ok (.lst ((resS rs (osAt st i1) (osAt st j1)).map tI), .non) := ev_l_results T (by omega)
    have rl := resS_len (rs := rs) (x := osAt st i1) (y := osAt st j1)
    have e2 : mvS rs (es.take (i + 1)) st = mvS rs (es.take i) st ++ mvOf rs st [i1, j1] := by
      unfold mvS
      rw [List.take_succ, hx, List.flatMap_append]
      simp
    have l1 := mvS_len rs (es.take i) st
    have l3 : (es.take i).length ≤ 100 := by rw [List.length_take]; omega
    have l4 : (es.take i).length * (2 * rs.length) ≤ 100 * 200 := Nat.mul_le_mul l3 (by omega)
    refine ok_for (r1 := .non) (ds := (resS rs (osAt st i1) (osAt st j1)).map tI) (fun j e r => r = .non ∧ ∃ c d f, e = [.fr (tb m rs), .fr (tb k es), .fr (tI st), .ow (.lst ((mvS rs (es.take i) st ++ ((resS rs (osAt st i1) (osAt st j1)).take j).map fun p => ([i1, j1], p)).map (lmD st))), .fr (.int i1), .fr (.int j1), c, d, f])
      (by simp [ixT _ h0, ixT _ (show 0 ≤ j1 by omega), g1, g2, er, seqD]) ⟨rfl, c', d', f', by simp⟩ (fun j d e r hd hI => ?_) fun e r hI => ?_
    · obtain ⟨rfl, c', d', f', rfl⟩ := hI
      obtain ⟨p, hp, rfl⟩ := get_tI hd
      obtain ⟨u, v, rfl, _⟩ := resS_mem.mp (List.mem_of_getElem? hp)
      have hj : j < (resS rs (osAt st i1) (osAt st j1)).length := (List.getElem?_eq_some_iff.mp hp).1
      refine ok_bindT (e1 := [.fr (tb m rs), .fr (tb k es), .fr (tI st), .ow (.lst ((mvS rs (es.take i) st ++ ((resS rs (osAt st i1) (osAt st j1)).take j).map fun p => ([i1, j1], p)).map (lmD st))), .fr (.int i1), .fr (.int j1), .fr (tI [u, v]), d', f']) (by simp) ?_
      have hm := lc_mapI (cl := callD (GL c) (n + 1)) (env := [.fr (tb m rs), .fr (tb k es), .fr (tI st), .ow (.lst ((mvS rs (es.take i) st ++ ((resS rs (osAt st i1) (osAt st j1)).take j).map fun p => ([i1, j1], p)).map (lmD st))), .fr (.int i1), .fr (.int j1), .fr (tI [u, v]), d', f']) (r := .non)
        (el := .ite (.cmp .eq (.loc 8) (.loc 4)) (.ix (.loc 6) (.cst (.int 0))) (.ite (.cmp .eq (.loc 8) (.loc 5)) (.ix (.loc 6) (.cst (.int 1))) (.ix (.loc 2) (.loc 8)))) (tg := .nm 8) (it := .rng1 (.ix (.loc 1) (.cst (.int 0)))) (own := [8]) (ds := (rgI 0 k).map D.int) (fun d => match d with
          | .int z => .int (if z = i1 then u else if z = j1 then v else osAt st z)
          | _ => .non) (it_rng1 (by omega) (by omega) (by simp)) (by rw [List.length_map, rgI_len]; show _ ≤ (1000000 : Nat); omega) (fun d hd => by
            obtain ⟨z, hz, rfl⟩ := List.mem_map.mp hd
            have hz := rgI_mem.mp hz
            have gz := (s.get hz.1 hz.2).1
            by_cases z1 : z = i1
            · simp [wipeE, z1, tI2]
            · by_cases z2 : z = j1
              · subst z2
                have : ¬ i1 = z := fun q => z1 q.symm
                simp [wipeE, z1, tI2]
              · simp [wipeE, z1, z2, ixT _ hz.1, gz])
      have e1 : ((rgI 0 k).map D.int).map (fun d => match d with
          | .int z => D.int (if z = i1 then u else if z = j1 then v else osAt st z)
          | _ => .non) = (movedS st ([i1, j1], [u, v])).map D.int := by
        rw [← moved_list sl h0 h1 h2, List.map_map, List.map_map]; rfl
      rw [e1] at hm
      refine ok_nx (env' := [.fr (tb m rs), .fr (tb k es), .fr (tI st), .ow (.lst ((mvS rs (es.take i) st ++ ((resS rs (osAt st i1) (osAt st j1)).take j).map fun p => ([i1, j1], p)).map (lmD st))), .fr (.int i1), .fr (.int j1), .fr (tI [u, v]), .fr (tI (movedS st ([i1, j1], [u, v]))), f']) (r' := .non) ?_ ?_
      · rw [s_asg, e_bi, es_cons, hm]; rfl
      · have e3 : (resS rs (osAt st i1) (osAt st j1)).take (j + 1) = (resS rs (osAt st i1) (osAt st j1)).take j ++ [[u, v]] := by rw [List.take_succ, hp]; rfl
        have ll : (mvS rs (es.take i) st).length + ((resS rs (osAt st i1) (osAt st j1)).take j).length < LIM := by
          have : ((resS rs (osAt st i1) (osAt st j1)).take j).length ≤ j := by rw [List.length_take]; omega
          unfold LIM; omega
        refine ok_nx (env' := [.fr (tb m rs), .fr (tb k es), .fr (tI st), .ow (.lst ((mvS rs (es.take i) st ++ ((resS rs (osAt st i1) (osAt st j1)).take (j + 1)).map fun p => ([i1, j1], p)).map (lmD st))), .fr (.int i1), .fr (.int j1), .fr (tI [u, v]), .fr (tI (movedS st ([i1, j1], [u, v]))), f']) (r' := .non) ?_ (ok_nil ⟨_, _, rfl, rfl, _, _, _, rfl⟩)
        have e4 : mvS rs (es.take i) st ++ ((resS rs (osAt st i1) (osAt st j1)).take (j + 1)).map (fun p => ([i1, j1], p)) = (mvS rs (es.take i) st ++ ((resS rs (osAt st i1) (osAt st j1)).take j).map fun p => ([i1, j1], p)) ++ [([i1, j1], [u, v])] := by
          rw [e3, List.map_append, ← List.append_assoc]; rfl
        have lx : (mvS rs (es.take i) st ++ ((resS rs (osAt st i1) (osAt st j1)).take j).map fun p => ([i1, j1], p)).length < LIM := by rw [List.length_append, List.length_map]; exact ll
        rw [e4]
        clear hm e4
        generalize (mvS rs (es.take i) st ++ ((resS rs (osAt st i1) (osAt st j1)).take j).map fun p => ([i1, j1], p)) = X at lx
        rw [List.map_append, s_app]
        simp only [get0, List.getElem?_cons_succ, owL_ow, b_ok, e_tup, es_cons, e_loc, locR_fr, es_nil, List.length_map]
        rw [if_pos lx]
        rfl
    · obtain ⟨rfl, c', d', f', rfl⟩ := hI
      rw [List.length_map, List.take_length]
      refine ok_nil ⟨_, _, rfl, rfl, .fr (.int i1), .fr (.int j1), c', d', f', ?_⟩
      rw [e2]
      rfl
  · obtain ⟨rfl, a, b, c', d', f', rfl⟩ := hI
    rw [List.length_map, List.take_length]
    exact ok_nx (env' := [.fr (tb m rs), .fr (tb k es), .fr (tI st), .fr (.lst ((mvS rs es st).map (lmD st))), a, b, c', d', f']) (r' := .non) (by simp [frzE]) (ok_rt (d := .lst ((mvS rs es st).map (lmD st))) (r' := .non) (by simp) rfl)
theorem ev_l_walk {m k : Int} {rs es U : List (List Int)} {B : Nat} {st : List Int} (T : ∀ k ∈ rs, RuleOk m k) (hl : rs.length ≤ 100) (hk : k ≤ 100) (W : ∀ e ∈ es, EdgeOk k e) (hw : es.length ≤ 100) (u : Uni m k rs es U B) (hst : st ∈ U) :
    ∃ ks, callD (GL c) (n + 3) 47 .non [tb m rs, tb k es, tI st] = .ok (.dic (ks.map (entS rs es)), .non) ∧ Come rs es st ks := by
  suffices h : Ok (callD (GL c) (n + 3) 47 .non [tb m rs, tb k es, tI st]) fun p => ∃ ks, p = (.dic (ks.map (entS rs es)), .non) ∧ Come rs es st ks by
    obtain ⟨p, e, ks, rfl, hc⟩ := h
    exact ⟨ks, e, hc⟩
  refine call_ok (G47 c) (env := [.fr (tb m rs), .fr (tb k es), .fr (tI st), .no, .no, .no, .no, .no]) rfl rfl rfl ?_
  refine ok_nx (env' := [.fr (tb m rs), .fr (tb k es), .fr (tI st), .ow (.dic []), .fr (.lst [tI st]), .no, .no, .no]) (r' := .non) (by simp [objD]) ?_
  let I : Nat → Env' → D → Prop := fun N e r => r = .non ∧ ∃ (ks rows : List (List Int)) (a5 a6 a7 : Sl), e = [.fr (tb m rs), .fr (tb k es), .fr (tI st), .ow (.dic (ks.map (entS rs es))), .fr (.lst (rows.map tI)), a5, a6, a7] ∧
    ks.Nodup ∧ (∀ s ∈ ks, s ∈ U) ∧ (∀ s ∈ rows, s ∈ U) ∧ (∀ s ∈ ks, ∀ t ∈ nexts rs es s, t ∈ ks ∨ t ∈ rows) ∧ (st ∈ ks ∨ st ∈ rows) ∧
    (∀ P : List Int → Prop, P st → (∀ s, P s → ∀ t ∈ nexts rs es s, P t) → (∀ s ∈ ks, P s) ∧ ∀ s ∈ rows, P s) ∧ N = (U.length - ks.length) * (B + 1) + rows.length ∧ N ≤ 950000
  have ul := u.len
  have us := u.sm
  refine ok_wh I (U.length * (B + 1) + 1) (by show _ < 1000000000; omega) ⟨rfl, [], [st], .no, .no, .no, rfl, by simp, by simp, by simpa using hst, by simp, by simp, fun P h _ => ⟨by simp, by simpa using h⟩, by simp, by omega⟩ fun N e r hI => ?_
  obtain ⟨rfl, ks, rows, a5, a6, a7, rfl, nd, k1, k2, k3, k4, k5, k6, k7⟩ := hI
  refine ⟨!rows.isEmpty, .non, by simp [eqG_rows], fun hb => ?_, fun hb => ?_⟩
  · obtain ⟨s, rows', rfl⟩ : ∃ s rows', rows = s :: rows' := by
      cases rows with
      | nil => cases hb
      | cons s r => exact ⟨s, r, rfl⟩
    have sU : s ∈ U := k2 s (by simp)
    have ksl : ks.length ≤ U.length := List.Nodup.length_le_of_subset nd k1
    rw [List.length_cons] at k6
    refine ok_nx (env' := [.fr (tb m rs), .fr (tb k es), .fr (tI st), .ow (.dic (ks.map (entS rs es))), .fr (.lst ((s :: rows').map tI)), .fr (tI s), a6, a7]) (r' := .non) (by simp) ?_
    refine ok_nx (env' := [.fr (tb m rs), .fr (tb k es), .fr (tI st), .ow (.dic (ks.map (entS rs es))), .fr (.lst (rows'.map tI)), .fr (tI s), a6, a7]) (r' := .non) (by simp [slL_from]) ?_
    refine ok_if (fun e r => ∃ N', N' < N ∧ I N' e r) (p := !decide (s ∈ ks)) (r1 := .non) ?_ (fun hp => ?_) (fun hp => ?_) fun e r hj => ?_
    · simp [isin_dic, look_ent]
      by_cases hs : s ∈ ks <;> simp [hs]
    · have hs : s ∉ ks := by simpa using hp
      have ss := u.ok s sU
      have e1 : callD (GL c) (n + 2) 39 .non [tb m rs, tb k es, tI s] = .ok (.lst ((mvS rs es s).map (lmD s)), .non) := ev_l_moves T hl hk W hw ss
      have ml := u.b s sU
      have ml2 : (nexts rs es s).length = (mvS rs es s).length := by unfold nexts; rw [List.length_map]
      have hb1 : B ≤ 900000 := by
        have : 1 * (B + 1) ≤ U.length * (B + 1) := Nat.mul_le_mul_right _ (List.length_pos_of_mem sU)
        omega
      have hm := lc_map (cl := callD (GL c) (n + 2)) (env := [.fr (tb m rs), .fr (tb k es), .fr (tI st), .ow (.dic (ks.map (entS rs es))), .fr (.lst (rows'.map tI)), .fr (tI s), a6, a7]) (r := .non) (x := .lst ((mvS rs es s).map (lmD s)))
        (e := .call 39 (.cons (.loc 0) (.cons (.loc 1) (.cons (.loc 5) .nil)))) (el := .loc 7) (tg := .tp [.nm 6, .nm 7]) (own := [6, 7]) (ds := (mvS rs es s).map (lmD s))
        (fun d => match d with
          | .tup [_, t] => t
          | _ => .non) (by simp [e1]) rfl (by rw [List.length_map]; show _ ≤ (1000000 : Nat); omega) (fun d hd => by
            obtain ⟨x, hx, rfl⟩ := List.mem_map.mp hd
            simp [wipeE, lmD])
      have e3 : ((mvS rs es s).map (lmD s)).map (fun d => match d with
          | .tup [_, t] => t
          | _ => .non) = (nexts rs es s).map tI := by
        unfold nexts
        rw [List.map_map, List.map_map]; rfl
      rw [e3] at hm
      have kl : (ks.map (entS rs es)).length < LIM := by rw [List.length_map]; unfold LIM; omega
      have nd2 : (ks ++ [s]).Nodup := List.nodup_append.mpr ⟨nd, List.pairwise_singleton _ _, fun a ha b hb => by
        rw [List.mem_singleton.mp hb]
        rintro rfl
        exact hs ha⟩
      have in2 : ∀ t ∈ ks ++ [s], t ∈ U := fun t ht => by
        rcases List.mem_append.mp ht with ht | ht
        · exact k1 t ht
        · rw [List.mem_singleton.mp ht]; exact sU
      have ksl2 : (ks ++ [s]).length ≤ U.length := List.Nodup.length_le_of_subset nd2 in2
      rw [List.length_append] at ksl2
      have ksl2 : ks.length + 1 ≤ U.length := ksl2
      have e6 : (ks ++ [s]).length = ks.length + 1 := by simp
      have k6' : N = (U.length - (ks.length + 1)) * (B + 1) + (B + 1) + (rows'.length + 1) := by
        have e5 : U.length - ks.length = (U.length - (ks.length + 1)) + 1 := by omega
        rw [e5, Nat.add_mul, Nat.one_mul] at k6
        simpa using k6
      refine ok_nx (env' := [.fr (tb m rs), .fr (tb k es), .fr (tI st), .ow (.dic ((ks ++ [s]).map (entS rs es))), .fr (.lst (rows'.map tI)), .fr (tI s), a6, a7]) (r' := .non) ?_ ?_
      · rw [s_setx, hm]
        simp only [b_ok, get0, List.getElem?_cons_succ, owR_ow, e_loc, locR_fr]
        rw [setD_dic kl, show D.lst ((nexts rs es s).map tI) = nxD rs es s from rfl, put_ent hs]
        rfl
      refine ok_nx (env' := [.fr (tb m rs), .fr (tb k es), .fr (tI st), .ow (.dic ((ks ++ [s]).map (entS rs es))), .fr (.lst ((rows' ++ nexts rs es s).map tI)), .fr (tI s), a6, a7]) (r' := .non) ?_ (ok_nil ⟨_, _, rfl, (U.length - (ks ++ [s]).length) * (B + 1) + (rows' ++ nexts rs es s).length, ?_, rfl, ks ++ [s], _, _, _, _, rfl, nd2, in2, ?_, ?_, ?_, ?_, rfl, ?_⟩)
      · have lk : ixD (.dic ((ks ++ [s]).map (entS rs es))) (tI s) = .ok (nxD rs es s) := ixDic (by rw [look_ent, if_pos (by simp)])
        have ll : rows'.length + (nexts rs es s).length ≤ LIM := by unfold LIM; omega
        simp only [s_asg, e_bin, e_bor, e_ix, e_loc, get0, List.getElem?_cons_succ, borR_ow, locR_fr, b_ok, lk, nxD, o_addL, List.length_map]
        rw [if_pos ll, ← List.map_append]
        rfl
      · rw [e6, List.length_append]
        omega
      · intro t ht
        rcases List.mem_append.mp ht with ht | ht
        · exact k2 t (List.mem_cons_of_mem _ ht)
        · exact u.cl s sU t ht
      · intro t ht x hx
        rcases List.mem_append.mp ht with ht | ht
        · rcases k3 t ht x hx with q | q
          · exact .inl (List.mem_append_left _ q)
          · rcases List.mem_cons.mp q with q | q
            · rw [q]; exact .inl (List.mem_append_right _ (List.mem_singleton.mpr rfl))
            · exact .inr (List.mem_append_left _ q)
        · rw [List.mem_singleton.mp ht] at hx
          exact .inr (List.mem_append_right _ hx)
      · rcases k4 with q | q
        · exact .inl (List.mem_append_left _ q)
        · rcases List.mem_cons.mp q with q | q
          · rw [q]; exact .inl (List.mem_append_right _ (List.mem_singleton.mpr rfl))
          · exact .inr (List.mem_append_left _ q)
      · intro P h0 h1
        obtain ⟨p1, p2⟩ := k5 P h0 h1
        have ps : P s := p2 s (by simp)
        refine ⟨fun t ht => ?_, fun t ht => ?_⟩
        · rcases List.mem_append.mp ht with ht | ht
          · exact p1 t ht
          · rw [List.mem_singleton.mp ht]; exact ps
        · rcases List.mem_append.mp ht with ht | ht
          · exact p2 t (List.mem_cons_of_mem _ ht)
          · exact h1 s ps t ht
      · rw [e6, List.length_append]
        omega
    · have hs : s ∈ ks := by simpa using hp
      refine ok_nil ⟨_, _, rfl, (U.length - ks.length) * (B + 1) + rows'.length, by omega, rfl, ks, rows', _, _, _, rfl, nd, k1, fun t ht => k2 t (List.mem_cons_of_mem _ ht), ?_, ?_, ?_, rfl, by omega⟩
      · intro t ht x hx
        rcases k3 t ht x hx with q | q
        · exact .inl q
        · rcases List.mem_cons.mp q with q | q
          · rw [q]; exact .inl hs
          · exact .inr q
      · rcases k4 with q | q
        · exact .inl q
        · rcases List.mem_cons.mp q with q | q
          · rw [q]; exact .inl hs
          · exact .inr q
      · intro P h0 h1
        obtain ⟨p1, p2⟩ := k5 P h0 h1
        exact ⟨p1, fun t ht => p2 t (List.mem_cons_of_mem _ ht)⟩
    · obtain ⟨N', hn, hI⟩ := hj
      exact ok_nil ⟨N', e, r, rfl, hn, hI⟩
  · have e : rows = [] := by
      cases rows with
      | nil => rfl
      | cons _ _ => cases hb
    subst e
    refine ok_nx (env' := [.fr (tb m rs), .fr (tb k es), .fr (tI st), .fr (.dic (ks.map (entS rs es))), .fr (.lst []), a5, a6, a7]) (r' := .non) (by simp [frzE]) (ok_rt (d := .dic (ks.map (entS rs es))) (r' := .non) (by simp) ⟨ks, rfl, nd, ?_, ?_, ?_⟩)
    · exact k4.resolve_right (by simp)
    · exact fun s hs t ht => (k3 s hs t ht).resolve_right (by simp)
    · exact fun P h0 h1 => (k5 P h0 h1).1
theorem ev_l_rests {rs es ks : List (List Int)} {st : List Int} (h : Come rs es st ks) (hl : ks.length ≤ 1000000) (ne : ∀ s ∈ ks, s ≠ []) : callD (GL c) (n + 1) 48 .non [.dic (ks.map (entS rs es))] = .ok (.lst ((restsF rs es st).map tI), .non) := by
  refine call_eq (G48 c) (env := [.fr (.dic (ks.map (entS rs es))), .no]) rfl rfl rfl ?_
  refine ok_rt (d := .lst ((restsF rs es st).map tI)) (r' := .non) ?_ rfl
  rw [s_ret, lc_rests rfl (fun d => rfl) (fun d => rfl) hl ne, restsF_eq h]; rfl
end
end PLX

set_option Elab.async false
set_option linter.all false
set_option maxRecDepth 100000
set_option autoImplicit false
set_option maxHeartbeats 400000
namespace PLX
open PySem PL
/-! ### rounds -/
theorem inD_tI (k : List Int) : ∀ ks : List (List Int), inD (tI k) (ks.map tI) = decide (k ∈ ks)
  | [] => rfl
  | j :: ks => by
    rw [List.map_cons]
    unfold inD
    rw [inD_tI k ks]
    have : eqD (tI j) (tI k) = decide (j = k) := by
      show eqDs (j.map D.int) (k.map D.int) = _
      rw [eq_ints]
    rw [this]
    simp [eq_comm]
theorem isin_tIs (k : List Int) (ks : List (List Int)) : isinD (tI k) (.tup (ks.map tI)) = .ok (decide (k ∈ ks)) := by
  show (if shD 60 (tI k) && shD 60 (.tup (ks.map tI)) then R.ok (inD (tI k) (ks.map tI)) else .no) = _
  have : shD 60 (.tup (ks.map tI)) = true := by unfold shD; exact sh_tIs _ _
  rw [this, sh_tI, inD_tI]; rfl
abbrev Mv := List Int × List Int
theorem sh_mv (n : Nat) (x : Mv) : shD (n + 2) (mvD x) = true := by
  unfold mvD shD shDs shDs shDs
  rw [sh_tI, sh_tI]; rfl
theorem sh_mvs (n : Nat) : ∀ xs : List Mv, shDs (n + 2) (xs.map mvD) = true
  | [] => by unfold shDs; rfl
  | x :: xs => by
    rw [List.map_cons]
    unfold shDs
    rw [sh_mvs n xs, sh_mv]; rfl
theorem eqD_mv (x y : Mv) : eqD (mvD x) (mvD y) = decide (x = y) := by
  obtain ⟨a, b⟩ := x
  obtain ⟨c, d⟩ := y
  show (eqDs [tI a, tI b] [tI c, tI d]) = _
  have h : ∀ a c : List Int, eqD (tI a) (tI c) = decide (a = c) := fun a c => by
    show eqDs (a.map D.int) (c.map D.int) = _
    rw [eq_ints]
  unfold eqDs eqDs eqDs
  rw [h, h]
  simp
theorem inD_mv (x : Mv) : ∀ xs : List Mv, inD (mvD x) (xs.map mvD) = decide (x ∈ xs)
  | [] => rfl
  | y :: xs => by
    rw [List.map_cons]
    unfold inD
    rw [inD_mv x xs, eqD_mv]
    simp [eq_comm]
theorem isin_mv (x : Mv) (xs : List Mv) : isinD (mvD x) (.lst (xs.map mvD)) = .ok (decide (x ∈ xs)) := by
  show (if shD 60 (mvD x) && shD 60 (.lst (xs.map mvD)) then R.ok (inD (mvD x) (xs.map mvD)) else .no) = _
  have : shD 60 (.lst (xs.map mvD)) = true := by unfold shD; exact sh_mvs 57 xs
  rw [this, sh_mv 58 x, inD_mv]; rfl
theorem ixL_last (l : List D) (x : D) : ixD (.lst (l ++ [x])) (.int (-1)) = .ok x := by
  show (match idxN (l ++ [x]).length (-1) with
    | some j => R.ofO (l ++ [x])[j]?
    | none => .no) = _
  have : idxN (l ++ [x]).length (-1) = some l.length := by
    unfold idxN
    rw [if_neg (by decide), if_pos (by rw [List.length_append]; simp; omega)]
    congr 1
    rw [List.length_append]; simp
    omega
  rw [this]
  simp
theorem fullE_iff {k i j : Int} : [i, j] ∈ fullE k ↔ 0 ≤ i ∧ i < j ∧ j < k := by
  constructor
  · intro h
    unfold fullE at h
    rw [List.mem_flatMap] at h
    obtain ⟨a, ha, h⟩ := h
    obtain ⟨b, hb, e⟩ := List.mem_map.mp h
    cases e
    have := rgI_mem.mp ha
    have := rgI_mem.mp hb
    omega
  · rintro ⟨h0, h1, h2⟩
    exact fullE_mem h0 h1 h2
/-- a pair of pairs -/
def M4 (x : Mv) : Prop := ∃ i j u v, x = ([i, j], [u, v])
def mvB (m k : Int) (x : Mv) : Bool := match x with
  | ([i, j], [u, v]) => decide (0 ≤ i ∧ i < j ∧ j < k) && (decide (0 ≤ u ∧ u < m) && decide (0 ≤ v ∧ v < m))
  | _ => false
def goodRun (rs es : List (List Int)) : List Int → List Mv → Bool
  | _, [] => true
  | st, x :: r => decide (x ∈ mvS rs es st) && goodRun rs es (movedS st x) r
def endRun : List Int → List Mv → List Int
  | st, [] => st
  | st, x :: r => endRun (movedS st x) r
def lineS (rs es : List (List Int)) : List Int → List Mv → List (List Int)
  | st, [] => [st]
  | st, x :: r => st :: (if x ∈ mvS rs es st then lineS rs es (movedS st x) r else [])
theorem lineS_len (rs es : List (List Int)) : ∀ (run : List Mv) (st : List Int), (goodRun rs es st run = true → (lineS rs es st run).length = run.length + 1 ∧ ∃ l, lineS rs es st run = l ++ [endRun st run]) ∧ (goodRun rs es st run = false → (lineS rs es st run).length ≤ run.length)
  | [], st => ⟨fun _ => ⟨rfl, [], rfl⟩, fun h => nomatch h⟩
  | x :: r, st => by
    obtain ⟨i1, i2⟩ := lineS_len rs es r (movedS st x)
    unfold goodRun lineS endRun
    by_cases h : x ∈ mvS rs es st
    · rw [if_pos h]
      simp only [h, decide_true, Bool.true_and]
      refine ⟨fun g => ?_, fun g => ?_⟩
      · obtain ⟨h1, l, h2⟩ := i1 g
        exact ⟨by rw [List.length_cons, h1, List.length_cons], st :: l, by rw [h2]; rfl⟩
      · have := i2 g
        rw [List.length_cons, List.length_cons]; omega
    · rw [if_neg h]
      simp only [h, decide_false, Bool.false_and]
      exact ⟨fun g => (nomatch g), fun _ => by simp⟩
theorem good_mv {m k : Int} {rs es : List (List Int)} (T : ∀ k ∈ rs, RuleOk m k) (W : ∀ e ∈ es, EdgeOk k e) : ∀ (run : List Mv) (st : List Int), goodRun rs es st run = true → ∀ x ∈ run, mvB m k x = true
  | [], _, _, x, hx => by cases hx
  | y :: r, st, h, x, hx => by
    unfold goodRun at h
    rw [Bool.and_eq_true, decide_eq_true_eq] at h
    rcases List.mem_cons.mp hx with rfl | hx
    · obtain ⟨i, j, u, v, rfl, he, t⟩ := mvS_mem.mp h.1
      obtain ⟨_, _, e, h0, h1, h2⟩ := W _ he
      cases e
      obtain ⟨_, _, h3, h4⟩ := turns_bd T t
      simp [mvB, h0, h1, h2, h3.1, h3.2, h4.1, h4.2]
    · exact good_mv T W r _ h.2 x hx
theorem end_sta {m k : Int} {rs es : List (List Int)} (T : ∀ k ∈ rs, RuleOk m k) : ∀ (run : List Mv) (st : List Int), StaOk m k st → goodRun rs es st run = true → StaOk m k (endRun st run)
  | [], _, s, _ => s
  | x :: r, st, s, h => by
    unfold goodRun at h
    rw [Bool.and_eq_true, decide_eq_true_eq] at h
    exact end_sta T r _ (movedS_ok T s h.1) h.2
section
variable {c : Fd} {n : Nat}
theorem ev_full_web {k : Int} (h1 : 1 ≤ k) (h2 : k ≤ 8) : callD (GL c) (n + 1) 82 .non [.int k] = .ok (tb k (fullE k), .non) := by
  refine call_eq (G82 c) (env := [.fr (.int k), .no, .no, .no]) rfl rfl rfl ?_
  refine ok_nx (env' := [.fr (.int k), .fr (.lst []), .no, .no]) (r' := .non) (by simp) ?_
  have fl : (fullE k).length ≤ 100 := (fullE_ok h1 h2).len
  refine ok_for (r1 := .non) (ds := (rgI 0 k).map D.int) (fun i e' r' => r' = .non ∧ ∃ (x15 : Sl), e' = [.fr (.int k), .fr (.lst ((((rgI 0 k).take i).flatMap fun i => (rgI (i + 1) k).map fun j => [i, j]).map tI)), x15, .no]) (it_rng1 (by omega) (by omega) (by simp)) ⟨rfl, _, rfl⟩ (fun i d1 e' r' hd hI => ?_) fun e' r' hI => ?_
  · obtain ⟨rfl, x15, rfl⟩ := hI
    have hi : i < ((rgI 0 k).map D.int).length := (List.getElem?_eq_some_iff.mp hd).1
    rw [List.length_map, rgI_len] at hi
    have hg := rgI_get (a := 0) (b := k) hi
    rw [List.getElem?_map, hg] at hd
    have ed : d1 = .int (0 + (i : Int)) := by simpa using hd.symm
    subst ed
    refine ok_bindT (e1 := [.fr (.int k), .fr (.lst ((((rgI 0 k).take i).flatMap fun i => (rgI (i + 1) k).map fun j => [i, j]).map tI)), .fr (.int (0 + (i : Int))), .no]) (by simp) ?_
    have hm := lc_mapI (cl := callD (GL c) n) (env := [.fr (.int k), .fr (.lst ((((rgI 0 k).take i).flatMap fun i => (rgI (i + 1) k).map fun j => [i, j]).map tI)), .fr (.int (0 + (i : Int))), .no]) (r := .non)
      (el := .tup (.cons (.loc 2) (.cons (.loc 3) .nil))) (tg := .nm 3) (it := .rng2 (.bin .add (.loc 2) (.cst (.int 1))) (.loc 0)) (own := [3]) (ds := (rgI (0 + (i : Int) + 1) k).map D.int) (fun d => .tup [.int (0 + (i : Int)), d]) (it_rng2 (r1 := .non) (by omega) (by omega) (by simp) (by simp)) (by rw [List.length_map, rgI_len]; show _ ≤ (1000000 : Nat); omega) (fun d _ => by simp [wipeE])
    have e1 : ((rgI (0 + (i : Int) + 1) k).map D.int).map (fun d => D.tup [.int (0 + (i : Int)), d]) = ((rgI (0 + (i : Int) + 1) k).map fun j => [0 + (i : Int), j]).map tI := by
      rw [List.map_map, List.map_map]; rfl
    rw [e1] at hm
    have e2 : ((rgI 0 k).take (i + 1)).flatMap (fun i => (rgI (i + 1) k).map fun j => [i, j]) = ((rgI 0 k).take i).flatMap (fun i => (rgI (i + 1) k).map fun j => [i, j]) ++ (rgI (0 + (i : Int) + 1) k).map fun j => [0 + (i : Int), j] := by
      rw [List.take_succ, hg, List.flatMap_append]
      simp
    have l1 : (((rgI 0 k).take (i + 1)).flatMap (fun i => (rgI (i + 1) k).map fun j => [i, j])).length ≤ 100 := by
      refine Nat.le_trans ?_ fl
      unfold fullE
      conv => rhs; rw [← List.take_append_drop (i + 1) (rgI 0 k)]
      rw [List.flatMap_append, List.length_append]
      exact Nat.le_add_right _ _
    rw [e2, List.length_append] at l1
    refine ok_nx (env' := [.fr (.int k), .fr (.lst ((((rgI 0 k).take (i + 1)).flatMap fun i => (rgI (i + 1) k).map fun j => [i, j]).map tI)), .fr (.int (0 + (i : Int))), .no]) (r' := .non) ?_ (ok_nil ⟨_, _, rfl, rfl, _, rfl⟩)
    rw [e2, List.map_append, s_asg, e_bin]
    simp only [e_loc, get0, List.getElem?_cons_succ, locR_fr, b_ok]
    rw [hm]
    simp only [b_ok, o_addL]
    rw [if_pos (by rw [List.length_map, List.length_map]; unfold LIM; omega)]
    rfl
  · obtain ⟨rfl, x15, rfl⟩ := hI
    rw [List.length_map, List.take_length]
    exact ok_rt (d := tb k (fullE k)) (r' := .non) (by simp; rfl) rfl
theorem ev_is_edge2 (i j k : Int) : callD (GL c) (n + 2) 24 .non [tI [i, j], .int k] = .ok (.bl (decide (0 ≤ i ∧ i < j ∧ j < k)), .non) := by
  by_cases h : 0 ≤ i ∧ i < j ∧ j < k
  · rw [ev_is_edge ⟨i, j, rfl, h.1, h.2.1, h.2.2⟩]
    simp [h]
  · refine call_eq (G24 c) (env := [.fr (tI [i, j]), .fr (.int k), .no]) rfl rfl rfl ?_
    have hlc := lc_ints (cl := callD (GL c) (n + 1)) (env := [.fr (tI [i, j]), .fr (.int k), .no]) (r := .non) (x := tI [i, j]) (e := .loc 0) (pe := .not (.call 0 (.cons (.loc 2) (.cons (.cst (.int 0)) (.cons (.bin .sub (.loc 1) (.cst (.int 1))) .nil))))) (i := 2) (l := [i, j]) (fun z => !(decide (0 ≤ z) && decide (z ≤ k - 1))) (by simp) rfl (by simp) (fun z _ => by simp [wipeE, ev_is_in]) (fun d => by simp [wipeE])
    refine ok_nx (env' := [.fr (tI [i, j]), .fr (.int k), .no]) (r' := .non) (by simp [isiT]) (ok_rt (d := .bl (decide (0 ≤ i ∧ i < j ∧ j < k))) (r' := .non) ?_ rfl)
    rw [s_ret, e_and, e_cmp, hlc]
    simp only [b_ok, e_lst, es_nil, c_eq]
    rw [eqG_lst0 (sh_ints _ _)]
    simp only [b_ok, asB_bl]
    have hd : decide (0 ≤ i ∧ i < j ∧ j < k) = false := by simp [h]
    rw [hd]
    by_cases q : ((List.map D.int (List.filter (fun z => !(decide (0 ≤ z) && decide (z ≤ k - 1))) [i, j])).isEmpty = true)
    · rw [if_pos q]
      have nlt : ¬ i < j := by
        rw [List.isEmpty_iff, List.map_eq_nil_iff, List.filter_eq_nil_iff] at q
        have q1 := q i (by simp)
        have q2 := q j (by simp)
        simp at q1 q2
        omega
      simp [tI2, nlt]
    · rw [if_neg q]; rfl
theorem ev_is_move {m k : Int} {rs : List (List Int)} {x : Mv} (hx : M4 x) : callD (GL c) (n + 3) 31 .non [tb m rs, tb k (fullE k), mvD x] = .ok (.bl (mvB m k x), .non) := by
  obtain ⟨i, j, u, v, rfl⟩ := hx
  refine call_eq (G31 c) (env := [.fr (tb m rs), .fr (tb k (fullE k)), .fr (mvD ([i, j], [u, v])), .no]) rfl rfl rfl ?_
  have e1 : callD (GL c) (n + 2) 24 .non [.tup [.int i, .int j], .int k] = .ok (.bl (decide (0 ≤ i ∧ i < j ∧ j < k)), .non) := ev_is_edge2 i j k
  have e2 : isinD (.tup [.int i, .int j]) (.tup ((fullE k).map tI)) = .ok (decide (0 ≤ i ∧ i < j ∧ j < k)) := by
    have := isin_tIs [i, j] (fullE k)
    simp only [fullE_iff] at this
    exact this
  by_cases h : 0 ≤ i ∧ i < j ∧ j < k
  · have hlc := lc_ints (cl := callD (GL c) (n + 2)) (env := [.fr (tb m rs), .fr (tb k (fullE k)), .fr (mvD ([i, j], [u, v])), .no]) (r := .non) (x := tI [u, v]) (e := .ix (.loc 2) (.cst (.int 1))) (pe := .not (.call 0 (.cons (.loc 3) (.cons (.cst (.int 0)) (.cons (.bin .sub (.ix (.loc 0) (.cst (.int 0))) (.cst (.int 1))) .nil))))) (i := 3) (l := [u, v]) (fun z => !(decide (0 ≤ z) && decide (z ≤ m - 1))) (by simp [mvD]) rfl (by simp) (fun z _ => by simp [wipeE, ev_is_in]) (fun d => by simp [wipeE])
    refine ok_nx (env' := [.fr (tb m rs), .fr (tb k (fullE k)), .fr (mvD ([i, j], [u, v])), .no]) (r' := .non) (by simp [isiT, mvD, tI2, e1, e2, h]) ?_
    refine ok_nx (env' := [.fr (tb m rs), .fr (tb k (fullE k)), .fr (mvD ([i, j], [u, v])), .no]) (r' := .non) (by simp [isiT, mvD, tI2]) ?_
    refine ok_rt (d := .bl (mvB m k ([i, j], [u, v]))) (r' := .non) ?_ rfl
    rw [s_ret, e_cmp, hlc]
    simp only [b_ok, e_lst, es_nil, c_eq]
    rw [eqG_lst0 (sh_ints _ _)]
    simp only [b_ok]
    congr 3
    have : mvB m k ([i, j], [u, v]) = (decide (0 ≤ u ∧ u < m) && decide (0 ≤ v ∧ v < m)) := by simp [mvB, h]
    rw [this, Bool.eq_iff_iff, List.isEmpty_iff, List.map_eq_nil_iff, List.filter_eq_nil_iff]
    simp
    omega
  · refine ok_ite (p := true) (r1 := .non) (by simp [isiT, mvD, tI2, e1, h]) (fun _ => ok_rt (d := .bl (mvB m k ([i, j], [u, v]))) (r' := .non) (by simp [mvB, h]) rfl) fun h => by cases h
end
end PLX

set_option Elab.async false
set_option linter.all false
set_option maxRecDepth 100000
set_option autoImplicit false
set_option maxHeartbeats 400000
namespace PLX
open PySem PL
def runD (run : List Mv) : D := .tup (run.map mvD)
section
variable {c : Fd} {n : Nat}
theorem line_loop {cl : Cl} {m k : Int} {rs es : List (List Int)} {a0 a3 : Sl} (T : ∀ k ∈ rs, RuleOk m k)
    (f28 : ∀ s, StaOk m k s → cl 28 .non [tb m rs, tb k es, tI s] = .ok (.lst ((mvS rs es s).map mvD), .non)) (f30 : ∀ s, StaOk m k s → ∀ x ∈ mvS rs es s, cl 30 .non [tI s, mvD x] = .ok (tI (movedS s x), .non)) :
    ∀ (run : List Mv) (pre : List (List Int)) (s : List Int) (a : Sl), StaOk m k s → pre.length + run.length ≤ 1000 →
      (∃ a', forD (fun d env r => (bindT (.nm 5) d env).bind fun env => evSs cl (.cons (.ite (.cmp .notin (.loc 5) (.call 28 (.cons (.loc 0) (.cons (.loc 1) (.cons (.ix (.bor 4) (.neg (.cst (.int 1)))) .nil))))) (.cons (.frz [4])
 (.cons (.ret (.loc 4))
 .nil)) .nil)
 (.cons (.app 4 (.call 30 (.cons (.ix (.bor 4) (.neg (.cst (.int 1)))) (.cons (.loc 5) .nil))))
 .nil)) env r) (run.map mvD) [.fr (tb m rs), .fr (tb k es), a0, a3, .ow (.lst ((pre ++ [s]).map tI)), a] .non = .ok (.nx [.fr (tb m rs), .fr (tb k es), a0, a3, .ow (.lst ((pre ++ lineS rs es s run).map tI)), a'] .non)) ∨
      forD (fun d env r => (bindT (.nm 5) d env).bind fun env => evSs cl (.cons (.ite (.cmp .notin (.loc 5) (.call 28 (.cons (.loc 0) (.cons (.loc 1) (.cons (.ix (.bor 4) (.neg (.cst (.int 1)))) .nil))))) (.cons (.frz [4])
 (.cons (.ret (.loc 4))
 .nil)) .nil)
 (.cons (.app 4 (.call 30 (.cons (.ix (.bor 4) (.neg (.cst (.int 1)))) (.cons (.loc 5) .nil))))
 .nil)) env r) (run.map mvD) [.fr (tb m rs), .fr (tb k es), a0, a3, .ow (.lst ((pre ++ [s]).map tI)), a] .non = .ok (.rt (.lst ((pre ++ lineS rs es s run).map tI)) .non)
  | [], pre, s, a, hs, hl => .inl ⟨a, rfl⟩
  | x :: run, pre, s, a, hs, hl => by
    rw [List.length_cons] at hl
    have e1 := f28 s hs
    have hix : ixD (.lst ((pre ++ [s]).map tI)) (.int (-1)) = .ok (tI s) := by
      rw [List.map_append]
      exact ixL_last _ _
    have hin := isin_mv x (mvS rs es s)
    rw [List.map_cons]
    unfold forD
    by_cases hx : x ∈ mvS rs es s
    · have e2 := f30 s hs x hx
      have ll : (pre ++ [s]).length < LIM := by rw [List.length_append]; unfold LIM; simp; omega
      have step : ((bindT (.nm 5) (mvD x) [.fr (tb m rs), .fr (tb k es), a0, a3, .ow (.lst ((pre ++ [s]).map tI)), a]).bind fun env => evSs cl (.cons (.ite (.cmp .notin (.loc 5) (.call 28 (.cons (.loc 0) (.cons (.loc 1) (.cons (.ix (.bor 4) (.neg (.cst (.int 1)))) .nil))))) (.cons (.frz [4])
 (.cons (.ret (.loc 4))
 .nil)) .nil)
 (.cons (.app 4 (.call 30 (.cons (.ix (.bor 4) (.neg (.cst (.int 1)))) (.cons (.loc 5) .nil))))
 .nil)) env .non) = .ok (.nx [.fr (tb m rs), .fr (tb k es), a0, a3, .ow (.lst (((pre ++ [s]) ++ [movedS s x]).map tI)), .fr (mvD x)] .non) := by
        rw [List.map_append (l₁ := pre ++ [s])]
        generalize (pre ++ [s]) = P at hix ll
        simp [hix, e1, hin, hx, e2, ll]
      rw [step]
      simp only [b_ok]
      have eL : pre ++ lineS rs es s (x :: run) = (pre ++ [s]) ++ lineS rs es (movedS s x) run := by
        conv => lhs; unfold lineS
        rw [if_pos hx]; simp
      rw [eL]
      exact line_loop T f28 f30 run (pre ++ [s]) (movedS s x) (.fr (mvD x)) (movedS_ok T hs hx) (by rw [List.length_append]; simp; omega)
    · have eL : pre ++ lineS rs es s (x :: run) = pre ++ [s] := by
        conv => lhs; unfold lineS
        rw [if_neg hx]
      rw [eL]
      refine .inr ?_
      generalize (pre ++ [s]) = P at hix
      simp [hix, e1, hin, hx, frzE]
theorem ev_line_in {m k : Int} {rs es : List (List Int)} {st : List Int} {run : List Mv} (T : ∀ k ∈ rs, RuleOk m k) (hl : rs.length ≤ 100) (W : ∀ e ∈ es, EdgeOk k e) (hw : es.length ≤ 100) (s : StaOk m k st) (hr : run.length ≤ 900) :
    callD (GL c) (n + 3) 34 .non [tb m rs, tb k es, tI st, runD run] = .ok (.lst ((lineS rs es st run).map tI), .non) := by
  refine call_eq (G34 c) (env := [.fr (tb m rs), .fr (tb k es), .fr (tI st), .fr (runD run), .no, .no]) rfl rfl rfl ?_
  refine ok_nx (env' := [.fr (tb m rs), .fr (tb k es), .fr (tI st), .fr (runD run), .ow (.lst (([] ++ [st]).map tI)), .no]) (r' := .non) (by simp [objD]) ?_
  have key := line_loop (cl := callD (GL c) (n + 2)) (a0 := .fr (tI st)) (a3 := .fr (runD run)) T (fun s hs => ev_moves_in T hl W hw hs) (fun s hs x hx => ev_moved W hs hx) run [] st .no s (by simp; omega)
  refine st_ok ?_
  rw [s_for, i_seq]
  simp only [e_loc, get0, List.getElem?_cons_succ, locR_fr, b_ok, runD, seqD]
  simp only [List.nil_append, runD] at key ⊢
  rcases key with ⟨a', key⟩ | key
  · rw [key]
    exact Ok.ok (ok_nx (env' := [.fr (tb m rs), .fr (tb k es), .fr (tI st), .fr (.tup (run.map mvD)), .fr (.lst ((lineS rs es st run).map tI)), a']) (r' := .non) (by simp [frzE]) (ok_rt (d := .lst ((lineS rs es st run).map tI)) (r' := .non) (by simp) rfl))
  · rw [key]
    exact Ok.ok rfl
/-- what shows_round says of a start and a run -/
def rndB (rs : List (List Int)) (k : Int) (st : List Int) (run : List Mv) : Bool := !run.isEmpty && (goodRun rs (fullE k) st run && decide (sortI (endRun st run) = sortI st))
theorem ev_shows_round {m k : Int} {rs : List (List Int)} {st : List Int} {run : List Mv} (T : TabOk m rs) (k1 : 1 ≤ k) (k8 : k ≤ 8) (s : StaOk m k st) (hr : run.length ≤ 100) (h4 : ∀ x ∈ run, M4 x) : callD (GL c) (n + 4) 84 .non [tb m rs, .tup [tI st, runD run]] = .ok (.bl (rndB rs k st run), .non) := by
  have t1 := T.lo; have t2 := T.hi; have t3 := T.len
  have sl := s.len
  have W := fullE_ok k1 k8
  refine call_eq (G84 c) (env := [.fr (tb m rs), .fr (.tup [tI st, runD run]), .no, .no, .no, .no, .no]) rfl rfl rfl ?_
  refine ok_nx (env' := [.fr (tb m rs), .fr (.tup [tI st, runD run]), .no, .no, .no, .no, .no]) (r' := .non) (by simp [ev_need_table T]) ?_
  refine ok_nx (env' := [.fr (tb m rs), .fr (.tup [tI st, runD run]), .no, .no, .no, .no, .no]) (r' := .non) (by simp [isiT]) ?_
  refine ok_nx (env' := [.fr (tb m rs), .fr (.tup [tI st, runD run]), .fr (tI st), .fr (runD run), .no, .no, .no]) (r' := .non) (by simp) ?_
  have hlc : evE (callD (GL c) (n + 3)) (.lc (.loc 4) (.nm 4) (.seq (.loc 2)) (.cons (.not (.call 0 (.cons (.loc 4) (.cons (.cst (.int 0)) (.cons (.bin .sub (.ix (.loc 0) (.cst (.int 0))) (.cst (.int 1))) .nil))))) .nil) [4]) [.fr (tb m rs), .fr (.tup [tI st, runD run]), .fr (tI st), .fr (runD run), .no, .no, .no] .non = .ok (.lst [], .non) := by
    refine lc_none (ds := st.map D.int) rfl rfl (by rw [List.length_map]; show _ ≤ (1000000 : Nat); omega) fun d hd => ?_
    obtain ⟨z, hz, rfl⟩ := List.mem_map.mp hd
    have := s.bd z hz
    simp (disch := omega) [wipeE, ev_in]
  refine ok_nx (env' := [.fr (tb m rs), .fr (.tup [tI st, runD run]), .fr (tI st), .fr (runD run), .no, .no, .no]) (r' := .non) ?_ ?_
  · have h1 : (1 : Int) ≤ st.length := by omega
    have h2 : (st.length : Int) ≤ 8 := by omega
    simp [h1, h2, hlc]
  have fw : callD (GL c) (n + 3) 82 .non [.int (st.length : Int)] = .ok (tb k (fullE k), .non) := by rw [sl]; exact ev_full_web k1 k8
  refine ok_nx (env' := [.fr (tb m rs), .fr (.tup [tI st, runD run]), .fr (tI st), .fr (runD run), .no, .fr (tb k (fullE k)), .no]) (r' := .non) (by simp [fw]) ?_
  have lr : biD .len [runD run] = .ok (.int (run.length : Int)) := by
    show R.ok (D.int ((run.map mvD).length : Nat)) = _
    rw [List.length_map]
  have ti : ∀ ts, biD (.isi ts) [runD run] = .ok (.bl (ts.any fun t => isiT .tuple t)) := fun _ => rfl
  have h100 : (run.length : Int) ≤ 100 := by omega
  cases run with
  | nil => exact ok_ite (p := true) (r1 := .non) (by simp [ti, lr, isiT]) (fun _ => ok_rt (d := .bl (rndB rs k st [])) (r' := .non) (by simp [rndB]) rfl) fun h => by cases h
  | cons x0 r0 =>
    have hne : (x0 :: r0).isEmpty = false := rfl
    have h1 : (1 : Int) ≤ (x0 :: r0).length := by rw [List.length_cons]; omega
    generalize x0 :: r0 = run at *
    refine ok_nx (env' := [.fr (tb m rs), .fr (.tup [tI st, runD run]), .fr (tI st), .fr (runD run), .no, .fr (tb k (fullE k)), .no]) (r' := .non) (by simp [ti, lr, isiT, h1, h100]) ?_
    have hf := lc_filter (cl := callD (GL c) (n + 3)) (env := [.fr (tb m rs), .fr (.tup [tI st, runD run]), .fr (tI st), .fr (runD run), .no, .fr (tb k (fullE k)), .no]) (r := .non) (x := runD run) (e := .loc 3) (ds := run.map mvD) (pe := .not (.call 31 (.cons (.loc 0) (.cons (.loc 5) (.cons (.loc 4) .nil))))) (i := 4)
      (fun d => match callD (GL c) (n + 3) 31 .non [tb m rs, tb k (fullE k), d] with
        | .ok (.bl b, _) => !b
        | _ => true) (by simp) rfl (by rw [List.length_map]; show _ ≤ (1000000 : Nat); omega) (fun d hd => by
        obtain ⟨x, hx, rfl⟩ := List.mem_map.mp hd
        simp [wipeE, ev_is_move (h4 x hx)]) (fun d => by simp [wipeE])
    have ef : (run.map mvD).filter (fun d => match callD (GL c) (n + 3) 31 .non [tb m rs, tb k (fullE k), d] with
        | .ok (.bl b, _) => !b
        | _ => true) = (run.filter fun x => !mvB m k x).map mvD := by
      rw [List.filter_map]
      congr 1
      exact List.filter_congr fun x hx => by simp only [Function.comp, ev_is_move (h4 x hx)]
    rw [ef] at hf
    have eb : eqG (.lst ((run.filter fun x => !mvB m k x).map mvD)) (.lst []) = .ok (run.filter fun x => !mvB m k x).isEmpty := by
      rw [eqG_lst0 (sh_mvs 57 _)]
      cases run.filter fun x => !mvB m k x <;> rfl
    have cond : evE (callD (GL c) (n + 3)) (.cmp .ne (.lc (.loc 4) (.nm 4) (.seq (.loc 3)) (.cons (.not (.call 31 (.cons (.loc 0) (.cons (.loc 5) (.cons (.loc 4) .nil))))) .nil) [4]) (.lst .nil)) [.fr (tb m rs), .fr (.tup [tI st, runD run]), .fr (tI st), .fr (runD run), .no, .fr (tb k (fullE k)), .no] .non = .ok (.bl (!(run.filter fun x => !mvB m k x).isEmpty), .non) := by
      rw [e_cmp, hf]
      simp only [b_ok, e_lst, es_nil, c_ne, eb]
    refine ok_ite (p := !(run.filter fun x => !mvB m k x).isEmpty) (r1 := .non) cond (fun hp => ?_) fun hp => ?_
    · refine ok_rt (d := .bl (rndB rs k st run)) (r' := .non) ?_ rfl
      have : goodRun rs (fullE k) st run = false := by
        cases hg : goodRun rs (fullE k) st run with
        | false => rfl
        | true =>
          have := good_mv (m := m) (k := k) T.ru W.ed run st hg
          have : run.filter (fun x => !mvB m k x) = [] := List.filter_eq_nil_iff.mpr fun x hx => by simp [this x hx]
          rw [this] at hp; cases hp
      simp [rndB, this]
    · have ei : callD (GL c) (n + 3) 34 .non [tb m rs, tb k (fullE k), tI st, runD run] = .ok (.lst ((lineS rs (fullE k) st run).map tI), .non) := ev_line_in T.ru (by omega) W.ed W.len s (by omega)
      obtain ⟨q1, q2⟩ := lineS_len rs (fullE k) run st
      refine ok_nil (ok_nx (env' := [.fr (tb m rs), .fr (.tup [tI st, runD run]), .fr (tI st), .fr (runD run), .no, .fr (tb k (fullE k)), .fr (.lst ((lineS rs (fullE k) st run).map tI))]) (r' := .non) (by simp [ei]) ?_)
      refine ok_rt (d := .bl (rndB rs k st run)) (r' := .non) ?_ rfl
      cases hg : goodRun rs (fullE k) st run with
      | false =>
        have := q2 hg
        have nl : ¬ (run.length : Int) < (lineS rs (fullE k) st run).length := by omega
        simp [lr, nl, rndB, hg]
      | true =>
        obtain ⟨l1, l, l2⟩ := q1 hg
        have es := end_sta T.ru run st s hg
        have esl := es.len
        have hix : ixD (.lst ((lineS rs (fullE k) st run).map tI)) (.int (-1)) = .ok (tI (endRun st run)) := by
          rw [l2, List.map_append]
          exact ixL_last _ _
        have yl : (run.length : Int) < (lineS rs (fullE k) st run).length := by omega
        have s1 := sorted_intsT (ns := endRun st run) (by unfold LIM; omega)
        have s2 := sorted_intsT (ns := st) (by unfold LIM; omega)
        have lb : biD .len [.lst ((lineS rs (fullE k) st run).map tI)] = .ok (.int ((lineS rs (fullE k) st run).length : Nat)) := by
          show R.ok (D.int (((lineS rs (fullE k) st run).map tI).length : Nat)) = _
          rw [List.length_map]
        generalize (lineS rs (fullE k) st run).map tI = L at hix lb
        simp [lb, lr, yl, hix, s1, s2, eqG_lI, rndB, hg, hne]
end
end PLX

set_option Elab.async false
set_option linter.all false
set_option maxRecDepth 100000
set_option autoImplicit false
set_option maxHeartbeats 400000
namespace PLX
open PySem PL
/-- [y for t in l if p], l walked as it is -/
theorem lc_fm {cl : Cl} {env : Env'} {r : D} {el pe : E} {tg : Tg} {it : It} {own : List Nat} {ds : List D} (p : D → Bool) (g : D → D) (hi : evIt cl it env r = .ok (ds, r)) (hl : ds.length ≤ LIM)
    (h : ∀ d ∈ ds, ∃ e1, bindT tg d (wipeE env own) = .ok e1 ∧ evE cl pe e1 r = .ok (.bl (p d), r) ∧ evE cl el e1 r = .ok (g d, r)) : evE cl (.lc el tg it (.cons pe .nil) own) env r = .ok (.lst ((ds.filter p).map g), r) := by
  rw [e_lc, hi]
  simp only [b_ok]
  rw [if_pos hl, lcD_pure (g := fun d => if p d then some (g d) else none) (fun d hd => by
    obtain ⟨e1, h1, h2, h3⟩ := h d hd
    simp only [h1, b_ok]
    simp [h2]
    cases p d <;> simp [h3])]
  simp only [c_ok, b_ok]
  congr 3
  clear h hl hi
  induction ds with
  | nil => rfl
  | cons d ds ih =>
    rw [List.filterMap_cons, List.filter_cons]
    cases p d <;> simp [ih]
section
variable {c : Fd} {n : Nat}
theorem ev_l_kinds {r : D} {k m : Int} (hr : RowI r) (k0 : 0 ≤ k) (k1 : k ≤ 1000) (m1 : 1 ≤ m) (m2 : m ≤ 1000) : Ok (callD (GL c) (n + 2) 38 r [.int k, .int m]) fun p => ∃ st, p.1 = tI st ∧ StaOk m k st ∧ RowI p.2 := by
  refine call_ok (G38 c) (env := [.no, .fr (.int k), .fr (.int m), .no]) (by rw [hr.ok]; rfl) rfl rfl ?_
  refine st_ok ?_
  rw [s_ret]
  refine Ok.bind ?_
  refine oe_bi (Ok.mono ?_ fun p hp => hp)
  refine oe_cons ?_
  refine oe_lc (r1 := r) (ds := (rgI 0 k).map D.int) (fun i acc r => RowI r ∧ ∃ st : List Int, acc = st.map D.int ∧ st.length = i ∧ ∀ z ∈ st, 0 ≤ z ∧ z < m) (it_rng1 k0 (by omega) (by simp)) (by rw [List.length_map, rgI_len]; unfold LIM; omega) ⟨hr, [], rfl, rfl, fun _ h => by cases h⟩ (fun i d acc r hd hI => ?_) fun out r hI => ?_
  · obtain ⟨hr, st, rfl, rfl, hb⟩ := hI
    have q : (bindT (.nm 3) d (wipeE [.no, .fr (.int k), .fr (.int m), .no] [3])) = .ok [.no, .fr (.int k), .fr (.int m), .fr d] := by simp [wipeE]
    rw [q]
    simp only [b_ok, ec_nil]
    refine Ok.bind ?_
    refine oe_take (m := m) hr (by omega) (by omega) (by simp) fun v r' v0 v1 hr' => Ok.ok ?_
    refine ⟨hr', st ++ [v], by simp, by simp, fun z hz => ?_⟩
    rcases List.mem_append.mp hz with hz | hz
    · exact hb z hz
    · rw [List.mem_singleton] at hz; subst hz; exact ⟨v0, v1⟩
  · obtain ⟨hr, st, rfl, hl, hb⟩ := hI
    rw [List.length_map, rgI_len] at hl
    refine oe_nil ?_
    refine Ok.of (a := tI st) rfl ?_
    refine Ok.ok ?_
    exact ⟨st, rfl, ⟨by omega, hb⟩, hr⟩
theorem alike_ti (ds : List D) (i : Int) : callD (GL c) (n + 1) 14 .non [.tup ds, .int i] = .ok (.bl false, .non) := by
  refine call_eq (G14 c) (env := [.fr (.tup ds), .fr (.int i), .no]) rfl rfl rfl ?_
  exact ok_nx (env' := [.fr (.tup ds), .fr (.int i), .no]) (r' := .non) (by simp [isiT]) (ok_nx (env' := [.fr (.tup ds), .fr (.int i), .no]) (r' := .non) (by simp [isiT, isNonD]) (ok_rt (d := .bl false) (r' := .non) (by simp [isiT]) rfl))
theorem alike_mv (x y : Mv) (h1 : y.1.length ≤ 1000000) (h2 : y.2.length ≤ 1000000) : callD (GL c) (n + 3) 14 .non [mvD x, mvD y] = .ok (.bl (decide (x = y)), .non) := by
  obtain ⟨a, b⟩ := x
  obtain ⟨u, v⟩ := y
  have := alike_seq (c := c) (n := n + 2) (xs := [tI a, tI b]) (ys := [tI u, tI v]) true (fun i => if i = 0 then decide (a = u) else decide (b = v)) rfl (by simp) (fun j x y hx hy => by
    match j with
    | 0 => cases hx; cases hy; exact alike_tI a u h1
    | 1 => cases hx; cases hy; exact alike_tI b v h2
    | j + 2 => simp at hx)
  have e : decide ((a, b) = (u, v)) = (rgI 0 2).all (fun i => if i = 0 then decide (a = u) else decide (b = v)) := by
    rw [show rgI 0 2 = [0, 1] from by decide, List.all_cons, List.all_cons, List.all_nil, if_pos rfl, if_neg (by decide), Bool.and_true, Bool.eq_iff_iff, Bool.and_eq_true, decide_eq_true_eq, decide_eq_true_eq, decide_eq_true_eq, Prod.mk.injEq]
  rw [e]
  exact this
theorem alike_mo (x : Mv) (a b : Int) : callD (GL c) (n + 2) 14 .non [mvD x, tI [a, b]] = .ok (.bl false, .non) := by
  obtain ⟨p, q⟩ := x
  have := alike_seq (c := c) (n := n + 1) (xs := [tI p, tI q]) (ys := [.int a, .int b]) true (fun i => false) rfl (by simp) (fun j x y hx hy => by
    match j with
    | 0 => cases hx; cases hy; exact alike_ti _ _
    | 1 => cases hx; cases hy; exact alike_ti _ _
    | j + 2 => simp at hx)
  exact this
/-- a start and something that is no tuple -/
theorem shows_notup {m k : Int} {rs : List (List Int)} {st : List Int} {d : D} (T : TabOk m rs) (k1 : 1 ≤ k) (k8 : k ≤ 8) (s : StaOk m k st) (hd : biD (.isi [.tuple]) [d] = .ok (.bl false)) : callD (GL c) (n + 4) 84 .non [tb m rs, .tup [tI st, d]] = .ok (.bl false, .non) := by
  have t1 := T.lo; have t2 := T.hi; have t3 := T.len
  have sl := s.len
  refine call_eq (G84 c) (env := [.fr (tb m rs), .fr (.tup [tI st, d]), .no, .no, .no, .no, .no]) rfl rfl rfl ?_
  refine ok_nx (env' := [.fr (tb m rs), .fr (.tup [tI st, d]), .no, .no, .no, .no, .no]) (r' := .non) (by simp [ev_need_table T]) ?_
  refine ok_nx (env' := [.fr (tb m rs), .fr (.tup [tI st, d]), .no, .no, .no, .no, .no]) (r' := .non) (by simp [isiT]) ?_
  refine ok_nx (env' := [.fr (tb m rs), .fr (.tup [tI st, d]), .fr (tI st), .fr d, .no, .no, .no]) (r' := .non) (by simp) ?_
  have hlc : evE (callD (GL c) (n + 3)) (.lc (.loc 4) (.nm 4) (.seq (.loc 2)) (.cons (.not (.call 0 (.cons (.loc 4) (.cons (.cst (.int 0)) (.cons (.bin .sub (.ix (.loc 0) (.cst (.int 0))) (.cst (.int 1))) .nil))))) .nil) [4]) [.fr (tb m rs), .fr (.tup [tI st, d]), .fr (tI st), .fr d, .no, .no, .no] .non = .ok (.lst [], .non) := by
    refine lc_none (ds := st.map D.int) rfl rfl (by rw [List.length_map]; show _ ≤ (1000000 : Nat); omega) fun d hd => ?_
    obtain ⟨z, hz, rfl⟩ := List.mem_map.mp hd
    have := s.bd z hz
    simp (disch := omega) [wipeE, ev_in]
  refine ok_nx (env' := [.fr (tb m rs), .fr (.tup [tI st, d]), .fr (tI st), .fr d, .no, .no, .no]) (r' := .non) ?_ ?_
  · have h1 : (1 : Int) ≤ st.length := by omega
    have h2 : (st.length : Int) ≤ 8 := by omega
    simp [h1, h2, hlc]
  have fw : callD (GL c) (n + 3) 82 .non [.int (st.length : Int)] = .ok (tb k (fullE k), .non) := by rw [sl]; exact ev_full_web k1 k8
  refine ok_nx (env' := [.fr (tb m rs), .fr (.tup [tI st, d]), .fr (tI st), .fr d, .no, .fr (tb k (fullE k)), .no]) (r' := .non) (by simp [fw]) ?_
  exact ok_ite (p := true) (r1 := .non) (by simp [hd]) (fun _ => ok_rt (d := .bl false) (r' := .non) (by simp) rfl) fun h => by cases h
/-- a run with something that is no move -/
theorem shows_nomove {m k : Int} {rs : List (List Int)} {st : List Int} {a b : Int} (T : TabOk m rs) (k1 : 1 ≤ k) (k8 : k ≤ 8) (s : StaOk m k st) : callD (GL c) (n + 4) 84 .non [tb m rs, .tup [tI st, .tup [tI [a, b]]]] = .ok (.bl false, .non) := by
  have t1 := T.lo; have t2 := T.hi; have t3 := T.len
  have sl := s.len
  refine call_eq (G84 c) (env := [.fr (tb m rs), .fr (.tup [tI st, .tup [tI [a, b]]]), .no, .no, .no, .no, .no]) rfl rfl rfl ?_
  refine ok_nx (env' := [.fr (tb m rs), .fr (.tup [tI st, .tup [tI [a, b]]]), .no, .no, .no, .no, .no]) (r' := .non) (by simp [ev_need_table T]) ?_
  refine ok_nx (env' := [.fr (tb m rs), .fr (.tup [tI st, .tup [tI [a, b]]]), .no, .no, .no, .no, .no]) (r' := .non) (by simp [isiT]) ?_
  refine ok_nx (env' := [.fr (tb m rs), .fr (.tup [tI st, .tup [tI [a, b]]]), .fr (tI st), .fr (.tup [tI [a, b]]), .no, .no, .no]) (r' := .non) (by simp) ?_
  have hlc : evE (callD (GL c) (n + 3)) (.lc (.loc 4) (.nm 4) (.seq (.loc 2)) (.cons (.not (.call 0 (.cons (.loc 4) (.cons (.cst (.int 0)) (.cons (.bin .sub (.ix (.loc 0) (.cst (.int 0))) (.cst (.int 1))) .nil))))) .nil) [4]) [.fr (tb m rs), .fr (.tup [tI st, .tup [tI [a, b]]]), .fr (tI st), .fr (.tup [tI [a, b]]), .no, .no, .no] .non = .ok (.lst [], .non) := by
    refine lc_none (ds := st.map D.int) rfl rfl (by rw [List.length_map]; show _ ≤ (1000000 : Nat); omega) fun d hd => ?_
    obtain ⟨z, hz, rfl⟩ := List.mem_map.mp hd
    have := s.bd z hz
    simp (disch := omega) [wipeE, ev_in]
  refine ok_nx (env' := [.fr (tb m rs), .fr (.tup [tI st, .tup [tI [a, b]]]), .fr (tI st), .fr (.tup [tI [a, b]]), .no, .no, .no]) (r' := .non) ?_ ?_
  · have h1 : (1 : Int) ≤ st.length := by omega
    have h2 : (st.length : Int) ≤ 8 := by omega
    simp [h1, h2, hlc]
  have fw : callD (GL c) (n + 3) 82 .non [.int (st.length : Int)] = .ok (tb k (fullE k), .non) := by rw [sl]; exact ev_full_web k1 k8
  refine ok_nx (env' := [.fr (tb m rs), .fr (.tup [tI st, .tup [tI [a, b]]]), .fr (tI st), .fr (.tup [tI [a, b]]), .no, .fr (tb k (fullE k)), .no]) (r' := .non) (by simp [fw]) ?_
  refine ok_nx (env' := [.fr (tb m rs), .fr (.tup [tI st, .tup [tI [a, b]]]), .fr (tI st), .fr (.tup [tI [a, b]]), .no, .fr (tb k (fullE k)), .no]) (r' := .non) (by simp [isiT]) ?_
  have c24 : callD (GL c) (n + 2) 24 .non [.int a, .int k] = .ok (.bl false, .non) := by
    refine call_eq (G24 c) (env := [.fr (.int a), .fr (.int k), .no]) rfl rfl rfl ?_
    refine ok_ite (p := true) (r1 := .non) (by simp [isiT]) (fun _ => ok_rt (d := .bl false) (r' := .non) (by simp) rfl) fun h => by cases h
  have mv : callD (GL c) (n + 3) 31 .non [tb m rs, tb k (fullE k), tI [a, b]] = .ok (.bl false, .non) := by
    refine call_eq (G31 c) (env := [.fr (tb m rs), .fr (tb k (fullE k)), .fr (tI [a, b]), .no]) rfl rfl rfl ?_
    exact ok_ite (p := true) (r1 := .non) (by simp [isiT, tI2, c24]) (fun _ => ok_rt (d := .bl false) (r' := .non) (by simp) rfl) fun h => by cases h
  have hf := lc_filter (cl := callD (GL c) (n + 3)) (env := [.fr (tb m rs), .fr (.tup [tI st, .tup [tI [a, b]]]), .fr (tI st), .fr (.tup [tI [a, b]]), .no, .fr (tb k (fullE k)), .no]) (r := .non) (x := .tup [tI [a, b]]) (e := .loc 3) (ds := [tI [a, b]]) (pe := .not (.call 31 (.cons (.loc 0) (.cons (.loc 5) (.cons (.loc 4) .nil))))) (i := 4)
      (fun d => true) (by simp) rfl (by show 1 ≤ (1000000 : Nat); omega) (fun d hd => by
      rw [List.mem_singleton] at hd
      subst hd
      simp [wipeE, mv]) (fun d => by simp [wipeE])
  have eb : eqG (.lst ([tI [a, b]].filter fun _ => true)) (.lst []) = .ok false := by
    rw [eqG_lst0 (by exact sh_tIs 58 [[a, b]])]
    rfl
  have cond : evE (callD (GL c) (n + 3)) (.cmp .ne (.lc (.loc 4) (.nm 4) (.seq (.loc 3)) (.cons (.not (.call 31 (.cons (.loc 0) (.cons (.loc 5) (.cons (.loc 4) .nil))))) .nil) [4]) (.lst .nil)) [.fr (tb m rs), .fr (.tup [tI st, .tup [tI [a, b]]]), .fr (tI st), .fr (.tup [tI [a, b]]), .no, .fr (tb k (fullE k)), .no] .non = .ok (.bl true, .non) := by
    rw [e_cmp, hf]
    simp only [b_ok, e_lst, es_nil, c_ne, eb]
    rfl
  exact ok_ite (p := true) (r1 := .non) cond (fun _ => ok_rt (d := .bl false) (r' := .non) (by simp) rfl) fun h => by cases h
/-- the first row says no -/
theorem shows_odd1 {m : Int} {rs : List (List Int)} {d : D} (T : TabOk m rs) (h : evE (callD (GL c) (n + 3)) (.or (.not (.bi (.isi [.tuple]) (.cons (.loc 1) .nil))) (.or (.cmp .ne (.bi .len (.cons (.loc 1) .nil)) (.cst (.int 2))) (.not (.bi (.isi [.tuple]) (.cons (.ix (.loc 1) (.cst (.int 0))) .nil))))) [.fr (tb m rs), .fr d, .no, .no, .no, .no, .no] .non = .ok (.bl true, .non)) : callD (GL c) (n + 4) 84 .non [tb m rs, d] = .ok (.bl false, .non) := by
  refine call_eq (G84 c) (env := [.fr (tb m rs), .fr d, .no, .no, .no, .no, .no]) rfl rfl rfl ?_
  refine ok_nx (env' := [.fr (tb m rs), .fr d, .no, .no, .no, .no, .no]) (r' := .non) (by simp [ev_need_table T]) ?_
  exact ok_ite (p := true) (r1 := .non) h (fun _ => ok_rt (d := .bl false) (r' := .non) (by simp) rfl) fun h => by cases h
/-- a start that is none -/
theorem shows_nostart {m : Int} {rs : List (List Int)} {st : List Int} {d : D} (T : TabOk m rs) (h : (¬ ((1 : Int) ≤ st.length ∧ (st.length : Int) ≤ 8)) ∨ ∃ z ∈ st, ¬ (0 ≤ z ∧ z < m)) (hs : st.length ≤ 1000) : callD (GL c) (n + 4) 84 .non [tb m rs, .tup [tI st, d]] = .ok (.bl false, .non) := by
  refine call_eq (G84 c) (env := [.fr (tb m rs), .fr (.tup [tI st, d]), .no, .no, .no, .no, .no]) rfl rfl rfl ?_
  refine ok_nx (env' := [.fr (tb m rs), .fr (.tup [tI st, d]), .no, .no, .no, .no, .no]) (r' := .non) (by simp [ev_need_table T]) ?_
  refine ok_nx (env' := [.fr (tb m rs), .fr (.tup [tI st, d]), .no, .no, .no, .no, .no]) (r' := .non) (by simp [isiT]) ?_
  refine ok_nx (env' := [.fr (tb m rs), .fr (.tup [tI st, d]), .fr (tI st), .fr d, .no, .no, .no]) (r' := .non) (by simp) ?_
  refine ok_ite (p := true) (r1 := .non) ?_ (fun _ => ok_rt (d := .bl false) (r' := .non) (by simp) rfl) fun h => by cases h
  by_cases q : (1 : Int) ≤ st.length ∧ (st.length : Int) ≤ 8
  · have hlc := lc_ints (cl := callD (GL c) (n + 3)) (env := [.fr (tb m rs), .fr (.tup [tI st, d]), .fr (tI st), .fr d, .no, .no, .no]) (r := .non) (x := tI st) (e := .loc 2) (pe := .not (.call 0 (.cons (.loc 4) (.cons (.cst (.int 0)) (.cons (.bin .sub (.ix (.loc 0) (.cst (.int 0))) (.cst (.int 1))) .nil))))) (i := 4) (l := st) (fun z => !(decide (0 ≤ z) && decide (z ≤ m - 1))) (by simp) rfl (by omega) (fun z _ => by simp [wipeE, ev_is_in]) (fun d => by simp [wipeE])
    have eb : eqG (.lst ((st.filter fun z => !(decide (0 ≤ z) && decide (z ≤ m - 1))).map D.int)) (.lst []) = .ok false := by
      rw [eqG_lst0 (sh_ints _ _)]
      congr 1
      rw [Bool.eq_false_iff]
      intro e
      rw [List.isEmpty_iff, List.map_eq_nil_iff, List.filter_eq_nil_iff] at e
      rcases h with h | ⟨z, hz, h⟩
      · exact h q
      · have := e z hz
        simp at this
        omega
    rw [e_or]
    have v1 : evE (callD (GL c) (n + 3)) (.not (.chain .le .le (.cst (.int 1)) (.bi .len (.cons (.loc 2) .nil)) (.cst (.int 8)))) [.fr (tb m rs), .fr (.tup [tI st, d]), .fr (tI st), .fr d, .no, .no, .no] .non = .ok (.bl false, .non) := by
      simp [q.1, q.2]
    rw [v1]
    simp only [b_ok, asB_bl]
    rw [e_cmp, hlc]
    simp only [b_ok, e_lst, es_nil, c_ne, eb]
    rfl
  · by_cases q1 : (1 : Int) ≤ st.length
    · have q2 : ¬ (st.length : Int) ≤ 8 := fun h => q ⟨q1, h⟩
      simp [q1, q2]
    · simp [q1]
end
end PLX

set_option Elab.async false
set_option linter.all false
set_option maxRecDepth 100000
set_option autoImplicit false
set_option maxHeartbeats 400000
namespace PLX
open PySem PL
/-! ### sums over kinds at rest beside one another -/
theorem sum_lI (l : List Int) : biD .sum [.lst (l.map D.int)] = .ok (.int l.sum) := by
  show (match intsD (l.map D.int) with
    | some ns => R.ok (D.int ns.sum)
    | none => .no) = _
  rw [intsD_map]
def cB (rs : List (List Int)) (x y : Int) : Bool := (resS rs x y).isEmpty
/-- the sum over the entries from place i on, those at rest beside k -/
def calmF (rs : List (List Int)) (k : Int) : Nat → List Int → Int
  | _, [] => 0
  | i, x :: r => (if cB rs (i : Nat) k then x else 0) + calmF rs k (i + 1) r
def calmV (rs : List (List Int)) (rows : List Int) (k : Int) : Int := calmF rs k 0 rows
def stepV (rs : List (List Int)) (m : Int) (rows : List Int) : List Int := (rgI 0 m).map (calmV rs rows)
def iterV (rs : List (List Int)) (m : Int) : Nat → List Int → List Int
  | 0, v => v
  | p + 1, v => stepV rs m (iterV rs m p v)
section
variable {c : Fd} {n : Nat}
def enP (rs : List (List Int)) (k : Int) (d : D) : Bool := match d with
  | .tup [.int i, _] => cB rs i k
  | _ => false
def enG (d : D) : D := match d with
  | .tup [_, x] => x
  | _ => .non
theorem calm_list (rs : List (List Int)) (k : Int) : ∀ (rows : List Int) (i : Nat), ∃ l : List Int, ((enumD i (rows.map D.int)).filter (enP rs k)).map enG = l.map D.int ∧ l.sum = calmF rs k i rows
  | [], i => ⟨[], rfl, rfl⟩
  | x :: r, i => by
    obtain ⟨l, h1, h2⟩ := calm_list rs k r (i + 1)
    rw [List.map_cons]
    unfold enumD calmF
    rw [List.filter_cons]
    by_cases h : cB rs (i : Nat) k = true
    · rw [if_pos (show enP rs k (.tup [.int (i : Nat), .int x]) = true from h), if_pos h]
      exact ⟨x :: l, by rw [List.map_cons, h1]; rfl, by rw [List.sum_cons, h2]⟩
    · rw [if_neg (show ¬ enP rs k (.tup [.int (i : Nat), .int x]) = true from h), if_neg h]
      exact ⟨l, h1, by rw [h2, Int.zero_add]⟩
theorem sh_resS (rs : List (List Int)) (x y : Int) : eqG (.lst ((resS rs x y).map tI)) (.lst []) = .ok (cB rs x y) := by
  rw [eqG_lst0 (sh_tIs 58 _)]
  unfold cB
  cases resS rs x y <;> rfl
theorem ev_calm_sum {m k : Int} {rs : List (List Int)} {rows : List Int} (T : ∀ k ∈ rs, RuleOk m k) (hl : rs.length ≤ 1000) (hr : rows.length ≤ 1000) : callD (GL c) (n + 2) 101 .non [tb m rs, .lst (rows.map D.int), .int k] = .ok (.int (calmV rs rows k), .non) := by
  refine call_eq (G101 c) (env := [.fr (tb m rs), .fr (.lst (rows.map D.int)), .fr (.int k), .no, .no]) rfl rfl rfl ?_
  have hf := lc_fm (cl := callD (GL c) (n + 1)) (env := [.fr (tb m rs), .fr (.lst (rows.map D.int)), .fr (.int k), .no, .no]) (r := .non) (el := .loc 4) (pe := .cmp .eq (.call 4 (.cons (.loc 0) (.cons (.tup (.cons (.loc 3) (.cons (.loc 2) .nil))) .nil))) (.lst .nil)) (tg := .tp [.nm 3, .nm 4]) (it := .enum (.loc 1)) (own := [3, 4]) (ds := enumD 0 (rows.map D.int)) (enP rs k) enG (by simp [seqD]) (by rw [enumD_len, List.length_map]; show _ ≤ (1000000 : Nat); omega) (fun d hd => by
    obtain ⟨i, hi⟩ := List.getElem?_of_mem hd
    obtain ⟨x, _, rfl⟩ := enum_get _ _ _ _ hi
    refine ⟨[.fr (tb m rs), .fr (.lst (rows.map D.int)), .fr (.int k), .fr (.int (0 + i : Nat)), .fr x], by simp [wipeE], ?_, by simp [enG]⟩
    have e1 : callD (GL c) (n + 1) 4 .non [tb m rs, .tup [.int (0 + i : Nat), .int k]] = .ok (.lst ((resS rs (0 + i : Nat) k).map tI), .non) := ev_results_in T hl
    rw [e_cmp]
    simp only [e_call, es_cons, es_nil, e_loc, get0, List.getElem?_cons_succ, locR_fr, b_ok, e_tup, e1, e_lst, c_eq, sh_resS]
    rfl)
  obtain ⟨l, h1, h2⟩ := calm_list rs k rows 0
  rw [h1] at hf
  refine ok_rt (d := .int (calmV rs rows k)) (r' := .non) ?_ rfl
  rw [s_ret, e_bi, es_cons, hf]
  simp only [b_ok, es_nil, sum_lI, h2]
  rfl
theorem lc_step {cl : Cl} {env : Env'} {r : D} {el : E} {tg : Tg} {it : It} {own : List Nat} {m : Int} (f : Int → Int) (hi : evIt cl it env r = .ok ((rgI 0 m).map D.int, r)) (hm : m ≤ 1000)
    (h : ∀ z ∈ rgI 0 m, ((bindT tg (.int z) (wipeE env own)).bind fun env => evE cl el env r) = .ok (.int (f z), r)) : evE cl (.lc el tg it .nil own) env r = .ok (.lst (((rgI 0 m).map f).map D.int), r) := by
  rw [lc_mapI (fun d => match d with
    | .int z => .int (f z)
    | _ => .non) hi (by rw [List.length_map, rgI_len]; show _ ≤ (1000000 : Nat); omega) (fun d hd => by
      obtain ⟨z, hz, rfl⟩ := List.mem_map.mp hd
      exact h z hz), List.map_map, List.map_map]
  rfl
theorem stepV_len (rs : List (List Int)) (m : Int) (v : List Int) : (stepV rs m v).length = m.toNat := by
  unfold stepV; rw [List.length_map, rgI_len]; simp
theorem iterV_len (rs : List (List Int)) (m : Int) : ∀ (p : Nat) (v : List Int), v.length = m.toNat → (iterV rs m p v).length = m.toNat
  | 0, _, h => h
  | p + 1, v, _ => stepV_len _ _ _
theorem ev_row_count {m k : Int} {rs : List (List Int)} (T : TabOk m rs) (k1 : 1 ≤ k) (k30 : k ≤ 30) : callD (GL c) (n + 4) 107 .non [tb m rs, .int k] = .ok (.int (iterV rs m (k - 1).toNat (List.replicate m.toNat 1)).sum, .non) := by
  have t1 := T.lo; have t2 := T.hi; have t3 := T.len
  refine call_eq (G107 c) (env := [.fr (tb m rs), .fr (.int k), .no, .no, .no]) rfl rfl rfl ?_
  refine ok_nx (env' := [.fr (tb m rs), .fr (.int k), .no, .no, .no]) (r' := .non) (by simp [ev_need_table T]) ?_
  refine ok_nx (env' := [.fr (tb m rs), .fr (.int k), .no, .no, .no]) (r' := .non) (by simp [ev_in k1 k30]) ?_
  have e1 : op2D .mul (.lst [.int 1]) (.int m) = .ok (.lst ((List.replicate m.toNat (1 : Int)).map D.int)) := by
    show (if 1 * m.toNat ≤ LIM ∧ m < 1000000 ∧ -1000000 < m then R.ok (D.lst (List.replicate m.toNat [D.int 1]).flatten) else .no) = _
    rw [if_pos ⟨by unfold LIM; omega, by omega, by omega⟩]
    congr 2
    rw [List.map_replicate]
    generalize m.toNat = N
    induction N with
    | zero => rfl
    | succ N ih => rw [List.replicate_succ, List.flatten_cons, ih]; rfl
  refine ok_nx (env' := [.fr (tb m rs), .fr (.int k), .fr (.lst ((List.replicate m.toNat (1 : Int)).map D.int)), .no, .no]) (r' := .non) (by simp [e1]) ?_
  refine ok_for (r1 := .non) (ds := (rgI 0 (k - 1)).map D.int) (fun i e r => r = .non ∧ ∃ x3, e = [.fr (tb m rs), .fr (.int k), .fr (.lst ((iterV rs m i (List.replicate m.toNat 1)).map D.int)), x3, .no]) (it_rng1 (by omega) (by omega) (by simp)) ⟨rfl, _, rfl⟩ (fun i d e r hd hI => ?_) fun e r hI => ?_
  · obtain ⟨rfl, x3, rfl⟩ := hI
    refine ok_bindT (e1 := [.fr (tb m rs), .fr (.int k), .fr (.lst ((iterV rs m i (List.replicate m.toNat 1)).map D.int)), .fr d, .no]) (by simp) ?_
    have vl := iterV_len rs m i (List.replicate m.toNat 1) (by simp)
    have hs := lc_step (cl := callD (GL c) (n + 3)) (env := [.fr (tb m rs), .fr (.int k), .fr (.lst ((iterV rs m i (List.replicate m.toNat 1)).map D.int)), .fr d, .no]) (r := .non) (el := .call 101 (.cons (.loc 0) (.cons (.loc 2) (.cons (.loc 4) .nil)))) (tg := .nm 4) (it := .rng1 (.ix (.loc 0) (.cst (.int 0)))) (own := [4]) (m := m) (calmV rs (iterV rs m i (List.replicate m.toNat 1))) (it_rng1 (by omega) (by omega) (by simp)) (by omega) (fun z hz => by
      have := ev_calm_sum (c := c) (n := n + 1) (k := z) T.ru (by omega) (rows := iterV rs m i (List.replicate m.toNat 1)) (by omega)
      simp [wipeE, this])
    exact ok_nx (env' := [.fr (tb m rs), .fr (.int k), .fr (.lst ((iterV rs m (i + 1) (List.replicate m.toNat 1)).map D.int)), .fr d, .no]) (r' := .non) (by rw [s_asg, hs]; rfl) (ok_nil ⟨_, _, rfl, rfl, _, rfl⟩)
  · obtain ⟨rfl, x3, rfl⟩ := hI
    rw [List.length_map, rgI_len]
    refine ok_rt (d := .int (iterV rs m (k - 1).toNat (List.replicate m.toNat 1)).sum) (r' := .non) ?_ rfl
    have : (k - 1 - 0).toNat = (k - 1).toNat := by omega
    rw [this]
    simp [sum_lI]
def unitV (m a : Int) : List Int := (rgI 0 m).map fun z => if z = a then 1 else 0
def ringS (rs : List (List Int)) (m k : Int) (a : Int) : Int := calmV rs (iterV rs m (k - 1).toNat (unitV m a)) a
theorem unitV_len (m a : Int) : (unitV m a).length = m.toNat := by unfold unitV; rw [List.length_map, rgI_len]; simp
theorem ev_ring_count {m k : Int} {rs : List (List Int)} (T : TabOk m rs) (k1 : 3 ≤ k) (k30 : k ≤ 30) : callD (GL c) (n + 4) 102 .non [tb m rs, .int k] = .ok (.int ((rgI 0 m).map (ringS rs m k)).sum, .non) := by
  have t1 := T.lo; have t2 := T.hi; have t3 := T.len
  refine call_eq (G102 c) (env := [.fr (tb m rs), .fr (.int k), .no, .no, .no, .no, .no]) rfl rfl rfl ?_
  refine ok_nx (env' := [.fr (tb m rs), .fr (.int k), .no, .no, .no, .no, .no]) (r' := .non) (by simp [ev_need_table T]) ?_
  refine ok_nx (env' := [.fr (tb m rs), .fr (.int k), .no, .no, .no, .no, .no]) (r' := .non) (by simp [ev_in k1 k30]) ?_
  refine ok_nx (env' := [.fr (tb m rs), .fr (.int k), .fr (.int 0), .no, .no, .no, .no]) (r' := .non) (by simp) ?_
  refine ok_for (r1 := .non) (ds := (rgI 0 m).map D.int) (fun i e r => r = .non ∧ ∃ x3 x4 x6, e = [.fr (tb m rs), .fr (.int k), .fr (.int (((rgI 0 m).take i).map (ringS rs m k)).sum), x3, x4, .no, x6]) (it_rng1 (by omega) (by omega) (by simp)) ⟨rfl, _, _, _, rfl⟩ (fun i d e r hd hI => ?_) fun e r hI => ?_
  · obtain ⟨rfl, x3, x4, x6, rfl⟩ := hI
    rw [List.getElem?_map] at hd
    obtain ⟨a, ha, rfl⟩ := Option.map_eq_some_iff.mp hd
    have tk : ((rgI 0 m).take (i + 1)).map (ringS rs m k) = ((rgI 0 m).take i).map (ringS rs m k) ++ [ringS rs m k a] := by rw [List.take_succ, ha, List.map_append]; rfl
    rw [tk, List.sum_append, List.sum_singleton]
    generalize (((rgI 0 m).take i).map (ringS rs m k)).sum = S
    refine ok_bindT (e1 := [.fr (tb m rs), .fr (.int k), .fr (.int S), .fr (.int a), x4, .no, x6]) (by simp) ?_
    have hu := lc_step (cl := callD (GL c) (n + 3)) (env := [.fr (tb m rs), .fr (.int k), .fr (.int S), .fr (.int a), x4, .no, x6]) (r := .non) (el := .bi .int (.cons (.cmp .eq (.loc 5) (.loc 3)) .nil)) (tg := .nm 5) (it := .rng1 (.ix (.loc 0) (.cst (.int 0)))) (own := [5]) (m := m) (fun z => if z = a then 1 else 0) (it_rng1 (by omega) (by omega) (by simp)) (by omega) (fun z hz => by
      by_cases h : z = a
      · simp [wipeE, h, biD, biInt]
      · simp [wipeE, h, biD, biInt])
    refine ok_nx (env' := [.fr (tb m rs), .fr (.int k), .fr (.int S), .fr (.int a), .fr (.lst ((unitV m a).map D.int)), .no, x6]) (r' := .non) (by rw [s_asg, hu]; rfl) ?_
    refine ok_for (r1 := .non) (ds := (rgI 0 (k - 1)).map D.int) (fun i e r => r = .non ∧ ∃ x6, e = [.fr (tb m rs), .fr (.int k), .fr (.int S), .fr (.int a), .fr (.lst ((iterV rs m i (unitV m a)).map D.int)), .no, x6]) (it_rng1 (by omega) (by omega) (by simp)) ⟨rfl, _, rfl⟩ (fun j d e r hd hI => ?_) fun e r hI => ?_
    · obtain ⟨rfl, x6, rfl⟩ := hI
      refine ok_bindT (e1 := [.fr (tb m rs), .fr (.int k), .fr (.int S), .fr (.int a), .fr (.lst ((iterV rs m j (unitV m a)).map D.int)), .no, .fr d]) (by simp) ?_
      have vl := iterV_len rs m j (unitV m a) (unitV_len m a)
      have hs := lc_step (cl := callD (GL c) (n + 3)) (env := [.fr (tb m rs), .fr (.int k), .fr (.int S), .fr (.int a), .fr (.lst ((iterV rs m j (unitV m a)).map D.int)), .no, .fr d]) (r := .non) (el := .call 101 (.cons (.loc 0) (.cons (.loc 4) (.cons (.loc 5) .nil)))) (tg := .nm 5) (it := .rng1 (.ix (.loc 0) (.cst (.int 0)))) (own := [5]) (m := m) (calmV rs (iterV rs m j (unitV m a))) (it_rng1 (by omega) (by omega) (by simp)) (by omega) (fun z hz => by
        have := ev_calm_sum (c := c) (n := n + 1) (k := z) T.ru (by omega) (rows := iterV rs m j (unitV m a)) (by omega)
        simp [wipeE, this])
      exact ok_nx (env' := [.fr (tb m rs), .fr (.int k), .fr (.int S), .fr (.int a), .fr (.lst ((iterV rs m (j + 1) (unitV m a)).map D.int)), .no, .fr d]) (r' := .non) (by rw [s_asg, hs]; rfl) (ok_nil ⟨_, _, rfl, rfl, _, rfl⟩)
    · obtain ⟨rfl, x6, rfl⟩ := hI
      rw [List.length_map, rgI_len]
      have e0 : (k - 1 - 0).toNat = (k - 1).toNat := by omega
      rw [e0]
      have vl := iterV_len rs m (k - 1).toNat (unitV m a) (unitV_len m a)
      have hc := ev_calm_sum (c := c) (n := n + 1) (k := a) T.ru (by omega) (rows := iterV rs m (k - 1).toNat (unitV m a)) (by omega)
      refine ok_nx (env' := [.fr (tb m rs), .fr (.int k), .fr (.int (S + ringS rs m k a)), .fr (.int a), .fr (.lst ((iterV rs m (k - 1).toNat (unitV m a)).map D.int)), .no, x6]) (r' := .non) ?_ (ok_nil ⟨_, _, rfl, rfl, _, _, _, rfl⟩)
      have hr : ringS rs m k a = calmV rs (iterV rs m (k - 1).toNat (unitV m a)) a := rfl
      have hc : callD (GL c) (n + 3) 101 .non [tb m rs, .lst ((iterV rs m (k - 1).toNat (unitV m a)).map D.int), .int a] = .ok (.int (calmV rs (iterV rs m (k - 1).toNat (unitV m a)) a), .non) := hc
      rw [hr]
      generalize iterV rs m (k - 1).toNat (unitV m a) = W at hc
      simp [hc]
  · obtain ⟨rfl, x3, x4, x6, rfl⟩ := hI
    rw [List.length_map, List.take_length]
    exact ok_rt (d := .int ((rgI 0 m).map (ringS rs m k)).sum) (r' := .non) (by simp) rfl
end
end PLX

set_option Elab.async false
set_option linter.all false
set_option maxRecDepth 100000
set_option autoImplicit false
set_option maxHeartbeats 400000
namespace PLX
open PySem PL
/-! ### sums over lists -/
def sm {α : Type} (l : List α) (f : α → Int) : Int := (l.map f).sum
section
variable {α β : Type}
@[simp] theorem sm_nil (f : α → Int) : sm [] f = 0 := rfl
@[simp] theorem sm_cons (a : α) (l : List α) (f : α → Int) : sm (a :: l) f = f a + sm l f := by unfold sm; rw [List.map_cons, List.sum_cons]
theorem sm_append (l l' : List α) (f : α → Int) : sm (l ++ l') f = sm l f + sm l' f := by unfold sm; rw [List.map_append, List.sum_append]
theorem sm_congr {l : List α} {f g : α → Int} (h : ∀ x ∈ l, f x = g x) : sm l f = sm l g := by unfold sm; rw [List.map_congr_left h]
theorem sm_map (l : List β) (g : β → α) (f : α → Int) : sm (l.map g) f = sm l (fun x => f (g x)) := by unfold sm; rw [List.map_map]; rfl
theorem sm_add (l : List α) (f g : α → Int) : sm l (fun x => f x + g x) = sm l f + sm l g := by
  induction l with
  | nil => rfl
  | cons a l ih => simp only [sm_cons, ih]; omega
theorem sm_zero (l : List α) : sm l (fun _ => 0) = 0 := by
  induction l with
  | nil => rfl
  | cons a l ih => simp only [sm_cons, ih]; rfl
theorem sm_flat (l : List β) (g : β → List α) (f : α → Int) : sm (l.flatMap g) f = sm l (fun x => sm (g x) f) := by
  induction l with
  | nil => rfl
  | cons a l ih => rw [List.flatMap_cons, sm_append, sm_cons, ih]
theorem sm_swap (l : List α) (l' : List β) (f : α → β → Int) : sm l (fun x => sm l' (f x)) = sm l' (fun y => sm l (fun x => f x y)) := by
  induction l with
  | nil => simp only [sm_nil]; exact (sm_zero l').symm
  | cons a l ih => simp only [sm_cons]; rw [ih, sm_add]
theorem sm_ite (l : List α) (p : Bool) (f : α → Int) : (if p then sm l f else 0) = sm l (fun x => if p then f x else 0) := by
  cases p
  · exact (sm_zero l).symm
  · rfl
theorem sm_filter (l : List α) (p : α → Bool) : ((l.filter p).length : Int) = sm l (fun x => if p x then 1 else 0) := by
  induction l with
  | nil => rfl
  | cons a l ih =>
    rw [List.filter_cons, sm_cons, ← ih]
    cases p a
    · simp
    · simp; omega
end
/-! ### rows at rest -/
def okR (rs : List (List Int)) : List Int → Bool
  | x :: y :: r => cB rs x y && okR rs (y :: r)
  | _ => true
theorem okR_snoc (rs : List (List Int)) (l z : Int) : ∀ s : List Int, okR rs (s ++ [l] ++ [z]) = (okR rs (s ++ [l]) && cB rs l z)
  | [] => by show (cB rs l z && true) = (true && _); simp
  | [x] => by show (cB rs x l && (cB rs l z && true)) = ((cB rs x l && true) && _); simp
  | x :: y :: s => by
    have := okR_snoc rs l z (y :: s)
    show (cB rs x y && okR rs ((y :: s) ++ [l] ++ [z])) = ((cB rs x y && okR rs ((y :: s) ++ [l])) && _)
    rw [this, Bool.and_assoc]
def hdI : List Int → Int
  | [] => 0
  | x :: _ => x
theorem hdI_snoc (l z : Int) : ∀ s : List Int, hdI (s ++ [l] ++ [z]) = hdI (s ++ [l])
  | [] => rfl
  | _ :: _ => rfl
/-- numbers of rows of p more places, by their last kind, each counted as its first kind says -/
def wV (rs : List (List Int)) (m : Int) (w : Int → Int) : Nat → Int → Int
  | 0, z => w z
  | p + 1, z => sm (rgI 0 m) fun l => if cB rs l z then wV rs m w p l else 0
theorem wV_sum (rs : List (List Int)) (m : Int) (w : Int → Int) : ∀ (p : Nat) (z : Int), wV rs m w p z = sm (evS p m) fun s => if okR rs (s ++ [z]) then w (hdI (s ++ [z])) else 0
  | 0, z => by
    show w z = w z + 0
    omega
  | p + 1, z => by
    show sm (rgI 0 m) (fun l => if cB rs l z then wV rs m w p l else 0) = sm ((evS p m).flatMap fun one => (rgI 0 m).map fun z => one ++ [z]) _
    rw [sm_flat]
    have e1 : ∀ s ∈ evS p m, sm ((rgI 0 m).map fun l => s ++ [l]) (fun t => if okR rs (t ++ [z]) then w (hdI (t ++ [z])) else 0) = sm (rgI 0 m) fun l => if cB rs l z then (if okR rs (s ++ [l]) then w (hdI (s ++ [l])) else 0) else 0 := fun s _ => by
      rw [sm_map]
      refine sm_congr fun l _ => ?_
      rw [okR_snoc, hdI_snoc]
      cases okR rs (s ++ [l]) <;> cases cB rs l z <;> rfl
    rw [sm_congr e1, sm_swap]
    refine sm_congr fun l _ => ?_
    rw [wV_sum rs m w p l, sm_ite]
theorem calmF_sm (rs : List (List Int)) (k : Int) (f : Int → Int) : ∀ (n : Nat) (i : Nat), calmF rs k i ((List.range' i n).map fun j => f (j : Nat)) = sm (List.range' i n) fun j => if cB rs (j : Nat) k then f (j : Nat) else 0
  | 0, i => rfl
  | n + 1, i => by
    rw [List.range'_succ, List.map_cons, sm_cons]
    unfold calmF
    rw [calmF_sm rs k f n (i + 1)]
theorem rgI_range' (m : Int) : rgI 0 m = (List.range' 0 m.toNat).map fun j : Nat => (j : Int) := by
  unfold rgI
  rw [List.range_eq_range']
  have : (m - 0).toNat = m.toNat := by omega
  rw [this]
  refine List.map_congr_left fun j _ => ?_
  omega
theorem calmV_sm (rs : List (List Int)) (m k : Int) (f : Int → Int) : calmV rs ((rgI 0 m).map f) k = sm (rgI 0 m) fun l => if cB rs l k then f l else 0 := by
  unfold calmV
  rw [rgI_range', List.map_map, sm_map]
  exact calmF_sm rs k f m.toNat 0
theorem iterV_wV (rs : List (List Int)) (m : Int) (w : Int → Int) : ∀ p : Nat, iterV rs m p ((rgI 0 m).map w) = (rgI 0 m).map (wV rs m w p)
  | 0 => rfl
  | p + 1 => by
    show stepV rs m (iterV rs m p ((rgI 0 m).map w)) = _
    rw [iterV_wV rs m w p]
    unfold stepV
    exact List.map_congr_left fun z _ => calmV_sm rs m z _
/-- all rows of k places at rest -/
theorem row_sum (rs : List (List Int)) (m : Int) (p : Nat) : (iterV rs m p (List.replicate m.toNat 1)).sum = (((evS (p + 1) m).filter (okR rs)).length : Int) := by
  have e : List.replicate m.toNat (1 : Int) = (rgI 0 m).map fun _ => 1 := by
    rw [List.map_const', rgI_len]; simp
  rw [e, iterV_wV, sm_filter]
  show sm (rgI 0 m) _ = sm ((evS p m).flatMap fun one => (rgI 0 m).map fun z => one ++ [z]) _
  rw [sm_flat]
  have e2 : ∀ z ∈ rgI 0 m, wV rs m (fun _ => 1) p z = sm (evS p m) fun s => if okR rs (s ++ [z]) then 1 else 0 := fun z _ => wV_sum rs m _ p z
  rw [sm_congr e2, sm_swap]
  exact sm_congr fun s _ => by rw [sm_map]
theorem sm_one {l : List Int} (nd : l.Nodup) {h : Int} (f : Int → Int) (m : h ∈ l) : sm l (fun a => if h = a then f a else 0) = f h := by
  induction l with
  | nil => cases m
  | cons a l ih =>
    rw [sm_cons]
    obtain ⟨n1, n2⟩ := List.nodup_cons.mp nd
    by_cases e : h = a
    · subst e
      rw [if_pos rfl, sm_congr (g := fun _ => 0) fun x hx => if_neg fun q => n1 (by rw [q]; exact hx), sm_zero]
      omega
    · rw [if_neg e, ih n2 ((List.mem_cons.mp m).resolve_left e)]
      omega
def lastI : List Int → Int
  | [] => 0
  | [x] => x
  | _ :: y :: r => lastI (y :: r)
theorem lastI_snoc (l : Int) : ∀ s : List Int, lastI (s ++ [l]) = l
  | [] => rfl
  | [_] => rfl
  | _ :: y :: r => lastI_snoc l (y :: r)
theorem hd_mem {p : Nat} {m l : Int} {s : List Int} (hs : s ∈ evS p m) (hl : l ∈ rgI 0 m) : hdI (s ++ [l]) ∈ rgI 0 m := by
  cases s with
  | nil => exact hl
  | cons x r => exact rgI_mem.mpr ((evS_mem.mp hs).2 x (by simp))
/-- all rings of k places at rest -/
theorem ring_sum (rs : List (List Int)) (m k : Int) (p : Nat) (hk : (k - 1).toNat = p) : ((rgI 0 m).map (ringS rs m k)).sum = (((evS (p + 1) m).filter fun t => okR rs t && cB rs (lastI t) (hdI t)).length : Int) := by
  rw [sm_filter]
  show sm (rgI 0 m) (ringS rs m k) = sm ((evS p m).flatMap fun one => (rgI 0 m).map fun z => one ++ [z]) _
  rw [sm_flat]
  have e1 : ∀ a ∈ rgI 0 m, ringS rs m k a = sm (rgI 0 m) fun l => sm (evS p m) fun s => if cB rs l a then (if okR rs (s ++ [l]) then (if hdI (s ++ [l]) = a then 1 else 0) else 0) else 0 := fun a _ => by
    unfold ringS
    rw [hk]
    have : unitV m a = (rgI 0 m).map fun z => if z = a then 1 else 0 := rfl
    rw [this, iterV_wV, calmV_sm]
    refine sm_congr fun l _ => ?_
    rw [wV_sum, sm_ite]
  rw [sm_congr e1, sm_swap]
  have e2 : ∀ l ∈ rgI 0 m, sm (rgI 0 m) (fun a => sm (evS p m) fun s => if cB rs l a then (if okR rs (s ++ [l]) then (if hdI (s ++ [l]) = a then 1 else 0) else 0) else 0) = sm (evS p m) fun s => if okR rs (s ++ [l]) && cB rs l (hdI (s ++ [l])) then 1 else 0 := fun l hl => by
    rw [sm_swap]
    refine sm_congr fun s hs => ?_
    have := sm_one (rgI_nodup 0 m) (fun a => if cB rs l a then (if okR rs (s ++ [l]) then 1 else 0) else 0) (hd_mem hs hl)
    rw [show (if (okR rs (s ++ [l]) && cB rs l (hdI (s ++ [l]))) = true then (1 : Int) else 0) = (if cB rs l (hdI (s ++ [l])) then (if okR rs (s ++ [l]) then 1 else 0) else 0) from by cases okR rs (s ++ [l]) <;> cases cB rs l (hdI (s ++ [l])) <;> rfl, ← this]
    refine sm_congr fun a _ => ?_
    by_cases e : hdI (s ++ [l]) = a
    · simp only [e, if_true]
    · simp only [e, if_false, ite_self]
  rw [sm_congr e2, sm_swap]
  refine sm_congr fun s _ => ?_
  rw [sm_map]
  refine sm_congr fun l _ => ?_
  rw [lastI_snoc]
/-! ### no move on a row, on a ring -/
theorem okR_iff (rs : List (List Int)) : ∀ s : List Int, okR rs s = true ↔ ∀ i : Nat, i + 1 < s.length → cB rs (s.getD i 0) (s.getD (i + 1) 0) = true
  | [] => ⟨fun _ i h => by simp at h, fun _ => rfl⟩
  | [x] => ⟨fun _ i h => by simp at h, fun _ => rfl⟩
  | x :: y :: r => by
    have ih := okR_iff rs (y :: r)
    show (cB rs x y && okR rs (y :: r)) = true ↔ _
    rw [Bool.and_eq_true, ih]
    constructor
    · rintro ⟨h1, h2⟩ i hi
      cases i with
      | zero => exact h1
      | succ i => exact h2 i (by simpa using hi)
    · intro h
      exact ⟨h 0 (by simp), fun i hi => h (i + 1) (by simpa using hi)⟩
theorem mvOf_empty (rs : List (List Int)) (st : List Int) (i j : Int) : (mvOf rs st [i, j]).isEmpty = cB rs (osAt st i) (osAt st j) := by
  show ((resS rs (osAt st i) (osAt st j)).map _).isEmpty = _
  unfold cB
  cases resS rs (osAt st i) (osAt st j) <;> rfl
theorem flat_empty {α β : Type} (f : α → List β) : ∀ l : List α, (l.flatMap f).isEmpty = l.all fun x => (f x).isEmpty
  | [] => rfl
  | a :: l => by
    rw [List.flatMap_cons, List.all_cons, ← flat_empty f l]
    cases f a <;> rfl
theorem row_empty {rs : List (List Int)} {s : List Int} {k : Int} (h : (s.length : Int) = k) : (mvS rs (rowE k) s).isEmpty = okR rs s := by
  unfold mvS rowE
  rw [flat_empty, Bool.eq_iff_iff, okR_iff, List.all_map, List.all_eq_true]
  constructor
  · intro q i hi
    have := q (i : Nat) (rgI_mem.mpr ⟨by omega, by omega⟩)
    rw [Function.comp, mvOf_empty] at this
    simpa [osAt] using this
  · intro q z hz
    obtain ⟨z0, z1⟩ := rgI_mem.mp hz
    rw [Function.comp, mvOf_empty]
    have := q z.toNat (by omega)
    unfold osAt
    rw [show (z + 1).toNat = z.toNat + 1 from by omega]
    exact this
theorem cB_symm (rs : List (List Int)) (x y : Int) : cB rs x y = cB rs y x := by
  unfold cB
  rw [Bool.eq_iff_iff, List.isEmpty_iff, List.isEmpty_iff, List.eq_nil_iff_forall_not_mem, List.eq_nil_iff_forall_not_mem]
  have : ∀ x y, (∀ a, a ∉ resS rs x y) → ∀ a, a ∉ resS rs y x := fun x y h a ha => by
    obtain ⟨u, v, _, t⟩ := resS_mem.mp ha
    exact h [v, u] (resS_mem.mpr ⟨v, u, rfl, t.symm⟩)
  exact ⟨this x y, this y x⟩
theorem hdI_get : ∀ s : List Int, hdI s = s.getD 0 0
  | [] => rfl
  | _ :: _ => rfl
theorem lastI_get : ∀ s : List Int, lastI s = s.getD (s.length - 1) 0
  | [] => rfl
  | [_] => rfl
  | _ :: y :: r => by
    have := lastI_get (y :: r)
    show lastI (y :: r) = _
    rw [this]
    simp
theorem ring_empty {rs : List (List Int)} {s : List Int} {k : Int} (h : (s.length : Int) = k) (k1 : 1 ≤ k) : (mvS rs (rowE k ++ [[0, k - 1]]) s).isEmpty = (okR rs s && cB rs (lastI s) (hdI s)) := by
  have : mvS rs (rowE k ++ [[0, k - 1]]) s = mvS rs (rowE k) s ++ mvOf rs s [0, k - 1] := by
    unfold mvS
    rw [List.flatMap_append]
    simp
  rw [this]
  have e : ∀ a b : List (List Int × List Int), (a ++ b).isEmpty = (a.isEmpty && b.isEmpty) := fun a b => by cases a <;> rfl
  rw [e, row_empty h, mvOf_empty, cB_symm, lastI_get, hdI_get]
  unfold osAt
  rw [show (k - 1).toNat = s.length - 1 from by omega]
  rfl
end PLX

set_option Elab.async false
set_option linter.all false
set_option maxRecDepth 100000
set_option autoImplicit false
set_option maxHeartbeats 400000
namespace PLX
open PySem PL
/-! ### dicts of numbers by pairs -/
def getI (k : List Int) (es : List (List Int × D)) : Int := match lookD k es with
  | some (.int n) => n
  | _ => 0
structure Sq (m : Int) (es : List (List Int × D)) : Prop where
  nd : (es.map (·.1)).Nodup
  ent : ∀ e ∈ es, ∃ a b n : Int, e = ([a, b], .int n) ∧ (0 ≤ a ∧ a < m) ∧ (0 ≤ b ∧ b < m)
theorem look_none {k : List Int} : ∀ {es : List (List Int × D)}, k ∉ es.map (·.1) → lookD k es = none
  | [], _ => rfl
  | (j, d) :: r, h => by
    unfold lookD
    rw [List.map_cons, List.mem_cons, not_or] at h
    rw [if_neg fun q => h.1 q.symm]
    exact look_none h.2
theorem look_mem {k : List Int} {d : D} : ∀ {es : List (List Int × D)}, (es.map (·.1)).Nodup → (k, d) ∈ es → lookD k es = some d
  | (j, x) :: r, nd, h => by
    rw [List.map_cons] at nd
    obtain ⟨n1, n2⟩ := List.nodup_cons.mp nd
    unfold lookD
    rcases List.mem_cons.mp h with q | q
    · cases q; rw [if_pos rfl]
    · have : j ≠ k := fun z => n1 (by subst z; exact List.mem_map.mpr ⟨(j, d), q, rfl⟩)
      rw [if_neg this]
      exact look_mem n2 q
theorem look_some {k : List Int} {d : D} : ∀ {es : List (List Int × D)}, lookD k es = some d → (k, d) ∈ es
  | (j, x) :: r, h => by
    unfold lookD at h
    by_cases q : j = k
    · rw [if_pos q] at h; cases h; subst q; exact List.mem_cons_self
    · rw [if_neg q] at h; exact List.mem_cons_of_mem _ (look_some h)
theorem look_map {k j : List Int} {v : D} : ∀ es : List (List Int × D), lookD j (es.map fun e => if e.1 = k then (e.1, v) else e) = if j = k then (lookD j es).map fun _ => v else lookD j es
  | [] => by by_cases q : j = k <;> simp [q, lookD]
  | (i, d) :: r => by
    rw [List.map_cons]
    have ih := look_map (k := k) (j := j) (v := v) r
    by_cases q : i = k
    · subst q
      rw [if_pos rfl]
      unfold lookD
      by_cases z : i = j
      · subst z; simp
      · rw [if_neg z, if_neg z, ih]
    · rw [if_neg (show ¬ (i, d).1 = k from q)]
      unfold lookD
      by_cases z : i = j
      · subst z; rw [if_pos rfl, if_pos rfl, if_neg q]
      · rw [if_neg z, if_neg z, ih]
theorem look_app {j : List Int} {k : List Int} {v : D} : ∀ es : List (List Int × D), lookD j (es ++ [(k, v)]) = (lookD j es).or (if k = j then some v else none)
  | [] => by
    show lookD j [(k, v)] = _
    unfold lookD lookD
    by_cases q : k = j <;> simp [q, lookD]
  | (i, d) :: r => by
    rw [List.cons_append]
    unfold lookD
    by_cases z : i = j
    · rw [if_pos z, if_pos z]; rfl
    · rw [if_neg z, if_neg z, look_app r]
theorem look_put (k j : List Int) (v : D) (es : List (List Int × D)) : lookD j (putD k v es) = if j = k then some v else lookD j es := by
  unfold putD
  by_cases h : (es.any fun e => decide (e.1 = k)) = true
  · rw [if_pos h, look_map]
    by_cases q : j = k
    · rw [if_pos q, if_pos q]
      subst q
      obtain ⟨e, he, ek⟩ := List.any_eq_true.mp h
      have : lookD j es ≠ none := by
        intro z
        have : ∀ es : List (List Int × D), lookD j es = none → ∀ e ∈ es, e.1 ≠ j := fun es => by
          induction es with
          | nil => intro _ e h; cases h
          | cons a r ih =>
            obtain ⟨i, d⟩ := a
            intro hz e he
            unfold lookD at hz
            by_cases q : i = j
            · rw [if_pos q] at hz; cases hz
            · rw [if_neg q] at hz
              rcases List.mem_cons.mp he with rfl | he
              · exact q
              · exact ih hz e he
        exact this es z e he (of_decide_eq_true ek)
      cases hl : lookD j es with
      | none => exact absurd hl this
      | some d => rfl
    · rw [if_neg q, if_neg q]
  · rw [if_neg h, look_app]
    have nk : k ∉ es.map (·.1) := fun q => by
      obtain ⟨e, he, ek⟩ := List.mem_map.mp q
      exact h (List.any_eq_true.mpr ⟨e, he, decide_eq_true ek⟩)
    by_cases q : j = k
    · subst q
      rw [if_pos rfl, if_pos rfl, look_none nk]; rfl
    · rw [if_neg q, if_neg fun z => q z.symm]
      cases lookD j es <;> rfl
theorem get_put (k j : List Int) (n : Int) (es : List (List Int × D)) : getI j (putD k (.int n) es) = if j = k then n else getI j es := by
  unfold getI
  rw [look_put]
  by_cases q : j = k
  · rw [if_pos q, if_pos q]
  · rw [if_neg q, if_neg q]
theorem sq_put {m a b n : Int} {es : List (List Int × D)} (s : Sq m es) (ha : 0 ≤ a ∧ a < m) (hb : 0 ≤ b ∧ b < m) : Sq m (putD [a, b] (.int n) es) := by
  refine ⟨putD_nodup _ _ s.nd, fun e he => ?_⟩
  unfold putD at he
  split at he
  · obtain ⟨e0, h0, rfl⟩ := List.mem_map.mp he
    by_cases q : e0.1 = [a, b]
    · rw [if_pos q, q]; exact ⟨a, b, n, rfl, ha, hb⟩
    · rw [if_neg q]; exact s.ent e0 h0
  · rcases List.mem_append.mp he with he | he
    · exact s.ent e he
    · rw [List.mem_singleton] at he; subst he; exact ⟨a, b, n, rfl, ha, hb⟩
/-- all pairs -/
def prs (m : Int) : List (List Int) := (rgI 0 m).flatMap fun a => (rgI 0 m).map fun b => [a, b]
theorem sm_prs (m : Int) (f : List Int → Int) : sm (prs m) f = sm (rgI 0 m) fun a => sm (rgI 0 m) fun b => f [a, b] := by
  unfold prs
  rw [sm_flat]
  exact sm_congr fun a _ => sm_map _ _ _
theorem sm_perm {α : Type} {l l' : List α} (h : l.Perm l') (f : α → Int) : sm l f = sm l' f := by
  induction h with
  | nil => rfl
  | cons a _ ih => rw [sm_cons, sm_cons, ih]
  | swap a b l => rw [sm_cons, sm_cons, sm_cons, sm_cons]; omega
  | trans _ _ h1 h2 => rw [h1, h2]
theorem prs_mem {m : Int} {k : List Int} : k ∈ prs m ↔ ∃ a b, k = [a, b] ∧ (0 ≤ a ∧ a < m) ∧ (0 ≤ b ∧ b < m) := by
  unfold prs
  rw [List.mem_flatMap]
  constructor
  · rintro ⟨a, ha, h⟩
    obtain ⟨b, hb, rfl⟩ := List.mem_map.mp h
    exact ⟨a, b, rfl, rgI_mem.mp ha, rgI_mem.mp hb⟩
  · rintro ⟨a, b, rfl, ha, hb⟩
    exact ⟨a, rgI_mem.mpr ha, List.mem_map.mpr ⟨b, rgI_mem.mpr hb, rfl⟩⟩
theorem prs_nodup (m : Int) : (prs m).Nodup := by
  unfold prs
  have : ∀ l : List Int, l.Nodup → (l.flatMap fun a => (rgI 0 m).map fun b => [a, b]).Nodup := fun l => by
    induction l with
    | nil => intro _; exact List.nodup_nil
    | cons a l ih =>
      intro nd
      obtain ⟨n1, n2⟩ := List.nodup_cons.mp nd
      rw [List.flatMap_cons]
      refine List.nodup_append.mpr ⟨?_, ih n2, fun x hx y hy e => ?_⟩
      · exact (rgI_nodup 0 m).map (f := fun b => [a, b]) fun p q n e => n (by simpa using e)
      · subst e
        obtain ⟨b, _, rfl⟩ := List.mem_map.mp hx
        obtain ⟨c, hc, h⟩ := List.mem_flatMap.mp hy
        obtain ⟨d, _, e⟩ := List.mem_map.mp h
        cases e
        exact n1 hc
  exact this _ (rgI_nodup 0 m)
/-- a sum over the keys is one over all pairs -/
theorem sm_keys {m : Int} {es : List (List Int × D)} (s : Sq m es) (f : List Int → Int) (h : ∀ k, k ∉ es.map (·.1) → f k = 0) : sm (es.map (·.1)) f = sm (prs m) f := by
  have e1 : sm (prs m) f = sm ((prs m).filter fun k => decide (k ∈ es.map (·.1))) f := by
    generalize prs m = l
    induction l with
    | nil => rfl
    | cons a l ih =>
      rw [List.filter_cons, sm_cons]
      by_cases q : a ∈ es.map (·.1)
      · rw [if_pos (decide_eq_true q), sm_cons, ih]
      · rw [if_neg (by simpa using q), h a q, ih]; omega
  rw [e1]
  refine sm_perm ((List.perm_ext_iff_of_nodup s.nd ((prs_nodup m).filter _)).mpr fun k => ?_) f
  rw [List.mem_filter, decide_eq_true_eq]
  refine ⟨fun q => ⟨?_, q⟩, fun q => q.2⟩
  obtain ⟨e, he, rfl⟩ := List.mem_map.mp q
  obtain ⟨a, b, n, rfl, ha, hb⟩ := s.ent e he
  exact prs_mem.mpr ⟨a, b, rfl, ha, hb⟩
theorem get_none {k : List Int} {es : List (List Int × D)} (h : k ∉ es.map (·.1)) : getI k es = 0 := by
  unfold getI; rw [look_none h]
/-- the values -/
theorem vals_sum {m : Int} {es : List (List Int × D)} (s : Sq m es) : ∃ ns : List Int, es.map (·.2) = ns.map D.int ∧ ns.sum = sm (es.map (·.1)) fun k => getI k es := by
  refine ⟨es.map fun e => getI e.1 es, ?_, ?_⟩
  · rw [List.map_map]
    refine List.map_congr_left fun e he => ?_
    obtain ⟨a, b, n, rfl, _⟩ := s.ent e he
    show D.int n = D.int (getI [a, b] es)
    unfold getI
    rw [look_mem s.nd he]
  · rw [sm_map]; rfl
/-! ### one place more -/
def putK (rs : List (List Int)) (a b v : Int) (acc : List (List Int × D)) (c : Int) : List (List Int × D) := if cB rs b c then putD [a, c] (.int (getI [a, c] acc + v)) acc else acc
theorem putK_get (rs : List (List Int)) (a b v p q : Int) : ∀ (l : List Int) (acc : List (List Int × D)), l.Nodup → getI [p, q] (l.foldl (putK rs a b v) acc) = getI [p, q] acc + if a = p ∧ q ∈ l ∧ cB rs b q = true then v else 0
  | [], acc, _ => by simp
  | c :: l, acc, nd => by
    obtain ⟨n1, n2⟩ := List.nodup_cons.mp nd
    rw [List.foldl_cons, putK_get rs a b v p q l _ n2]
    unfold putK
    by_cases hc : cB rs b c = true
    · rw [if_pos hc, get_put]
      by_cases e : p = a ∧ q = c
      · obtain ⟨rfl, rfl⟩ := e
        rw [if_pos rfl, if_neg fun z => n1 z.2.1, if_pos ⟨rfl, List.mem_cons_self, hc⟩]
        omega
      · rw [if_neg fun z => e (by simpa using z)]
        congr 1
        by_cases h1 : a = p ∧ q ∈ l ∧ cB rs b q = true
        · rw [if_pos h1, if_pos ⟨h1.1, List.mem_cons_of_mem _ h1.2.1, h1.2.2⟩]
        · rw [if_neg h1, if_neg]
          rintro ⟨z1, z2, z3⟩
          rcases List.mem_cons.mp z2 with z2 | z2
          · exact e ⟨z1.symm, z2⟩
          · exact h1 ⟨z1, z2, z3⟩
    · rw [if_neg hc]
      congr 1
      by_cases h1 : a = p ∧ q ∈ l ∧ cB rs b q = true
      · rw [if_pos h1, if_pos ⟨h1.1, List.mem_cons_of_mem _ h1.2.1, h1.2.2⟩]
      · rw [if_neg h1, if_neg]
        rintro ⟨z1, z2, z3⟩
        rcases List.mem_cons.mp z2 with z2 | z2
        · subst z2; exact hc z3
        · exact h1 ⟨z1, z2, z3⟩
theorem putK_sq {rs : List (List Int)} {m a b v : Int} (ha : 0 ≤ a ∧ a < m) : ∀ (l : List Int) (acc : List (List Int × D)), (∀ z ∈ l, 0 ≤ z ∧ z < m) → Sq m acc → Sq m (l.foldl (putK rs a b v) acc)
  | [], acc, _, s => s
  | c :: l, acc, h, s => by
    rw [List.foldl_cons]
    refine putK_sq ha l _ (fun z hz => h z (List.mem_cons_of_mem _ hz)) ?_
    unfold putK
    split
    · exact sq_put s ha (h c List.mem_cons_self)
    · exact s
def stpK (rs : List (List Int)) (m : Int) (es acc : List (List Int × D)) (k : List Int) : List (List Int × D) := match k with
  | [a, b] => (rgI 0 m).foldl (putK rs a b (getI [a, b] es)) acc
  | _ => acc
def newK (rs : List (List Int)) (m : Int) (es : List (List Int × D)) : List (List Int × D) := (es.map (·.1)).foldl (stpK rs m es) []
def clsF (rs : List (List Int)) (es : List (List Int × D)) (p q : Int) (k : List Int) : Int := match k with
  | [a, b] => if a = p ∧ cB rs b q = true then getI [a, b] es else 0
  | _ => 0
theorem stpK_get {rs : List (List Int)} {m : Int} {es : List (List Int × D)} {p q : Int} (hq : 0 ≤ q ∧ q < m) : ∀ (ks : List (List Int)) (acc : List (List Int × D)), (∀ k ∈ ks, ∃ a b, k = [a, b]) → getI [p, q] (ks.foldl (stpK rs m es) acc) = getI [p, q] acc + sm ks (clsF rs es p q)
  | [], acc, _ => by simp
  | k :: ks, acc, h => by
    obtain ⟨a, b, rfl⟩ := h k List.mem_cons_self
    rw [List.foldl_cons, stpK_get hq ks _ fun k hk => h k (List.mem_cons_of_mem _ hk), sm_cons]
    show getI [p, q] ((rgI 0 m).foldl (putK rs a b (getI [a, b] es)) acc) + _ = _
    rw [putK_get _ _ _ _ _ _ _ _ (rgI_nodup 0 m)]
    have e : (if a = p ∧ q ∈ rgI 0 m ∧ cB rs b q = true then getI [a, b] es else 0) = clsF rs es p q [a, b] := by
      unfold clsF
      dsimp only
      by_cases z : a = p ∧ cB rs b q = true
      · rw [if_pos z, if_pos ⟨z.1, rgI_mem.mpr hq, z.2⟩]
      · rw [if_neg z, if_neg fun y => z ⟨y.1, y.2.2⟩]
    rw [e]; omega
theorem stpK_sq {rs : List (List Int)} {m : Int} {es : List (List Int × D)} : ∀ (ks : List (List Int)) (acc : List (List Int × D)), (∀ k ∈ ks, ∃ a b, k = [a, b] ∧ (0 ≤ a ∧ a < m)) → Sq m acc → Sq m (ks.foldl (stpK rs m es) acc)
  | [], acc, _, s => s
  | k :: ks, acc, h, s => by
    obtain ⟨a, b, rfl, ha⟩ := h k List.mem_cons_self
    rw [List.foldl_cons]
    exact stpK_sq ks _ (fun k hk => h k (List.mem_cons_of_mem _ hk)) (putK_sq ha _ _ (fun z hz => rgI_mem.mp hz) s)
/-- the dict after t more places -/
structure Dk (rs : List (List Int)) (m : Int) (t : Nat) (es : List (List Int × D)) : Prop where
  sq : Sq m es
  val : ∀ a b, (0 ≤ a ∧ a < m) → (0 ≤ b ∧ b < m) → getI [a, b] es = wV rs m (fun z => if z = a then 1 else 0) t b
theorem Dk.next {rs : List (List Int)} {m : Int} {t : Nat} {es : List (List Int × D)} (h : Dk rs m t es) : Dk rs m (t + 1) (newK rs m es) := by
  have kk : ∀ k ∈ es.map (·.1), ∃ a b, k = [a, b] ∧ (0 ≤ a ∧ a < m) := fun k hk => by
    obtain ⟨e, he, rfl⟩ := List.mem_map.mp hk
    obtain ⟨a, b, n, rfl, ha, _⟩ := h.sq.ent e he
    exact ⟨a, b, rfl, ha⟩
  refine ⟨stpK_sq _ _ kk ⟨List.nodup_nil, fun _ h => by cases h⟩, fun p q hp hq => ?_⟩
  unfold newK
  rw [stpK_get hq _ _ fun k hk => by obtain ⟨a, b, e, _⟩ := kk k hk; exact ⟨a, b, e⟩]
  have z0 : getI [p, q] [] = 0 := rfl
  rw [z0, Int.zero_add, sm_keys h.sq (clsF rs es p q) (fun k hk => by
    unfold clsF
    split
    · split
      · exact get_none hk
      · rfl
    · rfl), sm_prs]
  show _ = sm (rgI 0 m) fun l => if cB rs l q then wV rs m _ t l else 0
  have e1 : ∀ a ∈ rgI 0 m, sm (rgI 0 m) (fun b => clsF rs es p q [a, b]) = if p = a then sm (rgI 0 m) (fun b => if cB rs b q then getI [a, b] es else 0) else 0 := fun a ha => by
    by_cases z : p = a
    · subst z
      rw [if_pos rfl]
      refine sm_congr fun b _ => ?_
      show (if p = p ∧ cB rs b q = true then getI [p, b] es else 0) = _
      simp
    · rw [if_neg z]
      rw [sm_congr (g := fun _ => 0) fun b _ => by
        show (if a = p ∧ cB rs b q = true then getI [a, b] es else 0) = 0
        rw [if_neg fun y => z y.1.symm], sm_zero]
  rw [sm_congr e1, sm_one (rgI_nodup 0 m) (fun a => sm (rgI 0 m) (fun b => if cB rs b q then getI [a, b] es else 0)) (rgI_mem.mpr hp)]
  refine sm_congr fun b hb => ?_
  rw [h.val p b hp (rgI_mem.mp hb)]
end PLX

set_option Elab.async false
set_option linter.all false
set_option maxRecDepth 100000
set_option autoImplicit false
set_option maxHeartbeats 400000
namespace PLk16
open PySem PL PLX
def c_law : Fd := ⟨1, 16, false,
 (.cons (.mkrow (.lst (.cons (.loc 0) (.cons (.cst (.int 0)) (.cons (.cst (.int 10116)) (.cons (.cst (.int 0)) .nil))))))
 (.cons (.asg 2 (.callr 13 (.cons (.cst (.int 4)) .nil)))
 (.cons (.asgP [(3, false), (4, false)] (.cons (.bin .add (.cst (.int 1)) (.callr 10 (.cons (.cst (.int 4)) .nil))) (.cons (.bi .rgl1 (.cons (.ix (.loc 2) (.cst (.int 0))) .nil)) .nil)))
 (.cons (.asg 5 (.call 40 (.cons (.loc 3) (.cons (.ix (.loc 2) (.cst (.int 0))) .nil))))
 (.cons (.ite (.not (.call 14 (.cons (.call 107 (.cons (.loc 2) (.cons (.loc 3) .nil))) (.cons (.bi .len (.cons (.lc (.loc 6) (.nm 6) (.seq (.loc 5)) (.cons (.cmp .eq (.call 39 (.cons (.loc 2) (.cons (.call 87 (.cons (.loc 3) .nil)) (.cons (.loc 6) .nil)))) (.lst .nil)) .nil) [6]) .nil)) .nil)))) (.cons (.ret (.cst (.bl false)))
 .nil) .nil)
 (.cons (.ite (.cmp .gt (.loc 3) (.cst (.int 2))) (.cons (.asg 7 (.tup (.cons (.loc 3) (.cons (.bin .add (.ix (.call 87 (.cons (.loc 3) .nil)) (.cst (.int 1))) (.tup (.cons (.tup (.cons (.cst (.int 0)) (.cons (.bin .sub (.loc 3) (.cst (.int 1))) .nil))) .nil))) .nil))))
 (.cons (.ite (.not (.call 14 (.cons (.call 102 (.cons (.loc 2) (.cons (.loc 3) .nil))) (.cons (.bi .len (.cons (.lc (.loc 6) (.nm 6) (.seq (.loc 5)) (.cons (.cmp .eq (.call 39 (.cons (.loc 2) (.cons (.loc 7) (.cons (.loc 6) .nil)))) (.lst .nil)) .nil) [6]) .nil)) .nil)))) (.cons (.ret (.cst (.bl false)))
 .nil) .nil)
 .nil)) .nil)
 (.cons (.asg 8 (.bin .add (.cst (.int 3)) (.callr 10 (.cons (.cst (.int 28)) .nil))))
 (.cons (.asg 9 (.bi .dictp (.cons (.lc (.tup (.cons (.tup (.cons (.loc 6) (.cons (.loc 6) .nil))) (.cons (.cst (.int 1)) .nil))) (.nm 6) (.seq (.loc 4)) .nil [6]) .nil)))
 (.cons (.for_ (.nm 10) (.rng1 (.bin .sub (.loc 8) (.cst (.int 1)))) (.cons (.own 11 .emp)
 (.cons (.for_ (.tp [(.nm 12), (.nm 13)]) (.keys (.loc 9)) (.cons (.for_ (.nm 14) (.seq (.loc 4)) (.cons (.ite (.cmp .eq (.call 15 (.cons (.loc 2) (.cons (.tup (.cons (.loc 13) (.cons (.loc 14) .nil))) .nil))) (.lst .nil)) (.cons (.setx 11 (.tup (.cons (.loc 12) (.cons (.loc 14) .nil))) (.bin .add (.bi .get2 (.cons (.bor 11) (.cons (.tup (.cons (.loc 12) (.cons (.loc 14) .nil))) (.cons (.cst (.int 0)) .nil)))) (.ix (.loc 9) (.tup (.cons (.loc 12) (.cons (.loc 13) .nil))))))
 .nil) .nil)
 .nil))
 .nil))
 (.cons (.frz [11])
 (.cons (.asg 9 (.loc 11))
 .nil)))))
 (.cons (.ite (.not (.call 14 (.cons (.call 107 (.cons (.loc 2) (.cons (.loc 8) .nil))) (.cons (.bi .sumvals (.cons (.loc 9) .nil)) .nil)))) (.cons (.ret (.cst (.bl false)))
 .nil) .nil)
 (.cons (.asg 15 (.bi .sum (.cons (.lc (.ix (.loc 9) (.tup (.cons (.loc 12) (.cons (.loc 13) .nil)))) (.tp [(.nm 12), (.nm 13)]) (.keys (.loc 9)) (.cons (.cmp .eq (.call 15 (.cons (.loc 2) (.cons (.tup (.cons (.loc 13) (.cons (.loc 12) .nil))) .nil))) (.lst .nil)) .nil) [12, 13]) .nil)))
 (.cons (.ret (.call 14 (.cons (.call 102 (.cons (.loc 2) (.cons (.loc 8) .nil))) (.cons (.loc 15) .nil))))
 .nil))))))))))))⟩
end PLk16
/- slots: [(0, '_law_script'), (1, '_law_row_here'), (2, '_law_table_here'), (3, '_law_many'), (4, '_law_kinds'), (5, '_law_starts'), (6, '_law_one'), (7, '_law_ring'), (8, '_law_long'), (9, '_law_sums'), (10, '_law_turn'), (11, '_law_more'), (12, '_law_first'), (13, '_law_last'), (14, '_law_kind'), (15, '_law_due')] -/

set_option Elab.async false
set_option linter.all false
set_option maxRecDepth 100000
set_option autoImplicit false
set_option maxHeartbeats 400000
namespace PLk16
open PySem PL PLX
theorem row0 (ns : List Int) (s : Int) (h : 0 ≤ s) (h2 : s < 2147483647) : RowI (.lst [.scr ns, .int 0, .int s, .int 0]) := ⟨ns, 0, s, 0, rfl, by omega, h, h2⟩
abbrev En (ns : List Int) (l : List Sl) : Env' := .fr (.scr ns) :: .no :: l
/-! ### sums -/
theorem wV_lin (rs : List (List Int)) (m : Int) : ∀ (t : Nat) (b : Int), (0 ≤ b ∧ b < m) → sm (rgI 0 m) (fun a => wV rs m (fun z => if z = a then 1 else 0) t b) = wV rs m (fun _ => 1) t b
  | 0, b, hb => sm_one (rgI_nodup 0 m) (fun _ => 1) (rgI_mem.mpr hb)
  | t + 1, b, hb => by
    show sm (rgI 0 m) (fun a => sm (rgI 0 m) fun l => if cB rs l b then wV rs m (fun z => if z = a then 1 else 0) t l else 0) = sm (rgI 0 m) fun l => if cB rs l b then wV rs m (fun _ => 1) t l else 0
    rw [sm_swap]
    refine sm_congr fun l hl => ?_
    rw [← wV_lin rs m t l (rgI_mem.mp hl), sm_ite]
theorem all_sum {rs : List (List Int)} {m : Int} {t : Nat} {es : List (List Int × D)} (h : Dk rs m t es) : sm (es.map (·.1)) (fun k => getI k es) = (iterV rs m t (List.replicate m.toNat 1)).sum := by
  have e : List.replicate m.toNat (1 : Int) = (rgI 0 m).map fun _ => 1 := by
    rw [List.map_const', rgI_len]; simp
  rw [e, iterV_wV, sm_keys h.sq _ fun k hk => get_none hk, sm_prs, sm_swap]
  show _ = sm (rgI 0 m) _
  refine sm_congr fun b hb => ?_
  rw [← wV_lin rs m t b (rgI_mem.mp hb)]
  exact sm_congr fun a ha => h.val a b (rgI_mem.mp ha) (rgI_mem.mp hb)
def dueF (rs : List (List Int)) (es : List (List Int × D)) (k : List Int) : Int := match k with
  | [a, b] => if cB rs b a then getI [a, b] es else 0
  | _ => 0
theorem due_sum {rs : List (List Int)} {m k : Int} {t : Nat} {es : List (List Int × D)} (h : Dk rs m t es) (hk : (k - 1).toNat = t) : sm (es.map (·.1)) (dueF rs es) = ((rgI 0 m).map (ringS rs m k)).sum := by
  rw [sm_keys h.sq _ fun k hk => by
    unfold dueF
    split
    · split
      · exact get_none hk
      · rfl
    · rfl, sm_prs]
  show _ = sm (rgI 0 m) (ringS rs m k)
  refine sm_congr fun a ha => ?_
  unfold ringS
  rw [hk, show unitV m a = (rgI 0 m).map fun z => if z = a then 1 else 0 from rfl, iterV_wV, calmV_sm]
  refine sm_congr fun b hb => ?_
  show (if cB rs b a then getI [a, b] es else 0) = _
  rw [h.val a b (rgI_mem.mp ha) (rgI_mem.mp hb)]
/-! ### the count by all starts -/
section
variable {n : Nat} {m k : Int} {rs es : List (List Int)} {env : Env'} {r : D}
theorem lm_sh (st : List Int) (M : List Mv) : shDs 59 (M.map (lmD st)) = true := by
  induction M with
  | nil => rw [List.map_nil]; unfold shDs; rfl
  | cons x M ih =>
    rw [List.map_cons]
    unfold shDs
    rw [ih]
    refine Bool.and_eq_true_iff.mpr ⟨?_, rfl⟩
    unfold lmD shD shDs shDs shDs
    rw [sh_mv 56, sh_tI 57]; rfl
theorem starts_count {e7 : E} (T : TabOk m rs) (l4 : rs.length ≤ 4) (m4 : m ≤ 4) (k1 : 1 ≤ k) (k4 : k ≤ 4) (W : ∀ e ∈ es, EdgeOk k e) (hw : es.length ≤ 100)
    (h5 : env[5]? = some (.fr (.lst ((evS k.toNat m).map tI))))
    (hp : ∀ d, evE (callD (GL c_law) 59) (.cmp .eq (.call 39 (.cons (.loc 2) (.cons e7 (.cons (.loc 6) .nil)))) (.lst .nil)) ((wipeE env [6]).set 6 (.fr d)) r = ((callD (GL c_law) 59 39 .non [tb m rs, tb k es, d]).bind fun z => (eqG z.1 (.lst [])).bind fun c => .ok (.bl c, r)))
    (hi : ∀ d, locR ((wipeE env [6]).set 6 (.fr d))[6]? r = .ok (d, r)) :
    evE (callD (GL c_law) 59) (.bi .len (.cons (.lc (.loc 6) (.nm 6) (.seq (.loc 5)) (.cons (.cmp .eq (.call 39 (.cons (.loc 2) (.cons e7 (.cons (.loc 6) .nil)))) (.lst .nil)) .nil) [6]) .nil)) env r = .ok (.int (((evS k.toNat m).filter fun s => (mvS rs es s).isEmpty).length : Int), r) := by
  have pw : m.toNat ^ k.toNat ≤ 256 := Nat.le_trans (Nat.pow_le_pow_left (by omega : m.toNat ≤ 4) _) (Nat.le_trans (Nat.pow_le_pow_right (by decide) (by omega : k.toNat ≤ 4)) (by decide))
  have hf := lc_filter (cl := callD (GL c_law) 59) (env := env) (r := r) (x := .lst ((evS k.toNat m).map tI)) (e := .loc 5) (ds := (evS k.toNat m).map tI) (pe := .cmp .eq (.call 39 (.cons (.loc 2) (.cons e7 (.cons (.loc 6) .nil)))) (.lst .nil)) (i := 6) (onKey fun s => (mvS rs es s).isEmpty) (by simp [h5]) rfl (by rw [List.length_map, evS_len]; show _ ≤ (1000000 : Nat); omega) (fun d hd => by
    obtain ⟨s, hs, rfl⟩ := List.mem_map.mp hd
    obtain ⟨s1, s2⟩ := evS_mem.mp hs
    have so : StaOk m k s := ⟨by omega, s2⟩
    rw [hp, ev_l_moves (n := 57) T.ru (by omega) (by omega) W hw so]
    simp only [b_ok]
    rw [eqG_lst0 (lm_sh s _)]
    simp only [b_ok]
    have : onKey (fun s => (mvS rs es s).isEmpty) (tI s) = (mvS rs es s).isEmpty := by
      unfold onKey
      have : keyD (tI s) = some s := intsD_map s
      rw [this]
    rw [this]
    cases mvS rs es s <;> rfl) hi
  rw [filter_key] at hf
  rw [e_bi, es_cons, hf]
  simp only [b_ok, es_nil, len_lst, List.length_map]
end
theorem dict0 {rs : List (List Int)} {m : Int} (m1 : 1 ≤ m) (m4 : m ≤ 4) : ∃ es, biD .dictp [.lst ((rgI 0 m).map fun z => .tup [.tup [.int z, .int z], .int 1])] = .ok (.dic es) ∧ Dk rs m 0 es := by
  have mm : m = 1 ∨ m = 2 ∨ m = 3 ∨ m = 4 := by omega
  have key : ∀ m : Int, (m = 1 ∨ m = 2 ∨ m = 3 ∨ m = 4) → biD .dictp [.lst ((rgI 0 m).map fun z => .tup [.tup [.int z, .int z], .int 1])] = .ok (.dic ((rgI 0 m).map fun z => ([z, z], .int 1))) := fun m h => by
    rcases h with rfl | rfl | rfl | rfl <;> rfl
  refine ⟨_, key m mm, ⟨?_, fun e he => ?_⟩, fun a b ha hb => ?_⟩
  · rw [List.map_map]
    exact (rgI_nodup 0 m).map (f := fun z => [z, z]) fun p q n e => n (by simpa using e)
  · obtain ⟨z, hz, rfl⟩ := List.mem_map.mp he
    exact ⟨z, z, 1, rfl, rgI_mem.mp hz, rgI_mem.mp hz⟩
  · show _ = if b = a then 1 else 0
    have nd : (((rgI 0 m).map fun z => (([z, z] : List Int), D.int 1)).map (·.1)).Nodup := by
      rw [List.map_map]
      exact (rgI_nodup 0 m).map (f := fun z => [z, z]) fun p q n e => n (by simpa using e)
    by_cases q : b = a
    · subst q
      rw [if_pos rfl]
      unfold getI
      rw [look_mem nd (List.mem_map.mpr ⟨b, rgI_mem.mpr hb, rfl⟩)]
    · rw [if_neg q]
      refine get_none fun h => ?_
      rw [List.map_map] at h
      obtain ⟨z, _, e⟩ := List.mem_map.mp h
      have e : [z, z] = [a, b] := e
      cases e
      exact q rfl
end PLk16

set_option Elab.async false
set_option linter.all false
set_option maxRecDepth 100000
set_option autoImplicit false
set_option maxHeartbeats 400000
namespace PLk16
open PySem PL PLX
theorem get2_of {m a c : Int} {acc : List (List Int × D)} (s : Sq m acc) : biD .get2 [.dic acc, .tup [.int a, .int c], .int 0] = .ok (.int (getI [a, c] acc)) := by
  show R.ok ((lookD [a, c] acc).getD (.int 0)) = _
  congr 1
  unfold getI
  cases h : lookD [a, c] acc with
  | none => rfl
  | some d =>
    obtain ⟨p, q, n, e, _⟩ := s.ent _ (look_some h)
    cases e
    rfl
theorem ix_of {m a c : Int} {acc : List (List Int × D)} (s : Sq m acc) (h : [a, c] ∈ acc.map (·.1)) : ixD (.dic acc) (.tup [.int a, .int c]) = .ok (.int (getI [a, c] acc)) := by
  show R.ofO (lookD [a, c] acc) = _
  obtain ⟨e, he, ek⟩ := List.mem_map.mp h
  obtain ⟨p, q, n, rfl, _⟩ := s.ent e he
  have ek : [p, q] = [a, c] := ek
  cases ek
  unfold getI
  rw [look_mem s.nd he]
  rfl
theorem sq_len {m : Int} {es : List (List Int × D)} (s : Sq m es) (m1 : 1 ≤ m) (m4 : m ≤ 4) : es.length ≤ 16 := by
  have h : (es.map (·.1)).length ≤ (prs m).length := List.Nodup.length_le_of_subset s.nd fun k hk => by
    obtain ⟨e, he, rfl⟩ := List.mem_map.mp hk
    obtain ⟨a, b, n, rfl, ha, hb⟩ := s.ent e he
    exact prs_mem.mpr ⟨a, b, rfl, ha, hb⟩
  rw [List.length_map] at h
  have mm : m = 1 ∨ m = 2 ∨ m = 3 ∨ m = 4 := by omega
  have : (prs m).length ≤ 16 := by rcases mm with rfl | rfl | rfl | rfl <;> decide
  omega
theorem res_q {m b c : Int} {rs : List (List Int)} (T : TabOk m rs) : callD (GL c_law) 59 15 .non [tb m rs, .tup [.int b, .int c]] = .ok (.lst ((resS rs b c).map tI), .non) := ev_l_results (n := 58) (x := b) (y := c) T.ru (by have := T.len; omega)
theorem one_place {ns : List Int} {m : Int} {rs : List (List Int)} {es : List (List Int × D)} {r : D} {x3 x5 x6 x7 x8 x10 x11 x12 x13 x14 x15 : Sl} (T : TabOk m rs) (m4 : m ≤ 4) (s : Sq m es) :
    Ok (evSs (callD (GL c_law) 59) (.cons (.own 11 .emp) (.cons (.for_ (.tp [(.nm 12), (.nm 13)]) (.keys (.loc 9)) (.cons (.for_ (.nm 14) (.seq (.loc 4)) (.cons (.ite (.cmp .eq (.call 15 (.cons (.loc 2) (.cons (.tup (.cons (.loc 13) (.cons (.loc 14) .nil))) .nil))) (.lst .nil)) (.cons (.setx 11 (.tup (.cons (.loc 12) (.cons (.loc 14) .nil))) (.bin .add (.bi .get2 (.cons (.bor 11) (.cons (.tup (.cons (.loc 12) (.cons (.loc 14) .nil))) (.cons (.cst (.int 0)) .nil)))) (.ix (.loc 9) (.tup (.cons (.loc 12) (.cons (.loc 13) .nil)))))) .nil) .nil) .nil)) .nil)) (.cons (.frz [11]) (.cons (.asg 9 (.loc 11)) .nil)))) (En ns [.fr (tb m rs), x3, .fr (.lst ((rgI 0 m).map D.int)), x5, x6, x7, x8, .fr (.dic es), x10, x11, x12, x13, x14, x15]) r) fun x => ∃ e' r', x = .nx e' r' ∧ r' = r ∧ ∃ y11 y12 y13 y14, e' = En ns [.fr (tb m rs), x3, .fr (.lst ((rgI 0 m).map D.int)), x5, x6, x7, x8, .fr (.dic (newK rs m es)), x10, y11, y12, y13, y14, x15] := by
  have t1 := T.lo
  refine ok_nx (env' := En ns [.fr (tb m rs), x3, .fr (.lst ((rgI 0 m).map D.int)), x5, x6, x7, x8, .fr (.dic es), x10, .ow (.dic []), x12, x13, x14, x15]) (r' := r) (by simp [objD]) ?_
  have kk : ∀ k ∈ es.map (·.1), ∃ a b, k = [a, b] ∧ (0 ≤ a ∧ a < m) := fun k hk => by
    obtain ⟨e, he, rfl⟩ := List.mem_map.mp hk
    obtain ⟨a, b, n, rfl, ha, _⟩ := s.ent e he
    exact ⟨a, b, rfl, ha⟩
  have sq0 : Sq m [] := ⟨List.nodup_nil, fun _ h => by cases h⟩
  refine ok_for (r1 := r) (ds := (es.map (·.1)).map tI) (fun i e r' => r' = r ∧ ∃ y12 y13 y14, e = En ns [.fr (tb m rs), x3, .fr (.lst ((rgI 0 m).map D.int)), x5, x6, x7, x8, .fr (.dic es), x10, .ow (.dic (((es.map (·.1)).take i).foldl (stpK rs m es) [])), y12, y13, y14, x15]) (by simp) ⟨rfl, _, _, _, rfl⟩ (fun i d e r' hd hI => ?_) fun e r' hI => ?_
  · obtain ⟨rfl, y12, y13, y14, rfl⟩ := hI
    obtain ⟨k, gk, rfl⟩ := get_tI hd
    rw [foldl_take _ _ gk]
    have km := List.mem_of_getElem? gk
    have sq : Sq m (((es.map (·.1)).take i).foldl (stpK rs m es) []) := stpK_sq _ _ (fun k hk => kk k (List.mem_of_mem_take hk)) sq0
    generalize ((es.map (·.1)).take i).foldl (stpK rs m es) [] = acc at sq
    obtain ⟨a, b, rfl, ha⟩ := kk k km
    refine ok_bindT (e1 := En ns [.fr (tb m rs), x3, .fr (.lst ((rgI 0 m).map D.int)), x5, x6, x7, x8, .fr (.dic es), x10, .ow (.dic acc), .fr (.int a), .fr (.int b), y14, x15]) (by simp [tI2]) ?_
    refine ok_for (r1 := r') (ds := (rgI 0 m).map D.int) (fun j e r => r = r' ∧ ∃ y14, e = En ns [.fr (tb m rs), x3, .fr (.lst ((rgI 0 m).map D.int)), x5, x6, x7, x8, .fr (.dic es), x10, .ow (.dic (((rgI 0 m).take j).foldl (putK rs a b (getI [a, b] es)) acc)), .fr (.int a), .fr (.int b), y14, x15]) (by simp [seqD]) ⟨rfl, _, rfl⟩ (fun j d e r hd hI => ?_) fun e r hI => ?_
    · obtain ⟨rfl, y14, rfl⟩ := hI
      rw [List.getElem?_map] at hd
      obtain ⟨c, gc, rfl⟩ := Option.map_eq_some_iff.mp hd
      rw [foldl_take _ _ gc]
      have cm := rgI_mem.mp (List.mem_of_getElem? gc)
      have sq2 : Sq m (((rgI 0 m).take j).foldl (putK rs a b (getI [a, b] es)) acc) := putK_sq ha _ _ (fun z hz => rgI_mem.mp (List.mem_of_mem_take hz)) sq
      generalize ((rgI 0 m).take j).foldl (putK rs a b (getI [a, b] es)) acc = ac2 at sq2
      refine ok_bindT (e1 := En ns [.fr (tb m rs), x3, .fr (.lst ((rgI 0 m).map D.int)), x5, x6, x7, x8, .fr (.dic es), x10, .ow (.dic ac2), .fr (.int a), .fr (.int b), .fr (.int c), x15]) (by simp) ?_
      have q1 := res_q (b := b) (c := c) T
      have q2 := sh_resS rs b c
      have q3 := get2_of (a := a) (c := c) sq2
      have q4 := ix_of s km
      have q5 : ac2.length < LIM := by have := sq_len sq2 t1 m4; unfold LIM; omega
      have q6 := setD_dic2 (a := a) (b := c) (v := .int (getI [a, c] ac2 + getI [a, b] es)) q5
      refine ok_if (fun e r2 => r2 = r ∧ ∃ y14, e = En ns [.fr (tb m rs), x3, .fr (.lst ((rgI 0 m).map D.int)), x5, x6, x7, x8, .fr (.dic es), x10, .ow (.dic (putK rs a b (getI [a, b] es) ac2 c)), .fr (.int a), .fr (.int b), y14, x15]) (p := cB rs b c) (r1 := r) (by simp [q1, q2]) (fun hp => ?_) (fun hp => ?_) fun e r hj => ?_
      · have e1 : putK rs a b (getI [a, b] es) ac2 c = putD [a, c] (.int (getI [a, c] ac2 + getI [a, b] es)) ac2 := by unfold putK; rw [if_pos hp]
        rw [e1]
        exact ok_nx (env' := En ns [.fr (tb m rs), x3, .fr (.lst ((rgI 0 m).map D.int)), x5, x6, x7, x8, .fr (.dic es), x10, .ow (.dic (putD [a, c] (.int (getI [a, c] ac2 + getI [a, b] es)) ac2)), .fr (.int a), .fr (.int b), .fr (.int c), x15]) (r' := r) (by simp [q3, q4, q6]) (ok_nil ⟨_, _, rfl, rfl, _, rfl⟩)
      · have e1 : putK rs a b (getI [a, b] es) ac2 c = ac2 := by unfold putK; rw [if_neg (by simp [hp])]
        rw [e1]
        exact ok_nil ⟨_, _, rfl, rfl, _, rfl⟩
      · obtain ⟨rfl, y14, rfl⟩ := hj
        exact ok_nil ⟨_, _, rfl, rfl, _, rfl⟩
    · obtain ⟨rfl, y14, rfl⟩ := hI
      rw [List.length_map, List.take_length]
      exact ok_nil ⟨_, _, rfl, rfl, _, _, _, rfl⟩
  · obtain ⟨rfl, y12, y13, y14, rfl⟩ := hI
    rw [List.length_map, List.take_length]
    refine ok_nx (env' := En ns [.fr (tb m rs), x3, .fr (.lst ((rgI 0 m).map D.int)), x5, x6, x7, x8, .fr (.dic es), x10, .fr (.dic (newK rs m es)), y12, y13, y14, x15]) (r' := r') (by simp [frzE]; rfl) ?_
    exact ok_nx (env' := En ns [.fr (tb m rs), x3, .fr (.lst ((rgI 0 m).map D.int)), x5, x6, x7, x8, .fr (.dic (newK rs m es)), x10, .fr (.dic (newK rs m es)), y12, y13, y14, x15]) (r' := r') (by simp) (ok_nil ⟨_, _, rfl, rfl, _, _, _, _, rfl⟩)
theorem sumvals_of {rs : List (List Int)} {m : Int} {t : Nat} {es : List (List Int × D)} (h : Dk rs m t es) : biD .sumvals [.dic es] = .ok (.int (iterV rs m t (List.replicate m.toNat 1)).sum) := by
  obtain ⟨ns, e1, e2⟩ := vals_sum h.sq
  rw [← all_sum h, ← e2]
  show (match intsD (es.map (·.2)) with
    | some ns => R.ok (D.int ns.sum)
    | none => .no) = _
  rw [e1, intsD_map]
theorem due_of {ns : List Int} {rs : List (List Int)} {m k : Int} {t : Nat} {es : List (List Int × D)} {r : D} {x3 x4 x5 x6 x7 x8 x10 x11 x12 x13 x14 x15 : Sl} (T : TabOk m rs) (m4 : m ≤ 4) (h : Dk rs m t es) (hk : (k - 1).toNat = t) :
    evE (callD (GL c_law) 59) (.bi .sum (.cons (.lc (.ix (.loc 9) (.tup (.cons (.loc 12) (.cons (.loc 13) .nil)))) (.tp [(.nm 12), (.nm 13)]) (.keys (.loc 9)) (.cons (.cmp .eq (.call 15 (.cons (.loc 2) (.cons (.tup (.cons (.loc 13) (.cons (.loc 12) .nil))) .nil))) (.lst .nil)) .nil) [12, 13]) .nil)) (En ns [.fr (tb m rs), x3, x4, x5, x6, x7, x8, .fr (.dic es), x10, x11, x12, x13, x14, x15]) r = .ok (.int ((rgI 0 m).map (ringS rs m k)).sum, r) := by
  have kk : ∀ k ∈ es.map (·.1), ∃ a b, k = [a, b] := fun k hk => by
    obtain ⟨e, he, rfl⟩ := List.mem_map.mp hk
    obtain ⟨a, b, n, rfl, ha, _⟩ := h.sq.ent e he
    exact ⟨a, b, rfl⟩
  have hl := sq_len h.sq T.lo m4
  let P : D → Bool := fun d => match d with
    | .tup [.int a, .int b] => cB rs b a
    | _ => false
  let F : D → D := fun d => match d with
    | .tup [.int a, .int b] => .int (getI [a, b] es)
    | _ => .non
  have hf := lc_fm (cl := callD (GL c_law) 59) (env := En ns [.fr (tb m rs), x3, x4, x5, x6, x7, x8, .fr (.dic es), x10, x11, x12, x13, x14, x15]) (r := r) (el := .ix (.loc 9) (.tup (.cons (.loc 12) (.cons (.loc 13) .nil)))) (pe := .cmp .eq (.call 15 (.cons (.loc 2) (.cons (.tup (.cons (.loc 13) (.cons (.loc 12) .nil))) .nil))) (.lst .nil)) (tg := .tp [.nm 12, .nm 13]) (it := .keys (.loc 9)) (own := [12, 13]) (ds := (es.map (·.1)).map tI) P F (by simp) (by rw [List.length_map, List.length_map]; show _ ≤ (1000000 : Nat); omega) (fun d hd => by
    obtain ⟨k, hk, rfl⟩ := List.mem_map.mp hd
    obtain ⟨a, b, rfl⟩ := kk k hk
    have q1 := res_q (b := b) (c := a) T
    have q2 := sh_resS rs b a
    have q4 := ix_of h.sq hk
    exact ⟨En ns [.fr (tb m rs), x3, x4, x5, x6, x7, x8, .fr (.dic es), x10, x11, .fr (.int a), .fr (.int b), x14, x15], by simp [wipeE, tI2], by simp [q1, q2, P, tI2], by simp [q4, F, tI2]⟩)
  have e1 : ∀ ks : List (List Int), (∀ k ∈ ks, ∃ a b, k = [a, b]) → ∃ l : List Int, ((ks.map tI).filter P).map F = l.map D.int ∧ l.sum = sm ks (dueF rs es) := fun ks => by
    induction ks with
    | nil => exact fun _ => ⟨[], rfl, rfl⟩
    | cons k ks ih =>
      intro hk
      obtain ⟨a, b, rfl⟩ := hk k List.mem_cons_self
      obtain ⟨l, h1, h2⟩ := ih fun k h => hk k (List.mem_cons_of_mem _ h)
      rw [List.map_cons, List.filter_cons, sm_cons]
      by_cases q : cB rs b a = true
      · rw [if_pos (show P (tI [a, b]) = true from q)]
        refine ⟨getI [a, b] es :: l, by rw [List.map_cons, h1]; rfl, ?_⟩
        rw [List.sum_cons, h2]
        show _ = (if cB rs b a then getI [a, b] es else 0) + _
        rw [if_pos q]
      · rw [if_neg (show ¬ P (tI [a, b]) = true from q)]
        refine ⟨l, h1, ?_⟩
        rw [h2]
        show _ = (if cB rs b a then getI [a, b] es else 0) + _
        rw [if_neg q]; omega
  obtain ⟨l, h1, h2⟩ := e1 _ kk
  rw [h1] at hf
  rw [e_bi, es_cons, hf]
  simp only [b_ok, es_nil, sum_lI, h2, due_sum h hk]
end PLk16

set_option Elab.async false
set_option linter.all false
set_option maxRecDepth 100000
set_option autoImplicit false
set_option maxHeartbeats 400000
namespace PLk16
open PySem PL PLX
theorem long_ok {ns : List Int} {m k : Int} {rs : List (List Int)} {r : D} {x3 x5 x6 x7 x10 x11 x12 x13 x14 x15 : Sl} (T : TabOk m rs) (m4 : m ≤ 4) (hr : RowI r) :
    Ok (evSs (callD (GL c_law) 59) (.cons (.asg 8 (.bin .add (.cst (.int 3)) (.callr 10 (.cons (.cst (.int 28)) .nil)))) (.cons (.asg 9 (.bi .dictp (.cons (.lc (.tup (.cons (.tup (.cons (.loc 6) (.cons (.loc 6) .nil))) (.cons (.cst (.int 1)) .nil))) (.nm 6) (.seq (.loc 4)) .nil [6]) .nil))) (.cons (.for_ (.nm 10) (.rng1 (.bin .sub (.loc 8) (.cst (.int 1)))) (.cons (.own 11 .emp) (.cons (.for_ (.tp [(.nm 12), (.nm 13)]) (.keys (.loc 9)) (.cons (.for_ (.nm 14) (.seq (.loc 4)) (.cons (.ite (.cmp .eq (.call 15 (.cons (.loc 2) (.cons (.tup (.cons (.loc 13) (.cons (.loc 14) .nil))) .nil))) (.lst .nil)) (.cons (.setx 11 (.tup (.cons (.loc 12) (.cons (.loc 14) .nil))) (.bin .add (.bi .get2 (.cons (.bor 11) (.cons (.tup (.cons (.loc 12) (.cons (.loc 14) .nil))) (.cons (.cst (.int 0)) .nil)))) (.ix (.loc 9) (.tup (.cons (.loc 12) (.cons (.loc 13) .nil)))))) .nil) .nil) .nil)) .nil)) (.cons (.frz [11]) (.cons (.asg 9 (.loc 11)) .nil))))) (.cons (.ite (.not (.call 14 (.cons (.call 107 (.cons (.loc 2) (.cons (.loc 8) .nil))) (.cons (.bi .sumvals (.cons (.loc 9) .nil)) .nil)))) (.cons (.ret (.cst (.bl false))) .nil) .nil) (.cons (.asg 15 (.bi .sum (.cons (.lc (.ix (.loc 9) (.tup (.cons (.loc 12) (.cons (.loc 13) .nil)))) (.tp [(.nm 12), (.nm 13)]) (.keys (.loc 9)) (.cons (.cmp .eq (.call 15 (.cons (.loc 2) (.cons (.tup (.cons (.loc 13) (.cons (.loc 12) .nil))) .nil))) (.lst .nil)) .nil) [12, 13]) .nil))) (.cons (.ret (.call 14 (.cons (.call 102 (.cons (.loc 2) (.cons (.loc 8) .nil))) (.cons (.loc 15) .nil)))) .nil)))))) (En ns [.fr (tb m rs), x3, .fr (.lst ((rgI 0 m).map D.int)), x5, x6, x7, .no, .no, x10, x11, x12, x13, x14, x15]) r) (outK fun p => p.1 = .bl true) := by
  have t1 := T.lo
  refine ok_asg (oe_bin (oe_of (d := .int 3) (r' := r) rfl (oe_take (m := 28) hr (by decide) (by decide) (by simp) fun v r1 v0 v1 hr1 => Ok.of (a := .int (3 + v)) (by simp) ?_)))
  have k3 : 3 ≤ 3 + v := by omega
  have k30 : 3 + v ≤ 30 := by omega
  generalize 3 + v = k at k3 k30
  obtain ⟨es0, d0, D0⟩ := dict0 (rs := rs) t1 m4
  have hm := lc_mapI (cl := callD (GL c_law) 59) (env := En ns [.fr (tb m rs), x3, .fr (.lst ((rgI 0 m).map D.int)), x5, x6, x7, .fr (.int k), .no, x10, x11, x12, x13, x14, x15]) (r := r1) (el := .tup (.cons (.tup (.cons (.loc 6) (.cons (.loc 6) .nil))) (.cons (.cst (.int 1)) .nil))) (tg := .nm 6) (it := .seq (.loc 4)) (own := [6]) (ds := (rgI 0 m).map D.int) (fun d => .tup [.tup [d, d], .int 1]) (by simp [seqD]) (by rw [List.length_map, rgI_len]; show _ ≤ (1000000 : Nat); omega) (fun d _ => by simp [wipeE])
  rw [List.map_map] at hm
  have hm : evE (callD (GL c_law) 59) (.lc (.tup (.cons (.tup (.cons (.loc 6) (.cons (.loc 6) .nil))) (.cons (.cst (.int 1)) .nil))) (.nm 6) (.seq (.loc 4)) .nil [6]) (En ns [.fr (tb m rs), x3, .fr (.lst ((rgI 0 m).map D.int)), x5, x6, x7, .fr (.int k), .no, x10, x11, x12, x13, x14, x15]) r1 = .ok (.lst ((rgI 0 m).map fun z => .tup [.tup [.int z, .int z], .int 1]), r1) := hm
  refine ok_nx (env' := En ns [.fr (tb m rs), x3, .fr (.lst ((rgI 0 m).map D.int)), x5, x6, x7, .fr (.int k), .fr (.dic es0), x10, x11, x12, x13, x14, x15]) (r' := r1) (by
    rw [s_asg, e_bi, es_cons]
    show ((R.bind (R.bind (evE (callD (GL c_law) 59) (.lc (.tup (.cons (.tup (.cons (.loc 6) (.cons (.loc 6) .nil))) (.cons (.cst (.int 1)) .nil))) (.nm 6) (.seq (.loc 4)) .nil [6]) (En ns [.fr (tb m rs), x3, .fr (.lst ((rgI 0 m).map D.int)), x5, x6, x7, .fr (.int k), .no, x10, x11, x12, x13, x14, x15]) r1) _) _).bind _) = _
    rw [hm]
    simp only [b_ok, es_nil, d0]
    rfl) ?_
  refine ok_for (r1 := r1) (ds := (rgI 0 (k - 1)).map D.int) (fun i e r => r = r1 ∧ ∃ es y10 y11 y12 y13 y14, e = En ns [.fr (tb m rs), x3, .fr (.lst ((rgI 0 m).map D.int)), x5, x6, x7, .fr (.int k), .fr (.dic es), y10, y11, y12, y13, y14, x15] ∧ Dk rs m i es) (it_rng1 (by omega) (by omega) (by simp)) ⟨rfl, _, _, _, _, _, _, rfl, D0⟩ (fun i d e r hd hI => ?_) fun e r hI => ?_
  · obtain ⟨rfl, es, y10, y11, y12, y13, y14, rfl, Di⟩ := hI
    refine ok_bindT (e1 := En ns [.fr (tb m rs), x3, .fr (.lst ((rgI 0 m).map D.int)), x5, x6, x7, .fr (.int k), .fr (.dic es), .fr d, y11, y12, y13, y14, x15]) (by simp) ?_
    refine (one_place T m4 Di.sq).mono fun x hx => ?_
    obtain ⟨e', r', rfl, rfl, z11, z12, z13, z14, rfl⟩ := hx
    exact ⟨_, _, rfl, rfl, _, _, _, _, _, _, rfl, Di.next⟩
  · obtain ⟨rfl, es, y10, y11, y12, y13, y14, rfl, Di⟩ := hI
    rw [List.length_map, rgI_len] at Di
    have e0 : (k - 1 - 0).toNat = (k - 1).toNat := by omega
    rw [e0] at Di
    have c1 := ev_row_count (c := c_law) (n := 55) (k := k) T (by omega) k30
    have c2 := ev_ring_count (c := c_law) (n := 55) T k3 k30
    have v1 := sumvals_of Di
    generalize hA : (iterV rs m (k - 1).toNat (List.replicate m.toNat 1)).sum = A at c1 v1
    have a1 := alike_int (c := c_law) (n := 58) A A
    refine ok_nx (env' := En ns [.fr (tb m rs), x3, .fr (.lst ((rgI 0 m).map D.int)), x5, x6, x7, .fr (.int k), .fr (.dic es), y10, y11, y12, y13, y14, x15]) (r' := r) (by simp [c1, v1, a1]) ?_
    have du := due_of (ns := ns) (r := r) (x3 := x3) (x4 := .fr (.lst ((rgI 0 m).map D.int))) (x5 := x5) (x6 := x6) (x7 := x7) (x8 := .fr (.int k)) (x10 := y10) (x11 := y11) (x12 := y12) (x13 := y13) (x14 := y14) (x15 := x15) T m4 Di (k := k) rfl
    generalize ((rgI 0 m).map (ringS rs m k)).sum = B at c2 du
    refine ok_nx (env' := En ns [.fr (tb m rs), x3, .fr (.lst ((rgI 0 m).map D.int)), x5, x6, x7, .fr (.int k), .fr (.dic es), y10, y11, y12, y13, y14, .fr (.int B)]) (r' := r) (by rw [s_asg, du]; rfl) ?_
    have a2 := alike_int (c := c_law) (n := 58) B B
    exact ok_rt (d := .bl true) (r' := r) (by simp [c2, a2]) rfl
theorem law_run (ns : List Int) : Ok (callD (GL c_law) 60 115 .non [.scr ns]) fun p => p.1 = .bl true := by
  refine call_ok (G115 c_law) (env := En ns [.no, .no, .no, .no, .no, .no, .no, .no, .no, .no, .no, .no, .no, .no]) rfl rfl rfl ?_
  refine ok_nx (env' := En ns [.no, .no, .no, .no, .no, .no, .no, .no, .no, .no, .no, .no, .no, .no]) (r' := .lst [.scr ns, .int 0, .int 10116, .int 0]) (by simp) ?_
  refine ok_asg (oe_callr rfl (ds := [.int 4]) (by simp) ((ev_table (n := 56) (row0 ns 10116 (by decide) (by decide)) (by decide) (by decide)).mono fun p hp => ?_))
  obtain ⟨d1, r⟩ := p
  obtain ⟨m, rs, e, m2, m4, T, l4, hr⟩ := hp
  have e : d1 = _ := e
  subst e
  have hr : RowI r := hr
  have t1 := T.lo
  refine ok_asgP (oe_cons (oe_bin (oe_of (d := .int 1) (r' := r) rfl (oe_take (m := 4) hr (by decide) (by decide) (by simp) fun v r1 v0 v1 hr1 => Ok.of (a := .int (1 + v)) (by simp) ?_))))
  have k1 : 1 ≤ 1 + v := by omega
  have k4 : 1 + v ≤ 4 := by omega
  generalize 1 + v = k at k1 k4
  refine Ok.of (a := ([.lst ((rgI 0 m).map D.int)], r1)) (by simp [rgl1_of (show 0 ≤ m by omega) (show m ≤ 1000000 by omega)]) ⟨En ns [.fr (tb m rs), .fr (.int k), .fr (.lst ((rgI 0 m).map D.int)), .no, .no, .no, .no, .no, .no, .no, .no, .no, .no, .no], by simp, ?_⟩
  have pw : m.toNat ^ k.toNat ≤ 256 := Nat.le_trans (Nat.pow_le_pow_left (by omega : m.toNat ≤ 4) _) (Nat.le_trans (Nat.pow_le_pow_right (by decide) (by omega : k.toNat ≤ 4)) (by decide))
  have ev : callD (GL c_law) 59 40 .non [.int k, .int m] = .ok (.lst ((evS k.toNat m).map tI), .non) := ev_every (n := 58) (by omega) (by omega) (by omega) (by omega) (by omega)
  refine ok_nx (env' := En ns [.fr (tb m rs), .fr (.int k), .fr (.lst ((rgI 0 m).map D.int)), .fr (.lst ((evS k.toNat m).map tI)), .no, .no, .no, .no, .no, .no, .no, .no, .no, .no]) (r' := r1) (by simp [ev]) ?_
  have c1 := ev_row_count (c := c_law) (n := 55) (k := k) T k1 (by omega)
  have rw87 : callD (GL c_law) 59 87 .non [.int k] = .ok (tb k (rowE k), .non) := ev_row_web (n := 58) k1 (by omega)
  have We := rowE_ok k1 (show k ≤ 8 by omega)
  have n1 := starts_count (rs := rs) (es := rowE k) (k := k) (env := En ns [.fr (tb m rs), .fr (.int k), .fr (.lst ((rgI 0 m).map D.int)), .fr (.lst ((evS k.toNat m).map tI)), .no, .no, .no, .no, .no, .no, .no, .no, .no, .no]) (r := r1) (e7 := .call 87 (.cons (.loc 3) .nil)) T l4 m4 k1 k4 We.ed We.len rfl (fun d => by simp [wipeE, rw87, b_assoc]) (fun d => by simp [wipeE])
  have cnt1 : (((evS k.toNat m).filter fun s => (mvS rs (rowE k) s).isEmpty).length : Int) = (iterV rs m (k - 1).toNat (List.replicate m.toNat 1)).sum := by
    rw [row_sum, show (k - 1).toNat + 1 = k.toNat from by omega]
    congr 2
    exact List.filter_congr fun s hs => row_empty (by have := (evS_mem.mp hs).1; omega)
  rw [cnt1] at n1
  generalize (iterV rs m (k - 1).toNat (List.replicate m.toNat 1)).sum = A at c1 n1
  have a1 := alike_int (c := c_law) (n := 58) A A
  refine ok_nx (env' := En ns [.fr (tb m rs), .fr (.int k), .fr (.lst ((rgI 0 m).map D.int)), .fr (.lst ((evS k.toNat m).map tI)), .no, .no, .no, .no, .no, .no, .no, .no, .no, .no]) (r' := r1) ?_ ?_
  · have f1 : evE (callD (GL c_law) 59) (.call 107 (.cons (.loc 2) (.cons (.loc 3) .nil))) (En ns [.fr (tb m rs), .fr (.int k), .fr (.lst ((rgI 0 m).map D.int)), .fr (.lst ((evS k.toNat m).map tI)), .no, .no, .no, .no, .no, .no, .no, .no, .no, .no]) r1 = .ok (.int A, r1) := by simp [c1]
    rw [s_ite, e_not, e_call, es_cons, f1]
    simp only [b_ok]
    rw [es_cons, n1]
    simp [a1]
  by_cases h2 : 2 < k
  · have c2 := ev_ring_count (c := c_law) (n := 55) T (show 3 ≤ k by omega) (by omega)
    have Wr : ∀ e ∈ rowE k ++ [[0, k - 1]], EdgeOk k e := fun e he => by
      rcases List.mem_append.mp he with he | he
      · exact We.ed e he
      · rw [List.mem_singleton] at he; subst he
        exact ⟨0, k - 1, rfl, by omega, by omega, by omega⟩
    have rl : (rowE k).length ≤ 4 := by unfold PLX.rowE; rw [List.length_map, rgI_len]; omega
    have n2 := starts_count (rs := rs) (es := rowE k ++ [[0, k - 1]]) (k := k) (env := En ns [.fr (tb m rs), .fr (.int k), .fr (.lst ((rgI 0 m).map D.int)), .fr (.lst ((evS k.toNat m).map tI)), .no, .fr (tb k (rowE k ++ [[0, k - 1]])), .no, .no, .no, .no, .no, .no, .no, .no]) (r := r1) (e7 := .loc 7) T l4 m4 k1 k4 Wr (by rw [List.length_append]; simp; omega) rfl (fun d => by simp [wipeE, b_assoc]) (fun d => by simp [wipeE])
    have cnt2 : (((evS k.toNat m).filter fun s => (mvS rs (rowE k ++ [[0, k - 1]]) s).isEmpty).length : Int) = ((rgI 0 m).map (ringS rs m k)).sum := by
      rw [ring_sum rs m k (k - 1).toNat rfl, show (k - 1).toNat + 1 = k.toNat from by omega]
      congr 2
      exact List.filter_congr fun s hs => ring_empty (by have := (evS_mem.mp hs).1; omega) k1
    rw [cnt2] at n2
    generalize ((rgI 0 m).map (ringS rs m k)).sum = B at c2 n2
    have a2 := alike_int (c := c_law) (n := 58) B B
    have ll : ((rowE k).map tI).length + 1 ≤ LIM := by rw [List.length_map]; unfold LIM; omega
    have eW : tb k (rowE k ++ [[0, k - 1]]) = .tup [.int k, .tup ((rowE k).map tI ++ [.tup [.int 0, .int (k - 1)]])] := by
      unfold tb
      rw [List.map_append]; rfl
    have i1 : ixD (tb k (rowE k)) (.int 1) = .ok (.tup ((rowE k).map tI)) := by unfold tb; rw [ixT _ (by decide)]; rfl
    refine ok_ite (p := true) (r1 := r1) (by simp [h2]) (fun _ => ?_) fun h => by cases h
    refine ok_nx (env' := En ns [.fr (tb m rs), .fr (.int k), .fr (.lst ((rgI 0 m).map D.int)), .fr (.lst ((evS k.toNat m).map tI)), .no, .fr (tb k (rowE k ++ [[0, k - 1]])), .no, .no, .no, .no, .no, .no, .no, .no]) (r' := r1) (by
      rw [eW]
      generalize (rowE k).map tI = R at ll i1
      simp [rw87, i1, ll]) ?_
    refine ok_nx (env' := En ns [.fr (tb m rs), .fr (.int k), .fr (.lst ((rgI 0 m).map D.int)), .fr (.lst ((evS k.toNat m).map tI)), .no, .fr (tb k (rowE k ++ [[0, k - 1]])), .no, .no, .no, .no, .no, .no, .no, .no]) (r' := r1) ?_ ?_
    · have f2 : evE (callD (GL c_law) 59) (.call 102 (.cons (.loc 2) (.cons (.loc 3) .nil))) (En ns [.fr (tb m rs), .fr (.int k), .fr (.lst ((rgI 0 m).map D.int)), .fr (.lst ((evS k.toNat m).map tI)), .no, .fr (tb k (rowE k ++ [[0, k - 1]])), .no, .no, .no, .no, .no, .no, .no, .no]) r1 = .ok (.int B, r1) := by simp [c2]
      rw [s_ite, e_not, e_call, es_cons, f2]
      simp only [b_ok]
      rw [es_cons, n2]
      simp [a2]
    exact ok_nil (long_ok (k := k) T m4 hr1)
  · refine ok_ite (p := false) (r1 := r1) (by simp [h2]) (fun h => by cases h) fun _ => ?_
    exact ok_nil (long_ok (k := k) T m4 hr1)
theorem law_ok (ns : List Int) (h : ns.length ≤ 63) : isT (callD (GL c_law) 60 115 .non [.scr ns]) = true := by
  obtain ⟨⟨d, r⟩, e, h⟩ := law_run ns
  have h : d = .bl true := h
  rw [e, h]; rfl
end PLk16


set_option Elab.async false
set_option linter.all false
set_option maxRecDepth 100000
set_option maxHeartbeats 0
namespace PLk16
open PySem PySem.Spec PyProof.Rows L2 PL
def top (i : Nat) : Stmt := PySem.Challenge.pw_pairbooks_k16_whole_counts_of_rests.main.body.getD i (.Pass ⟨0, 0, 0, 0⟩)
def G : List Fd := PL.GL c_law
def lawId : Nat := 115
def d_is_in : Df := ⟨0, (Str.ofString "is_in"), top 5, [(Str.ofString "value"), (Str.ofString "least"), (Str.ofString "most")], none, c_is_in⟩
def d_is_rule : Df := ⟨1, (Str.ofString "is_rule"), top 9, [(Str.ofString "value"), (Str.ofString "many"), (Str.ofString "one")], none, c_is_rule⟩
def d_need_table : Df := ⟨2, (Str.ofString "need_table"), top 10, [(Str.ofString "table"), (Str.ofString "index"), (Str.ofString "one")], none, c_need_table⟩
def d_results_in : Df := ⟨4, (Str.ofString "results_in"), top 11, [(Str.ofString "table"), (Str.ofString "pair"), (Str.ofString "found"), (Str.ofString "a"), (Str.ofString "b"), (Str.ofString "c"), (Str.ofString "d")], none, c_results_in⟩
def d_calm_sum : Df := ⟨101, (Str.ofString "calm_sum"), top 14, [(Str.ofString "table"), (Str.ofString "rows"), (Str.ofString "kind"), (Str.ofString "last"), (Str.ofString "more")], none, c_calm_sum⟩
def d_rest_row_count : Df := ⟨107, (Str.ofString "rest_row_count"), top 15, [(Str.ofString "table"), (Str.ofString "many"), (Str.ofString "rows"), (Str.ofString "place"), (Str.ofString "kind")], none, c_rest_row_count⟩
def d_rest_ring_count : Df := ⟨102, (Str.ofString "rest_ring_count"), top 16, [(Str.ofString "table"), (Str.ofString "many"), (Str.ofString "found"), (Str.ofString "first"), (Str.ofString "rows"), (Str.ofString "kind"), (Str.ofString "place")], none, c_rest_ring_count⟩
def d__law_taken : Df := ⟨10, (Str.ofString "_law_taken"), top 18, [(Str.ofString "_law_row_here"), (Str.ofString "_law_many"), (Str.ofString "_law_found"), (Str.ofString "_law_cell")], some 0, c_l_taken⟩
def d__law_order : Df := ⟨11, (Str.ofString "_law_order"), top 19, [(Str.ofString "_law_row_here"), (Str.ofString "_law_many"), (Str.ofString "_law_left"), (Str.ofString "_law_found"), (Str.ofString "_law_turn"), (Str.ofString "_law_at")], some 0, c_l_order⟩
def d__law_rule : Df := ⟨12, (Str.ofString "_law_rule"), top 20, [(Str.ofString "_law_pair"), (Str.ofString "_law_other"), (Str.ofString "_law_one"), (Str.ofString "_law_two")], none, c_l_rule⟩
def d__law_table : Df := ⟨13, (Str.ofString "_law_table"), top 21, [(Str.ofString "_law_row_here"), (Str.ofString "_law_most"), (Str.ofString "_law_many"), (Str.ofString "_law_way"), (Str.ofString "_law_rules"), (Str.ofString "_law_order_here"), (Str.ofString "_law_turn"), (Str.ofString "_law_pair"), (Str.ofString "_law_other"), (Str.ofString "_law_top"), (Str.ofString "_law_rule_here")], some 0, c_l_table⟩
def d__law_every : Df := ⟨40, (Str.ofString "_law_every"), top 22, [(Str.ofString "_law_many"), (Str.ofString "_law_kinds"), (Str.ofString "_law_found"), (Str.ofString "_law_k"), (Str.ofString "_law_more"), (Str.ofString "_law_one"), (Str.ofString "_law_kind")], none, c_l_every⟩
def d__law_alike : Df := ⟨14, (Str.ofString "_law_alike"), top 23, [(Str.ofString "_law_found"), (Str.ofString "_law_due"), (Str.ofString "_law_k")], none, c_l_alike⟩
def d__law_results : Df := ⟨15, (Str.ofString "_law_results"), top 24, [(Str.ofString "_law_table_here"), (Str.ofString "_law_pair"), (Str.ofString "_law_found"), (Str.ofString "_law_a"), (Str.ofString "_law_b"), (Str.ofString "_law_c"), (Str.ofString "_law_d")], none, c_l_results⟩
def d__law_moves : Df := ⟨39, (Str.ofString "_law_moves"), top 25, [(Str.ofString "_law_table_here"), (Str.ofString "_law_web"), (Str.ofString "_law_start"), (Str.ofString "_law_found"), (Str.ofString "_law_a"), (Str.ofString "_law_b"), (Str.ofString "_law_pair"), (Str.ofString "_law_there"), (Str.ofString "_law_k")], none, c_l_moves⟩
def d__law_row : Df := ⟨87, (Str.ofString "_law_row"), top 26, [(Str.ofString "_law_many"), (Str.ofString "_law_k")], none, c_row_web⟩
def d_law : Df := ⟨115, (Str.ofString "law"), top 27, [(Str.ofString "_law_script"), (Str.ofString "_law_row_here"), (Str.ofString "_law_table_here"), (Str.ofString "_law_many"), (Str.ofString "_law_kinds"), (Str.ofString "_law_starts"), (Str.ofString "_law_one"), (Str.ofString "_law_ring"), (Str.ofString "_law_long"), (Str.ofString "_law_sums"), (Str.ofString "_law_turn"), (Str.ofString "_law_more"), (Str.ofString "_law_first"), (Str.ofString "_law_last"), (Str.ofString "_law_kind"), (Str.ofString "_law_due")], some 1, c_law⟩
def ds : List Df := [d_is_in, d_is_rule, d_need_table, d_results_in, d_calm_sum, d_rest_row_count, d_rest_ring_count, d__law_taken, d__law_order, d__law_rule, d__law_table, d__law_every, d__law_alike, d__law_results, d__law_moves, d__law_row, d_law]
def fs : List ((Nat × Str) × Nat × Bool) := [((0, (Str.ofString "is_in")), 3, false), ((1, (Str.ofString "is_rule")), 2, false), ((2, (Str.ofString "need_table")), 1, false), ((4, (Str.ofString "results_in")), 2, false), ((101, (Str.ofString "calm_sum")), 3, false), ((107, (Str.ofString "rest_row_count")), 2, false), ((102, (Str.ofString "rest_ring_count")), 2, false), ((10, (Str.ofString "_law_taken")), 2, true), ((11, (Str.ofString "_law_order")), 2, true), ((12, (Str.ofString "_law_rule")), 2, false), ((13, (Str.ofString "_law_table")), 2, true), ((40, (Str.ofString "_law_every")), 2, false), ((14, (Str.ofString "_law_alike")), 2, false), ((15, (Str.ofString "_law_results")), 2, false), ((39, (Str.ofString "_law_moves")), 3, false), ((87, (Str.ofString "_law_row")), 1, false)]
def co : List (Str × Int) := [((Str.ofString "MOST_KINDS"), 5), ((Str.ofString "MOST_RULES"), 20), ((Str.ofString "MOST_ROW"), 30)]
def names : List PySem.Str := (["__name__", "PairError", "BadTable", "BadCount", "is_in", "MOST_KINDS", "MOST_RULES", "is_rule", "need_table", "results_in", "MOST_ROW", "calm_sum", "rest_row_count", "rest_ring_count", "_law_taken", "_law_order", "_law_rule", "_law_table", "_law_every", "_law_alike", "_law_results", "_law_moves", "_law_row"] : List PySem.Str)
theorem ck : ds.all (chkDf co fs) = true := by kernel_rfl
theorem bd : ∀ d ∈ ds, BindOk d := by
  unfold ds
  refine fm (fun kV doc pm an cdv ct us hl => match us, hl with | [_, _, _], _ => rfl) ?_
  refine fm (fun kV doc pm an cdv ct us hl => match us, hl with | [_, _], _ => rfl) ?_
  refine fm (fun kV doc pm an cdv ct us hl => match us, hl with | [_], _ => rfl) ?_
  refine fm (fun kV doc pm an cdv ct us hl => match us, hl with | [_, _], _ => rfl) ?_
  refine fm (fun kV doc pm an cdv ct us hl => match us, hl with | [_, _, _], _ => rfl) ?_
  refine fm (fun kV doc pm an cdv ct us hl => match us, hl with | [_, _], _ => rfl) ?_
  refine fm (fun kV doc pm an cdv ct us hl => match us, hl with | [_, _], _ => rfl) ?_
  refine fm (fun kV doc pm an cdv ct us hl => match us, hl with | [_, _], _ => rfl) ?_
  refine fm (fun kV doc pm an cdv ct us hl => match us, hl with | [_, _], _ => rfl) ?_
  refine fm (fun kV doc pm an cdv ct us hl => match us, hl with | [_, _], _ => rfl) ?_
  refine fm (fun kV doc pm an cdv ct us hl => match us, hl with | [_, _], _ => rfl) ?_
  refine fm (fun kV doc pm an cdv ct us hl => match us, hl with | [_, _], _ => rfl) ?_
  refine fm (fun kV doc pm an cdv ct us hl => match us, hl with | [_, _], _ => rfl) ?_
  refine fm (fun kV doc pm an cdv ct us hl => match us, hl with | [_, _], _ => rfl) ?_
  refine fm (fun kV doc pm an cdv ct us hl => match us, hl with | [_, _, _], _ => rfl) ?_
  refine fm (fun kV doc pm an cdv ct us hl => match us, hl with | [_], _ => rfl) ?_
  refine fm (fun kV doc pm an cdv ct us hl => match us, hl with | [_], _ => rfl) ?_
  exact fm0
theorem hG : ∀ d ∈ ds, G[d.id]? = some d.fd := by
  unfold ds
  refine fm rfl ?_
  refine fm rfl ?_
  refine fm rfl ?_
  refine fm rfl ?_
  refine fm rfl ?_
  refine fm rfl ?_
  refine fm rfl ?_
  refine fm rfl ?_
  refine fm rfl ?_
  refine fm rfl ?_
  refine fm rfl ?_
  refine fm rfl ?_
  refine fm rfl ?_
  refine fm rfl ?_
  refine fm rfl ?_
  refine fm rfl ?_
  refine fm rfl ?_
  exact fm0
theorem hfs : (fs.all fun p => ds.any fun d => d.id == p.1.1 && d.x == p.1.2 && d.fd.np == p.2.1 && d.fd.row == p.2.2) = true := by kernel_rfl
theorem hdl : d_law ∈ ds := List.mem_iff_getElem?.mpr ⟨16, rfl⟩
abbrev R : PySem.W.OpenRow := PySem.W.OpenLaw.row PySem.Challenge.rw_pairbooks_k16_whole_counts_of_rests
abbrev hk : PySem.W.Hook := He.hookD 4 (faOf ds co) (ds.map toDD)
def ob (s : PySem.W.SharedT) : He.AlD := He.obsDG 4 (faOf ds co) (ds.map toDD) (HandSHeadRun.getT s)
theorem ob_eq (s : PySem.W.SharedT) : ob s = hk.obs s.abs := He.obsDG_eq (HandSHeadRun.getT_eq s)
theorem run (w : World) : HandSHeadRun.RunEq R (PySem.W.view R.prog [27]) hk ob 20000 names w := by
  intro os
  kernel_rfl
end PLk16
open PySem PySem.W PySem.Calls PyProof.Rows
theorem PySem.Challenge.cw_pairbooks_k16_whole_counts_of_rests_holds : PySem.Challenge.rw_pairbooks_k16_whole_counts_of_rests.Holds := by
  w_on; o_law
  refine HandSHeadRun.head_any (r := OpenLaw.row PySem.Challenge.rw_pairbooks_k16_whole_counts_of_rests) (q := view (OpenLaw.row PySem.Challenge.rw_pairbooks_k16_whole_counts_of_rests).prog [27]) (H := PLk16.hk) (ob := PLk16.ob) (M := 20000) (loose := PLk16.names) (d := HandSHeadRun.topDef (OpenLaw.row PySem.Challenge.rw_pairbooks_k16_whole_counts_of_rests).prog 27) (kwd := []) PLk16.ob_eq
    (by kernel_rfl) (fun s => by kernel_rfl) PLk16.run (by kernel_rfl) (by kernel_rfl) (by kernel_rfl) (by rfl) (by first | assumption | decide +kernel) (by decide +kernel) ⟨rfl, rfl, rfl, rfl, rfl, by decide +kernel⟩ ?hw ?hc
  case hw => w_witness2
  case hc =>
    refine PL.pl_walk (l := PySem.Challenge.rw_pairbooks_k16_whole_counts_of_rests) (dl := PLk16.d_law) (n := 59) rfl (by kernel_rfl) ⟨rfl, by decide, by decide⟩ PLk16.hdl rfl (by kernel_rfl) rfl rfl PLk16.ck PLk16.bd PLk16.hG PLk16.hfs PLk16.law_ok

