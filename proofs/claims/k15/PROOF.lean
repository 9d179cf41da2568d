import PyProof.Rows.All
import Wide.All
import OpenK.AllK
import Wide.FinOn
import KE.KStateDown
import HandS.ForMost
import HandS.Deep
import HandS.Wide
import HandS.WideBits
import HandS.Gcd
import HandS.TupAny
import HandS.TupMul
import HandS.Style
import HandS.SortInts
import HandS.Flow
import HandS.IsInst
import HandS.Conv
import HandS.NoneIn
import HandS.Head0
import HandS.Head1
import HandS.Head2
import HandS.HeadEnd
import HandS.HeadHook1
import HandS.HeadHook2
import KE.DataMinMax
import HandS.Head3
import HandS.Head4
import HandS.HeadHook3
import HandS.HeadHook4
import PySem.Challenge.RW_gridtrees_k15_whole_next_ones_led_to_nex
section
set_option Elab.async false
set_option linter.all false
set_option maxRecDepth 100000
set_option maxHeartbeats 4000000
namespace Dk
open PySem PySem.Spec PyProof.Rows L2
/-! ## own syntax -/
inductive Bop where
  | add | sub | mul | fdiv | mod | pow
  deriving DecidableEq
inductive Cop where
  | eq | ne | lt | le | gt | ge | is | isnt | isin | notin
  deriving DecidableEq
inductive Bf where
  | abs | max2 | min2 | len | int | repr | all | tuple | list | sum | max1 | min1 | sorted | str
  | listM
  deriving DecidableEq
inductive Ty where
  | int | bool | str | tuple | list
  deriving DecidableEq
inductive SF where
  | left | mixed | turn
  deriving DecidableEq
/-! a target: a slot, a tuple of targets -/
mutual
inductive Tg where
  | nm (i : Nat)
  | tp (ts : Tgs)
inductive Tgs where
  | nil
  | cons (t : Tg) (ts : Tgs)
end
mutual
inductive E where
  | var (i : Nat)
  | int (i : Int)
  | bl (b : Bool)
  | non
  | str (x : Str)
  | neg (a : E)
  | notv (a : E)
  | bop (o : Bop) (a b : E)
  | cmp (o : Cop) (a b : E)
  | chain (o o' : Cop) (a b c : E)
  | and (a b : E)
  | or (a b : E)
  | ife (c : T) (a b : E)
  | tup (es : Es)
  | lst (mu : Bool) (es : Es)
  | dnew
  | call (f : Str) (es : Es)
  | bf (f : Bf) (es : Es)
  | isi (a : E) (t : Ty)
  | ix (a i : E)
  | dget (v : Nat) (k : E)
  | sl (a : E) (lo hi : O)
  | rev (a : E)
  | lc (mu : Bool) (elt : E) (own : List (Str × Nat)) (tg : Tg) (it : It) (iff : T)
  | bits (a : E)
  | pop (v : Nat) (i : Option Int)
  | sget (v : Nat) (f : SF)
  | slen (v : Nat)
  | spop (v : Nat)
  | glo (x : Str)
  | idx (a e : E)
  | lrng1 (mu : Bool) (hi : E)
  | lrng2 (mu : Bool) (lo hi : E)
  | popE (v : Nat) (e : E)
  | addM (a b : E)
inductive Es where
  | nil
  | cons (e : E) (es : Es)
inductive It where
  | rng (es : Es)
  | seq (e : E)
  | enum (e : E)
  | zip (a b : E)
inductive T where
  | tt
  | val (e : E)
  | cmp (o : Cop) (a b : E)
  | chain (o o' : Cop) (a b c : E)
  | and (a b : T)
  | or (a b : T)
  | not (a : T)
inductive O where
  | no
  | so (e : E)
end
mutual
inductive S where
  | asg (t : Tg) (e : E)
  | par (i j : Nat) (a b : E)
  | par3 (i j l : Nat) (a b c : E)
  | aug (i : Nat) (o : Bop) (e : E)
  | app (v : Nat) (e : E)
  | seti (v : Nat) (k e : E)
  | sset (v : Nat) (f : SF) (e : E)
  | ex (e : E)
  | ite (c : T) (a b : Ss)
  | whl (c : T) (b : Ss)
  | for_ (t : Tg) (it : It) (b : Ss)
  | ret (e : E)
  | brk
  | cnt
  | pas
  | nev
  | frz (v : Nat)
inductive Ss where
  | nil
  | cons (s : S) (ss : Ss)
end
/-! ## values, stores, results -/
inductive W where
  | un
  | d (x : PyData)
  | m (id : Nat)
  | src
inductive Ob where
  | lst (xs : List PyData)
  | dct (kvs : List (Key × PyData))
abbrev Lo := List (Option Ob)
/-- the law's drawing: cells left, what is left of the present one, the mixed number, the turn -/
structure Src where
  cells : List Int
  left : Int
  mixed : Int
  turn : Int
structure Exn where
  cls : Str
  fs : List (Str × PyData)
inductive R (α : Type) where
  | st
  | ok (a : α) (L : Lo) (S : Src)
  | ex (e : Exn) (L : Lo) (S : Src)
def R.bind {α β : Type} (r : R α) (f : α → Lo → Src → R β) : R β :=
  match r with
  | .st => .st
  | .ok a L S => f a L S
  | .ex e L S => .ex e L S
@[simp] theorem R.bind_st {α β : Type} (f : α → Lo → Src → R β) : (R.st).bind f = .st := rfl
@[simp] theorem R.bind_ok {α β : Type} (a : α) (L : Lo) (S : Src) (f : α → Lo → Src → R β) : (R.ok a L S).bind f = f a L S := rfl
@[simp] theorem R.bind_ex {α β : Type} (e : Exn) (L : Lo) (S : Src) (f : α → Lo → Src → R β) : (R.ex e L S).bind f = .ex e L S := rfl
/-- a def's meaning: arguments, the drawing; the answer is data -/
abbrev Fn := List W → Src → R PyData
abbrev Tb := Str → Fn
@[simp] def view (L : Lo) : W → Option PyData
  | .d x => some x
  | .m id => match L[id]? with
    | some (some (.lst xs)) => some (.list xs)
    | _ => none
  | _ => none
def R.ofO {α : Type} (o : Option α) (L : Lo) (S : Src) : R α :=
  match o with
  | some a => .ok a L S
  | none => .st
@[simp] theorem R.ofO_some {α : Type} (a : α) (L : Lo) (S : Src) : R.ofO (some a) L S = .ok a L S := rfl
@[simp] theorem R.ofO_none {α : Type} (L : Lo) (S : Src) : R.ofO (none : Option α) L S = .st := rfl
end Dk
end
section
set_option Elab.async false
set_option linter.all false
set_option maxRecDepth 100000
set_option maxHeartbeats 4000000
set_option autoImplicit false
namespace Dk
open PySem PySem.Spec PyProof.Rows L2
/-! ## data in the abstract heap -/
mutual
inductive Dt (K : PySem.W.Frag) (G : Hp) : V → PyData → Prop
  | non : Dt K G .non .none
  | bl (b : Bool) : Dt K G (.bl b) (.bool b)
  | int (i : Int) : Dt K G (.int i) (.int i)
  | str (x : Str) : Dt K G (.str x) (.str x)
  | lst {a : Addr} {vs : List V} {xs : List PyData} : G a = some (.lst vs) → DtAll K G vs xs → Dt K G (.ref a) (.list xs)
  | tup {a : Addr} {vs : List V} {xs : List PyData} : SqT K G a vs → DtAll K G vs xs → Dt K G (.ref a) (.tuple xs)
  | dct {a : Addr} {vs : List (Key × V)} {kvs : List (PyData × PyData)} : G a = some (.dK vs) → DtKv K G vs kvs → Dt K G (.ref a) (.dict kvs)
inductive DtAll (K : PySem.W.Frag) (G : Hp) : List V → List PyData → Prop
  | nil : DtAll K G [] []
  | cons {v : V} {vs : List V} {x : PyData} {xs : List PyData} : Dt K G v x → DtAll K G vs xs → DtAll K G (v :: vs) (x :: xs)
inductive DtKv (K : PySem.W.Frag) (G : Hp) : List (Key × V) → List (PyData × PyData) → Prop
  | nil : DtKv K G [] []
  | cons {k : Key} {v : V} {vs : List (Key × V)} {kd x : PyData} {kvs : List (PyData × PyData)} : Dt K G (kV k) kd → Dt K G v x → DtKv K G vs kvs → DtKv K G ((k, v) :: vs) ((kd, x) :: kvs)
end
theorem Same.tseq {K : PySem.W.Frag} {G G' : Hp} {a : Addr} {xs : List V} (e : Same G G') (h : SqT K G a xs) : SqT K G' a xs := by
  rcases h with (h | ⟨o, h⟩) | h
  · exact .inl (.inl (e _ _ h))
  · exact .inl (.inr ⟨o, e _ _ h⟩)
  · exact .inr h
section
variable {K : PySem.W.Frag} {G G' H : Hp}
mutual
theorem Dt.mono (e : Same G G') : ∀ {d : PyData} {v : V}, Dt K G v d → Dt K G' v d
  | _, _, .non => .non
  | _, _, .bl b => .bl b
  | _, _, .int i => .int i
  | _, _, .str x => .str x
  | _, _, .lst h a => .lst (e _ _ h) (DtAll.mono e a)
  | _, _, .tup h a => .tup (Same.tseq e h) (DtAll.mono e a)
  | _, _, .dct h a => .dct (e _ _ h) (DtKv.mono e a)
theorem DtAll.mono (e : Same G G') : ∀ {ds : List PyData} {vs : List V}, DtAll K G vs ds → DtAll K G' vs ds
  | _, _, .nil => .nil
  | _, _, .cons h t => .cons (Dt.mono e h) (DtAll.mono e t)
theorem DtKv.mono (e : Same G G') : ∀ {ds : List (PyData × PyData)} {vs : List (Key × V)}, DtKv K G vs ds → DtKv K G' vs ds
  | _, _, .nil => .nil
  | _, _, .cons h q t => .cons (Dt.mono e h) (Dt.mono e q) (DtKv.mono e t)
end
mutual
theorem Dt.dp : ∀ (d : PyData) (v : V), d.hasDict = false → Dt K G v d → Dp K G v d
  | .none, _, _, .non => .non
  | .bool _, _, _, .bl b => .bl b
  | .int _, _, _, .int i => .int i
  | .str _, _, _, .str x => .str x
  | .list xs, _, h, .lst (vs := vs) e a => .lst (.of e) (DtAll.dp xs vs (by simpa only [PyData.hasDict] using h) a)
  | .tuple xs, _, h, .tup (vs := vs) e a => .tup e (DtAll.dp xs vs (by simpa only [PyData.hasDict] using h) a)
  | .dict _, _, h, _ => by simp only [PyData.hasDict] at h; cases h
theorem DtAll.dp : ∀ (ds : List PyData) (vs : List V), PyData.hasDictAll ds = false → DtAll K G vs ds → DpAll K G vs ds
  | [], _, _, .nil => .nil
  | d :: ds, v :: vs, h, .cons q t => by
    have h2 : d.hasDict = false ∧ PyData.hasDictAll ds = false := by simpa [PyData.hasDictAll] using h
    exact .cons (Dt.dp d v h2.1 q) (DtAll.dp ds vs h2.2 t)
end
theorem DtAll.length : ∀ {ds : List PyData} {vs : List V}, DtAll K G vs ds → vs.length = ds.length
  | _, _, .nil => rfl
  | _, _, .cons _ t => congrArg (· + 1) (DtAll.length t)
theorem DtAll.get : ∀ {ds : List PyData} {vs : List V} {i : Nat} {d : PyData}, DtAll K G vs ds → ds[i]? = some d → ∃ v, vs[i]? = some v ∧ Dt K G v d
  | _, _, _, _, .nil, e => by simp at e
  | _, _, 0, _, .cons q _, e => by simp at e; subst e; exact ⟨_, rfl, q⟩
  | _, _, i + 1, _, .cons _ t, e => by
    obtain ⟨v, h1, h2⟩ := DtAll.get (i := i) t (by simpa using e)
    exact ⟨v, by simpa using h1, h2⟩
theorem DtAll.getV : ∀ {ds : List PyData} {vs : List V} {i : Nat} {v : V}, DtAll K G vs ds → vs[i]? = some v → ∃ d, ds[i]? = some d ∧ Dt K G v d
  | _, _, _, _, .nil, e => by simp at e
  | _, _, 0, _, .cons q _, e => by simp at e; subst e; exact ⟨_, rfl, q⟩
  | _, _, i + 1, _, .cons _ t, e => by
    obtain ⟨v, h1, h2⟩ := DtAll.getV (i := i) t (by simpa using e)
    exact ⟨v, by simpa using h1, h2⟩
theorem DtAll.append : ∀ {ds es : List PyData} {vs us : List V}, DtAll K G vs ds → DtAll K G us es → DtAll K G (vs ++ us) (ds ++ es)
  | _, _, _, _, .nil, s => s
  | _, _, _, _, .cons q t, s => .cons q (DtAll.append t s)
theorem DtAll.drop : ∀ {ds : List PyData} {vs : List V} (n : Nat), DtAll K G vs ds → DtAll K G (vs.drop n) (ds.drop n)
  | _, _, 0, t => t
  | _, _, _ + 1, .nil => .nil
  | _, _, n + 1, .cons _ t => DtAll.drop n t
theorem DtAll.take : ∀ {ds : List PyData} {vs : List V} (n : Nat), DtAll K G vs ds → DtAll K G (vs.take n) (ds.take n)
  | _, _, 0, _ => .nil
  | _, _, _ + 1, .nil => .nil
  | _, _, n + 1, .cons q t => .cons q (DtAll.take n t)
theorem DtAll.eraseIdx : ∀ {ds : List PyData} {vs : List V} (n : Nat), DtAll K G vs ds → DtAll K G (vs.eraseIdx n) (ds.eraseIdx n)
  | _, _, _, .nil => .nil
  | _, _, 0, .cons _ t => t
  | _, _, n + 1, .cons q t => .cons q (DtAll.eraseIdx n t)
theorem DtAll.set {v : V} {d : PyData} (q : Dt K G v d) : ∀ {ds : List PyData} {vs : List V} (n : Nat), DtAll K G vs ds → DtAll K G (vs.set n v) (ds.set n d)
  | _, _, _, .nil => .nil
  | _, _, 0, .cons _ t => .cons q t
  | _, _, n + 1, .cons p t => .cons p (DtAll.set q n t)
theorem DtAll.reverse : ∀ {ds : List PyData} {vs : List V}, DtAll K G vs ds → DtAll K G vs.reverse ds.reverse
  | _, _, .nil => .nil
  | _, _, .cons q t => by
    rw [List.reverse_cons, List.reverse_cons]
    exact (DtAll.reverse t).append (.cons q .nil)
theorem DtAll.rep {ds : List PyData} {vs : List V} (h : DtAll K G vs ds) : ∀ k : Nat, DtAll K G (List.replicate k vs).flatten (List.replicate k ds).flatten
  | 0 => .nil
  | k + 1 => by
    rw [List.replicate_succ, List.replicate_succ, List.flatten_cons, List.flatten_cons]
    exact h.append (DtAll.rep h k)
theorem DtAll.ints : ∀ {ns : List Int} {vs : List V}, DtAll K G vs (ns.map PyData.int) → vs = ns.map V.int
  | [], _, .nil => rfl
  | _ :: _, _, .cons (.int _) t => congrArg _ (DtAll.ints t)
theorem DtAll.bls : ∀ {ns : List Bool} {vs : List V}, DtAll K G vs (ns.map PyData.bool) → vs = ns.map V.bl
  | [], _, .nil => rfl
  | _ :: _, _, .cons (.bl _) t => congrArg _ (DtAll.bls t)
theorem DtAll.of_ints : ∀ (ns : List Int), DtAll K G (ns.map V.int) (ns.map PyData.int)
  | [] => .nil
  | n :: ns => .cons (.int n) (DtAll.of_ints ns)
theorem DtAll.nil_iff {ds : List PyData} {vs : List V} (h : DtAll K G vs ds) : vs = [] ↔ ds = [] := by
  cases h <;> simp
end
/-! ## the frame of a run; what holds of a state -/
structure Fr where
  H0 : Hp
  G0 : Hp
  ρ0 : List Addr
  sa : Option (Addr × Addr)
def NotS (sa : Option (Addr × Addr)) (b : Addr) : Prop := ∀ a c, sa = some (a, c) → b ≠ a ∧ b ≠ c
structure SrcAt (H : Hp) (a c : Addr) (S : Src) : Prop where
  dic : H a = some (.dK [(Sum.inr "cells", .ref c), (Sum.inr "left", .int S.left), (Sum.inr "mixed", .int S.mixed), (Sum.inr "turn", .int S.turn)])
  cel : H c = some (.lst (S.cells.map V.int))
def ObR (K : PySem.W.Frag) (G H : Hp) (a : Addr) : Ob → Prop
  | .lst xs => ∃ vs, H a = some (.lst vs) ∧ DtAll K G vs xs
  | .dct kvs => ∃ vs, H a = some (.dK vs) ∧ Paired (fun (p : Key × V) (q : Key × PyData) => p.1 = q.1 ∧ Dt K G p.2 q.2) vs kvs
def VR (K : PySem.W.Frag) (sa : Option (Addr × Addr)) (G : Hp) (ρ : List Addr) : W → V → Prop
  | .un, _ => False
  | .d x, v => Dt K G v x
  | .m id, v => ∃ a, ρ[id]? = some a ∧ v = .ref a
  | .src, v => ∃ a c, sa = some (a, c) ∧ v = .ref a
structure Rel (K : PySem.W.Frag) (F : Fr) (G : Hp) (ρ : List Addr) (σw : List W) (L : Lo) (S : Src) (σ : L2.St) (H : Hp) : Prop where
  gh : Same G H
  sl : σw.length = σ.length
  slot : ∀ (i : Nat) (w : W), σw[i]? = some w → w ≠ .un → ∃ v, σ[i]? = some (some v) ∧ VR K F.sa G ρ w v
  rl : ρ.length = L.length
  nd : ρ.Nodup
  loc : ∀ (j : Nat) a, ρ[j]? = some a → (F.ρ0.length ≤ j → F.H0 a = none) ∧ H a ≠ none ∧ ∀ o, L[j]? = some (some o) → G a = none ∧ ObR K G H a o
  pre : F.ρ0 <+: ρ
  src : ∀ a c, F.sa = some (a, c) → SrcAt H a c S ∧ G a = none ∧ G c = none ∧ a ∉ ρ ∧ c ∉ ρ
  fram : ∀ b o, F.H0 b = some o → NotS F.sa b → b ∉ F.ρ0 → H b = some o
  g0 : Same F.G0 G
  gn : ∀ b o, G b = some o → F.G0 b = some o ∨ F.H0 b = none
theorem VR.mono {K : PySem.W.Frag} {sa : Option (Addr × Addr)} {G G' : Hp} {ρ ρ' : List Addr} {w : W} {v : V} (h : VR K sa G ρ w v) (e : Same G G') (p : ρ <+: ρ') : VR K sa G' ρ' w v := by
  cases w with
  | un => exact h
  | d x => exact Dt.mono e h
  | m id =>
    obtain ⟨a, h1, h2⟩ := h
    refine ⟨a, ?_, h2⟩
    obtain ⟨t, rfl⟩ := p
    rw [List.getElem?_append_left (List.getElem?_eq_some_iff.mp h1).1]
    exact h1
  | src => exact h
/-- a list or dict that is no data, or data -/
def Vw (K : PySem.W.Frag) (G H : Hp) (v : V) (d : PyData) : Prop := Dt K G v d ∨ ∃ a vs xs, v = .ref a ∧ d = .list xs ∧ H a = some (.lst vs) ∧ DtAll K G vs xs
theorem Vw.list {K : PySem.W.Frag} {G H : Hp} {v : V} {xs : List PyData} (e : Same G H) (h : Vw K G H v (.list xs)) : ∃ a vs, v = .ref a ∧ H a = some (.lst vs) ∧ DtAll K G vs xs := by
  rcases h with h | ⟨a, vs, ys, e1, e2, h1, h2⟩
  · cases h with
    | lst h a => exact ⟨_, _, rfl, e _ _ h, a⟩
  · cases e2
    exact ⟨a, vs, e1, h1, h2⟩
theorem Vw.tuple {K : PySem.W.Frag} {G H : Hp} {v : V} {xs : List PyData} (h : Vw K G H v (.tuple xs)) : ∃ a vs, v = .ref a ∧ SqT K G a vs ∧ DtAll K G vs xs := by
  rcases h with h | ⟨a, vs, ys, e1, e2, h1, h2⟩
  · cases h with
    | tup h a => exact ⟨_, _, rfl, h, a⟩
  · cases e2
theorem Vw.int {K : PySem.W.Frag} {G H : Hp} {v : V} {i : Int} (h : Vw K G H v (.int i)) : v = .int i := by
  rcases h with h | ⟨a, vs, ys, e1, e2, h1, h2⟩
  · cases h; rfl
  · cases e2
theorem Vw.bool {K : PySem.W.Frag} {G H : Hp} {v : V} {i : Bool} (h : Vw K G H v (.bool i)) : v = .bl i := by
  rcases h with h | ⟨a, vs, ys, e1, e2, h1, h2⟩
  · cases h; rfl
  · cases e2
theorem Vw.str {K : PySem.W.Frag} {G H : Hp} {v : V} {i : Str} (h : Vw K G H v (.str i)) : v = .str i := by
  rcases h with h | ⟨a, vs, ys, e1, e2, h1, h2⟩
  · cases h; rfl
  · cases e2
theorem Vw.none {K : PySem.W.Frag} {G H : Hp} {v : V} (h : Vw K G H v .none) : v = .non := by
  rcases h with h | ⟨a, vs, ys, e1, e2, h1, h2⟩
  · cases h; rfl
  · cases e2
theorem Vw.dp {K : PySem.W.Frag} {G H : Hp} {v : V} {d : PyData} (e : Same G H) (nd : d.hasDict = false) (h : Vw K G H v d) : Dp K H v d := by
  rcases h with h | ⟨a, vs, xs, e1, e2, h1, h2⟩
  · exact Dt.dp d v nd (h.mono e)
  · subst e1 e2
    exact .lst (.of h1) (DtAll.dp xs vs (by simpa only [PyData.hasDict] using nd) (h2.mono e))
section
variable {K : PySem.W.Frag} {F : Fr} {G G' H H' : Hp} {ρ ρ' : List Addr} {σw σw' : List W} {L L' : Lo} {S S' : Src} {σ σ' : L2.St}
theorem Rel.view (r : Rel K F G ρ σw L S σ H) {w : W} {v : V} {d : PyData} (h : VR K F.sa G ρ w v) (e : view L w = some d) : Vw K G H v d := by
  cases w with
  | un => cases h
  | d x =>
    cases e
    exact .inl h
  | m id =>
    obtain ⟨a, h1, rfl⟩ := h
    unfold Dk.view at e
    have hl := r.loc id a h1
    cases q : L[id]? with
    | none => simp [q] at e
    | some o =>
      cases o with
      | none => simp [q] at e
      | some o =>
        cases o with
        | dct kvs => simp [q] at e
        | lst xs =>
          simp only [q, Option.some.injEq] at e
          obtain ⟨_, vs, h3, h4⟩ := hl.2.2 _ q
          exact .inr ⟨a, vs, xs, rfl, e.symm, h3, h4⟩
  | src => cases e
/-- the run looked at anew from where it stands -/
def Fr.re (F : Fr) (G H : Hp) (ρ : List Addr) : Fr := ⟨H, G, ρ, F.sa⟩
theorem Rel.re (r : Rel K F G ρ σw L S σ H) : Rel K (F.re G H ρ) G ρ σw L S σ H where
  gh := r.gh
  sl := r.sl
  slot := r.slot
  rl := r.rl
  nd := r.nd
  loc := fun j a e => ⟨fun h => absurd (List.getElem?_eq_some_iff.mp e).1 (Nat.not_lt.mpr h), (r.loc j a e).2⟩
  pre := List.prefix_refl _
  src := r.src
  fram := fun _ _ e _ _ => e
  g0 := Same.refl _
  gn := fun _ _ e => .inl e
theorem pre_get {α : Type} {l l' : List α} (p : l <+: l') {i : Nat} {a : α} (h : l[i]? = some a) : l'[i]? = some a := by
  obtain ⟨t, rfl⟩ := p
  rw [List.getElem?_append_left (List.getElem?_eq_some_iff.mp h).1]
  exact h
theorem pre_of {α : Type} {l l' : List α} (p : l <+: l') {i : Nat} {a : α} (h : l'[i]? = some a) (hi : i < l.length) : l[i]? = some a := by
  obtain ⟨t, rfl⟩ := p
  rwa [List.getElem?_append_left hi] at h
theorem Rel.h0none (r : Rel K F G ρ σw L S σ H) {b : Addr} (h : H b = none) : F.H0 b = none := by
  cases e : F.H0 b with
  | none => rfl
  | some o =>
    exfalso
    have hs : NotS F.sa b := fun a c q => by
      obtain ⟨h1, _⟩ := r.src a c q
      constructor
      · rintro rfl
        rw [h1.dic] at h; cases h
      · rintro rfl
        rw [h1.cel] at h; cases h
    have hr : b ∉ F.ρ0 := fun q => by
      obtain ⟨j, hj⟩ := List.getElem?_of_mem q
      exact (r.loc j b (pre_get r.pre hj)).2.1 h
    rw [r.fram b o e hs hr] at h
    cases h
theorem Rel.back (r : Rel K F G ρ σw L S σ H) (q : Rel K (F.re G H ρ) G' ρ' σw' L' S' σ' H') : Rel K F G' ρ' σw' L' S' σ' H' where
  gh := q.gh
  sl := q.sl
  slot := q.slot
  rl := q.rl
  nd := q.nd
  loc := fun j a e => by
    refine ⟨fun h => ?_, (q.loc j a e).2⟩
    by_cases hj : j < ρ.length
    · exact (r.loc j a (pre_of q.pre e hj)).1 h
    · exact r.h0none ((q.loc j a e).1 (Nat.not_lt.mp hj))
  pre := r.pre.trans q.pre
  src := q.src
  fram := fun b o e hs hr => by
    have h1 := r.fram b o e hs hr
    refine q.fram b o h1 hs fun hb => ?_
    have hb' : b ∈ ρ := hb
    obtain ⟨j, hj⟩ := List.getElem?_of_mem hb'
    by_cases hl : j < F.ρ0.length
    · exact hr (List.mem_of_getElem? (pre_of r.pre hj hl))
    · have := (r.loc j b hj).1 (Nat.not_lt.mp hl)
      rw [e] at this; cases this
  g0 := r.g0.trans q.g0
  gn := fun b o e => by
    rcases q.gn b o e with h | h
    · exact r.gn b o h
    · exact .inr (r.h0none h)
/-- an object that the run does not know changes -/
theorem Rel.other (r : Rel K F G ρ σw L S σ H) {D : Addr} {o : HO} (h0 : F.H0 D = none) (hg : G D = none) (hr : D ∉ ρ) (hs : NotS F.sa D) : Rel K F G ρ σw L S σ (upd H D o) := by
  have ne : ∀ {j : Nat} {a : Addr}, ρ[j]? = some a → a ≠ D := fun h e => hr (e ▸ List.mem_of_getElem? h)
  refine ⟨fun b u e => ?_, r.sl, r.slot, r.rl, r.nd, fun j a e => ?_, r.pre, fun a c e => ?_, fun b u e hb hc => ?_, r.g0, r.gn⟩
  · by_cases hb : b = D
    · subst hb; rw [hg] at e; cases e
    · rw [upd_ne hb]; exact r.gh _ _ e
  · obtain ⟨h1, h2, h3⟩ := r.loc j a e
    refine ⟨h1, by rw [upd_ne (ne e)]; exact h2, fun ob eo => ?_⟩
    obtain ⟨h4, h5⟩ := h3 ob eo
    refine ⟨h4, ?_⟩
    cases ob with
    | lst xs =>
      obtain ⟨vs, h6, h7⟩ := h5
      exact ⟨vs, by rw [upd_ne (ne e)]; exact h6, h7⟩
    | dct kvs =>
      obtain ⟨vs, h6, h7⟩ := h5
      exact ⟨vs, by rw [upd_ne (ne e)]; exact h6, h7⟩
  · obtain ⟨h1, h2, h3, h4, h5⟩ := r.src a c e
    obtain ⟨n1, n2⟩ := hs a c e
    exact ⟨⟨by rw [upd_ne n1.symm]; exact h1.dic, by rw [upd_ne n2.symm]; exact h1.cel⟩, h2, h3, h4, h5⟩
  · by_cases hd : b = D
    · subst hd; rw [h0] at e; cases e
    · rw [upd_ne hd]; exact r.fram b u e hb hc
/-- a new object comes that is data -/
theorem ObR.mono {a : Addr} {o : Ob} (h : ObR K G H a o) (e : Same G G') (e2 : H' a = H a) : ObR K G' H' a o := by
  cases o with
  | lst xs =>
    obtain ⟨vs, h1, h2⟩ := h
    exact ⟨vs, e2.trans h1, h2.mono e⟩
  | dct kvs =>
    obtain ⟨vs, h1, h2⟩ := h
    exact ⟨vs, e2.trans h1, Paired.mapP h2 fun p q z => ⟨z.1, z.2.mono e⟩⟩
theorem same_new {H : Hp} {p : Addr} {o : HO} (h : H p = none) : Same H (upd H p o) := fun b x e => by
  rw [upd_ne (ne_of_none e h)]
  exact e
theorem Rel.data (r : Rel K F G ρ σw L S σ H) {D : Addr} {o : HO} (hn : H D = none) : Rel K F (upd G D o) ρ σw L S σ (upd H D o) ∧ Same G (upd G D o) := by
  have gD : G D = none := by
    cases q : G D with
    | none => rfl
    | some u => rw [r.gh _ _ q] at hn; cases hn
  have ne : ∀ {j : Nat} {a : Addr}, ρ[j]? = some a → a ≠ D := fun {j a} h e => (r.loc j a h).2.1 (e ▸ hn)
  have sg : Same G (upd G D o) := same_new gD
  refine ⟨⟨fun b u e => ?_, r.sl, fun i w e hw => ?_, r.rl, r.nd, fun j a e => ?_, r.pre, fun a c e => ?_, fun b u e hb hc => ?_, r.g0.trans sg, fun b u e => ?_⟩, sg⟩
  · by_cases hb : b = D
    · subst hb; rw [upd_same] at e ⊢; exact e
    · rw [upd_ne hb] at e ⊢; exact r.gh _ _ e
  · obtain ⟨v, h1, h2⟩ := r.slot i w e hw
    exact ⟨v, h1, h2.mono sg (List.prefix_refl _)⟩
  · obtain ⟨h1, h2, h3⟩ := r.loc j a e
    refine ⟨h1, by rw [upd_ne (ne e)]; exact h2, fun ob eo => ?_⟩
    obtain ⟨h4, h5⟩ := h3 ob eo
    exact ⟨by rw [upd_ne (ne e)]; exact h4, h5.mono sg (upd_ne (ne e))⟩
  · obtain ⟨h1, h2, h3, h4, h5⟩ := r.src a c e
    have n1 : a ≠ D := fun z => by rw [z] at h1; rw [h1.dic] at hn; cases hn
    have n2 : c ≠ D := fun z => by rw [z] at h1; rw [h1.cel] at hn; cases hn
    exact ⟨⟨by rw [upd_ne n1]; exact h1.dic, by rw [upd_ne n2]; exact h1.cel⟩, by rw [upd_ne n1]; exact h2, by rw [upd_ne n2]; exact h3, h4, h5⟩
  · have hd : b ≠ D := fun z => by
      subst z
      rw [r.h0none hn] at e; cases e
    rw [upd_ne hd]
    exact r.fram b u e hb hc
  · by_cases hb : b = D
    · subst hb
      exact .inr (r.h0none hn)
    · rw [upd_ne hb] at e
      exact r.gn b u e
/-- a new object comes that is the run's own -/
theorem Rel.mine (r : Rel K F G ρ σw L S σ H) {D : Addr} {u : HO} {o : Ob} (hn : H D = none) (ho : ∀ H', H' D = some u → ObR K G H' D o) :
    Rel K F G (ρ ++ [D]) σw (L ++ [some o]) S σ (upd H D u) ∧ ρ <+: ρ ++ [D] := by
  have gD : G D = none := by
    cases q : G D with
    | none => rfl
    | some u => rw [r.gh _ _ q] at hn; cases hn
  have hr : D ∉ ρ := fun z => by
    obtain ⟨j, hj⟩ := List.getElem?_of_mem z
    exact (r.loc j D hj).2.1 hn
  have ne : ∀ {j : Nat} {a : Addr}, ρ[j]? = some a → a ≠ D := fun h e => hr (e ▸ List.mem_of_getElem? h)
  have pp : ρ <+: ρ ++ [D] := List.prefix_append _ _
  refine ⟨⟨fun b x e => ?_, r.sl, fun i w e hw => ?_, by simp [r.rl], ?_, fun j a e => ?_, r.pre.trans pp, fun a c e => ?_, fun b x e hb hc => ?_, r.g0, r.gn⟩, pp⟩
  · rw [upd_ne (ne_of_none (r.gh _ _ e) hn)]
    exact r.gh _ _ e
  · obtain ⟨v, h1, h2⟩ := r.slot i w e hw
    exact ⟨v, h1, h2.mono (Same.refl _) pp⟩
  · rw [List.nodup_append]
    refine ⟨r.nd, by simp, fun a ha b hb => ?_⟩
    have : b = D := by simpa using hb
    subst this
    exact fun z => hr (z ▸ ha)
  · by_cases hj : j < ρ.length
    · rw [List.getElem?_append_left hj] at e
      obtain ⟨h1, h2, h3⟩ := r.loc j a e
      refine ⟨h1, by rw [upd_ne (ne e)]; exact h2, fun ob eo => ?_⟩
      rw [List.getElem?_append_left (by rw [← r.rl]; exact hj)] at eo
      obtain ⟨h4, h5⟩ := h3 ob eo
      exact ⟨h4, h5.mono (Same.refl _) (upd_ne (ne e))⟩
    · have hj' := Nat.not_lt.mp hj
      rw [List.getElem?_append_right hj'] at e
      have e0 : j - ρ.length = 0 ∧ D = a := by
        cases hq : j - ρ.length with
        | zero => rw [hq] at e; exact ⟨rfl, by simpa using e⟩
        | succ n => rw [hq] at e; simp at e
      obtain ⟨e1, rfl⟩ := e0
      have ej : j = ρ.length := by omega
      refine ⟨fun _ => r.h0none hn, by rw [upd_same]; exact (fun z => by cases z), fun ob eo => ?_⟩
      rw [ej, r.rl, List.getElem?_append_right (Nat.le_refl _)] at eo
      have : o = ob := by simpa using eo
      subst this
      exact ⟨gD, ho _ upd_same⟩
  · obtain ⟨h1, h2, h3, h4, h5⟩ := r.src a c e
    have n1 : a ≠ D := fun z => by rw [z] at h1; rw [h1.dic] at hn; cases hn
    have n2 : c ≠ D := fun z => by rw [z] at h1; rw [h1.cel] at hn; cases hn
    exact ⟨⟨by rw [upd_ne n1]; exact h1.dic, by rw [upd_ne n2]; exact h1.cel⟩, h2, h3, by simp [h4, n1], by simp [h5, n2]⟩
  · have hd : b ≠ D := fun z => by
      subst z
      rw [r.h0none hn] at e; cases e
    rw [upd_ne hd]
    exact r.fram b x e hb hc
/-- an own object changes -/
theorem Rel.change (r : Rel K F G ρ σw L S σ H) {D : Addr} {u : HO} {o o' : Ob} {id : Nat} (hi : ρ[id]? = some D) (hL : L[id]? = some (some o)) (ho : ∀ H', H' D = some u → ObR K G H' D o') :
    Rel K F G ρ σw (L.set id (some o')) S σ (upd H D u) := by
  obtain ⟨k1, k2, k3⟩ := r.loc id D hi
  obtain ⟨gD, _⟩ := k3 _ hL
  have ne : ∀ {j : Nat} {a : Addr}, ρ[j]? = some a → j ≠ id → a ≠ D := fun {j a} h hj e => by
    subst e
    exact hj ((List.getElem?_inj (List.getElem?_eq_some_iff.mp h).1 r.nd).mp (h.trans hi.symm))
  have il : id < L.length := (List.getElem?_eq_some_iff.mp hL).1
  refine ⟨fun b x e => ?_, r.sl, r.slot, by simp [r.rl], r.nd, fun j a e => ?_, r.pre, fun a c e => ?_, fun b x e hb hc => ?_, r.g0, r.gn⟩
  · rw [upd_ne (ne_of_none e gD)]
    exact r.gh _ _ e
  · by_cases hj : j = id
    · subst hj
      rw [hi] at e; cases e
      refine ⟨k1, by rw [upd_same]; exact (fun z => by cases z), fun ob eo => ?_⟩
      rw [List.getElem?_set_self il] at eo
      cases eo
      exact ⟨gD, ho _ upd_same⟩
    · obtain ⟨h1, h2, h3⟩ := r.loc j a e
      refine ⟨h1, by rw [upd_ne (ne e hj)]; exact h2, fun ob eo => ?_⟩
      rw [List.getElem?_set_ne (Ne.symm hj)] at eo
      obtain ⟨h4, h5⟩ := h3 ob eo
      exact ⟨h4, h5.mono (Same.refl _) (upd_ne (ne e hj))⟩
  · obtain ⟨h1, h2, h3, h4, h5⟩ := r.src a c e
    have n1 : a ≠ D := fun z => h4 (z ▸ List.mem_of_getElem? hi)
    have n2 : c ≠ D := fun z => h5 (z ▸ List.mem_of_getElem? hi)
    exact ⟨⟨by rw [upd_ne n1]; exact h1.dic, by rw [upd_ne n2]; exact h1.cel⟩, h2, h3, h4, h5⟩
  · by_cases hd : b = D
    · subst hd
      exfalso
      by_cases hl : id < F.ρ0.length
      · exact hc (List.mem_of_getElem? (pre_of r.pre hi hl))
      · rw [k1 (Nat.not_lt.mp hl)] at e; cases e
    · rw [upd_ne hd]
      exact r.fram b x e hb hc
/-- an own list becomes data -/
theorem Rel.frz (r : Rel K F G ρ σw L S σ H) (h0 : F.ρ0 = []) {D : Addr} {xs : List PyData} {id : Nat} (hi : ρ[id]? = some D) (hL : L[id]? = some (some (.lst xs))) :
    ∃ vs, Rel K F (upd G D (.lst vs)) ρ σw (L.set id none) S σ H ∧ Same G (upd G D (.lst vs)) ∧ Dt K (upd G D (.lst vs)) (.ref D) (.list xs) := by
  obtain ⟨k1, k2, k3⟩ := r.loc id D hi
  obtain ⟨gD, vs, hH, hA⟩ := k3 _ hL
  have sg : Same G (upd G D (.lst vs)) := same_new gD
  have il : id < L.length := (List.getElem?_eq_some_iff.mp hL).1
  have ne : ∀ {j : Nat} {a : Addr}, ρ[j]? = some a → j ≠ id → a ≠ D := fun {j a} h hj e => by
    subst e
    exact hj ((List.getElem?_inj (List.getElem?_eq_some_iff.mp h).1 r.nd).mp (h.trans hi.symm))
  refine ⟨vs, ⟨fun b x e => ?_, r.sl, fun i w e hw => ?_, by simp [r.rl], r.nd, fun j a e => ?_, r.pre, fun a c e => ?_, r.fram, r.g0.trans sg, fun b x e => ?_⟩, sg, .lst upd_same (hA.mono sg)⟩
  · by_cases hb : b = D
    · subst hb; rw [upd_same] at e; cases e; exact hH
    · rw [upd_ne hb] at e; exact r.gh _ _ e
  · obtain ⟨v, h1, h2⟩ := r.slot i w e hw
    exact ⟨v, h1, h2.mono sg (List.prefix_refl _)⟩
  · obtain ⟨h1, h2, h3⟩ := r.loc j a e
    refine ⟨h1, h2, fun ob eo => ?_⟩
    by_cases hj : j = id
    · subst hj
      rw [List.getElem?_set_self il] at eo
      cases eo
    · rw [List.getElem?_set_ne (Ne.symm hj)] at eo
      obtain ⟨h4, h5⟩ := h3 ob eo
      exact ⟨by rw [upd_ne (ne e hj)]; exact h4, h5.mono sg rfl⟩
  · obtain ⟨h1, h2, h3, h4, h5⟩ := r.src a c e
    have n1 : a ≠ D := fun z => h4 (z ▸ List.mem_of_getElem? hi)
    have n2 : c ≠ D := fun z => h5 (z ▸ List.mem_of_getElem? hi)
    exact ⟨h1, by rw [upd_ne n1]; exact h2, by rw [upd_ne n2]; exact h3, h4, h5⟩
  · by_cases hb : b = D
    · subst hb
      exact .inr (k1 (by rw [h0]; exact Nat.zero_le _))
    · rw [upd_ne hb] at e
      exact r.gn b x e
/-- a slot is stored -/
theorem Rel.put (r : Rel K F G ρ σw L S σ H) (i : Nat) {w : W} {v : V} (h : VR K F.sa G ρ w v) : Rel K F G ρ (σw.set i w) L S (σ.set i (some v)) H :=
  ⟨r.gh, by rw [List.length_set, List.length_set, r.sl], fun j u e hu => by
    by_cases hj : j = i
    · subst hj
      have hlw : j < σw.length := by
        have := (List.getElem?_eq_some_iff.mp e).1
        simpa using this
      have e1 : w = u := by
        rw [List.getElem?_set_self hlw] at e
        exact Option.some.inj e
      subst e1
      exact ⟨v, List.getElem?_set_self (by rw [← r.sl]; exact hlw), h⟩
    · rw [List.getElem?_set_ne (Ne.symm hj)] at e
      rw [List.getElem?_set_ne (Ne.symm hj)]
      exact r.slot j u e hu, r.rl, r.nd, r.loc, r.pre, r.src, r.fram, r.g0, r.gn⟩
/-- slots are forgotten -/
theorem Rel.forget (r : Rel K F G ρ σw L S σ H) (hl : σw'.length = σ'.length) (h : ∀ (i : Nat) (w : W), σw'[i]? = some w → w ≠ .un → σw[i]? = some w ∧ ∀ v, σ[i]? = some (some v) → σ'[i]? = some (some v)) : Rel K F G ρ σw' L S σ' H :=
  ⟨r.gh, hl, fun i w e hw => by
    obtain ⟨h1, h2⟩ := h i w e hw
    obtain ⟨v, h3, h4⟩ := r.slot i w h1 hw
    exact ⟨v, h2 v h3, h4⟩, r.rl, r.nd, r.loc, r.pre, r.src, r.fram, r.g0, r.gn⟩
end
end Dk
end
section
set_option Elab.async false
set_option linter.all false
set_option maxRecDepth 100000
set_option maxHeartbeats 4000000
set_option autoImplicit false
namespace Dk
open PySem PySem.Spec PyProof.Rows L2
/-! ## what operators do with data -/
def mulOk (i j : Int) : Bool := decide (i.natAbs < 2 ^ 64) || (decide (j.natAbs < 2 ^ 64) || decide (i.natAbs.log2 + j.natAbs.log2 < 1000000))
def b62 (i : Int) : Bool := decide (i.natAbs < 4611686018427387904)
def b63 (i : Int) : Bool := decide (i.natAbs < 9223372036854775808)
theorem b62_iff {i : Int} : b62 i = true ↔ i.natAbs < 4611686018427387904 := decide_eq_true_iff
theorem b62_ok {i : Int} (h : b62 i = true) : -(2 ^ 62) ≤ i ∧ i < 2 ^ 62 := by
  have h := b62_iff.mp h
  have e : (2 : Int) ^ 62 = 4611686018427387904 := by decide
  rw [e]
  omega
theorem b63_ok {i : Int} (h : b63 i = true) : -(2 ^ 63) ≤ i ∧ i < 2 ^ 63 := by
  have h : i.natAbs < 9223372036854775808 := of_decide_eq_true h
  have e : (2 : Int) ^ 63 = 9223372036854775808 := by decide
  rw [e]
  omega
def opB : Bop → PyData → PyData → Option PyData
  | .add, .int i, .int j => some (.int (i + j))
  | .add, .str x, .str y => if x.length + y.length ≤ sizeLine then some (.str (x ++ y)) else none
  | .add, .list xs, .list ys => if xs.length + ys.length ≤ sizeLine then some (.list (xs ++ ys)) else none
  | .add, .tuple xs, .tuple ys => if xs.length + ys.length ≤ sizeLine then some (.tuple (xs ++ ys)) else none
  | .sub, .int i, .int j => some (.int (i - j))
  | .mul, .int i, .int j => if mulOk i j = true then some (.int (i * j)) else none
  | .mul, .list xs, .int k => if b63 k = true ∧ xs.length * k.toNat ≤ sizeLine then some (.list (List.replicate k.toNat xs).flatten) else none
  | .mul, .tuple xs, .int k => if xs ≠ [] ∧ 2 ≤ k ∧ k ≤ 1000 ∧ xs.length ≤ 1000 then some (.tuple (List.replicate k.toNat xs).flatten) else none
  | .fdiv, .int i, .int j => if j ≠ 0 ∧ j.natAbs.log2 < 9000 then some (.int (i.fdiv j)) else none
  | .mod, .int i, .int j => if j ≠ 0 then some (.int (i.fmod j)) else none
  | .pow, .int i, .int j => if 0 ≤ j ∧ j.natAbs ≤ 1000000 ∧ i.natAbs < 2 ^ 64 then some (.int (i ^ j.toNat)) else none
  | _, _, _ => none
def isNone : PyData → Bool
  | .none => true
  | _ => false
def eqD (x y : PyData) : Option Bool := if SeqAt.shaped x = true ∧ SeqAt.shaped y = true then some (PyData.eqv x y) else none
def flatD : PyData → Bool
  | .none | .bool _ | .int _ | .str _ => true
  | _ => false
def inD (x : PyData) : PyData → Option Bool
  | .list ys => if SeqAt.shaped x = true ∧ SeqAt.shaped (.list ys) = true then some (ys.any fun z => PyData.eqv z x) else none
  | .tuple ys => if flatD x = true ∧ ys.all flatD = true then some (ys.any fun z => PyData.eqv z x) else none
  | _ => none
def opC : Cop → PyData → PyData → Option Bool
  | .eq, .int i, .int j => some (decide (i = j))
  | .eq, .str x, .str y => some (decide (x = y))
  | .eq, x, y => eqD x y
  | .ne, .int i, .int j => some (!decide (i = j))
  | .ne, .str x, .str y => some (!decide (x = y))
  | .ne, x, y => (eqD x y).map (!·)
  | .lt, .int i, .int j => some (decide (i < j))
  | .le, .int i, .int j => some (decide (i ≤ j))
  | .gt, .int i, .int j => some (decide (j < i))
  | .ge, .int i, .int j => some (decide (j ≤ i))
  | .is, x, .none => some (isNone x)
  | .is, .bool x, .bool y => some (decide (x = y))
  | .isnt, x, .none => some (!isNone x)
  | .isnt, .bool x, .bool y => some (!decide (x = y))
  | .isin, x, y => inD x y
  | .notin, x, y => (inD x y).map (!·)
  | _, _, _ => none
def truth : PyData → Option Bool
  | .none => some false
  | .bool b => some b
  | .int i => some (i != 0)
  | .str x => if x.length ≤ sizeLine then some ((x.length : Int) != 0) else none
  | .list xs => some (!xs.isEmpty)
  | .tuple xs => some (!xs.isEmpty)
  | .dict _ => none
def intsOf : List PyData → Option (List Int)
  | [] => some []
  | .int i :: xs => (intsOf xs).map (i :: ·)
  | _ :: _ => none
def blsOf : List PyData → Option (List Bool)
  | [] => some []
  | .bool i :: xs => (blsOf xs).map (i :: ·)
  | _ :: _ => none
def reprOk (x : PyData) : Bool := x.showable && (!x.hasDict && (decide (x.depth ≤ 64) && decide (x.shown.length ≤ sizeLine)))
def maxL : List Int → Option Int
  | [] => none
  | x :: xs => some (xs.foldl (fun a b => if b > a then b else a) x)
def minL : List Int → Option Int
  | [] => none
  | x :: xs => some (xs.foldl (fun a b => if b < a then b else a) x)
def opF : Bf → List PyData → Option PyData
  | .abs, [.int i] => some (.int (if i < 0 then -i else i))
  | .max2, [.int i, .int j] => some (.int (if j > i then j else i))
  | .min2, [.int i, .int j] => some (.int (if j < i then j else i))
  | .len, [.list xs] => some (.int xs.length)
  | .len, [.tuple xs] => some (.int xs.length)
  | .len, [.str x] => if x.length ≤ sizeLine then some (.int x.length) else none
  | .int, [.int i] => some (.int i)
  | .int, [.bool b] => some (.int (if b then 1 else 0))
  | .repr, [x] => if reprOk x = true then some (.str x.shown) else none
  | .all, [.list xs] => (blsOf xs).map fun bs => .bool (bs.all id)
  | .tuple, [.list xs] => some (.tuple xs)
  | .tuple, [.tuple xs] => some (.tuple xs)
  | .list, [.list xs] => some (.list xs)
  | .list, [.tuple xs] => some (.list xs)
  | .sum, [.list xs] => (intsOf xs).map fun ns => .int ns.sum
  | .max1, [.list xs] => ((intsOf xs).bind maxL).map .int
  | .max1, [.tuple xs] => ((intsOf xs).bind maxL).map .int
  | .min1, [.list xs] => ((intsOf xs).bind minL).map .int
  | .sorted, [.list xs] => (intsOf xs).map fun ns => .list ((ns.mergeSort (fun a b => decide (a ≤ b))).map .int)
  | .str, [.int i] => if i.natAbs.log2 < 1920 then some (.str (toString i)) else none
  | _, _ => none
def lstOf : List PyData → Option (List PyData)
  | [.list xs] => some xs
  | [.tuple xs] => some xs
  | _ => none
def isTy : Ty → PyData → Bool
  | .int, .int _ => true
  | .int, .bool _ => true
  | .bool, .bool _ => true
  | .str, .str _ => true
  | .tuple, .tuple _ => true
  | .list, .list _ => true
  | _, _ => false
def cutD {α : Type} (xs : List α) (lo hi : Option Int) : List α := (xs.drop (HT.sIx xs.length 0 lo)).take (HT.sIx xs.length xs.length hi - HT.sIx xs.length 0 lo)
def idxOf (y : PyData) : List PyData → Option Nat
  | [] => none
  | x :: xs => if PyData.eqv x y = true then some 0 else (idxOf y xs).map (· + 1)
def idxD (x y : PyData) : Option PyData :=
  match x with
  | .list xs => if SeqAt.shaped y = true ∧ SeqAt.shaped (.list xs) = true then (idxOf y xs).map fun (j : Nat) => PyData.int (j : Int) else none
  | _ => none
def slD (x : PyData) (lo hi : Option Int) : Option PyData :=
  match x with
  | .list xs => some (.list (cutD xs lo hi))
  | .tuple xs => some (.tuple (cutD xs lo hi))
  | _ => none
def ixD (x i : PyData) : Option PyData :=
  match x, i with
  | .list xs, .int k => atI xs k
  | .tuple xs, .int k => atI xs k
  | _, _ => none
def keyD : PyData → Option Key
  | .int i => some (.inl i)
  | .str x => some (.inr x)
  | _ => none
def rangeD : List PyData → Option (List PyData)
  | [.int j] => if b62 j = true then some ((List.range j.toNat).map fun (k : Nat) => .int ((0 : Int) + k)) else none
  | [.int i, .int j] => if b62 i = true ∧ b62 j = true then some ((List.range (j - i).toNat).map fun (k : Nat) => .int (i + k)) else none
  | _ => none
def enumD (xs : List PyData) : List PyData := (List.range xs.length).zip xs |>.map fun p => .tuple [.int (p.1 : Int), p.2]
def zipD (xs ys : List PyData) : List PyData := (xs.zip ys).map fun p => .tuple [p.1, p.2]
/-! ## targets -/
mutual
def bindT : Tg → PyData → List W → Option (List W)
  | .nm i, x, σ => some (σ.set i (.d x))
  | .tp ts, .tuple xs, σ => bindTs ts xs σ
  | .tp ts, .list xs, σ => bindTs ts xs σ
  | .tp _, _, _ => none
def bindTs : Tgs → List PyData → List W → Option (List W)
  | .nil, [], σ => some σ
  | .cons t ts, x :: xs, σ => (bindT t x σ).bind fun σ' => bindTs ts xs σ'
  | _, _, _ => none
end
def wipeW (σ : List W) : List Nat → List W
  | [] => σ
  | v :: vs => (wipeW σ vs).set v .un
/-- the turns of a comprehension -/
def turns (f : PyData → Lo → Src → R (Option PyData)) : List PyData → List PyData → Lo → Src → R (List PyData)
  | [], acc, L, S => .ok acc L S
  | x :: xs, acc, L, S => (f x L S).bind fun o L S =>
    match o with
    | none => turns f xs acc L S
    | some y => if acc.length < sizeLine then turns f xs (acc ++ [y]) L S else .st
@[simp] def isD : W → Option PyData
  | .d x => some x
  | _ => none
@[simp] def dsOf : List W → Option (List PyData)
  | [] => some []
  | .d x :: ws => (dsOf ws).map (x :: ·)
  | _ :: _ => none
def viewAll (L : Lo) : List W → Option (List PyData)
  | [] => some []
  | w :: ws => (view L w).bind fun x => (viewAll L ws).map (x :: ·)
@[simp] def argOk : List W → Bool
  | [] => true
  | .d _ :: ws => argOk ws
  | .src :: ws => argOk ws
  | _ :: _ => false
/-- a new list of the run's own -/
def R.own (xs : List PyData) (L : Lo) (S : Src) : R W := .ok (.m L.length) (L ++ [some (.lst xs)]) S
def getDct (L : Lo) (σ : List W) (v : Nat) : Option (Nat × List (Key × PyData)) :=
  match σ[v]? with
  | some (.m id) => match L[id]? with
    | some (some (.dct kvs)) => some (id, kvs)
    | _ => none
  | _ => none
@[simp] def Src.get (S : Src) : SF → Int
  | .left => S.left
  | .mixed => S.mixed
  | .turn => S.turn
@[simp] def Src.put (S : Src) (i : Int) : SF → Src
  | .left => { S with left := i }
  | .mixed => { S with mixed := i }
  | .turn => { S with turn := i }
@[simp] def isSrc (σ : List W) (v : Nat) : Bool := match σ[v]? with
  | some .src => true
  | _ => false
def getLst (L : Lo) (σ : List W) (v : Nat) : Option (Nat × List PyData) :=
  match σ[v]? with
  | some (.m id) => match L[id]? with
    | some (some (.lst xs)) => some (id, xs)
    | _ => none
  | _ => none
def putKv (k : Key) (x : PyData) : List (Key × PyData) → List (Key × PyData)
  | [] => [(k, x)]
  | (j, y) :: r => if j = k then (j, x) :: r else (j, y) :: putKv k x r
section
variable (Δ : Tb)
mutual
@[simp] def ev : E → List W → Lo → Src → R W
  | .var i, σ, L, S => match σ[i]? with
    | some .un => .st
    | some w => .ok w L S
    | none => .st
  | .int i, _, L, S => .ok (.d (.int i)) L S
  | .bl b, _, L, S => .ok (.d (.bool b)) L S
  | .non, _, L, S => .ok (.d .none) L S
  | .str x, _, L, S => .ok (.d (.str x)) L S
  | .neg a, σ, L, S => (ev a σ L S).bind fun w L S => match w with
    | .d (.int i) => .ok (.d (.int (-i))) L S
    | _ => .st
  | .notv a, σ, L, S => (ev a σ L S).bind fun w L S => match w with
    | .d (.bool i) => .ok (.d (.bool (!i))) L S
    | _ => .st
  | .bop o a b, σ, L, S => (ev a σ L S).bind fun x L S => (ev b σ L S).bind fun y L S =>
    R.ofO (((view L x).bind fun x => (view L y).bind fun y => opB o x y).map .d) L S
  | .cmp o a b, σ, L, S => (ev a σ L S).bind fun x L S => (ev b σ L S).bind fun y L S =>
    R.ofO (((view L x).bind fun x => (view L y).bind fun y => opC o x y).map fun c => .d (.bool c)) L S
  | .chain o o' a b c, σ, L, S => (ev a σ L S).bind fun x L S => (ev b σ L S).bind fun y L S =>
    (R.ofO ((view L x).bind fun x => (view L y).bind fun y => opC o x y) L S).bind fun k L S =>
    if k = true then (ev c σ L S).bind fun z L S => R.ofO (((view L y).bind fun y => (view L z).bind fun z => opC o' y z).map fun c => .d (.bool c)) L S
    else .ok (.d (.bool false)) L S
  | .and a b, σ, L, S => (ev a σ L S).bind fun w L S => match w with
    | .d (.bool c) => if c = true then ev b σ L S else .ok (.d (.bool false)) L S
    | _ => .st
  | .or a b, σ, L, S => (ev a σ L S).bind fun w L S => match w with
    | .d (.bool c) => if c = true then .ok (.d (.bool true)) L S else ev b σ L S
    | _ => .st
  | .ife c a b, σ, L, S => (evT c σ L S).bind fun k L S => if k = true then ev a σ L S else ev b σ L S
  | .tup es, σ, L, S => (evs es σ L S).bind fun ws L S => R.ofO ((dsOf ws).bind fun xs => if xs.length ≤ sizeLine then some (.d (.tuple xs)) else none) L S
  | .lst mu es, σ, L, S => (evs es σ L S).bind fun ws L S => match dsOf ws with
    | some xs => if xs.length ≤ sizeLine then (if mu = true then R.own xs L S else .ok (.d (.list xs)) L S) else .st
    | none => .st
  | .dnew, _, L, S => .ok (.m L.length) (L ++ [some (.dct [])]) S
  | .call f es, σ, L, S => (evs es σ L S).bind fun ws L S =>
    if argOk ws = true then match Δ f ws S with
      | .ok x _ S' => .ok (.d x) L S'
      | .ex e _ S' => .ex e L S'
      | .st => .st
    else .st
  | .bf .listM es, σ, L, S => (evs es σ L S).bind fun ws L S => match (viewAll L ws).bind lstOf with
    | some xs => R.own xs L S
    | none => .st
  | .bf f es, σ, L, S => (evs es σ L S).bind fun ws L S => R.ofO (((viewAll L ws).bind (opF f)).map .d) L S
  | .isi a t, σ, L, S => (ev a σ L S).bind fun w L S => R.ofO ((view L w).map fun x => .d (.bool (isTy t x))) L S
  | .ix a i, σ, L, S => (ev a σ L S).bind fun x L S => (ev i σ L S).bind fun y L S =>
    R.ofO (((view L x).bind fun x => (view L y).bind fun y => ixD x y).map .d) L S
  | .dget v k, σ, L, S => (ev k σ L S).bind fun y L S => match getDct L σ v with
    | some (_, kvs) => R.ofO (((isD y).bind keyD).bind fun k => (kvs.lookup k).map .d) L S
    | none => .st
  | .sl a lo hi, σ, L, S => (ev a σ L S).bind fun x L S => (evO lo σ L S).bind fun l L S => (evO hi σ L S).bind fun h L S =>
    R.ofO (((view L x).bind fun x => slD x l h).map .d) L S
  | .rev a, σ, L, S => (ev a σ L S).bind fun x L S => match view L x with
    | some (.list xs) => .ok (.d (.list xs.reverse)) L S
    | some (.tuple xs) => .ok (.d (.tuple xs.reverse)) L S
    | _ => .st
  | .lc mu elt own tg it iff, σ, L, S => (evIt it σ L S).bind fun xs L S =>
    (turns (fun x L S => match bindT tg x (wipeW σ (own.map (·.2))) with
      | none => .st
      | some σ2 => (evT iff σ2 L S).bind fun k L S =>
        if k = true then (ev elt σ2 L S).bind fun w L S => R.ofO ((isD w).map some) L S else .ok none L S) xs [] L S).bind fun ys L S =>
    if mu = true then R.own ys L S else .ok (.d (.list ys)) L S
  | .bits a, σ, L, S => (ev a σ L S).bind fun w L S => match w with
    | .d (.int i) => .ok (.d (.int (Builtin.Int.intBits i : Nat))) L S
    | _ => .st
  | .pop v i, σ, L, S => match getLst L σ v with
    | some (id, xs) => (match i with
      | none => match xs[xs.length - 1]? with
        | some y => .ok (.d y) (L.set id (some (.lst xs.dropLast))) S
        | none => .st
      | some i => if b63 i = true then match seqIndex? i xs.length with
        | some k => match xs[k]? with
          | some y => .ok (.d y) (L.set id (some (.lst (xs.eraseIdx k)))) S
          | none => .st
        | none => .st
        else .st)
    | none => .st
  | .sget v f, σ, L, S => if isSrc σ v = true then .ok (.d (.int (S.get f))) L S else .st
  | .slen v, σ, L, S => if isSrc σ v = true then .ok (.d (.int S.cells.length)) L S else .st
  | .spop v, σ, L, S => if isSrc σ v = true then match S.cells[S.cells.length - 1]? with
    | some y => .ok (.d (.int y)) L { S with cells := S.cells.dropLast }
    | none => .st
    else .st
  | .glo x, _, L, S => match Δ x [.un] S with
    | .ok d _ _ => .ok (.d d) L S
    | _ => .st
  | .idx a e, σ, L, S => (ev a σ L S).bind fun x L S => match view L x with
    | some (.list _) => (ev e σ L S).bind fun y L S => R.ofO (((view L x).bind fun x => (view L y).bind fun y => idxD x y).map .d) L S
    | _ => .st
  | .lrng1 mu hi, σ, L, S => (ev hi σ L S).bind fun y L S => match (isD y).bind fun y => rangeD [y] with
    | some xs => if xs.length ≤ 16777216 then (if mu = true then R.own xs L S else .ok (.d (.list xs)) L S) else .st
    | none => .st
  | .lrng2 mu lo hi, σ, L, S => (ev lo σ L S).bind fun x L S => (ev hi σ L S).bind fun y L S => match (isD x).bind fun x => (isD y).bind fun y => rangeD [x, y] with
    | some xs => if xs.length ≤ 16777216 then (if mu = true then R.own xs L S else .ok (.d (.list xs)) L S) else .st
    | none => .st
  | .addM a b, σ, L, S => (ev a σ L S).bind fun x L S => (ev b σ L S).bind fun y L S => match view L x, view L y with
    | some (.list xs), some (.list ys) => if xs.length + ys.length ≤ sizeLine then R.own (xs ++ ys) L S else .st
    | _, _ => .st
  | .popE v e, σ, L, S => match getLst L σ v with
    | none => .st
    | some _ => (ev e σ L S).bind fun w L S => match isD w, getLst L σ v with
      | some (.int i), some (id, xs) => if b63 i = true then match seqIndex? i xs.length with
        | some k => match xs[k]? with
          | some y => .ok (.d y) (L.set id (some (.lst (xs.eraseIdx k)))) S
          | none => .st
        | none => .st
        else .st
      | _, _ => .st
@[simp] def evs : Es → List W → Lo → Src → R (List W)
  | .nil, _, L, S => .ok [] L S
  | .cons e es, σ, L, S => (ev e σ L S).bind fun w L S => (evs es σ L S).bind fun ws L S => .ok (w :: ws) L S
@[simp] def evT : T → List W → Lo → Src → R Bool
  | .tt, _, L, S => .ok true L S
  | .and a b, σ, L, S => (evT a σ L S).bind fun c L S => if c = true then evT b σ L S else .ok false L S
  | .or a b, σ, L, S => (evT a σ L S).bind fun c L S => if c = true then .ok true L S else evT b σ L S
  | .not a, σ, L, S => (evT a σ L S).bind fun c L S => .ok (!c) L S
  | .val e, σ, L, S => (ev e σ L S).bind fun w L S => R.ofO ((view L w).bind truth) L S
  | .cmp o a b, σ, L, S => (ev a σ L S).bind fun x L S => (ev b σ L S).bind fun y L S =>
    R.ofO ((view L x).bind fun x => (view L y).bind fun y => opC o x y) L S
  | .chain o o' a b c, σ, L, S => (ev a σ L S).bind fun x L S => (ev b σ L S).bind fun y L S =>
    (R.ofO ((view L x).bind fun x => (view L y).bind fun y => opC o x y) L S).bind fun k L S =>
    if k = true then (ev c σ L S).bind fun z L S => R.ofO ((view L y).bind fun y => (view L z).bind fun z => opC o' y z) L S
    else .ok false L S
@[simp] def evO : O → List W → Lo → Src → R (Option Int)
  | .no, _, L, S => .ok none L S
  | .so e, σ, L, S => (ev e σ L S).bind fun w L S => match w with
    | .d (.int i) => .ok (some i) L S
    | _ => .st
@[simp] def evIt : It → List W → Lo → Src → R (List PyData)
  | .rng es, σ, L, S => (evs es σ L S).bind fun ws L S => R.ofO ((dsOf ws).bind rangeD) L S
  | .seq e, σ, L, S => (ev e σ L S).bind fun w L S => match w with
    | .d (.list xs) => .ok xs L S
    | .d (.tuple xs) => .ok xs L S
    | _ => .st
  | .enum e, σ, L, S => (ev e σ L S).bind fun w L S => match w with
    | .d (.list xs) => .ok (enumD xs) L S
    | _ => .st
  | .zip a b, σ, L, S => (ev a σ L S).bind fun w L S => (ev b σ L S).bind fun u L S => match w, u with
    | .d (.list xs), .d (.list ys) => .ok (zipD xs ys) L S
    | _, _ => .st
end
/-! ## statements -/
inductive RS where
  | st
  | nx (σ : List W) (L : Lo) (S : Src)
  | bk (σ : List W) (L : Lo) (S : Src)
  | ct (σ : List W) (L : Lo) (S : Src)
  | rt (x : PyData) (S : Src)
  | ex (e : Exn) (σ : List W) (L : Lo) (S : Src)
def R.then {α : Type} (r : R α) (σ : List W) (f : α → Lo → Src → RS) : RS :=
  match r with
  | .st => .st
  | .ok a L S => f a L S
  | .ex e L S => .ex e σ L S
@[simp] theorem R.then_st {α : Type} (σ : List W) (f : α → Lo → Src → RS) : (R.st : R α).then σ f = .st := rfl
@[simp] theorem R.then_ok {α : Type} (a : α) (L : Lo) (S : Src) (σ : List W) (f : α → Lo → Src → RS) : (R.ok a L S).then σ f = f a L S := rfl
@[simp] theorem R.then_ex {α : Type} (e : Exn) (L : Lo) (S : Src) (σ : List W) (f : α → Lo → Src → RS) : (R.ex e L S : R α).then σ f = .ex e σ L S := rfl
def RS.seq (r : RS) (f : List W → Lo → Src → RS) : RS :=
  match r with
  | .nx σ L S => f σ L S
  | r => r
@[simp] theorem RS.seq_nx (σ : List W) (L : Lo) (S : Src) (f : List W → Lo → Src → RS) : (RS.nx σ L S).seq f = f σ L S := rfl
@[simp] theorem RS.seq_rt (x : PyData) (S : Src) (f : List W → Lo → Src → RS) : (RS.rt x S).seq f = .rt x S := rfl
@[simp] theorem RS.seq_bk (σ : List W) (L : Lo) (S : Src) (f : List W → Lo → Src → RS) : (RS.bk σ L S).seq f = .bk σ L S := rfl
@[simp] theorem RS.seq_ct (σ : List W) (L : Lo) (S : Src) (f : List W → Lo → Src → RS) : (RS.ct σ L S).seq f = .ct σ L S := rfl
@[simp] theorem RS.seq_st (f : List W → Lo → Src → RS) : RS.st.seq f = .st := rfl
@[simp] theorem RS.seq_ex (e : Exn) (σ : List W) (L : Lo) (S : Src) (f : List W → Lo → Src → RS) : (RS.ex e σ L S).seq f = .ex e σ L S := rfl
/-- the turns of a for -/
def forL (f : PyData → List W → Lo → Src → RS) : List PyData → List W → Lo → Src → RS
  | [], σ, L, S => .nx σ L S
  | x :: xs, σ, L, S => match f x σ L S with
    | .nx σ L S => forL f xs σ L S
    | .ct σ L S => forL f xs σ L S
    | .bk σ L S => .nx σ L S
    | r => r
/-- at most so many laps of a while -/
def whl (c : List W → Lo → Src → R Bool) (b : List W → Lo → Src → RS) : Nat → List W → Lo → Src → RS
  | 0, _, _, _ => .st
  | n + 1, σ, L, S => (c σ L S).then σ fun k L S => if k = true then
      match b σ L S with
      | .nx σ L S => whl c b n σ L S
      | .ct σ L S => whl c b n σ L S
      | .bk σ L S => .nx σ L S
      | r => r
    else .nx σ L S
mutual
def exec (n : Nat) : S → List W → Lo → Src → RS
  | .asg (.nm i) e, σ, L, S => (ev Δ e σ L S).then σ fun w L S => .nx (σ.set i w) L S
  | .asg t e, σ, L, S => (ev Δ e σ L S).then σ fun w L S => match (isD w).bind fun x => bindT t x σ with
    | some σ' => .nx σ' L S
    | none => .st
  | .par i j a b, σ, L, S => (ev Δ a σ L S).then σ fun x L S => (ev Δ b σ L S).then σ fun y L S => .nx ((σ.set i x).set j y) L S
  | .par3 i j l a b c, σ, L, S => (ev Δ a σ L S).then σ fun x L S => (ev Δ b σ L S).then σ fun y L S => (ev Δ c σ L S).then σ fun z L S => .nx (((σ.set i x).set j y).set l z) L S
  | .aug i o e, σ, L, S => match σ[i]? with
    | some (.d x) => (ev Δ e σ L S).then σ fun w L S => match w with
      | .d y => match x, y with
        | .int _, .int _ => match opB o x y with
          | some z => .nx (σ.set i (.d z)) L S
          | none => .st
        | _, _ => .st
      | _ => .st
    | _ => .st
  | .app v e, σ, L, S => match getLst L σ v with
    | none => .st
    | some _ => (ev Δ e σ L S).then σ fun w L S => match getLst L σ v, isD w with
      | some (id, xs), some y => if xs.length < sizeLine then .nx σ (L.set id (some (.lst (xs ++ [y])))) S else .st
      | _, _ => .st
  | .seti v k e, σ, L, S => (ev Δ e σ L S).then σ fun w L S => (ev Δ k σ L S).then σ fun i L S => match isD w, isD i, getLst L σ v with
    | some y, some (.int i), some (id, xs) => match ixN xs.length i with
      | some j => .nx σ (L.set id (some (.lst (xs.set j y)))) S
      | none => .st
    | _, _, _ => .st
  | .sset v f e, σ, L, S => (ev Δ e σ L S).then σ fun w L S => if isSrc σ v = true then match w with
    | .d (.int i) => .nx σ L (S.put i f)
    | _ => .st
    else .st
  | .ex e, σ, L, S => (ev Δ e σ L S).then σ fun _ L S => .nx σ L S
  | .ite c a b, σ, L, S => (evT Δ c σ L S).then σ fun k L S => if k = true then execs n a σ L S else execs n b σ L S
  | .whl c b, σ, L, S => whl (evT Δ c) (execs n b) n σ L S
  | .for_ t it b, σ, L, S => (evIt Δ it σ L S).then σ fun xs L S =>
    forL (fun x σ L S => match bindT t x σ with
      | some σ' => execs n b σ' L S
      | none => .st) xs σ L S
  | .ret e, σ, L, S => (ev Δ e σ L S).then σ fun w L S => match w with
    | .d x => .rt x S
    | _ => .st
  | .brk, σ, L, S => .bk σ L S
  | .cnt, σ, L, S => .ct σ L S
  | .pas, σ, L, S => .nx σ L S
  | .nev, _, _, _ => .st
  | .frz v, σ, L, S => match getLst L σ v with
    | some (id, xs) => .nx (σ.set v (.d (.list xs))) (L.set id none) S
    | none => .st
def execs (n : Nat) : Ss → List W → Lo → Src → RS
  | .nil, σ, L, S => .nx σ L S
  | .cons s ss, σ, L, S => (exec n s σ L S).seq fun σ L S => execs n ss σ L S
end
end
/-- math.gcd, as one more name -/
def gcdF : Fn := fun ws S => match ws with
  | [.d (.int i), .d (.int j)] => .ok (.int ((Nat.gcd i.natAbs j.natAbs : Nat) : Int)) [] S
  | _ => .st
/-- a name of the module for a datum -/
def conF (d : PyData) : Fn := fun ws S => match ws with
  | [.un] => .ok d [] S
  | _ => .st
/-- a def's meaning by its body: so many slots -/
def run (Δ : Tb) (n : Nat) (slots : Nat) (b : Ss) (ws : List W) (S : Src) : R PyData :=
  match execs Δ n b (ws ++ List.replicate (slots - ws.length) .un) [] S with
  | .rt x S => .ok x [] S
  | .nx _ _ S => .ok .none [] S
  | .ex e _ _ S => .ex e [] S
  | _ => .st
end Dk
end
section
set_option Elab.async false
set_option linter.all false
set_option maxRecDepth 100000
set_option maxHeartbeats 4000000
set_option autoImplicit false
namespace Dk
open PySem PySem.Spec PyProof.Rows L2
/-! ## is the own syntax that of the def? -/
def asName : Expr → Option (Str × Pos)
  | .Name n p => some (n, p)
  | _ => none
def asConst : Expr → Option (Const × Nat × Pos)
  | .Constant c k p => some (c, k, p)
  | _ => none
def asBin : Expr → Option (Expr × Operator × Expr × Pos)
  | .BinOp a o b p => some (a, o, b, p)
  | _ => none
def asUn : Expr → Option (UnaryOp × Expr × Pos)
  | .UnaryOp o a p => some (o, a, p)
  | _ => none
def asBool : Expr → Option (BoolOp × List Expr × Pos)
  | .BoolOp o a p => some (o, a, p)
  | _ => none
def asCmp : Expr → Option (Expr × List CmpOp × List Expr × Pos)
  | .Compare a o b p => some (a, o, b, p)
  | _ => none
def asIf : Expr → Option (Expr × Expr × Expr × Pos)
  | .IfExp c a b p => some (c, a, b, p)
  | _ => none
def asTuple : Expr → Option (List Expr × Nat × Pos)
  | .Tuple es k p => some (es, k, p)
  | _ => none
def asList : Expr → Option (List Expr × Pos)
  | .List es p => some (es, p)
  | _ => none
def asDict0 : Expr → Option Pos
  | .Dict [] [] p => some p
  | _ => none
def asCall : Expr → Option (Str × Pos × List Expr × Pos)
  | .Call (.Name n p) es [] q => some (n, p, es, q)
  | _ => none
def asMeth : Expr → Option (Expr × Str × Pos × List Expr × Pos)
  | .Call (.Attribute o m p) es [] q => some (o, m, p, es, q)
  | _ => none
def asSub : Expr → Option (Expr × Expr × Pos)
  | .Subscript a i p => some (a, i, p)
  | _ => none
def asSlice : Expr → Option (Option Expr × Option Expr × Option Expr × Pos)
  | .Slice a b c p => some (a, b, c, p)
  | _ => none
def asLc : Expr → Option (Expr × Expr × Expr × List Expr × Scope × Pos)
  | .ListComp e [⟨t, i, fs, 0⟩] s p => some (e, t, i, fs, s, p)
  | _ => none
section
variable {x : Expr}
theorem asName_eq {n : Str} {p : Pos} (h : asName x = some (n, p)) : x = .Name n p := by
  cases x <;> simp_all [asName]
theorem asConst_eq {c : Const} {k : Nat} {p : Pos} (h : asConst x = some (c, k, p)) : x = .Constant c k p := by
  cases x <;> simp_all [asConst]
theorem asBin_eq {a b : Expr} {o : Operator} {p : Pos} (h : asBin x = some (a, o, b, p)) : x = .BinOp a o b p := by
  cases x <;> simp_all [asBin]
theorem asUn_eq {a : Expr} {o : UnaryOp} {p : Pos} (h : asUn x = some (o, a, p)) : x = .UnaryOp o a p := by
  cases x <;> simp_all [asUn]
theorem asBool_eq {a : List Expr} {o : BoolOp} {p : Pos} (h : asBool x = some (o, a, p)) : x = .BoolOp o a p := by
  cases x <;> simp_all [asBool]
theorem asCmp_eq {a : Expr} {o : List CmpOp} {b : List Expr} {p : Pos} (h : asCmp x = some (a, o, b, p)) : x = .Compare a o b p := by
  cases x <;> simp_all [asCmp]
theorem asIf_eq {a b c : Expr} {p : Pos} (h : asIf x = some (c, a, b, p)) : x = .IfExp c a b p := by
  cases x <;> simp_all [asIf]
theorem asTuple_eq {es : List Expr} {k : Nat} {p : Pos} (h : asTuple x = some (es, k, p)) : x = .Tuple es k p := by
  cases x <;> simp_all [asTuple]
theorem asList_eq {es : List Expr} {p : Pos} (h : asList x = some (es, p)) : x = .List es p := by
  cases x <;> simp_all [asList]
theorem asDict0_eq {p : Pos} (h : asDict0 x = some p) : x = .Dict [] [] p := by
  unfold asDict0 at h
  split at h <;> simp_all
theorem asCall_eq {n : Str} {p q : Pos} {es : List Expr} (h : asCall x = some (n, p, es, q)) : x = .Call (.Name n p) es [] q := by
  unfold asCall at h
  split at h <;> simp_all
theorem asMeth_eq {o : Expr} {m : Str} {p q : Pos} {es : List Expr} (h : asMeth x = some (o, m, p, es, q)) : x = .Call (.Attribute o m p) es [] q := by
  unfold asMeth at h
  split at h <;> simp_all
theorem asSub_eq {a i : Expr} {p : Pos} (h : asSub x = some (a, i, p)) : x = .Subscript a i p := by
  cases x <;> simp_all [asSub]
theorem asSlice_eq {a b c : Option Expr} {p : Pos} (h : asSlice x = some (a, b, c, p)) : x = .Slice a b c p := by
  cases x <;> simp_all [asSlice]
theorem asLc_eq {e t i : Expr} {fs : List Expr} {s : Scope} {p : Pos} (h : asLc x = some (e, t, i, fs, s, p)) : x = .ListComp e [⟨t, i, fs, 0⟩] s p := by
  unfold asLc at h
  split at h <;> simp_all
end
def visB (sc : Scope) (x : Str) : Bool := match sc.names.lookup x with
  | some .local => true
  | some .cell => true
  | some .free => true
  | _ => false
def glB (sc : Scope) (x : Str) : Bool := match sc.names.lookup x with
  | some .globalImplicit => true
  | _ => false
def plainN (x : Str) : Bool := !decide (x = "__debug__") && !decide (x = "__classdict__")
def opIs : Bop → Operator → Bool
  | .add, .Add => true
  | .sub, .Sub => true
  | .mul, .Mult => true
  | .fdiv, .FloorDiv => true
  | .mod, .Mod => true
  | .pow, .Pow => true
  | _, _ => false
def coIs : Cop → CmpOp → Bool
  | .eq, .Eq => true
  | .ne, .NotEq => true
  | .lt, .Lt => true
  | .le, .LtE => true
  | .gt, .Gt => true
  | .ge, .GtE => true
  | .is, .Is => true
  | .isnt, .IsNot => true
  | .isin, .In => true
  | .notin, .NotIn => true
  | _, _ => false
def noSet : Expr → Bool
  | .Set .. => false
  | _ => true
def bfName : Bf → Str
  | .abs => "abs"
  | .max2 => "max"
  | .min2 => "min"
  | .len => "len"
  | .int => "int"
  | .repr => "repr"
  | .all => "all"
  | .tuple => "tuple"
  | .list => "list"
  | .sum => "sum"
  | .max1 => "max"
  | .min1 => "min"
  | .sorted => "sorted"
  | .str => "str"
  | .listM => "list"
def tyName : Ty → Str
  | .int => "int"
  | .bool => "bool"
  | .str => "str"
  | .tuple => "tuple"
  | .list => "list"
def SF.name : SF → Str
  | .left => "left"
  | .mixed => "mixed"
  | .turn => "turn"
def subKey (k : Str) (x : Expr) : Option (Str × Pos) := match asSub x with
  | some (.Name n p, .Constant (.str z) _ _, _) => if z = k then some (n, p) else none
  | _ => none
def oneTwo : List Expr → Bool
  | [_] => true
  | [_, _] => true
  | _ => false
def addSub : Bop → Bool
  | .add => true
  | .sub => true
  | .mul => true
  | _ => false
def isSlice : Expr → Bool
  | .Slice .. => true
  | _ => false
def isCallE : Expr → Bool
  | .Call .. => true
  | _ => false
mutual
def tgIn (own : List Nat) : Tg → Bool
  | .nm i => decide (i ∈ own)
  | .tp ts => tgsIn own ts
def tgsIn (own : List Nat) : Tgs → Bool
  | .nil => true
  | .cons t ts => tgIn own t && tgsIn own ts
end
section
variable (N : List Str)
mutual
def chkTg (fn : Str → Bool) (sc : Scope) : Tg → Expr → Bool
  | .nm i, x => match asName x with
    | some (n, _) => decide (N[i]? = some n) && (match sc.names.lookup n with
      | some .local => true
      | some .cell => fn n
      | _ => false)
    | none => false
  | .tp ts, x => match asTuple x with
    | some (es, _, _) => chkTgs fn sc ts es
    | none => false
def chkTgs (fn : Str → Bool) (sc : Scope) : Tgs → List Expr → Bool
  | .nil, es => match es with
    | [] => true
    | _ :: _ => false
  | .cons t ts, es => match es with
    | [] => false
    | x :: xs => chkTg fn sc t x && chkTgs fn sc ts xs
end
mutual
def chkE : E → Scope → Expr → Bool
  | .var i, sc, x => match asName x with
    | some (n, _) => decide (N[i]? = some n) && (visB sc n && plainN n)
    | none => false
  | .int i, _, x => match asConst x with
    | some (.int j, _, _) => decide (i = j)
    | _ => false
  | .bl b, _, x => match asConst x with
    | some (.bool c, _, _) => decide (b = c)
    | _ => false
  | .non, _, x => match asConst x with
    | some (.none, _, _) => true
    | _ => false
  | .str s, _, x => match asConst x with
    | some (.str t, _, _) => decide (s = t)
    | _ => false
  | .neg a, sc, x => match asUn x with
    | some (.USub, y, _) => chkE a sc y
    | _ => false
  | .notv a, sc, x => match asUn x with
    | some (.Not, y, _) => chkE a sc y
    | _ => false
  | .bop o a b, sc, x => match asBin x with
    | some (y, op, z, _) => opIs o op && (chkE a sc y && chkE b sc z)
    | none => false
  | .addM a b, sc, x => match asBin x with
    | some (y, .Add, z, _) => chkE a sc y && chkE b sc z
    | _ => false
  | .cmp o a b, sc, x => match asCmp x with
    | some (y, [op], [z], _) => coIs o op && (noSet z && (chkE a sc y && chkE b sc z))
    | _ => false
  | .chain o o' a b c, sc, x => match asCmp x with
    | some (y, [op, op'], [z, u], _) => coIs o op && (coIs o' op' && (noSet z && (noSet u && (chkE a sc y && (chkE b sc z && chkE c sc u)))))
    | _ => false
  | .and a b, sc, x => match asBool x with
    | some (.And, [y, z], _) => chkE a sc y && chkE b sc z
    | some (.And, y :: z :: r, p) => chkE a sc y && chkE b sc (.BoolOp .And (z :: r) p)
    | _ => false
  | .or a b, sc, x => match asBool x with
    | some (.Or, [y, z], _) => chkE a sc y && chkE b sc z
    | some (.Or, y :: z :: r, p) => chkE a sc y && chkE b sc (.BoolOp .Or (z :: r) p)
    | _ => false
  | .ife c a b, sc, x => match asIf x with
    | some (y, z, u, _) => chkT c sc y && (chkE a sc z && chkE b sc u)
    | none => false
  | .tup es, sc, x => match asTuple x with
    | some (ys, _, _) => chkEs es sc ys
    | none => false
  | .lst _ es, sc, x => match asList x with
    | some (ys, _) => chkEs es sc ys
    | none => false
  | .dnew, _, x => false
  | .call f es, sc, x => match asCall x with
    | some (n, _, ys, _) => decide (n = f) && (glB sc n && (plainN n && chkEs es sc ys))
    | none => false
  | .bf f es, sc, x => match asCall x with
    | some (n, _, y :: ys, _) => decide (n = bfName f) && (glB sc n && chkEs es sc (y :: ys))
    | _ => false
  | .isi a t, sc, x => match asCall x with
    | some (n, _, [y, z], _) => decide (n = "isinstance") && (glB sc n && (chkE a sc y && (match asName z with
      | some (m, _) => decide (m = tyName t) && glB sc m
      | none => false)))
    | _ => false
  | .ix a i, sc, x => match asSub x with
    | some (y, z, _) => !isSlice z && (chkE a sc y && chkE i sc z)
    | none => false
  | .dget v k, sc, x => false
  | .sl a lo hi, sc, x => match asSub x with
    | some (y, z, _) => chkE a sc y && (match asSlice z with
      | some (l, h, none, _) => chkO lo sc l && chkO hi sc h
      | _ => false)
    | none => false
  | .rev a, sc, x => match asSub x with
    | some (y, .Slice none none (some (.UnaryOp .USub (.Constant (.int 1) _ _) _)) _, _) => chkE a sc y
    | _ => false
  | .lc _ elt own tg it iff, sc, x => match asLc x with
    | some (e, t, i, fs, s, _) => blkC N sc s own && (tgIn (own.map (·.2)) tg && (chkTg N (fun n => s.names.lookup n == some .cell) (relS s sc) tg t && (chkIt it sc t i && (chkE elt (relS s sc) e && (match fs with
      | [] => (match iff with
        | .tt => true
        | _ => false)
      | [f] => (match iff with
        | .tt => false
        | _ => chkT iff (relS s sc) f)
      | _ => false)))))
    | none => false
  | .bits a, sc, x => match asMeth x with
    | some (o, m, p, [], q) => decide (m = "bit_length") && (!isCallE o && (chkE a sc o && (p.endLine == q.line)))
    | _ => false
  | .pop v i, sc, x => match asMeth x with
    | some (o, m, p, ys, q) => decide (m = "pop") && ((p.endLine == q.line) && ((match asName o with
      | some (n, _) => decide (N[v]? = some n) && (visB sc n && plainN n)
      | none => false) && (match ys with
        | [] => i.isNone
        | [y] => match asConst y with
          | some (.int j, _, _) => decide (i = some j)
          | _ => false
        | _ => false)))
    | none => false
  | .sget v f, sc, x => match subKey f.name x with
    | some (n, _) => decide (N[v]? = some n) && (visB sc n && plainN n)
    | none => false
  | .slen v, sc, x => match asCall x with
    | some (n, _, [y], _) => decide (n = "len") && (glB sc n && (match subKey "cells" y with
      | some (n, _) => decide (N[v]? = some n) && (visB sc n && plainN n)
      | none => false))
    | _ => false
  | .spop v, sc, x => match asMeth x with
    | some (o, m, p, [], q) => decide (m = "pop") && ((p.endLine == q.line) && (match subKey "cells" o with
      | some (n, _) => decide (N[v]? = some n) && (visB sc n && plainN n)
      | none => false))
    | _ => false
  | .glo z, sc, x => match asName x with
    | some (n, _) => decide (n = z) && (glB sc n && plainN n)
    | none => false
  | .idx a e, sc, x => match asMeth x with
    | some (o, m, p, [y], q) => decide (m = "index") && (!isCallE o && (chkE a sc o && ((p.endLine == q.line) && chkE e sc y)))
    | _ => false
  | .lrng1 _ hi, sc, x => match asCall x with
    | some (n, _, [y], _) => decide (n = "list") && (glB sc n && (match asCall y with
      | some (m, _, [z], _) => decide (m = "range") && (glB sc m && chkE hi sc z)
      | _ => false))
    | _ => false
  | .lrng2 _ lo hi, sc, x => match asCall x with
    | some (n, _, [y], _) => decide (n = "list") && (glB sc n && (match asCall y with
      | some (m, _, [z, u], _) => decide (m = "range") && (glB sc m && (chkE lo sc z && chkE hi sc u))
      | _ => false))
    | _ => false
  | .popE v e, sc, x => match asMeth x with
    | some (o, m, p, [y], q) => decide (m = "pop") && ((p.endLine == q.line) && ((match asName o with
      | some (n, _) => decide (N[v]? = some n) && (visB sc n && plainN n)
      | none => false) && chkE e sc y))
    | _ => false
def chkEs : Es → Scope → List Expr → Bool
  | .nil, _, xs => match xs with
    | [] => true
    | _ :: _ => false
  | .cons e es, sc, xs => match xs with
    | [] => false
    | x :: xs => chkE e sc x && chkEs es sc xs
def chkT : T → Scope → Expr → Bool
  | .tt, _, _ => false
  | .val e, sc, x => chkE e sc x && (match x with
    | .BoolOp .. => false
    | .UnaryOp .. => false
    | .IfExp .. => false
    | .Compare .. => false
    | _ => true)
  | .cmp o a b, sc, x => match asCmp x with
    | some (y, [op], [z], _) => coIs o op && (noSet z && (chkE a sc y && chkE b sc z))
    | _ => false
  | .chain o o' a b c, sc, x => match asCmp x with
    | some (y, [op, op'], [z, u], _) => coIs o op && (coIs o' op' && (noSet z && (noSet u && (chkE a sc y && (chkE b sc z && chkE c sc u)))))
    | _ => false
  | .and a b, sc, x => match asBool x with
    | some (.And, [y, z], _) => chkT a sc y && chkT b sc z
    | some (.And, y :: z :: r, p) => chkT a sc y && chkT b sc (.BoolOp .And (z :: r) p)
    | _ => false
  | .or a b, sc, x => match asBool x with
    | some (.Or, [y, z], _) => chkT a sc y && chkT b sc z
    | some (.Or, y :: z :: r, p) => chkT a sc y && chkT b sc (.BoolOp .Or (z :: r) p)
    | _ => false
  | .not a, sc, x => match asUn x with
    | some (.Not, y, _) => chkT a sc y
    | _ => false
def chkO : O → Scope → Option Expr → Bool
  | .no, _, x => x.isNone
  | .so e, sc, x => match x with
    | some y => chkE e sc y
    | none => false
def chkIt : It → Scope → Expr → Expr → Bool
  | .rng es, sc, _, x => match asCall x with
    | some (n, _, ys, _) => decide (n = "range") && (glB sc n && (chkEs es sc ys && oneTwo ys))
    | none => false
  | .seq e, sc, _, x => noSet x && chkE e sc x
  | .enum e, sc, t, x => match asCall x with
    | some (n, _, [y], _) => decide (n = "enumerate") && (glB sc n && (chkE e sc y && (asTuple t).isSome))
    | _ => false
  | .zip a b, sc, t, x => match asCall x with
    | some (n, _, [y, z], _) => decide (n = "zip") && (glB sc n && (chkE a sc y && (chkE b sc z && (asTuple t).isSome)))
    | _ => false
end
/-- one name on the left, a comprehension on the right, stored at once -/
def swapT (sc : Scope) (n : Str) (p : Pos) : Expr → Bool
  | .ListComp _ _ s q => (sc.names.lookup n == some .local) && ((p.line == q.line) && !(s.names.any fun (m, k) => m == n && (k == .local || k == .cell)))
  | _ => false
def isLc : Expr → Bool
  | .ListComp .. => true
  | .SetComp .. => true
  | .DictComp .. => true
  | _ => false
/-- a tuple on the left and on the right: not exchanged | exchanged -/
def tgNames (sc : Scope) (ts : List Expr) : List Str :=
  let line := (ts.head?.map (·.pos.line)).getD 0
  ts.filterMap fun
    | .Name id pos => if sc.names.lookup id == some .local && pos.line == line then some id else none
    | _ => none
def noSw (sc : Scope) (ts vs : List Expr) : Bool :=
  !(ts.length == 2 || ts.length == 3) || ((vs.length != ts.length) || (((tgNames sc ts).length != ts.length || (tgNames sc ts).eraseDups.length != (tgNames sc ts).length) || vs.all (foldedForSure 8)))
def noStar : List Expr → Bool
  | [] => true
  | .Starred .. :: _ => false
  | _ :: r => noStar r
mutual
def chkS (sc : Scope) : S → Stmt → Bool
  | .asg (.nm i) e, st => match st with
    | .Assign [t] v p => chkTg N (fun _ => true) sc (.nm i) t && (chkE N e sc v && (match asName t with
      | some (n, q) => !isLc v || (match e with
        | .lc .. => true
        | _ => false)
      | none => false))
    | _ => false
  | .asg (.tp ts) e, st => match st with
    | .Assign [t] v p => chkTg N (fun _ => true) sc (.tp ts) t && (chkE N e sc v && (match asTuple t with
      | some (us, _, _) => (match asTuple v with
        | some (vs, _, _) => noStar vs && noSw sc us vs
        | none => true)
      | none => false))
    | _ => false
  | .par i j a b, st => match st with
    | .Assign [.Tuple [.Name x px, .Name y py] _ _] (.Tuple [u, v] _ _) p => decide (N[i]? = some x) && (decide (N[j]? = some y) && (decide (i ≠ j) && ((sc.names.lookup x == some .local) && ((sc.names.lookup y == some .local) &&
        (decide (x ≠ y) && ((py.line == px.line) && (!([u, v].all (foldedForSure 8)) && (!([u, v].all (constantsAlone 8)) && (noStar [u, v] && (chkE N a sc u && chkE N b sc v))))))))))
    | _ => false
  | .par3 i j l a b c, st => match st with
    | .Assign [.Tuple [.Name x px, .Name y py, .Name z pz] _ _] (.Tuple [u, v, w] _ _) p => decide (N[i]? = some x) && (decide (N[j]? = some y) && (decide (N[l]? = some z) && (decide (i ≠ j ∧ i ≠ l ∧ j ≠ l) && (decide (sc.names.lookup x = some .local ∧ sc.names.lookup y = some .local ∧ sc.names.lookup z = some .local) &&
        (decide (x ≠ y ∧ x ≠ z ∧ y ≠ z) && ((py.line == px.line) && ((pz.line == px.line) && (!([u, v, w].all (foldedForSure 8)) && (!([u, v, w].all (constantsAlone 8)) && (noStar [u, v, w] && (chkE N a sc u && (chkE N b sc v && chkE N c sc w))))))))))))
    | _ => false
  | .aug i o e, st => match st with
    | .AugAssign (.Name x _) op v _ => chkTg N (fun _ => true) sc (.nm i) (.Name x ⟨0, 0, 0, 0⟩) && (opIs o op && (addSub o && chkE N e sc v))
    | _ => false
  | .app v e, st => match st with
    | .Expr c _ => (match asMeth c with
      | some (o, m, p, [y], q) => decide (m = "append") && ((p.endLine == q.line) && ((match asName o with
        | some (n, _) => decide (N[v]? = some n) && (visB sc n && plainN n)
        | none => false) && chkE N e sc y))
      | _ => false)
    | _ => false
  | .seti v k e, st => match st with
    | .Assign [.Subscript o i _] u _ => (match asName o with
        | some (n, _) => decide (N[v]? = some n) && (visB sc n && plainN n)
        | none => false) && (!isSlice i && (!isLc u && (chkE N k sc i && chkE N e sc u)))
    | _ => false
  | .sset v f e, st => match st with
    | .Assign [t] u _ => (match subKey f.name t with
      | some (n, _) => decide (N[v]? = some n) && (visB sc n && plainN n)
      | none => false) && (!isLc u && chkE N e sc u)
    | _ => false
  | .ex e, st => match st with
    | .Expr c _ => !isLc c && chkE N e sc c
    | _ => false
  | .ite c a b, st => match st with
    | .If x y z _ => chkT N c sc x && (chkSs sc a y && chkSs sc b z)
    | _ => false
  | .whl c b, st => match st with
    | .While x y [] _ => chkT N c sc x && chkSs sc b y
    | _ => false
  | .for_ t it b, st => match st with
    | .For x i y [] _ => chkTg N (fun _ => true) sc t x && (chkIt N it sc x i && chkSs sc b y)
    | _ => false
  | .ret e, st => match st with
    | .Return (some x) _ => chkE N e sc x
    | _ => false
  | .brk, st => match st with
    | .Break _ => true
    | _ => false
  | .cnt, st => match st with
    | .Continue _ => true
    | _ => false
  | .pas, st => match st with
    | .Pass _ => true
    | _ => false
  | .nev, _ => true
  | .frz _, _ => false
def chkSs (sc : Scope) : Ss → List Stmt → Bool
  | .nil, xs => match xs with
    | [] => true
    | _ :: _ => false
  | .cons (.frz _) ss, xs => chkSs sc ss xs
  | .cons s ss, xs => match xs with
    | [] => false
    | x :: xs => chkS sc s x && chkSs sc ss xs
end
end
end Dk
end
section
set_option Elab.async false
set_option linter.all false
set_option maxRecDepth 100000
set_option maxHeartbeats 4000000
set_option autoImplicit false
namespace Dk
open PySem PySem.Spec PyProof.Rows L2
/-! ## operators keep what they promise -/
def Fin (K : PySem.W.Frag) (G H : Hp) (r : PyData) (Q : VK) : Prop :=
  (∀ v, Dt K G v r → Q v H) ∧ ∀ v D o, H D = none → Dt K (upd G D o) v r → Q v (upd H D o)
theorem Fin.flat {K : PySem.W.Frag} {G H : Hp} {r : PyData} {Q : VK} (f : Fin K G H r Q) {v : V} (h : Dt K G v r) : Q v H := f.1 v h
theorem gnone {G H : Hp} {D : Addr} (e : Same G H) (h : H D = none) : G D = none := e.free h
theorem Fin.list {K : PySem.W.Frag} {G H : Hp} {xs : List PyData} {Q : VK} (f : Fin K G H (.list xs) Q) (e : Same G H) {vs : List V} (h : DtAll K G vs xs) : ∀ p, H p = none → Q (.ref p) (upd H p (.lst vs)) := fun p hp =>
  f.2 _ p (.lst vs) hp (.lst upd_same (h.mono (same_new (gnone e hp))))
theorem Fin.tuple {K : PySem.W.Frag} {G H : Hp} {xs : List PyData} {Q : VK} (f : Fin K G H (.tuple xs) Q) (e : Same G H) {vs : List V} (h : DtAll K G vs xs) : ∀ p, H p = none → Q (.ref p) (upd H p (.tup vs)) := fun p hp =>
  f.2 _ p (.tup vs) hp (.tup (.of upd_same) (h.mono (same_new (gnone e hp))))
section
variable {X : Cx}
def rOp (K : PySem.W.Frag) (o : Bop) : R2 := fun x y H Q => ∃ G d e r, Same G H ∧ Vw K G H x d ∧ Vw K G H y e ∧ opB o d e = some r ∧ Fin K G H r Q
theorem mulOk_ok {i j : Int} (h : mulOk i j = true) : IntMulOk i j := by
  unfold mulOk at h
  simp only [Bool.or_eq_true, decide_eq_true_eq] at h
  have p : (2 : Int) ^ 64 = 18446744073709551616 := by decide
  have p2 : (2 : Nat) ^ 64 = 18446744073709551616 := by decide
  rcases h with h | h | h
  · exact .of_left (intBits_le_64 (by rw [p]; rw [p2] at h; omega) (by rw [p]; rw [p2] at h; omega))
  · exact .of_right (intBits_le_64 (by rw [p]; rw [p2] at h; omega) (by rw [p]; rw [p2] at h; omega))
  · exact CMulW.ok h
theorem op_mulD : OpR X (binaryOp .Mult) (rI (fun i j => mulOk i j = true) fun i j => .int (i * j)) := opI fun _ _ _ _ _ _ _ hc q => mul_int q (mulOk_ok hc)
theorem op_fdivD : OpR X (binaryOp .FloorDiv) (rI (fun _ j => j ≠ 0 ∧ j.natAbs.log2 < 9000) fun i j => .int (i.fdiv j)) := opI fun _ _ _ _ _ _ _ hc q => floordiv_int hc.1 q (.inl (PyProof.noPylong_of_log2 hc.2))
/-- two lists put together, the new one kept as the run's own -/
def rAdd (K : PySem.W.Frag) : R2 := fun x y H Q => ∃ G xs ys, Same G H ∧ Vw K G H x (.list xs) ∧ Vw K G H y (.list ys) ∧ xs.length + ys.length ≤ sizeLine ∧ ∀ p ws, H p = none → DtAll K G ws (xs ++ ys) → Q (.ref p) (upd H p (.lst ws))
theorem addM_ok : OpR X (binaryOp .Add) (rAdd X.K) := by
  intro pins s σ H x y v u Q I rx ry hr
  obtain ⟨G, xs, ys, sg, hx, hy, hz, fin⟩ := hr
  obtain ⟨a, vs, e1, h1, a1⟩ := hx.list sg
  obtain ⟨b, us, e2, h2, a2⟩ := hy.list sg
  exact op_cat pins s σ H x y v u Q I rx ry ⟨a, b, vs, us, e1, e2, h1, h2, by rw [a1.length, a2.length]; exact hz, fun p hp => fin p _ hp (a1.append a2)⟩
theorem op_ok {o : Bop} {op : Operator} (h : opIs o op = true) : OpR X (binaryOp op) (rOp X.K o) := by
  intro pins s σ H x y v u Q I rx ry hr
  obtain ⟨G, d, e, r, sg, hx, hy, ho, fin⟩ := hr
  unfold opB at ho
  split at ho
  · cases op <;> first | (cases h; done) | skip
    cases ho
    exact op_add pins s σ H x y v u Q I rx ry ⟨_, _, hx.int, hy.int, fin.flat (.int _)⟩
  · cases op <;> first | (cases h; done) | skip
    split at ho
    · rename_i hz
      cases ho
      exact op_add_str pins s σ H x y v u Q I rx ry ⟨_, _, hx.str, hy.str, hz, fin.flat (.str _)⟩
    · cases ho
  · cases op <;> first | (cases h; done) | skip
    split at ho
    · rename_i hz
      cases ho
      obtain ⟨a, vs, e1, h1, a1⟩ := hx.list sg
      obtain ⟨b, us, e2, h2, a2⟩ := hy.list sg
      exact op_cat pins s σ H x y v u Q I rx ry ⟨a, b, vs, us, e1, e2, h1, h2, by rw [a1.length, a2.length]; exact hz, fin.list sg (a1.append a2)⟩
    · cases ho
  · cases op <;> first | (cases h; done) | skip
    split at ho
    · rename_i hz
      cases ho
      obtain ⟨a, vs, e1, h1, a1⟩ := hx.tuple
      obtain ⟨b, us, e2, h2, a2⟩ := hy.tuple
      refine op_catA pins s σ H x y v u Q I rx ry ⟨a, b, vs, us, e1, e2, Same.tseq sg h1, Same.tseq sg h2, by rw [a1.length, a2.length]; exact hz, ?_⟩
      refine ⟨fun z => ?_, fun _ z => ?_, fun _ _ => fin.tuple sg (a1.append a2)⟩
      · have q := a1.nil_iff.mp z
        subst q
        exact fin.flat (.tup h2 a2)
      · have q := a2.nil_iff.mp z
        subst q
        rw [List.append_nil] at fin
        exact fin.flat (.tup h1 a1)
    · cases ho
  · cases op <;> first | (cases h; done) | skip
    cases ho
    exact op_sub pins s σ H x y v u Q I rx ry ⟨_, _, hx.int, hy.int, fin.flat (.int _)⟩
  · cases op <;> first | (cases h; done) | skip
    split at ho
    · rename_i hz
      cases ho
      exact op_mulD pins s σ H x y v u Q I rx ry ⟨_, _, hx.int, hy.int, hz, fin.flat (.int _)⟩
    · cases ho
  · cases op <;> first | (cases h; done) | skip
    split at ho
    · rename_i hz
      cases ho
      obtain ⟨a, vs, e1, h1, a1⟩ := hx.list sg
      exact op_rep pins s σ H x y v u Q I rx ry ⟨a, _, vs, e1, hy.int, h1, (b63_ok hz.1).1, (b63_ok hz.1).2, by rw [a1.length]; exact hz.2, fin.list sg (a1.rep _)⟩
    · cases ho
  · cases op <;> first | (cases h; done) | skip
    split at ho
    · rename_i hz
      cases ho
      obtain ⟨a, vs, e1, h1, a1⟩ := hx.tuple
      exact op_repT pins s σ H x y v u Q I rx ry ⟨a, _, vs, e1, hy.int, Same.tseq sg h1, fun z => hz.1 (a1.nil_iff.mp z), hz.2.1, hz.2.2.1, by rw [a1.length]; exact hz.2.2.2, fin.tuple sg (a1.rep _)⟩
    · cases ho
  · cases op <;> first | (cases h; done) | skip
    split at ho
    · rename_i hz
      cases ho
      exact op_fdivD pins s σ H x y v u Q I rx ry ⟨_, _, hx.int, hy.int, hz, fin.flat (.int _)⟩
    · cases ho
  · cases op <;> first | (cases h; done) | skip
    split at ho
    · rename_i hz
      cases ho
      exact op_modN pins s σ H x y v u Q I rx ry ⟨_, _, hx.int, hy.int, hz, fin.flat (.int _)⟩
    · cases ho
  · cases op <;> first | (cases h; done) | skip
    split at ho
    · rename_i hz
      cases ho
      exact op_pow pins s σ H x y v u Q I rx ry ⟨_, _, hx.int, hy.int, ⟨hz.1, by have := hz.2.1; have := hz.1; omega, hz.2.2⟩, fin.flat (.int _)⟩
    · cases ho
  · cases ho
/-- comparisons -/
def rCo (K : PySem.W.Frag) (o : Cop) : R2 := fun x y H Q => ∃ G d e r, Same G H ∧ Vw K G H x d ∧ Vw K G H y e ∧ opC o d e = some r ∧ Q (.bl r) H
theorem shaped_nd {d : PyData} (h : SeqAt.shaped d = true) : d.hasDict = false := PyData.hasDict_of_canLay d (SeqAt.canLay_of_shaped h)
theorem eqD_inv {d e : PyData} {r : Bool} (h : eqD d e = some r) : SeqAt.shaped d = true ∧ SeqAt.shaped e = true ∧ PyData.eqv d e = r := by
  unfold eqD at h
  split at h
  · rename_i hz
    exact ⟨hz.1, hz.2, Option.some.inj h⟩
  · cases h
theorem flat_V {K : PySem.W.Frag} {G : Hp} {v : V} {e : PyData} (h : Dt K G v e) (f : flatD e = true) : flatV v = true := by
  cases h <;> first | rfl | cases f
theorem flat_eq {K : PySem.W.Frag} {G : Hp} {x v : V} {d e : PyData} (hx : Dt K G x d) (fx : flatD d = true) (h : Dt K G v e) (f : flatD e = true) : eqV v x = PyData.eqv e d := by
  cases h <;> first | (cases f; done) | skip
  all_goals (cases hx <;> first | (cases fx; done) | skip)
  all_goals first | rfl | (simp [eqV, PyData.eqv]; done)
theorem flat_inV {K : PySem.W.Frag} {G : Hp} {x : V} {d : PyData} (hx : Dt K G x d) (fx : flatD d = true) : ∀ {vs : List V} {ds : List PyData}, DtAll K G vs ds → ds.all flatD = true → vs.all flatV = true ∧ inV x vs = ds.any fun z => PyData.eqv z d
  | _, _, .nil, _ => ⟨rfl, rfl⟩
  | _, _, .cons (x := z) (xs := zs) q t, f => by
    have f2 : flatD z = true ∧ zs.all flatD = true := by simpa [List.all_cons] using f
    obtain ⟨i2, i3⟩ := flat_inV hx fx t f2.2
    refine ⟨?_, ?_⟩
    · rw [List.all_cons, flat_V q f2.1, i2]; rfl
    · unfold inV at i3 ⊢
      rw [List.any_cons, List.any_cons, flat_eq hx fx q f2.1, i3]
theorem inD_inv {d e : PyData} {r : Bool} (h : inD d e = some r) :
    (∃ ys, e = .list ys ∧ SeqAt.shaped d = true ∧ SeqAt.shaped (.list ys) = true ∧ r = ys.any fun z => PyData.eqv z d) ∨
    (∃ ys, e = .tuple ys ∧ flatD d = true ∧ ys.all flatD = true ∧ r = ys.any fun z => PyData.eqv z d) := by
  unfold inD at h
  split at h
  · split at h
    · rename_i hz
      exact .inl ⟨_, rfl, hz.1, hz.2, (Option.some.inj h).symm⟩
    · cases h
  · split at h
    · rename_i hz
      exact .inr ⟨_, rfl, hz.1, hz.2, (Option.some.inj h).symm⟩
    · cases h
  · cases h
theorem isN_V {K : PySem.W.Frag} {G H : Hp} {x : V} {d : PyData} (hx : Vw K G H x d) : decide (x = .non) = isNone d := by
  rcases hx with hx | ⟨a, vs, xs, e1, e2, h1, h2⟩
  · cases hx <;> rfl
  · subst e1 e2
    rfl
variable {X : Cx}
theorem co_ok (hu : X.A.units + 65 < cLine) {o : Cop} {op : CmpOp} (h : coIs o op = true) : OpR X (compareOp op) (rCo X.K o) := by
  intro pins s σ H x y v u Q I rx ry hr
  obtain ⟨G, d, e, r, sg, hx, hy, ho, q⟩ := hr
  have hu1 : X.A.units + 64 < cLine := by omega
  have eqc : ∀ {k : Bool}, eqD d e = some k → op = .Eq → Q (.bl k) H → wpAny (model X.prog X.w) X.A (compareOp op v u) (EP X pins σ Q) X.xe s := fun {k} hk hop q => by
    subst hop
    obtain ⟨h1, h2, h3⟩ := eqD_inv hk
    exact op_eqD hu1 pins s σ H x y v u Q I rx ry ⟨d, e, hx.dp sg (shaped_nd h1), hy.dp sg (shaped_nd h2), h1, h2, by rw [h3]; exact q⟩
  have nec : ∀ {k : Bool}, eqD d e = some k → op = .NotEq → Q (.bl (!k)) H → wpAny (model X.prog X.w) X.A (compareOp op v u) (EP X pins σ Q) X.xe s := fun {k} hk hop q => by
    subst hop
    obtain ⟨h1, h2, h3⟩ := eqD_inv hk
    exact op_neD hu1 pins s σ H x y v u Q I rx ry ⟨d, e, hx.dp sg (shaped_nd h1), hy.dp sg (shaped_nd h2), h1, h2, by rw [h3]; exact q⟩
  unfold opC at ho
  split at ho
  · cases op <;> first | (cases h; done) | skip
    cases ho
    exact op_eq pins s σ H x y v u Q I rx ry ⟨by rw [hx.int, hy.int]; rfl, by rw [hx.int, hy.int]; simpa using q⟩
  · cases op <;> first | (cases h; done) | skip
    cases ho
    exact op_eq pins s σ H x y v u Q I rx ry ⟨by rw [hx.str, hy.str]; rfl, by rw [hx.str, hy.str]; simpa using q⟩
  · cases op <;> first | (cases h; done) | skip
    exact eqc ho rfl q
  · cases op <;> first | (cases h; done) | skip
    cases ho
    exact op_ne pins s σ H x y v u Q I rx ry ⟨by rw [hx.int, hy.int]; rfl, by rw [hx.int, hy.int]; simpa using q⟩
  · cases op <;> first | (cases h; done) | skip
    cases ho
    exact op_ne pins s σ H x y v u Q I rx ry ⟨by rw [hx.str, hy.str]; rfl, by rw [hx.str, hy.str]; simpa using q⟩
  · cases op <;> first | (cases h; done) | skip
    obtain ⟨k, hk, rfl⟩ := Option.map_eq_some_iff.mp ho
    exact nec hk rfl q
  · cases op <;> first | (cases h; done) | skip
    cases ho
    exact op_lt pins s σ H x y v u Q I rx ry ⟨_, _, hx.int, hy.int, q⟩
  · cases op <;> first | (cases h; done) | skip
    cases ho
    exact op_le pins s σ H x y v u Q I rx ry ⟨_, _, hx.int, hy.int, q⟩
  · cases op <;> first | (cases h; done) | skip
    cases ho
    exact op_gt pins s σ H x y v u Q I rx ry ⟨_, _, hx.int, hy.int, q⟩
  · cases op <;> first | (cases h; done) | skip
    cases ho
    exact op_ge pins s σ H x y v u Q I rx ry ⟨_, _, hx.int, hy.int, q⟩
  · cases op <;> first | (cases h; done) | skip
    cases ho
    exact op_isN pins s σ H x y v u Q I rx ry ⟨hy.none, by rw [isN_V hx]; exact q⟩
  · cases op <;> first | (cases h; done) | skip
    cases ho
    exact op_isBl pins s σ H x y v u Q I rx ry ⟨_, _, hx.bool, hy.bool, q⟩
  · cases op <;> first | (cases h; done) | skip
    cases ho
    exact op_notN pins s σ H x y v u Q I rx ry ⟨hy.none, by rw [isN_V hx]; exact q⟩
  · cases op <;> first | (cases h; done) | skip
    cases ho
    exact op_notBl pins s σ H x y v u Q I rx ry ⟨_, _, hx.bool, hy.bool, q⟩
  · cases op <;> first | (cases h; done) | skip
    rcases inD_inv ho with ⟨ys, rfl, h1, h2, rfl⟩ | ⟨ys, rfl, h1, h2, rfl⟩
    · exact op_inD hu pins s σ H x y v u Q I rx ry ⟨d, ys, hx.dp sg (shaped_nd h1), hy.dp sg (shaped_nd h2), h1, h2, q⟩
    · obtain ⟨a, vs, e1, k1, a1⟩ := hy.tuple
      have hx' : Dt X.K G x d := by
        rcases hx with hx | ⟨_, _, _, _, e2, _, _⟩
        · exact hx
        · subst e2; cases h1
      obtain ⟨i1, i2⟩ := flat_inV hx' h1 a1 h2
      exact op_in_seq pins s σ H x y v u Q I rx ry ⟨a, vs, e1, .inr (Same.tseq sg k1), flat_V hx' h1, i1, by rw [i2]; exact q⟩
  · cases op <;> first | (cases h; done) | skip
    obtain ⟨k, hk, rfl⟩ := Option.map_eq_some_iff.mp ho
    rcases inD_inv hk with ⟨ys, rfl, h1, h2, rfl⟩ | ⟨ys, rfl, h1, h2, rfl⟩
    · exact op_notInD hu pins s σ H x y v u Q I rx ry ⟨d, ys, hx.dp sg (shaped_nd h1), hy.dp sg (shaped_nd h2), h1, h2, q⟩
    · obtain ⟨a, vs, e1, k1, a1⟩ := hy.tuple
      have hx' : Dt X.K G x d := by
        rcases hx with hx | ⟨_, _, _, _, e2, _, _⟩
        · exact hx
        · subst e2; cases h1
      obtain ⟨i1, i2⟩ := flat_inV hx' h1 a1 h2
      exact op_notIn_seq pins s σ H x y v u Q I rx ry ⟨a, vs, e1, .inr (Same.tseq sg k1), flat_V hx' h1, i1, by
        rw [i2]
        exact q⟩
  · cases ho
/-- truth -/
theorem truth_ok {K : PySem.W.Frag} {G H : Hp} {x : V} {d : PyData} {k : Bool} (sg : Same G H) (hx : Vw K G H x d) (h : truth d = some k) : TruV K x H k := by
  cases d with
  | none => rw [hx.none]; cases h; rfl
  | bool b => rw [hx.bool]; cases h; rfl
  | int i => rw [hx.int]; cases h; rfl
  | str z =>
    rw [hx.str]
    by_cases hz : z.length ≤ sizeLine
    · rw [show truth (.str z) = some ((z.length : Int) != 0) from if_pos hz] at h
      cases h
      exact ⟨hz, rfl⟩
    · rw [show truth (.str z) = none from if_neg hz] at h
      cases h
  | list xs =>
    cases h
    obtain ⟨a, vs, rfl, h1, a1⟩ := hx.list sg
    exact .inl ⟨vs, .of h1, by cases a1 <;> rfl⟩
  | tuple xs =>
    cases h
    obtain ⟨a, vs, rfl, h1, a1⟩ := hx.tuple
    exact .inr (.inl ⟨vs, Same.tseq sg h1, by cases a1 <;> rfl⟩)
  | dict _ => cases h
end
end Dk
end
section
set_option Elab.async false
set_option linter.all false
set_option maxRecDepth 100000
set_option maxHeartbeats 4000000
set_option autoImplicit false
namespace Dk
open PySem PySem.Spec PyProof.Rows L2
/-! ## defs that run where no guard is held -/
section
variable (P : Program) (w : World) (K : PySem.W.Frag) (mg : Str → Option Value) (base : Heap) (C : CXT) (k : Nat)
structure FnG (f : Addr) (fd : FuncData) (ps : List Str) (sp : Sp) : Prop where
  len : ∀ vs H Q E, sp vs H Q E → vs.length = ps.length
  run : ∀ (A : Around) (outer : List Env) (s : Shared) (H : Hp) (args : Args) (us : List Value) (vs : List V) (Q : VK) (E : XK),
    Room k A → A.guards = some [] → Env0 P w K mg base A outer s H → BindsTo s fd args (ps.zip us) → Vals vs us → sp vs H Q E →
    codeAny (model P w) A (.call (.ref f) args) (CR C outer P w H s Q E) s
end
section
variable {P : Program} {w : World} {K : PySem.W.Frag} {mg : Str → Option Value} {base : Heap} {C : CXT} {k : Nat}
theorem FnG.mono {j : Nat} {f : Addr} {fd : FuncData} {ps : List Str} {sp : Sp} (F : FnG P w K mg base C j f fd ps sp) (h : j ≤ k) : FnG P w K mg base C k f fd ps sp where
  len := F.len
  run := fun A outer s H args us vs Q E hr => F.run A outer s H args us vs Q E (hr.mono h)
theorem FnG.imp {f : Addr} {fd : FuncData} {ps : List Str} {sp sp' : Sp} (F : FnG P w K mg base C k f fd ps sp) (h : ∀ vs H Q E, sp' vs H Q E → sp vs H Q E) : FnG P w K mg base C k f fd ps sp' where
  len := fun vs H Q E q => F.len vs H Q E (h _ _ _ _ q)
  run := fun A outer s H args us vs Q E a b c d e z => F.run A outer s H args us vs Q E a b c d e (h _ _ _ _ z)
/-- a def of the text by its body -/
theorem fnG_of {x : Str} {st : Stmt} {f : Addr} {fd : FuncData} {N ps : List Str} {sp : Sp} (F : Fun K x x st f fd) (S : FnScope N ps (defScope st)) (len : ∀ vs H Q E, sp vs H Q E → vs.length = ps.length)
    (body : ∀ (cd : Value) (A : Around) (out : List Env) (s : Shared) (H : Hp) (vs : List V) (Q : VK) (E : XK), Room k (A.deeper (envOfC x (defScope st) s.heap.objs.size f cd)) → A.guards = some [] → sp vs H Q E →
      ∃ t, PSs (cxOf C P w K mg base N x (defScope st) f cd A out s H E) (defBody st) t ∧ t { nx := fun _ H' => Q .non H', rt := Q } (start N vs) H) :
    FnG P w K mg base C (k + 1) f fd ps sp := by
  obtain ⟨oc, od, kV, doc, pm, an, cd, ct, osl, hfd, hlk, hcode⟩ := F.ex
  subst hfd
  constructor
  · exact len
  intro A out s H args us vs Q E room guard env0 bnd rel promise
  have kin : K.In s.heap := env0.mod.kin.keeps (fun a o h => (env0.bs a o h).1)
  have nolim : s.heap.NoLimit := env0.mod.nolimit.keeps (fun a o h => (env0.bs a o h).1)
  have kinds : ∀ y ∈ ps.zip us, (defScope st).names.lookup y.1 = some .local ∨
      ((defScope st).names.lookup y.1 = some .cell ∧ ((cellsFrom (s.heap.objs.size + 1) (defScope st).names []).lookup y.1).isSome = true) := by
    intro y hy
    cases S.par y.1 (List.of_mem_zip hy).1 with
    | inl q => exact Or.inl q
    | inr q => exact Or.inr ⟨q, PySem.W.cellsFrom_some _ _ _ (Or.inl q)⟩
  apply codeAny_call_function room.depth (kin _ _ hlk) rfl S.co S.gen rfl (PySem.W.codeRec_of kin hcode)
  apply bnd
  apply wpAny_newFunctionEnv_cells S.kind kinds
  intro env henv s1 hin
  cases henv
  refine And.intro (nolim.keeps hin.toInCall.keep) ?_
  apply codeAny_func
  obtain ⟨t, der, reading⟩ := body cd A out s H vs Q E (room.deeper _) guard promise
  have inv0 := inv_start (E := E) (CX := C) S room.hd env0 (len _ _ _ _ promise) rel hin
  refine wpAny_mono (der.run [] s1 (start N vs) H _ inv0 reading) ?_ (fun _ _ z => z)
  intro fl s2 after
  match fl, after with
  | .ret u, ⟨v, σ', H', J, rv, q⟩ => exact ⟨v, H', J.os, J.bare, J.base, J.hok, rv, q⟩
  | .next, ⟨σ', H', J, q⟩ => exact ⟨V.non, H', J.os, J.bare, J.base, J.hok, rfl, q⟩
  | .brk, ⟨_, _, _, q⟩ => exact q.elim
  | .cont, ⟨_, _, _, q⟩ => exact q.elim
end
section
variable {X : Cx} {C : CXT} {k : Nat} {f : Addr} {fd : FuncData} {ps : List Str} {sp : Sp} {E : XK}
theorem runG {pins : List (Addr × Obj)} {σ : L2.St} {H : Hp} {s : Shared} {Q : VK} {us : List Value} {vs : List V} (F : FnG X.prog X.w X.K X.mg X.base C k f fd ps sp) (hr : Room k X.A) (hgd : X.A.guards = some [])
    (hb : Binds X.K fd ps []) (hx : Passes C X E) (I : Inv X pins σ H s) (r : Vals vs us) (h : sp vs H Q E) : wpAny (model X.prog X.w) X.A (call (.ref f) us) (EP X pins σ Q) X.xe s := by
  have same : us.length = ps.length := r.length.symm.trans (F.len _ _ _ _ h)
  have bnd := hb s us I.kIn (by simpa using same)
  rw [List.append_nil] at bnd
  apply wpAny_call
  apply codeAny_mono (F.run X.A X.stack s H ⟨us, []⟩ us vs Q E hr hgd I.env0 bnd r h)
  intro res s' out
  match res, out with
  | .error e, out => exact hx pins σ H s e s' I out
  | .ok (.ret u), out => exact I.after out
  | .ok .next, out => exact False.elim out
  | .ok .brk, out => exact False.elim out
  | .ok .cont, out => exact False.elim out
end
theorem reads_ints {h : Heap} : ∀ {ns : List Int} {us : List Value}, Vals (ns.map V.int) us → ReadsAll h us (ns.map .int) []
  | [], us, r => by
    cases r
    exact .nil
  | n :: ns, us, r => by
    cases r with
    | cons a b =>
      obtain ⟨t, rfl⟩ := a
      exact ReadsAll.cons (as := []) (bs := []) (.int n t) (reads_ints b)
theorem alike_ints (ns : List Int) : PySem.W.AlikeAll (ns.map .int) := by
  refine ⟨fun x hx y hy => ?_, fun x hx => ?_⟩
  · obtain ⟨i, _, rfl⟩ := List.mem_map.mp hx
    obtain ⟨j, _, rfl⟩ := List.mem_map.mp hy
    rfl
  · obtain ⟨i, _, rfl⟩ := List.mem_map.mp hx
    exact fun z => by cases z
theorem depth_ints : ∀ ns : List Int, PyData.depthAll (ns.map .int) = 0
  | [] => rfl
  | n :: ns => by
    have := depth_ints ns
    simp [PyData.depthAll, PyData.depth, this]
theorem foldmax_spec : ∀ (ns : List Int) (n : Int), (ns.foldl max n = n ∨ ns.foldl max n ∈ ns) ∧ n ≤ ns.foldl max n ∧ ∀ y ∈ ns, y ≤ ns.foldl max n
  | [], n => ⟨.inl rfl, Int.le_refl n, fun _ h => nomatch h⟩
  | m :: ns, n => by
    obtain ⟨h1, h2, h3⟩ := foldmax_spec ns (max n m)
    show (ns.foldl max (max n m) = n ∨ ns.foldl max (max n m) ∈ m :: ns) ∧ _
    refine ⟨?_, by show n ≤ ns.foldl max (max n m); omega, fun y hy => ?_⟩
    · rcases h1 with h | h
      · rcases Int.le_total n m with c | c
        · rw [h, show max n m = m by omega]
          exact .inr List.mem_cons_self
        · rw [h, show max n m = n by omega]
          exact .inl rfl
      · exact .inr (List.mem_cons_of_mem _ h)
    · show y ≤ ns.foldl max (max n m)
      rcases List.mem_cons.mp hy with rfl | hy
      · omega
      · exact h3 y hy
section
variable {X : Cx}
theorem cr_maxT (hc : X.calm = true) (hu : X.A.units + 70 < cLine) : CallR X (.builtin "max") (fun vs H Q => ∃ (a : Addr) (ns : List Int), vs = [V.ref a] ∧ SqT X.K H a (ns.map V.int) ∧ 0 < ns.length ∧ ∀ m, m ∈ ns → (∀ y, y ∈ ns → y ≤ m) → Q (.int m) H) := by
  intro pins s σ H vs us Q I r h
  obtain ⟨a, ns, rfl, hs, hne, q⟩ := h
  obtain ⟨its, rv, hl, _⟩ := I.tuple hs
  rw [Vals.ref1 r]
  cases ns with
  | nil => exact absurd hne (Nat.lt_irrefl 0)
  | cons n ns =>
    refine PySem.W.max_tuple_data (x := .int n) (xs := ns.map .int) (as := []) (I.ok.hd hc) hl (reads_ints rv) (alike_ints (n :: ns)) (by have := depth_ints (n :: ns); rw [List.map_cons] at this; rw [this]; omega) fun i v h' tk bs hv hr hk => ?_
    rw [PySem.W.maxD_ints] at hr
    obtain ⟨h1, h2, h3⟩ := foldmax_spec ns n
    cases hr with
    | int _ t =>
      refine ⟨.int _, H, I.kept hk, ⟨_, rfl⟩, q _ ?_ fun y hy => ?_⟩
      · rcases h1 with h | h
        · rw [h]
          exact List.mem_cons_self
        · exact List.mem_cons_of_mem _ h
      · rcases List.mem_cons.mp hy with rfl | hy
        · exact h2
        · exact h3 y hy
end
end Dk
end
section
set_option Elab.async false
set_option linter.all false
set_option maxRecDepth 100000
set_option maxHeartbeats 4000000
set_option autoImplicit false
namespace Dk
open PySem PySem.Spec PyProof.Rows L2
/-! ## built-in functions -/
inductive VwAll (K : PySem.W.Frag) (G H : Hp) : List V → List PyData → Prop
  | nil : VwAll K G H [] []
  | cons {v : V} {vs : List V} {d : PyData} {ds : List PyData} : Vw K G H v d → VwAll K G H vs ds → VwAll K G H (v :: vs) (d :: ds)
theorem VwAll.one {K : PySem.W.Frag} {G H : Hp} {vs : List V} {d : PyData} (h : VwAll K G H vs [d]) : ∃ v, vs = [v] ∧ Vw K G H v d := by
  cases h with
  | cons a t => cases t; exact ⟨_, rfl, a⟩
theorem VwAll.two {K : PySem.W.Frag} {G H : Hp} {vs : List V} {d e : PyData} (h : VwAll K G H vs [d, e]) : ∃ v u, vs = [v, u] ∧ Vw K G H v d ∧ Vw K G H u e := by
  cases h with
  | cons a t =>
    cases t with
    | cons b t => cases t; exact ⟨_, _, rfl, a, b⟩
def rF (K : PySem.W.Frag) (f : Bf) : List V → Hp → VK → Prop := fun vs H Q => ∃ G ds r, Same G H ∧ VwAll K G H vs ds ∧ opF f ds = some r ∧ Fin K G H r Q
theorem intsOf_inv : ∀ {xs : List PyData} {ns : List Int}, intsOf xs = some ns → xs = ns.map .int
  | [], ns, h => by cases h; rfl
  | .int i :: xs, ns, h => by
    obtain ⟨ms, h1, rfl⟩ := Option.map_eq_some_iff.mp (show (intsOf xs).map (i :: ·) = some ns from h)
    rw [intsOf_inv h1]; rfl
  | .none :: _, _, h => by cases h
  | .bool _ :: _, _, h => by cases h
  | .str _ :: _, _, h => by cases h
  | .list _ :: _, _, h => by cases h
  | .tuple _ :: _, _, h => by cases h
  | .dict _ :: _, _, h => by cases h
theorem blsOf_inv : ∀ {xs : List PyData} {ns : List Bool}, blsOf xs = some ns → xs = ns.map .bool
  | [], ns, h => by cases h; rfl
  | .bool i :: xs, ns, h => by
    obtain ⟨ms, h1, rfl⟩ := Option.map_eq_some_iff.mp (show (blsOf xs).map (i :: ·) = some ns from h)
    rw [blsOf_inv h1]; rfl
  | .none :: _, _, h => by cases h
  | .int _ :: _, _, h => by cases h
  | .str _ :: _, _, h => by cases h
  | .list _ :: _, _, h => by cases h
  | .tuple _ :: _, _, h => by cases h
  | .dict _ :: _, _, h => by cases h
section
variable {X : Cx}
theorem reprOk_inv {x : PyData} (h : reprOk x = true) : x.showable = true ∧ x.hasDict = false ∧ x.depth ≤ 64 ∧ x.shown.length ≤ sizeLine := by
  unfold reprOk at h
  simp only [Bool.and_eq_true, Bool.not_eq_true', decide_eq_true_eq] at h
  exact h
/-- repr of data -/
theorem call_reprD (hr : X.A.units + 70 < cLine) (hg : X.A.guards = some []) : CallR X (.builtin "repr") (fun vs H Q => ∃ v d, vs = [v] ∧ Dp X.K H v d ∧ reprOk d = true ∧ Q (.str d.shown) H) := by
  intro pins s σ H xs us Q I r h
  obtain ⟨v, d, rfl, hd, ok, q⟩ := h
  obtain ⟨u, rfl, ru⟩ := vals1 r
  obtain ⟨h1, h2, h3, h4⟩ := reprOk_inv ok
  obtain ⟨as, rd⟩ := Dp.reads I d v u hd ru
  have fin : ∀ tk u, EP X pins σ Q (.str d.shown u) { s with toks := tk } := fun tk u => ⟨.str d.shown, H, I.tok tk, ⟨u, rfl⟩, q⟩
  cases d with
  | none =>
    cases hd
    cases (show u = Value.none from ru)
    exact PySem.P.repr_of_none (fin _ _)
  | bool b =>
    cases hd
    cases (show u = Value.bool b from ru)
    refine PySem.P.repr_of_bool ?_
    have q := fin (s.toks + 1) s.toks
    cases b <;> exact q
  | int i =>
    cases hd
    obtain ⟨t, rfl⟩ := (show ∃ t, u = Value.int i t from ru)
    exact PySem.P.repr_of_int (of_decide_eq_true (show decide (i.natAbs.log2 < 1920) = true from h1)) (fin _ _)
  | str z =>
    cases hd
    obtain ⟨t, rfl⟩ := (show ∃ t, u = Value.str z t from ru)
    exact PySem.P.repr_of_str (fin _ _) h4
  | list xs =>
    cases hd
    cases (show u = Value.ref _ from ru)
    exact repr_of_reads' rd h1 (PyData.noDict_hsm h2) hg (by omega) (fun _ _ e => e) (fun h' u tk hk => ⟨.str _, H, I.kept (h' := h') (t' := tk) hk, ⟨u, rfl⟩, q⟩) h4
  | tuple xs =>
    cases hd
    cases (show u = Value.ref _ from ru)
    exact repr_of_reads' rd h1 (PyData.noDict_hsm h2) hg (by omega) (fun _ _ e => e) (fun h' u tk hk => ⟨.str _, H, I.kept (h' := h') (t' := tk) hk, ⟨u, rfl⟩, q⟩) h4
  | dict kvs => cases hd
theorem foldMax_spec : ∀ (l : List Int) (a : Int), (l.foldl (fun a b => if b > a then b else a) a = a ∨ l.foldl (fun a b => if b > a then b else a) a ∈ l) ∧ a ≤ l.foldl (fun a b => if b > a then b else a) a ∧ ∀ y ∈ l, y ≤ l.foldl (fun a b => if b > a then b else a) a
  | [], a => ⟨.inl rfl, Int.le_refl _, fun _ h => nomatch h⟩
  | b :: l, a => by
    obtain ⟨h1, h2, h3⟩ := foldMax_spec l (if b > a then b else a)
    rw [List.foldl_cons]
    generalize l.foldl (fun a b => if b > a then b else a) (if b > a then b else a) = r at h1 h2 h3
    by_cases hb : b > a
    · rw [if_pos hb] at h1 h2
      refine ⟨.inr ?_, by omega, fun y hy => ?_⟩
      · rcases h1 with h | h
        · rw [h]; exact List.mem_cons_self
        · exact List.mem_cons_of_mem _ h
      · rcases List.mem_cons.mp hy with rfl | hy
        · exact h2
        · exact h3 y hy
    · rw [if_neg hb] at h1 h2
      refine ⟨?_, h2, fun y hy => ?_⟩
      · rcases h1 with h | h
        · exact .inl h
        · exact .inr (List.mem_cons_of_mem _ h)
      · rcases List.mem_cons.mp hy with rfl | hy
        · omega
        · exact h3 y hy
theorem foldMin_spec : ∀ (l : List Int) (a : Int), (l.foldl (fun a b => if b < a then b else a) a = a ∨ l.foldl (fun a b => if b < a then b else a) a ∈ l) ∧ l.foldl (fun a b => if b < a then b else a) a ≤ a ∧ ∀ y ∈ l, l.foldl (fun a b => if b < a then b else a) a ≤ y
  | [], a => ⟨.inl rfl, Int.le_refl _, fun _ h => nomatch h⟩
  | b :: l, a => by
    obtain ⟨h1, h2, h3⟩ := foldMin_spec l (if b < a then b else a)
    rw [List.foldl_cons]
    generalize l.foldl (fun a b => if b < a then b else a) (if b < a then b else a) = r at h1 h2 h3
    by_cases hb : b < a
    · rw [if_pos hb] at h1 h2
      refine ⟨.inr ?_, by omega, fun y hy => ?_⟩
      · rcases h1 with h | h
        · rw [h]; exact List.mem_cons_self
        · exact List.mem_cons_of_mem _ h
      · rcases List.mem_cons.mp hy with rfl | hy
        · exact h2
        · exact h3 y hy
    · rw [if_neg hb] at h1 h2
      refine ⟨?_, h2, fun y hy => ?_⟩
      · rcases h1 with h | h
        · exact .inl h
        · exact .inr (List.mem_cons_of_mem _ h)
      · rcases List.mem_cons.mp hy with rfl | hy
        · omega
        · exact h3 y hy
theorem maxL_spec {ns : List Int} {r m : Int} (h : maxL ns = some r) (h1 : m ∈ ns) (h2 : ∀ y, y ∈ ns → y ≤ m) : m = r := by
  cases ns with
  | nil => cases h
  | cons x xs =>
    have e : xs.foldl (fun a b => if b > a then b else a) x = r := Option.some.inj h
    obtain ⟨k1, k2, k3⟩ := foldMax_spec xs x
    rw [e] at k1 k2 k3
    have a1 : m ≤ r := by
      rcases List.mem_cons.mp h1 with rfl | z
      · exact k2
      · exact k3 m z
    have a2 : r ≤ m := by
      rcases k1 with z | z
      · rw [z]; exact h2 _ List.mem_cons_self
      · exact h2 _ (List.mem_cons_of_mem _ z)
    omega
theorem minL_spec {ns : List Int} {r m : Int} (h : minL ns = some r) (h1 : m ∈ ns) (h2 : ∀ y, y ∈ ns → m ≤ y) : m = r := by
  cases ns with
  | nil => cases h
  | cons x xs =>
    have e : xs.foldl (fun a b => if b < a then b else a) x = r := Option.some.inj h
    obtain ⟨k1, k2, k3⟩ := foldMin_spec xs x
    rw [e] at k1 k2 k3
    have a1 : r ≤ m := by
      rcases List.mem_cons.mp h1 with rfl | z
      · exact k2
      · exact k3 m z
    have a2 : m ≤ r := by
      rcases k1 with z | z
      · rw [z]; exact h2 _ List.mem_cons_self
      · exact h2 _ (List.mem_cons_of_mem _ z)
    omega
theorem sort_unique {ns ms : List Int} (h1 : ms.Perm ns) (h2 : ms.Pairwise (· ≤ ·)) : ns.mergeSort (fun a b => decide (a ≤ b)) = ms := by
  have p : (ns.mergeSort (fun a b => decide (a ≤ b))).Perm ms := (List.mergeSort_perm _ _).trans h1.symm
  have s : (ns.mergeSort (fun a b => decide (a ≤ b))).Pairwise (fun a b => a ≤ b) :=
    (List.pairwise_mergeSort (le := fun a b => decide (a ≤ b)) (fun a b c h1 h2 => by simp at *; omega) (fun a b => by simp; omega) ns).imp (fun h => of_decide_eq_true h)
  exact p.eq_of_pairwise (fun a b _ _ h1 h2 => by omega) s h2
inductive BfK where
  | b (id : String)
  | t (T : String)
def bfK : Bf → BfK
  | .abs => .b "abs"
  | .max2 => .b "max"
  | .min2 => .b "min"
  | .len => .b "len"
  | .repr => .b "repr"
  | .all => .b "all"
  | .sum => .b "sum"
  | .max1 => .b "max"
  | .min1 => .b "min"
  | .sorted => .b "sorted"
  | .int => .t "int"
  | .tuple => .t "tuple"
  | .list => .t "list"
  | .listM => .t "list"
  | .str => .t "str"
def BfK.val : BfK → Value
  | .b id => .builtin id
  | .t T => .type T
theorem bf_ok (hc : X.calm = true) (hu : X.A.units + 70 < cLine) (hgd : X.A.guards = some []) (f : Bf) (nl : f ≠ .listM) : CallR X (bfK f).val (rF X.K f) := by
  intro pins s σ H vs us Q I r h
  obtain ⟨G, ds, x, sg, va, ho, fin⟩ := h
  unfold opF at ho
  split at ho
  · obtain ⟨v, rfl, hv⟩ := va.one
    cases ho
    exact call_abs pins s σ H _ us Q I r ⟨_, by rw [hv.int], fin.flat (.int _)⟩
  · obtain ⟨v, u, rfl, hv, hw⟩ := va.two
    cases ho
    exact call_max2 hc pins s σ H _ us Q I r ⟨_, _, by rw [hv.int, hw.int], fin.flat (.int _)⟩
  · obtain ⟨v, u, rfl, hv, hw⟩ := va.two
    cases ho
    exact call_min2 hc pins s σ H _ us Q I r ⟨_, _, by rw [hv.int, hw.int], fin.flat (.int _)⟩
  · obtain ⟨v, rfl, hv⟩ := va.one
    cases ho
    obtain ⟨a, ws, rfl, h1, a1⟩ := hv.list sg
    exact call_len pins s σ H _ us Q I r ⟨_, _, rfl, .inl ⟨_, .of h1, rfl⟩, by rw [a1.length]; exact fin.flat (.int _)⟩
  · obtain ⟨v, rfl, hv⟩ := va.one
    cases ho
    obtain ⟨a, ws, rfl, h1, a1⟩ := hv.tuple
    exact call_len pins s σ H _ us Q I r ⟨_, _, rfl, .inr ⟨_, Same.tseq sg h1, rfl⟩, by rw [a1.length]; exact fin.flat (.int _)⟩
  · obtain ⟨v, rfl, hv⟩ := va.one
    split at ho <;> first | (cases ho; done) | skip
    rename_i hz
    cases ho
    exact call_len pins s σ H _ us Q I r ⟨_, _, rfl, by rw [hv.str]; exact ⟨hz, rfl⟩, fin.flat (.int _)⟩
  · obtain ⟨v, rfl, hv⟩ := va.one
    cases ho
    exact call_int1 pins s σ H _ us Q I r (.inl ⟨_, by rw [hv.int], fin.flat (.int _)⟩)
  · obtain ⟨v, rfl, hv⟩ := va.one
    cases ho
    exact call_int1 pins s σ H _ us Q I r (.inr ⟨_, by rw [hv.bool], fin.flat (.int _)⟩)
  · obtain ⟨v, rfl, hv⟩ := va.one
    split at ho <;> first | (cases ho; done) | skip
    rename_i hz
    cases ho
    exact call_reprD hu hgd pins s σ H _ us Q I r ⟨_, _, rfl, hv.dp sg (reprOk_inv hz).2.1, hz, fin.flat (.str _)⟩
  · obtain ⟨v, rfl, hv⟩ := va.one
    obtain ⟨bs, hb, rfl⟩ := Option.map_eq_some_iff.mp ho
    obtain ⟨a, ws, rfl, h1, a1⟩ := hv.list sg
    rw [blsOf_inv hb] at a1
    have e := a1.bls
    subst e
    exact cr_all hc pins s σ H _ us Q I r ⟨a, bs, rfl, .of h1, fin.flat (.bl _)⟩
  · obtain ⟨v, rfl, hv⟩ := va.one
    cases ho
    obtain ⟨a, ws, rfl, h1, a1⟩ := hv.list sg
    exact call_tuple_of pins s σ H _ us Q I r ⟨a, ws, rfl, .inl ⟨.of h1, fin.tuple sg a1⟩⟩
  · obtain ⟨v, rfl, hv⟩ := va.one
    cases ho
    obtain ⟨a, ws, rfl, h1, a1⟩ := hv.tuple
    exact call_tuple_of pins s σ H _ us Q I r ⟨a, ws, rfl, .inr ⟨Same.tseq sg h1, fin.flat (.tup h1 a1)⟩⟩
  · obtain ⟨v, rfl, hv⟩ := va.one
    cases ho
    obtain ⟨a, ws, rfl, h1, a1⟩ := hv.list sg
    exact call_list_of pins s σ H _ us Q I r ⟨a, ws, rfl, .inl (.of h1), fin.list sg a1⟩
  · obtain ⟨v, rfl, hv⟩ := va.one
    cases ho
    obtain ⟨a, ws, rfl, h1, a1⟩ := hv.tuple
    exact call_list_of pins s σ H _ us Q I r ⟨a, ws, rfl, .inr (Same.tseq sg h1), fin.list sg a1⟩
  · obtain ⟨v, rfl, hv⟩ := va.one
    obtain ⟨ns, hb, rfl⟩ := Option.map_eq_some_iff.mp ho
    obtain ⟨a, ws, rfl, h1, a1⟩ := hv.list sg
    rw [intsOf_inv hb] at a1
    have e := a1.ints
    subst e
    exact cr_sum hc pins s σ H _ us Q I r ⟨a, ns, rfl, .of h1, fin.flat (.int _)⟩
  · obtain ⟨v, rfl, hv⟩ := va.one
    obtain ⟨m, hm, rfl⟩ := Option.map_eq_some_iff.mp ho
    obtain ⟨ns, hb, hl⟩ := Option.bind_eq_some_iff.mp hm
    obtain ⟨a, ws, rfl, h1, a1⟩ := hv.list sg
    rw [intsOf_inv hb] at a1
    have e := a1.ints
    subst e
    refine cr_max hc pins s σ H _ us Q I r ⟨a, ns, rfl, .of h1, ?_, fun z k1 k2 => ?_⟩
    · cases ns with
      | nil => cases hl
      | cons _ _ => exact Nat.succ_pos _
    · rw [maxL_spec hl k1 k2]
      exact fin.flat (.int _)
  · obtain ⟨v, rfl, hv⟩ := va.one
    obtain ⟨m, hm, rfl⟩ := Option.map_eq_some_iff.mp ho
    obtain ⟨ns, hb, hl⟩ := Option.bind_eq_some_iff.mp hm
    obtain ⟨a, ws, rfl, h1, a1⟩ := hv.tuple
    rw [intsOf_inv hb] at a1
    have e := a1.ints
    subst e
    refine cr_maxT hc hu pins s σ H _ us Q I r ⟨a, ns, rfl, Same.tseq sg h1, ?_, fun z k1 k2 => ?_⟩
    · cases ns with
      | nil => cases hl
      | cons _ _ => exact Nat.succ_pos _
    · rw [maxL_spec hl k1 k2]
      exact fin.flat (.int _)
  · obtain ⟨v, rfl, hv⟩ := va.one
    obtain ⟨m, hm, rfl⟩ := Option.map_eq_some_iff.mp ho
    obtain ⟨ns, hb, hl⟩ := Option.bind_eq_some_iff.mp hm
    obtain ⟨a, ws, rfl, h1, a1⟩ := hv.list sg
    rw [intsOf_inv hb] at a1
    have e := a1.ints
    subst e
    refine cr_min hc pins s σ H _ us Q I r ⟨a, ns, rfl, .of h1, ?_, fun z k1 k2 => ?_⟩
    · cases ns with
      | nil => cases hl
      | cons _ _ => exact Nat.succ_pos _
    · rw [minL_spec hl k1 k2]
      exact fin.flat (.int _)
  · obtain ⟨v, rfl, hv⟩ := va.one
    obtain ⟨ns, hb, rfl⟩ := Option.map_eq_some_iff.mp ho
    obtain ⟨a, ws, rfl, h1, a1⟩ := hv.list sg
    rw [intsOf_inv hb] at a1
    have e := a1.ints
    subst e
    refine cr_sortedI pins s σ H _ us Q I r ⟨a, ns, rfl, .of h1, fun ms p k1 k2 hp => ?_⟩
    rw [sort_unique k1 k2] at fin
    exact fin.list sg (DtAll.of_ints ms) p hp
  · obtain ⟨v, rfl, hv⟩ := va.one
    split at ho <;> first | (cases ho; done) | skip
    rename_i hz
    cases ho
    exact call_str_int pins s σ H _ us Q I r ⟨_, by rw [hv.int], hz, fin.flat (.str _)⟩
  · cases ho
/-- list(x), the new list kept as the run's own -/
theorem listM_ok : CallR X (.type "list") (fun vs H Q => ∃ G ds xs, Same G H ∧ VwAll X.K G H vs ds ∧ lstOf ds = some xs ∧ ∀ p ws, H p = none → DtAll X.K G ws xs → Q (.ref p) (upd H p (.lst ws))) := by
  intro pins s σ H vs us Q I r h
  obtain ⟨G, ds, x, sg, va, ho, fin⟩ := h
  unfold lstOf at ho
  split at ho
  · obtain ⟨v, rfl, hv⟩ := va.one
    cases ho
    obtain ⟨a, ws, rfl, h1, a1⟩ := hv.list sg
    exact call_list_of pins s σ H _ us Q I r ⟨a, ws, rfl, .inl (.of h1), fun p hp => fin p ws hp a1⟩
  · obtain ⟨v, rfl, hv⟩ := va.one
    cases ho
    obtain ⟨a, ws, rfl, h1, a1⟩ := hv.tuple
    exact call_list_of pins s σ H _ us Q I r ⟨a, ws, rfl, .inr (Same.tseq sg h1), fun p hp => fin p ws hp a1⟩
  · cases ho
end
end Dk
end
section
set_option Elab.async false
set_option linter.all false
set_option maxRecDepth 100000
set_option maxHeartbeats 4000000
set_option autoImplicit false
namespace Dk
open PySem PySem.Spec PyProof.Rows L2
/-! ## inverses -/
theorem R.bind_inv {α β : Type} {r : R α} {f : α → Lo → Src → R β} {b : β} {L' : Lo} {S' : Src} (h : r.bind f = .ok b L' S') : ∃ a L S, r = .ok a L S ∧ f a L S = .ok b L' S' := by
  cases r with
  | st => cases h
  | ok a L S => exact ⟨a, L, S, rfl, h⟩
  | ex e L S => cases h
theorem R.ofO_inv {α : Type} {o : Option α} {b : α} {L L' : Lo} {S S' : Src} (h : R.ofO o L S = .ok b L' S') : o = some b ∧ L = L' ∧ S = S' := by
  cases o with
  | none => cases h
  | some a => cases h; exact ⟨rfl, rfl, rfl⟩
theorem and2 {a b : Bool} (h : (a && b) = true) : a = true ∧ b = true := Bool.and_eq_true_iff.mp h
/-! ## lists of values -/
inductive VRs (K : PySem.W.Frag) (sa : Option (Addr × Addr)) (G : Hp) (ρ : List Addr) : List W → List V → Prop
  | nil : VRs K sa G ρ [] []
  | cons {w : W} {ws : List W} {v : V} {vs : List V} : VR K sa G ρ w v → VRs K sa G ρ ws vs → VRs K sa G ρ (w :: ws) (v :: vs)
section
variable {K : PySem.W.Frag} {sa : Option (Addr × Addr)} {G G' H : Hp} {ρ ρ' : List Addr}
theorem VRs.mono {ws : List W} {vs : List V} (h : VRs K sa G ρ ws vs) (e : Same G G') (p : ρ <+: ρ') : VRs K sa G' ρ' ws vs := by
  induction h with
  | nil => exact .nil
  | cons a _ ih => exact .cons (a.mono e p) ih
theorem VRs.length {ws : List W} {vs : List V} (h : VRs K sa G ρ ws vs) : vs.length = ws.length := by
  induction h with
  | nil => rfl
  | cons _ _ ih => exact congrArg (· + 1) ih
theorem VRs.data {ws : List W} {vs : List V} (h : VRs K sa G ρ ws vs) : ∀ {ds : List PyData}, dsOf ws = some ds → DtAll K G vs ds := by
  induction h with
  | nil => intro ds e; cases e; exact .nil
  | @cons w ws v vs a _ ih =>
    intro ds e
    cases w with
    | d x =>
      obtain ⟨es, h1, rfl⟩ := Option.map_eq_some_iff.mp (show (dsOf ws).map (x :: ·) = some ds from e)
      exact .cons a (ih h1)
    | un => cases e
    | m id => cases e
    | src => cases e
theorem VRs.args {ws : List W} {vs : List V} (h : VRs K sa G ρ ws vs) : argOk ws = true → VRs K sa G [] ws vs := by
  induction h with
  | nil => intro _; exact .nil
  | @cons w ws v vs a _ ih =>
    intro e
    cases w with
    | d x => exact .cons a (ih e)
    | un => cases e
    | m id => cases e
    | src => exact .cons a (ih e)
end
theorem Rel.viewAll {K : PySem.W.Frag} {F : Fr} {G H : Hp} {ρ : List Addr} {σw : List W} {L : Lo} {S : Src} {σ : L2.St} (r : Rel K F G ρ σw L S σ H) {ws : List W} {vs : List V} (h : VRs K F.sa G ρ ws vs) :
    ∀ {ds : List PyData}, Dk.viewAll L ws = some ds → VwAll K G H vs ds := by
  induction h with
  | nil => intro ds e; cases e; exact .nil
  | @cons w ws v vs a _ ih =>
    intro ds e
    obtain ⟨x, h1, h2⟩ := Option.bind_eq_some_iff.mp (show (Dk.view L w).bind (fun x => (Dk.viewAll L ws).map (x :: ·)) = some ds from e)
    obtain ⟨es, h3, rfl⟩ := Option.map_eq_some_iff.mp h2
    exact .cons (r.view a h1) (ih h3)
/-! ## promises of defs by their meaning -/
def spD (K : PySem.W.Frag) (n : Nat) (φ : Fn) : Sp := fun vs H Q E => ∃ (G : Hp) (sa : Option (Addr × Addr)) (ws : List W) (S : Src), Same G H ∧ VRs K sa G [] ws vs ∧ ws.length = n ∧ argOk ws = true ∧
  (∀ a c, sa = some (a, c) → SrcAt H a c S ∧ G a = none ∧ G c = none) ∧ ∃ x L' S', φ ws S = .ok x L' S' ∧
  ∀ (G' : Hp) (v : V) (H' : Hp), Same G G' → Same G' H' → (∀ b o, G' b = some o → G b = some o ∨ H b = none) → (∀ b o, H b = some o → NotS sa b → H' b = some o) →
    (∀ a c, sa = some (a, c) → SrcAt H' a c S') → Dt K G' v x → Q v H'
structure Cal (Δ : Tb) (P : Program) (w : World) (K : PySem.W.Frag) (mg : Str → Option Value) (base : Heap) (k : Nat) (f : Str) : Prop where
  ex : ∃ fa fd ps, FnG P w K mg base CX0 k fa fd ps (spD K ps.length (Δ f)) ∧ mg f = some (.ref fa) ∧ PySem.W.keepIn K (.ref fa) = true ∧ Binds K fd ps [] ∧ ∀ ws S x L' S', Δ f ws S = .ok x L' S' → ws.length = ps.length ∧ argOk ws = true
structure Cst (Δ : Tb) (K : PySem.W.Frag) (mg : Str → Option Value) (f : Str) : Prop where
  ex : ∃ d u v, Δ f = conF d ∧ mg f = some u ∧ L2.RelV v u ∧ ∀ G, Dt K G v d
structure Good (Δ : Tb) (k : Nat) (X : Cx) : Prop where
  calm : X.calm = true
  nd : X.N.Nodup
  kind : X.env.scope.kind = .function
  room : Room k X.A
  gd : X.A.guards = some []
  free : ∀ x ∈ (["abs", "max", "min", "len", "int", "repr", "all", "tuple", "list", "sum", "sorted", "str", "isinstance", "range", "enumerate", "zip", "bool"] : List Str), X.mg x = none
  tab : ∀ f, (∀ ws S x L' S', Δ f ws S ≠ .ok x L' S') ∨ Cal Δ X.prog X.w X.K X.mg X.base k f ∨ (f = "gcd" ∧ X.mg "gcd" = some (.builtin "math.gcd") ∧ Δ f = gcdF) ∨ Cst Δ X.K X.mg f
theorem Good.blk {Δ : Tb} {k : Nat} {X : Cx} (g : Good Δ k X) (s : Shared) (H : Hp) {scope : Scope} (C : Addr) (cl : List (Str × Addr)) (fp : List Addr) (hk : scope.kind = .function) : Good Δ k (X.blk s H scope (compEnvC scope cl C X.env) fp) :=
  ⟨g.calm, g.nd, hk, g.room, g.gd, g.free, g.tab⟩
theorem Good.u {Δ : Tb} {k : Nat} {X : Cx} (g : Good Δ k X) : X.A.units + 70 < cLine := by
  have := g.room.un
  omega
/-! ## the readings by meanings -/
section
variable (K : PySem.W.Frag) (Δ : Tb)
def tE (e : E) : TE := fun σ H Q => ∃ (F : Fr) (G : Hp) (ρ : List Addr) (σw : List W) (L : Lo) (S : Src), Rel K F G ρ σw L S σ H ∧ ∃ w L' S', ev Δ e σw L S = .ok w L' S' ∧
  ∀ (G' : Hp) (ρ' : List Addr) (v : V) (H' : Hp), Rel K F G' ρ' σw L' S' σ H' → ρ <+: ρ' → Same G G' → VR K F.sa G' ρ' w v → Q v H'
def tEs (es : Es) : TA := fun σ H Q => ∃ (F : Fr) (G : Hp) (ρ : List Addr) (σw : List W) (L : Lo) (S : Src), Rel K F G ρ σw L S σ H ∧ ∃ ws L' S', evs Δ es σw L S = .ok ws L' S' ∧
  ∀ (G' : Hp) (ρ' : List Addr) (vs : List V) (H' : Hp), Rel K F G' ρ' σw L' S' σ H' → ρ <+: ρ' → Same G G' → VRs K F.sa G' ρ' ws vs → Q vs H'
def tT (e : T) : TT := fun σ H Q => ∃ (F : Fr) (G : Hp) (ρ : List Addr) (σw : List W) (L : Lo) (S : Src), Rel K F G ρ σw L S σ H ∧ ∃ c L' S', evT Δ e σw L S = .ok c L' S' ∧
  ∀ (G' : Hp) (ρ' : List Addr) (H' : Hp), Rel K F G' ρ' σw L' S' σ H' → ρ <+: ρ' → Same G G' → Q c H'
def tO (e : O) : TO := fun σ H Q => ∃ (F : Fr) (G : Hp) (ρ : List Addr) (σw : List W) (L : Lo) (S : Src), Rel K F G ρ σw L S σ H ∧ ∃ c L' S', evO Δ e σw L S = .ok c L' S' ∧
  ∀ (G' : Hp) (ρ' : List Addr) (H' : Hp), Rel K F G' ρ' σw L' S' σ H' → ρ <+: ρ' → Same G G' → Q c H'
/-- what an iterator yields -/
def ItOk (G : Hp) (xs : List PyData) (J : L2.It) : Prop := ∀ (G2 H2 : Hp), Same G G2 → Same G2 H2 → ∀ i : Nat, (xs.length ≤ i → J.stop i H2) ∧ ∀ d, xs[i]? = some d → J.go i H2 ∧
  ∀ v H3, J.yld i H2 v H3 → (H3 = H2 ∧ Dt K G2 v d) ∨ ∃ p o, H2 p = none ∧ H3 = upd H2 p o ∧ Dt K (upd G2 p o) v d
def tI (e : It) : TI := fun σ H R => ∃ (F : Fr) (G : Hp) (ρ : List Addr) (σw : List W) (L : Lo) (S : Src), Rel K F G ρ σw L S σ H ∧ ∃ xs L' S', evIt Δ e σw L S = .ok xs L' S' ∧
  ∀ (G' : Hp) (ρ' : List Addr) (H' : Hp) (J : L2.It), Rel K F G' ρ' σw L' S' σ H' → ρ <+: ρ' → Same G G' → ItOk K G' xs J → R J H'
def gT (t : Tg) : TG := fun v σ H Q => ∃ (F : Fr) (G : Hp) (ρ : List Addr) (σw : List W) (L : Lo) (S : Src) (x : PyData) (σw' : List W), Rel K F G ρ σw L S σ H ∧ Dt K G v x ∧ bindT t x σw = some σw' ∧
  ∀ σ', Rel K F G ρ σw' L S σ' H → (∀ vs : List Nat, tgIn vs t = true → wipe σ' vs = wipe σ vs) → Q σ' H
def gTs (ts : Tgs) : TGs := fun us σ H Q => ∃ (F : Fr) (G : Hp) (ρ : List Addr) (σw : List W) (L : Lo) (S : Src) (xs : List PyData) (σw' : List W), Rel K F G ρ σw L S σ H ∧ DtAll K G us xs ∧ bindTs ts xs σw = some σw' ∧
  ∀ σ', Rel K F G ρ σw' L S σ' H → (∀ vs : List Nat, tgsIn vs ts = true → wipe σ' vs = wipe σ vs) → Q σ' H
end
end Dk
namespace L2
open PySem PySem.Spec PyProof.Rows
theorem PE.imp {X : Cx} {e : Expr} {t t' : TE} (h : PE X e t) (i : ∀ σ H Q, t' σ H Q → t σ H Q) : PE X e t' := ⟨fun pins s σ H Q I q => h.run pins s σ H Q I (i σ H Q q)⟩
theorem PT.imp {X : Cx} {e : Expr} {t t' : TT} (h : PT X e t) (i : ∀ σ H Q, t' σ H Q → t σ H Q) : PT X e t' := ⟨fun pins s σ H Q I q => h.run pins s σ H Q I (i σ H Q q)⟩
theorem PA.imp {X : Cx} {e : List Expr} {t t' : TA} (h : PA X e t) (i : ∀ σ H Q, t' σ H Q → t σ H Q) : PA X e t' := ⟨fun pos pins s σ H Q I q => h.run pos pins s σ H Q I (i σ H Q q)⟩
theorem PO.imp {X : Cx} {e : Option Expr} {t t' : TO} (h : PO X e t) (i : ∀ σ H Q, t' σ H Q → t σ H Q) : PO X e t' := ⟨fun pins s σ H Q I q => h.run pins s σ H Q I (i σ H Q q)⟩
theorem PI.imp {X : Cx} {g e : Expr} {t t' : TI} (h : PI X g e t) (i : ∀ σ H Q, t' σ H Q → t σ H Q) : PI X g e t' := ⟨fun pins s σ H Q I q => h.run pins s σ H Q I (i σ H Q q)⟩
theorem PG.imp {X : Cx} {e : Expr} {t t' : TG} (h : PG X e t) (i : ∀ v σ H Q, t' v σ H Q → t v σ H Q) : PG X e t' := ⟨fun pins s σ H v u Q I r q => h.run pins s σ H v u Q I r (i v σ H Q q)⟩
theorem PGs.imp {X : Cx} {e : List Expr} {t t' : TGs} (h : PGs X e t) (i : ∀ v σ H Q, t' v σ H Q → t v σ H Q) : PGs X e t' := ⟨fun pins s σ H v u Q I r q => h.run pins s σ H v u Q I r (i v σ H Q q)⟩
end L2
namespace Dk
open PySem PySem.Spec PyProof.Rows L2
/-! ## names -/
theorem visB_ok {sc : Scope} {x : Str} (h : visB sc x = true) : Vis sc x := by
  unfold visB at h
  unfold Vis
  split at h <;> first | (cases h; done) | skip
  all_goals simp_all
theorem glB_ok {X : Cx} {x : Str} (h : glB X.env.scope x = true) : Gl X x := by
  unfold glB at h
  show X.env.scope.names.lookup x = _
  split at h <;> first | assumption | cases h
theorem plainN_ok {x : Str} (h : plainN x = true) : (x == ("__debug__" : Str)) = false ∧ (x == ("__classdict__" : Str)) = false := by
  unfold plainN at h
  simp only [Bool.and_eq_true, Bool.not_eq_true', decide_eq_false_iff_not] at h
  exact ⟨beq_eq_false_iff_ne.mpr h.1, beq_eq_false_iff_ne.mpr h.2⟩
theorem star_of {x : Expr} {xs : List Expr} {env : Env} (h : ∀ y p, x ≠ .Starred y p) : starEach (x :: xs) env = (false, eval x env) :: starEach xs env := by
  cases x <;> first | rfl | exact absurd rfl (h _ _)
/-! ## targets -/
theorem wipe_set {x : Option V} : ∀ {vs : List Nat} {i : Nat} {σ : L2.St}, i ∈ vs → wipe (σ.set i x) vs = wipe σ vs := by
  have comm : ∀ (vs : List Nat) (i : Nat) (σ : L2.St), (wipe (σ.set i x) vs).set i none = (wipe σ vs).set i none := by
    intro vs
    induction vs with
    | nil => intro i σ; simp [wipe]
    | cons v vs ih =>
      intro i σ
      show ((wipe (σ.set i x) vs).set v none).set i none = ((wipe σ vs).set v none).set i none
      by_cases hv : v = i
      · subst hv
        rw [List.set_set, List.set_set, ih v σ]
      · rw [List.set_comm _ _ hv, ih i σ, List.set_comm _ _ hv]
  intro vs
  induction vs with
  | nil => intro i σ h; cases h
  | cons v vs ih =>
    intro i σ h
    show (wipe (σ.set i x) vs).set v none = (wipe σ vs).set v none
    rcases List.mem_cons.mp h with rfl | h
    · exact comm vs i σ
    · rw [ih h]
theorem bindTs_len {N : List Str} {fn : Str → Bool} {sc : Scope} : ∀ (ts : Tgs) (es : List Expr) (xs : List PyData) (σ σ' : List W), chkTgs N fn sc ts es = true → bindTs ts xs σ = some σ' → xs.length = es.length := by
  intro ts
  induction ts using Tgs.rec (motive_1 := fun _ => True) with
  | nm => trivial
  | tp => trivial
  | nil =>
    intro es xs σ σ' h b
    cases es with
    | nil => cases xs with
      | nil => rfl
      | cons _ _ => simp [bindTs] at b
    | cons _ _ => simp [chkTgs] at h
  | cons t ts _ ih =>
    intro es xs σ σ' h b
    cases es with
    | nil => simp [chkTgs] at h
    | cons y ys => cases xs with
      | nil => simp [bindTs] at b
      | cons z zs =>
        have h' : (chkTg N fn sc t y && chkTgs N fn sc ts ys) = true := h
        have b' : (bindT t z σ).bind (fun σ' => bindTs ts zs σ') = some σ' := b
        obtain ⟨s2, _, b2⟩ := Option.bind_eq_some_iff.mp b'
        exact congrArg (· + 1) (ih ys zs s2 σ' (and2 h').2 b2)
mutual
theorem sndTg {Δ : Tb} {k : Nat} : ∀ (t : Tg) {X : Cx} (g : Good Δ k X) {fn : Str → Bool} (hf : ∀ x, fn x = true → X.fn x = true) (x : Expr), chkTg X.N fn X.env.scope t x = true → PG X x (gT X.K t)
  | .nm i, X, g, fn, hf, x, h => by
    unfold chkTg at h
    cases e : asName x with
    | none => rw [e] at h; cases h
    | some p =>
      obtain ⟨n, p⟩ := p
      rw [e] at h
      obtain ⟨h1, h2⟩ := and2 h
      rw [asName_eq e]
      have hl : Loc X.env.scope n ∧ (X.fn n = true ∨ X.env.scope.names.lookup n = some .local) := by
        split at h2
        · exact ⟨.inl (by assumption), .inr (by assumption)⟩
        · exact ⟨.inr (by assumption), .inl (hf _ h2)⟩
        · cases h2
      refine (pg_name g.nd (of_decide_eq_true h1) hl.1 hl.2).imp fun v σ H Q q => ?_
      obtain ⟨F, G, ρ, σw, L, S, x, σw', r, hd, hb, fin⟩ := q
      cases hb
      exact fin _ (r.put i hd) fun vs hvs => wipe_set (of_decide_eq_true hvs)
  | .tp ts, X, g, fn, hf, x, h => by
    unfold chkTg at h
    cases e : asTuple x with
    | none => rw [e] at h; cases h
    | some p =>
      obtain ⟨es, kk, p⟩ := p
      rw [e] at h
      rw [asTuple_eq e]
      obtain ⟨h1, h2, h3⟩ := sndTgs ts g hf es h
      refine PG.imp (t := fun v σ H Q => gTup X.K (assignEach es X.env).length (gTs X.K ts) v σ H Q ∨ gUnl X.K (assignEach es X.env).length (gTs X.K ts) v σ H Q) ⟨fun pins s σ H v u Q I r q => ?_⟩ fun v σ H Q q => ?_
      · rcases q with q | q
        · exact (pg_tup g.calm h1 rfl h3).run pins s σ H v u Q I r q
        · exact (pg_unl g.calm h1 rfl h3).run pins s σ H v u Q I r q
      rw [h2]
      obtain ⟨F, G, ρ, σw, L, S, x, σw', r, hd, hb, fin⟩ := q
      cases x with
      | list xs =>
        obtain ⟨a, vs, e1, k1, k2⟩ := (Vw.list (H := H) r.gh (.inl hd))
        refine .inr ⟨a, vs, e1, .of k1, ?_, F, G, ρ, σw, L, S, xs, σw', r, k2, hb, fun σ' r' w' => fin σ' r' fun us hu => w' us hu⟩
        rw [k2.length]
        exact bindTs_len ts es xs σw σw' h hb
      | tuple xs =>
        left
        obtain ⟨a, vs, e1, k1, k2⟩ := (Vw.tuple (H := H) (.inl hd))
        refine ⟨a, vs, e1, Same.tseq r.gh k1, ?_, F, G, ρ, σw, L, S, xs, σw', r, k2, hb, fun σ' r' w' => fin σ' r' fun us hu => w' us hu⟩
        rw [k2.length]
        exact bindTs_len ts es xs σw σw' h hb
      | none => cases hb
      | bool _ => cases hb
      | int _ => cases hb
      | str _ => cases hb
      | dict _ => cases hb
theorem sndTgs {Δ : Tb} {k : Nat} : ∀ (ts : Tgs) {X : Cx} (g : Good Δ k X) {fn : Str → Bool} (hf : ∀ x, fn x = true → X.fn x = true) (es : List Expr), chkTgs X.N fn X.env.scope ts es = true →
    PGs X es (gTs X.K ts) ∧ (assignEach es X.env).length = es.length ∧ (assignEach es X.env).findIdx? (·.1) = none
  | .nil, X, g, fn, hf, es, h => by
    cases es with
    | cons _ _ => simp [chkTgs] at h
    | nil =>
      refine ⟨pgs_nil.imp fun v σ H Q q => ?_, rfl, rfl⟩
      obtain ⟨F, G, ρ, σw, L, S, xs, σw', r, hd, hb, fin⟩ := q
      cases hd with
      | nil =>
        cases hb
        exact ⟨rfl, fin σ r fun vs _ => rfl⟩
      | cons _ _ => simp [bindTs] at hb
  | .cons t ts, X, g, fn, hf, es, h => by
    cases es with
    | nil => simp [chkTgs] at h
    | cons y ys =>
      have h' : (chkTg X.N fn X.env.scope t y && chkTgs X.N fn X.env.scope ts ys) = true := h
      obtain ⟨h1, h2⟩ := and2 h'
      have p1 := sndTg t g hf y h1
      obtain ⟨p2, p3, p4⟩ := sndTgs ts g hf ys h2
      have ns : ∀ z p, y ≠ .Starred z p := fun z p e => by
        subst e
        cases t <;> simp [chkTg, asName, asTuple] at h1
      have ea : assignEach (y :: ys) X.env = (false, assign y X.env) :: assignEach ys X.env := by
        cases y <;> first | rfl | exact absurd rfl (ns _ _)
      refine ⟨(pgs_cons p1 p2 (by rw [ea]; rfl)).imp fun v σ H Q q => ?_, by rw [ea, List.length_cons, p3]; rfl, ?_⟩
      · obtain ⟨F, G, ρ, σw, L, S, xs, σw', r, hd, hb, fin⟩ := q
        cases hd with
        | nil => simp [bindTs] at hb
        | @cons v vs x xs q1 q2 =>
          have hb' : (bindT t x σw).bind (fun σ' => bindTs ts xs σ') = some σw' := hb
          obtain ⟨s2, b1, b2⟩ := Option.bind_eq_some_iff.mp hb'
          refine ⟨v, vs, rfl, F, G, ρ, σw, L, S, x, s2, r, q1, b1, fun σ2 r2 w2 => ?_⟩
          refine ⟨F, G, ρ, s2, L, S, xs, σw', r2, q2, b2, fun σ3 r3 w3 => fin σ3 r3 fun us hu => ?_⟩
          obtain ⟨u1, u2⟩ := and2 (show (tgIn us t && tgsIn us ts) = true from hu)
          exact (w3 us u2).trans (w2 us u1)
      · rw [ea, List.findIdx?_cons, p4]
        rfl
end
end Dk
end
section
set_option Elab.async false
set_option linter.all false
set_option maxRecDepth 100000
set_option maxHeartbeats 4000000
set_option autoImplicit false
namespace Dk
open PySem PySem.Spec PyProof.Rows L2
theorem marks {op : CmpOp} {x : Expr} (h : noSet x = true) : behindInMarks op x = false := by
  cases x <;> first | rfl | cases h
theorem marks2 {op op' : CmpOp} {x y : Expr} (h : noSet y = true) : lastMarks [op, op'] [x, y] = false := by
  cases y <;> first | rfl | cases h
/-- no checked expression is a starred one -/
theorem noStarE {N : List Str} {e : E} {sc : Scope} {x : Expr} (h : chkE N e sc x = true) : ∀ y p, x ≠ .Starred y p := by
  intro y p q
  subst q
  cases e <;> simp [chkE, asName, asConst, asUn, asBin, asCmp, asBool, asIf, asTuple, asList, asCall, asMeth, asSub, asLc, subKey] at h
theorem fin_data {K : PySem.W.Frag} {F : Fr} {G H : Hp} {ρ : List Addr} {σw : List W} {L : Lo} {S : Src} {σ : L2.St} {d : PyData} {Q : VK} (r : Rel K F G ρ σw L S σ H) {ρ0 : List Addr} {G0 : Hp} (p : ρ0 <+: ρ) (s : Same G0 G)
    (fin : ∀ (G' : Hp) (ρ' : List Addr) (v : V) (H' : Hp), Rel K F G' ρ' σw L S σ H' → ρ0 <+: ρ' → Same G0 G' → VR K F.sa G' ρ' (.d d) v → Q v H') : Fin K G H d Q :=
  ⟨fun v h => fin G ρ v H r p s h, fun v D o hn h => fin _ ρ v _ (r.data hn).1 p (s.trans (r.data (o := o) hn).2) h⟩
theorem spliced_any {xs : List Expr} {env : Env} {pos : Pos} : ∀ {xs : List Expr}, (∀ x ∈ xs, ∀ y p, x ≠ Expr.Starred y p) → (backTo pos (starEach xs env)).any (·.1) = false := by
  intro xs
  induction xs with
  | nil => intro _; rfl
  | cons x xs ih =>
    intro h
    rw [star_of (h x List.mem_cons_self)]
    have := ih fun y hy => h y (List.mem_cons_of_mem _ hy)
    show (false || (backTo pos (starEach xs env)).any (·.1)) = false
    rw [this]
    rfl
theorem noStarEs {N : List Str} {sc : Scope} : ∀ {es : Es} {xs : List Expr}, chkEs N es sc xs = true → ∀ x ∈ xs, ∀ y p, x ≠ Expr.Starred y p
  | .nil, xs, h, x, hx => by
    cases xs with
    | nil => cases hx
    | cons _ _ => simp [chkEs] at h
  | .cons e es, xs, h, x, hx => by
    cases xs with
    | nil => cases hx
    | cons z zs =>
      obtain ⟨h1, h2⟩ := and2 (show (chkE N e sc z && chkEs N es sc zs) = true from h)
      rcases List.mem_cons.mp hx with rfl | hx
      · exact noStarE h1
      · exact noStarEs h2 x hx
/-- Rel at the entry of a call, and behind it -/
theorem call_fin {Δ : Tb} {K : PySem.W.Frag} {F : Fr} {G H : Hp} {ρ : List Addr} {σw : List W} {L : Lo} {S : Src} {σ : L2.St} {n : Nat} {φ : Fn} {ws : List W} {vs : List V} {x : PyData} {L' : Lo} {S' : Src} {Q : VK} {E : XK}
    (r : Rel K F G ρ σw L S σ H) (hv : VRs K F.sa G ρ ws vs) (ha : argOk ws = true) (hn : ws.length = n) (hx : φ ws S = .ok x L' S')
    (fin : ∀ (G' : Hp) (v : V) (H' : Hp), Rel K F G' ρ σw L S' σ H' → Same G G' → Dt K G' v x → Q v H') : spD K n φ vs H Q E := by
  refine ⟨G, F.sa, ws, S, r.gh, hv.args ha, hn, ha, fun a c e => ?_, x, L', S', hx, fun G' v H' s1 s2 gn keep src d => fin G' v H' ?_ s1 d⟩
  · obtain ⟨h1, h2, h3, _⟩ := r.src a c e
    exact ⟨h1, h2, h3⟩
  · have nots : ∀ a ∈ ρ, NotS F.sa a := fun a ha b c e => by
      obtain ⟨_, _, _, h4, h5⟩ := r.src b c e
      exact ⟨fun z => h4 (z ▸ ha), fun z => h5 (z ▸ ha)⟩
    refine ⟨s2, r.sl, fun i w e hw => ?_, r.rl, r.nd, fun j a e => ?_, r.pre, fun a c e => ?_, fun b o e hs hr => keep b o (r.fram b o e hs hr) hs, r.g0.trans s1, fun b o e => ?_⟩
    · obtain ⟨u, h1, h2⟩ := r.slot i w e hw
      exact ⟨u, h1, h2.mono s1 (List.prefix_refl _)⟩
    · obtain ⟨h1, h2, h3⟩ := r.loc j a e
      have hm := List.mem_of_getElem? e
      refine ⟨h1, ?_, fun o eo => ?_⟩
      · cases q : H a with
        | none => exact absurd q h2
        | some o =>
          rw [keep a o q (nots a hm)]
          exact fun z => by cases z
      · obtain ⟨h4, h5⟩ := h3 o eo
        refine ⟨?_, ?_⟩
        · cases q : G' a with
          | none => rfl
          | some u =>
            rcases gn a u q with z | z
            · rw [h4] at z; cases z
            · exact absurd z h2
        · refine h5.mono s1 ?_
          cases q : H a with
          | none => exact absurd q h2
          | some o => exact keep a o q (nots a hm)
    · obtain ⟨h1, h2, h3, h4, h5⟩ := r.src a c e
      refine ⟨src a c e, ?_, ?_, h4, h5⟩
      · cases q : G' a with
        | none => rfl
        | some u =>
          rcases gn a u q with z | z
          · rw [h2] at z; cases z
          · rw [h1.dic] at z; cases z
      · cases q : G' c with
        | none => rfl
        | some u =>
          rcases gn c u q with z | z
          · rw [h3] at z; cases z
          · rw [h1.cel] at z; cases z
    · rcases gn b o e with z | z
      · exact r.gn b o z
      · exact .inr (r.h0none z)
theorem isTrue_of {x : Expr} (h : (match x with
    | .BoolOp .. => false
    | .UnaryOp .. => false
    | .IfExp .. => false
    | .Compare .. => false
    | _ => true) = true) {env : Env} : ∀ whole, isTrue x env whole = (do
      let v ← whole
      standAt x.pos
      holding [v] (truthy v)) := by
  intro whole
  cases x <;> first | rfl | cases h
/-- isinstance -/
def tyOf : PyData → String
  | .none => "NoneType"
  | .bool _ => "bool"
  | .int _ => "int"
  | .str _ => "str"
  | .list _ => "list"
  | .tuple _ => "tuple"
  | .dict _ => "dict"
def Ty.nm : Ty → String
  | .int => "int"
  | .bool => "bool"
  | .str => "str"
  | .tuple => "tuple"
  | .list => "list"
theorem kit_all (d : PyData) (t : Ty) : kitB (tyOf d) t.nm = some (isTy t d) := by
  cases d <;> cases t <;> (simp only [tyOf, Ty.nm, isTy]; decide +kernel)
theorem tyX_of {K : PySem.W.Frag} {G H : Hp} {v : V} {d : PyData} (sg : Same G H) (h : Vw K G H v d) : TyX K H v (.type (tyOf d)) := by
  cases d with
  | none => rw [h.none]; exact .base .non
  | bool b => rw [h.bool]; exact .base (.bl b)
  | int i => rw [h.int]; exact .base (.int i)
  | str x => rw [h.str]; exact .base (.str x)
  | list xs =>
    obtain ⟨a, vs, rfl, h1, _⟩ := h.list sg
    exact .base (.lst h1)
  | tuple xs =>
    obtain ⟨a, vs, rfl, h1, _⟩ := h.tuple
    rcases Same.tseq sg h1 with (h2 | ⟨o, h2⟩) | ⟨o, its, n, h2, h3, _⟩
    · exact .base (.tup h2)
    · exact .fTuple h2
    · exact .kTuple h2 h3
  | dict kvs =>
    rcases h with h | ⟨a, vs, xs, e1, e2, h1, h2⟩
    · cases h with
      | dct h _ => exact .base (.dK (sg _ _ h))
    · cases e2
theorem boot_ty (t : Ty) : bootBuiltins (tyName t) = some (.type t.nm) := by cases t <;> decide +kernel
theorem boot_bf (f : Bf) : bootBuiltins (bfName f) = some (bfK f).val := by cases f <;> decide +kernel
theorem free_bf {Δ : Tb} {k : Nat} {X : Cx} (g : Good Δ k X) (f : Bf) : X.mg (bfName f) = none := by
  cases f <;> exact g.free _ (by decide)
theorem name_bf (f : Bf) : bfName f ≠ "__name__" ∧ (bfName f == ("__debug__" : Str)) = false := by cases f <;> exact ⟨by decide, by decide⟩
/-- a checked argument list is called with no star -/
theorem calls_of {N : List Str} {sc : Scope} {es : Es} {y : Expr} {ys : List Expr} {env : Env} {pos : Pos} (h : chkEs N es sc (y :: ys) = true) :
    starEach (y :: ys) env = (false, eval y env) :: starEach ys env ∧ (backTo pos (starEach ys env)).any (·.1) = false := by
  have ns := noStarEs h
  exact ⟨star_of (ns y List.mem_cons_self), spliced_any (xs := []) fun x hx => ns x (List.mem_cons_of_mem _ hx)⟩
/-! ## built-in functions by meaning -/
theorem pe_bfD {Δ : Tb} {k : Nat} {X : Cx} (g : Good Δ k X) {f : Bf} {es : Es} {y : Expr} {ys : List Expr} {p q : Pos} {r : List V → Hp → VK → Prop} (hg : glB X.env.scope (bfName f) = true) (hc : chkEs X.N es X.env.scope (y :: ys) = true)
    (pa : PA X (y :: ys) (tEs X.K Δ es)) (cr : CallR X (bfK f).val r) : PE X (.Call (.Name (bfName f) p) (y :: ys) [] q) (tCB r (tEs X.K Δ es)) := by
  obtain ⟨c1, c2⟩ := calls_of (env := X.env) (pos := q) hc
  have b := boot_bf f
  have m := free_bf g f
  obtain ⟨n1, n2⟩ := name_bf f
  cases hk : bfK f with
  | b id =>
    rw [hk] at cr b
    exact pe_callB cr (glB_ok hg) m b pa n1 n2 c1 c2
  | t T =>
    rw [hk] at cr b
    exact pe_callTy cr (glB_ok hg) m b pa n1 n2 c1 c2
end Dk
end
section
set_option Elab.async false
set_option linter.all false
set_option maxRecDepth 100000
set_option maxHeartbeats 4000000
set_option autoImplicit false
namespace L2
open PySem PySem.Spec PyProof.Rows
theorem PTs.imp {X : Cx} {e : List Expr} {t t' : TT} (h : PTs X e t) (i : ∀ σ H Q, t' σ H Q → t σ H Q) : PTs X e t' := ⟨fun pins s σ H Q I q => h.run pins s σ H Q I (i σ H Q q)⟩
theorem PW.imp {X : Cx} {e : Expr} {t t' : TT} (h : PW X e t) (i : ∀ σ H Q, t' σ H Q → t σ H Q) : PW X e t' := ⟨fun whole pins s σ H Q I q => h.run whole pins s σ H Q I (i σ H Q q)⟩
end L2
namespace Dk
open PySem PySem.Spec PyProof.Rows L2
section
variable {K : PySem.W.Frag} {Δ : Tb}
theorem t1 {a : E} {σ : L2.St} {H : Hp} {q : VK} {F : Fr} {G : Hp} {ρ : List Addr} {σw : List W} {L : Lo} {S : Src} (r : Rel K F G ρ σw L S σ H) {x : W} {L1 : Lo} {S1 : Src} (ha : ev Δ a σw L S = .ok x L1 S1)
    (fin : ∀ (G' : Hp) (ρ' : List Addr) (v : V) (H' : Hp), Rel K F G' ρ' σw L1 S1 σ H' → ρ <+: ρ' → Same G G' → VR K F.sa G' ρ' x v → q v H') : tE K Δ a σ H q := ⟨F, G, ρ, σw, L, S, r, x, L1, S1, ha, fin⟩
theorem t2 {a b : E} {σ : L2.St} {H : Hp} {q : V → V → Hp → Prop} {F : Fr} {G : Hp} {ρ : List Addr} {σw : List W} {L : Lo} {S : Src} (r : Rel K F G ρ σw L S σ H) {x y : W} {L1 L2' : Lo} {S1 S2 : Src} (ha : ev Δ a σw L S = .ok x L1 S1) (hb : ev Δ b σw L1 S1 = .ok y L2' S2)
    (fin : ∀ (G' : Hp) (ρ' : List Addr) (v u : V) (H' : Hp), Rel K F G' ρ' σw L2' S2 σ H' → ρ <+: ρ' → Same G G' → VR K F.sa G' ρ' x v → VR K F.sa G' ρ' y u → q v u H') : tE K Δ a σ H fun v H1 => tE K Δ b σ H1 fun u H2 => q v u H2 :=
  t1 r ha fun _ _ v _ r1 p1 s1 hv => t1 r1 hb fun G2 ρ2 u H2 r2 p2 s2 hu => fin G2 ρ2 v u H2 r2 (p1.trans p2) (s1.trans s2) (hv.mono s2 p2) hu
theorem tes {a : Es} {σ : L2.St} {H : Hp} {q : List V → Hp → Prop} {F : Fr} {G : Hp} {ρ : List Addr} {σw : List W} {L : Lo} {S : Src} (r : Rel K F G ρ σw L S σ H) {ws : List W} {L1 : Lo} {S1 : Src} (ha : evs Δ a σw L S = .ok ws L1 S1)
    (fin : ∀ (G' : Hp) (ρ' : List Addr) (vs : List V) (H' : Hp), Rel K F G' ρ' σw L1 S1 σ H' → ρ <+: ρ' → Same G G' → VRs K F.sa G' ρ' ws vs → q vs H') : tEs K Δ a σ H q := ⟨F, G, ρ, σw, L, S, r, ws, L1, S1, ha, fin⟩
theorem tts {a : T} {σ : L2.St} {H : Hp} {q : Bool → Hp → Prop} {F : Fr} {G : Hp} {ρ : List Addr} {σw : List W} {L : Lo} {S : Src} (r : Rel K F G ρ σw L S σ H) {c : Bool} {L1 : Lo} {S1 : Src} (ha : evT Δ a σw L S = .ok c L1 S1)
    (fin : ∀ (G' : Hp) (ρ' : List Addr) (H' : Hp), Rel K F G' ρ' σw L1 S1 σ H' → ρ <+: ρ' → Same G G' → q c H') : tT K Δ a σ H q := ⟨F, G, ρ, σw, L, S, r, c, L1, S1, ha, fin⟩
/-- what is taken up from an outcome R.ofO -/
theorem vv {L : Lo} {x y : W} {α : Type} {f : PyData → PyData → Option α} {z : α} (h : ((view L x).bind fun x => (view L y).bind fun y => f x y) = some z) : ∃ d e, view L x = some d ∧ view L y = some e ∧ f d e = some z := by
  obtain ⟨d, h1, h2⟩ := Option.bind_eq_some_iff.mp h
  obtain ⟨e, h3, h4⟩ := Option.bind_eq_some_iff.mp h2
  exact ⟨d, e, h1, h3, h4⟩
variable {k : Nat} {X : Cx} {p q : Pos} {x y z : Expr}
section
variable {K : PySem.W.Frag} {F : Fr} {G G' H H' : Hp} {ρ ρ' : List Addr} {σw σw' : List W} {L L' : Lo} {S S' : Src} {σ σ' : L2.St}
/-- a list that the run made and did not know of becomes its own | data -/
theorem Rel.mine2 (r : Rel K F G ρ σw L S σ H) {D : Addr} {u : HO} {o : Ob} (h0 : F.H0 D = none) (hg : G D = none) (hr : D ∉ ρ) (hs : NotS F.sa D) (hH : H D = some u) (ho : ObR K G H D o) :
    Rel K F G (ρ ++ [D]) σw (L ++ [some o]) S σ H ∧ ρ <+: ρ ++ [D] := by
  have ne : ∀ {j : Nat} {a : Addr}, ρ[j]? = some a → a ≠ D := fun h e => hr (e ▸ List.mem_of_getElem? h)
  have pp : ρ <+: ρ ++ [D] := List.prefix_append _ _
  refine ⟨⟨r.gh, r.sl, fun i w e hw => ?_, by simp [r.rl], ?_, fun j a e => ?_, r.pre.trans pp, fun a c e => ?_, r.fram, r.g0, r.gn⟩, pp⟩
  · obtain ⟨v, h1, h2⟩ := r.slot i w e hw
    exact ⟨v, h1, h2.mono (Same.refl _) pp⟩
  · rw [List.nodup_append]
    refine ⟨r.nd, by simp, fun a ha b hb => ?_⟩
    have : b = D := by simpa using hb
    subst this
    exact fun z => hr (z ▸ ha)
  · by_cases hj : j < ρ.length
    · rw [List.getElem?_append_left hj] at e
      obtain ⟨h1, h2, h3⟩ := r.loc j a e
      refine ⟨h1, h2, fun ob eo => ?_⟩
      rw [List.getElem?_append_left (by rw [← r.rl]; exact hj)] at eo
      exact h3 ob eo
    · have hj' := Nat.not_lt.mp hj
      rw [List.getElem?_append_right hj'] at e
      have e0 : j - ρ.length = 0 ∧ D = a := by
        cases hq : j - ρ.length with
        | zero => rw [hq] at e; exact ⟨rfl, by simpa using e⟩
        | succ n => rw [hq] at e; simp at e
      obtain ⟨e1, rfl⟩ := e0
      have ej : j = ρ.length := by omega
      refine ⟨fun _ => h0, by rw [hH]; exact (fun z => by cases z), fun ob eo => ?_⟩
      rw [ej, r.rl, List.getElem?_append_right (Nat.le_refl _)] at eo
      have : o = ob := by simpa using eo
      subst this
      exact ⟨hg, ho⟩
  · obtain ⟨h1, h2, h3, h4, h5⟩ := r.src a c e
    obtain ⟨n1, n2⟩ := hs a c e
    exact ⟨h1, h2, h3, by simp [h4, n1.symm], by simp [h5, n2.symm]⟩
theorem Rel.data2 (r : Rel K F G ρ σw L S σ H) {D : Addr} {u : HO} (h0 : F.H0 D = none) (hg : G D = none) (hr : D ∉ ρ) (hs : NotS F.sa D) (hH : H D = some u) :
    Rel K F (upd G D u) ρ σw L S σ H ∧ Same G (upd G D u) := by
  have ne : ∀ {j : Nat} {a : Addr}, ρ[j]? = some a → a ≠ D := fun h e => hr (e ▸ List.mem_of_getElem? h)
  have sg : Same G (upd G D u) := same_new hg
  refine ⟨⟨fun b u e => ?_, r.sl, fun i w e hw => ?_, r.rl, r.nd, fun j a e => ?_, r.pre, fun a c e => ?_, r.fram, r.g0.trans sg, fun b u e => ?_⟩, sg⟩
  · by_cases hb : b = D
    · subst hb; rw [upd_same] at e; rw [hH]; exact e
    · rw [upd_ne hb] at e; exact r.gh _ _ e
  · obtain ⟨v, h1, h2⟩ := r.slot i w e hw
    exact ⟨v, h1, h2.mono sg (List.prefix_refl _)⟩
  · obtain ⟨h1, h2, h3⟩ := r.loc j a e
    refine ⟨h1, h2, fun ob eo => ?_⟩
    obtain ⟨h4, h5⟩ := h3 ob eo
    exact ⟨by rw [upd_ne (ne e)]; exact h4, h5.mono sg rfl⟩
  · obtain ⟨h1, h2, h3, h4, h5⟩ := r.src a c e
    obtain ⟨n1, n2⟩ := hs a c e
    exact ⟨h1, by rw [upd_ne n1.symm]; exact h2, by rw [upd_ne n2.symm]; exact h3, h4, h5⟩
  · by_cases hb : b = D
    · subst hb; exact .inr h0
    · rw [upd_ne hb] at e; exact r.gn b u e
/-- the slots of before -/
theorem Rel.slots {σ2 : L2.St} {H2 : Hp} {L2' : Lo} {S2 : Src} (r' : Rel K F G' ρ' σw' L' S' σ' H') (r : Rel K F G ρ σw L2' S2 σ2 H2) (s : Same G G') (p : ρ <+: ρ') : Rel K F G' ρ' σw L' S' σ2 H' :=
  ⟨r'.gh, r.sl, fun i w e hw => by
    obtain ⟨v, h1, h2⟩ := r.slot i w e hw
    exact ⟨v, h1, h2.mono s p⟩, r'.rl, r'.nd, r'.loc, r'.pre, r'.src, r'.fram, r'.g0, r'.gn⟩
end
theorem wipe_length : ∀ {vs : List Nat} {σ : L2.St}, (wipe σ vs).length = σ.length
  | [], _ => rfl
  | v :: vs, σ => by
    show ((wipe σ vs).set v none).length = _
    rw [List.length_set, wipe_length]
theorem wipeW_length : ∀ {vs : List Nat} {σ : List W}, (wipeW σ vs).length = σ.length
  | [], _ => rfl
  | v :: vs, σ => by
    show ((wipeW σ vs).set v .un).length = _
    rw [List.length_set, wipeW_length]
theorem wipe_get {σ : L2.St} {σw : List W} : ∀ {vs : List Nat} {i : Nat} {w : W}, (wipeW σw vs)[i]? = some w → w ≠ .un → σw[i]? = some w ∧ ∀ v, σ[i]? = some (some v) → (wipe σ vs)[i]? = some (some v)
  | [], i, w, h, _ => ⟨h, fun _ h => h⟩
  | j :: vs, i, w, h, hw => by
    have h' : ((wipeW σw vs).set j .un)[i]? = some w := h
    have ne : i ≠ j := by
      rintro rfl
      have hl := (List.getElem?_eq_some_iff.mp h').1
      rw [List.getElem?_set_self (by simpa using hl)] at h'
      exact hw (Option.some.inj h').symm
    rw [List.getElem?_set_ne ne.symm] at h'
    obtain ⟨a, b⟩ := wipe_get (σ := σ) h' hw
    exact ⟨a, fun v hv => by
      show ((wipe σ vs).set j none)[i]? = _
      rw [List.getElem?_set_ne ne.symm]
      exact b v hv⟩
theorem Rel.wipe {F : Fr} {G H : Hp} {ρ : List Addr} {σw : List W} {L : Lo} {S : Src} {σ : L2.St} (r : Rel K F G ρ σw L S σ H) (vs : List Nat) : Rel K F G ρ (wipeW σw vs) L S (L2.wipe σ vs) H :=
  r.forget (by rw [wipe_length, wipeW_length, r.sl]) fun _ _ h hw => wipe_get h hw
/-! ## names, operators -/
theorem e_var (g : Good Δ k X) {i : Nat} {n : Str} (h1 : X.N[i]? = some n) (h2 : visB X.env.scope n = true) (h3 : plainN n = true) : PE X (.Name n p) (tE X.K Δ (.var i)) := by
  refine (pe_var h1 (visB_ok h2) (plainN_ok h3).1 (plainN_ok h3).2).imp fun σ H Q ⟨F, G, ρ, σw, L, S, r, w, L', S', e, fin⟩ => ?_
  have h : σw[i]? = some w ∧ w ≠ .un ∧ L = L' ∧ S = S' := by
    unfold ev at e
    split at e
    · cases e
    · rename_i hu hs
      cases e
      exact ⟨hs, fun z => hu z, rfl, rfl⟩
    · cases e
  obtain ⟨h1, h2, rfl, rfl⟩ := h
  obtain ⟨v, h3, h4⟩ := r.slot i w h1 h2
  exact ⟨v, h3, fin G ρ v H r (List.prefix_refl _) (Same.refl _) h4⟩
theorem e_const {e : E} {d : PyData} {v : V} (he : ∀ σ L S, ev Δ e σ L S = .ok (.d d) L S) (hd : ∀ K G, Dt K G v d) (h : PE X x (tC v)) : PE X x (tE X.K Δ e) := by
  refine h.imp fun σ H Q ⟨F, G, ρ, σw, L, S, r, w, L', S', e, fin⟩ => ?_
  rw [he] at e
  cases e
  exact fin G ρ v H r (List.prefix_refl _) (Same.refl _) (hd _ _)
theorem VR.int {sa : Option (Addr × Addr)} {G : Hp} {ρ : List Addr} {v : V} {i : Int} (h : VR K sa G ρ (.d (.int i)) v) : v = .int i := by cases (show Dt K G v (.int i) from h); rfl
theorem VR.bool {sa : Option (Addr × Addr)} {G : Hp} {ρ : List Addr} {v : V} {i : Bool} (h : VR K sa G ρ (.d (.bool i)) v) : v = .bl i := by cases (show Dt K G v (.bool i) from h); rfl
theorem e_neg {a : E} (h : PE X y (tE X.K Δ a)) : PE X (.UnaryOp .USub y p) (tE X.K Δ (.neg a)) := by
  refine (pe_un un_neg h).imp fun σ H Q ⟨F, G, ρ, σw, L, S, r, w, L', S', e, fin⟩ => ?_
  obtain ⟨x, L1, S1, h1, h2⟩ := R.bind_inv (show (ev Δ a σw L S).bind _ = _ from e)
  refine t1 r h1 fun G' ρ' v H' r' p' s' hv => ?_
  split at h2
  · cases h2
    exact ⟨_, hv.int, fin _ _ _ _ r' p' s' (Dt.int _)⟩
  · cases h2
theorem e_notv {a : E} (h : PE X y (tE X.K Δ a)) : PE X (.UnaryOp .Not y p) (tE X.K Δ (.notv a)) := by
  refine (pe_not h).imp fun σ H Q ⟨F, G, ρ, σw, L, S, r, w, L', S', e, fin⟩ => ?_
  obtain ⟨x, L1, S1, h1, h2⟩ := R.bind_inv (show (ev Δ a σw L S).bind _ = _ from e)
  refine t1 r h1 fun G' ρ' v H' r' p' s' hv => ?_
  split at h2
  · cases h2
    exact ⟨_, hv.bool, fin _ _ _ _ r' p' s' (.bl _)⟩
  · cases h2
theorem e_bop {o : Bop} {op : Operator} {a b : E} (ho : opIs o op = true) (ha : PE X y (tE X.K Δ a)) (hb : PE X z (tE X.K Δ b)) : PE X (.BinOp y op z p) (tE X.K Δ (.bop o a b)) := by
  refine (pe_op (op_ok ho) ha hb).imp fun σ H Q ⟨F, G, ρ, σw, L, S, r, w, L', S', e, fin⟩ => ?_
  obtain ⟨x, L1, S1, h1, h2⟩ := R.bind_inv (show (ev Δ a σw L S).bind _ = _ from e)
  obtain ⟨y, L2, S2, h3, h4⟩ := R.bind_inv h2
  obtain ⟨h5, rfl, rfl⟩ := R.ofO_inv h4
  obtain ⟨c, h6, rfl⟩ := Option.map_eq_some_iff.mp h5
  obtain ⟨d, e, h7, h8, h9⟩ := vv h6
  exact t2 r h1 h3 fun G' ρ' v u H' r' p' s' hv hu => ⟨G', d, e, c, r'.gh, r'.view hv h7, r'.view hu h8, h9, fin_data r' p' s' fin⟩
theorem e_addM {a b : E} (ha : PE X y (tE X.K Δ a)) (hb : PE X z (tE X.K Δ b)) : PE X (.BinOp y .Add z p) (tE X.K Δ (.addM a b)) := by
  refine (pe_op addM_ok ha hb).imp fun σ H Q ⟨F, G, ρ, σw, L, S, r, w, L', S', e, fin⟩ => ?_
  obtain ⟨x, L1, S1, h1, h2⟩ := R.bind_inv (show (ev Δ a σw L S).bind _ = _ from e)
  obtain ⟨y, L2, S2, h3, h4⟩ := R.bind_inv h2
  refine t2 r h1 h3 fun G' ρ' v u H' r' p' s' hv hu => ?_
  split at h4
  · rename_i xs ys h5 h6
    split at h4
    · rename_i hz
      cases h4
      refine ⟨G', xs, ys, r'.gh, r'.view hv h5, r'.view hu h6, hz, fun D us hD hd => ?_⟩
      obtain ⟨r2, p2⟩ := r'.mine (u := .lst us) (o := .lst (xs ++ ys)) hD fun H2 e2 => ⟨us, e2, hd⟩
      refine fin _ _ _ _ r2 (p'.trans p2) s' ⟨D, ?_, rfl⟩
      rw [← r'.rl, List.getElem?_append_right (Nat.le_refl _)]
      simp
    · cases h4
  · cases h4
theorem e_cmp (g : Good Δ k X) {o : Cop} {op : CmpOp} {a b : E} (ho : coIs o op = true) (hs : noSet z = true) (ha : PE X y (tE X.K Δ a)) (hb : PE X z (tE X.K Δ b)) : PE X (.Compare y [op] [z] p) (tE X.K Δ (.cmp o a b)) := by
  refine (pe_cmpR (co_ok (by have := g.u; omega) ho) ha hb (marks hs)).imp fun σ H Q ⟨F, G, ρ, σw, L, S, r, w, L', S', e, fin⟩ => ?_
  obtain ⟨x, L1, S1, h1, h2⟩ := R.bind_inv (show (ev Δ a σw L S).bind _ = _ from e)
  obtain ⟨y, L2, S2, h3, h4⟩ := R.bind_inv h2
  obtain ⟨h5, rfl, rfl⟩ := R.ofO_inv h4
  obtain ⟨c, h6, rfl⟩ := Option.map_eq_some_iff.mp h5
  obtain ⟨d, e, h7, h8, h9⟩ := vv h6
  exact t2 r h1 h3 fun G' ρ' v u H' r' p' s' hv hu => ⟨G', d, e, c, r'.gh, r'.view hv h7, r'.view hu h8, h9, fin _ _ _ _ r' p' s' (.bl _)⟩
theorem tt_cmp (g : Good Δ k X) {o : Cop} {op : CmpOp} {a b : E} (ho : coIs o op = true) (hs : noSet z = true) (ha : PE X y (tE X.K Δ a)) (hb : PE X z (tE X.K Δ b)) : PT X (.Compare y [op] [z] p) (tT X.K Δ (.cmp o a b)) := by
  refine (pt_cmpR (co_ok (by have := g.u; omega) ho) ha hb (marks hs)).imp fun σ H Q ⟨F, G, ρ, σw, L, S, r, w, L', S', e, fin⟩ => ?_
  obtain ⟨x, L1, S1, h1, h2⟩ := R.bind_inv (show (ev Δ a σw L S).bind _ = _ from e)
  obtain ⟨y, L2, S2, h3, h4⟩ := R.bind_inv h2
  obtain ⟨h6, rfl, rfl⟩ := R.ofO_inv h4
  obtain ⟨d, e, h7, h8, h9⟩ := vv h6
  exact t2 r h1 h3 fun G' ρ' v u H' r' p' s' hv hu => ⟨G', d, e, w, r'.gh, r'.view hv h7, r'.view hu h8, h9, w, rfl, fin _ _ _ r' p' s'⟩
theorem e_chain (g : Good Δ k X) {u : Expr} {o o' : Cop} {op op' : CmpOp} {a b c : E} (ho : coIs o op = true) (ho' : coIs o' op' = true) (hs : noSet z = true) (hs2 : noSet u = true) (ha : PE X y (tE X.K Δ a)) (hb : PE X z (tE X.K Δ b)) (hc : PE X u (tE X.K Δ c)) :
    PE X (.Compare y [op, op'] [z, u] p) (tE X.K Δ (.chain o o' a b c)) := by
  have hu : X.A.units + 65 < cLine := by have := g.u; omega
  refine (pe_chain (co_ok hu ho) (co_ok hu ho') ha hb hc (marks2 hs2)).imp fun σ H Q ⟨F, G, ρ, σw, L, S, r, w, L', S', e, fin⟩ => ?_
  obtain ⟨x, L1, S1, h1, h2⟩ := R.bind_inv (show (ev Δ a σw L S).bind _ = _ from e)
  obtain ⟨y, L2, S2, h3, h4⟩ := R.bind_inv h2
  obtain ⟨k, L3, S3, h5, h6⟩ := R.bind_inv h4
  obtain ⟨h7, rfl, rfl⟩ := R.ofO_inv h5
  obtain ⟨d, e, h8, h9, h10⟩ := vv h7
  refine t2 r h1 h3 fun G' ρ' v u H' r' p' s' hv hu => ⟨G', d, e, k, r'.gh, r'.view hv h8, r'.view hu h9, h10, k, rfl, ?_⟩
  cases k with
  | false =>
    simp only [Bool.false_eq_true, if_false] at h6 ⊢
    cases h6
    exact fin _ _ _ _ r' p' s' (.bl _)
  | true =>
    simp only [if_true] at h6 ⊢
    obtain ⟨z, L4, S4, k1, k2⟩ := R.bind_inv h6
    obtain ⟨k3, rfl, rfl⟩ := R.ofO_inv k2
    obtain ⟨c, k4, rfl⟩ := Option.map_eq_some_iff.mp k3
    obtain ⟨d, e, k5, k6, k7⟩ := vv k4
    exact t1 r' k1 fun G2 ρ2 w H2 r2 p2 s2 hw => ⟨G2, d, e, c, r2.gh, r2.view (hu.mono s2 p2) k5, r2.view hw k6, k7, fin _ _ _ _ r2 (p'.trans p2) (s'.trans s2) (.bl _)⟩
theorem tt_chain (g : Good Δ k X) {u : Expr} {o o' : Cop} {op op' : CmpOp} {a b c : E} (ho : coIs o op = true) (ho' : coIs o' op' = true) (hs : noSet z = true) (hs2 : noSet u = true) (ha : PE X y (tE X.K Δ a)) (hb : PE X z (tE X.K Δ b)) (hc : PE X u (tE X.K Δ c)) :
    PT X (.Compare y [op, op'] [z, u] p) (tT X.K Δ (.chain o o' a b c)) := by
  have hu : X.A.units + 65 < cLine := by have := g.u; omega
  refine (pt_chain (co_ok hu ho) (co_ok hu ho') ha hb hc (marks2 hs2)).imp fun σ H Q ⟨F, G, ρ, σw, L, S, r, w, L', S', e, fin⟩ => ?_
  obtain ⟨x, L1, S1, h1, h2⟩ := R.bind_inv (show (ev Δ a σw L S).bind _ = _ from e)
  obtain ⟨y, L2, S2, h3, h4⟩ := R.bind_inv h2
  obtain ⟨k, L3, S3, h5, h6⟩ := R.bind_inv h4
  obtain ⟨h7, rfl, rfl⟩ := R.ofO_inv h5
  obtain ⟨d, e, h8, h9, h10⟩ := vv h7
  refine t2 r h1 h3 fun G' ρ' v u H' r' p' s' hv hu => ⟨G', d, e, k, r'.gh, r'.view hv h8, r'.view hu h9, h10, k, rfl, ?_⟩
  cases k with
  | false =>
    simp only [Bool.false_eq_true, if_false] at h6 ⊢
    cases h6
    exact ⟨_, rfl, fin _ _ _ r' p' s'⟩
  | true =>
    simp only [if_true] at h6 ⊢
    obtain ⟨z, L4, S4, k1, k2⟩ := R.bind_inv h6
    obtain ⟨k4, rfl, rfl⟩ := R.ofO_inv k2
    obtain ⟨d, e, k5, k6, k7⟩ := vv k4
    exact t1 r' k1 fun G2 ρ2 u2 H2 r2 p2 s2 hw => ⟨G2, d, e, w, r2.gh, r2.view (hu.mono s2 p2) k5, r2.view hw k6, k7, w, rfl, fin _ _ _ r2 (p'.trans p2) (s'.trans s2)⟩
theorem e_and {a b : E} {rest : List Expr} (ha : PE X y (tE X.K Δ a)) (hb : PE X (.BoolOp .And (z :: rest) p) (tE X.K Δ b)) : PE X (.BoolOp .And (y :: z :: rest) p) (tE X.K Δ (.and a b)) := by
  refine (pe_and ha hb).imp fun σ H Q ⟨F, G, ρ, σw, L, S, r, w, L', S', e, fin⟩ => ?_
  obtain ⟨x, L1, S1, h1, h2⟩ := R.bind_inv (show (ev Δ a σw L S).bind _ = _ from e)
  refine t1 r h1 fun G' ρ' v H' r' p' s' hv => ?_
  split at h2
  · refine ⟨_, hv.bool, ?_⟩
    split at h2
    · rename_i hc
      rw [if_pos hc]
      exact t1 r' h2 fun G2 ρ2 u H2 r2 p2 s2 hu => fin _ _ _ _ r2 (p'.trans p2) (s'.trans s2) hu
    · rename_i hc
      cases h2
      rw [if_neg hc]
      exact fin _ _ _ _ r' p' s' (.bl _)
  · cases h2
theorem e_or {a b : E} {rest : List Expr} (ha : PE X y (tE X.K Δ a)) (hb : PE X (.BoolOp .Or (z :: rest) p) (tE X.K Δ b)) : PE X (.BoolOp .Or (y :: z :: rest) p) (tE X.K Δ (.or a b)) := by
  refine (pe_or ha hb).imp fun σ H Q ⟨F, G, ρ, σw, L, S, r, w, L', S', e, fin⟩ => ?_
  obtain ⟨x, L1, S1, h1, h2⟩ := R.bind_inv (show (ev Δ a σw L S).bind _ = _ from e)
  refine t1 r h1 fun G' ρ' v H' r' p' s' hv => ?_
  split at h2
  · refine ⟨_, hv.bool, ?_⟩
    split at h2
    · rename_i hc
      cases h2
      rw [if_pos hc]
      exact fin _ _ _ _ r' p' s' (.bl _)
    · rename_i hc
      rw [if_neg hc]
      exact t1 r' h2 fun G2 ρ2 u H2 r2 p2 s2 hu => fin _ _ _ _ r2 (p'.trans p2) (s'.trans s2) hu
  · cases h2
theorem e_ife {c : T} {a b : E} {u : Expr} (hc : PT X y (tT X.K Δ c)) (ha : PE X z (tE X.K Δ a)) (hb : PE X u (tE X.K Δ b)) : PE X (.IfExp y z u p) (tE X.K Δ (.ife c a b)) := by
  refine (pe_ifExp hc ha hb).imp fun σ H Q ⟨F, G, ρ, σw, L, S, r, w, L', S', e, fin⟩ => ?_
  obtain ⟨k, L1, S1, h1, h2⟩ := R.bind_inv (show (evT Δ c σw L S).bind _ = _ from e)
  refine tts r h1 fun G' ρ' H' r' p' s' => ?_
  cases k with
  | true =>
    simp only [if_true] at h2 ⊢
    exact t1 r' h2 fun G2 ρ2 u H2 r2 p2 s2 hu => fin _ _ _ _ r2 (p'.trans p2) (s'.trans s2) hu
  | false =>
    simp only [Bool.false_eq_true, if_false] at h2 ⊢
    exact t1 r' h2 fun G2 ρ2 u H2 r2 p2 s2 hu => fin _ _ _ _ r2 (p'.trans p2) (s'.trans s2) hu
/-! ## displays -/
theorem e_tup {es : Es} {ys : List Expr} {j : Nat} (h : PA X ys (tEs X.K Δ es)) : PE X (.Tuple ys j p) (tE X.K Δ (.tup es)) := by
  refine (pe_tup h).imp fun σ H Q ⟨F, G, ρ, σw, L, S, r, w, L', S', e, fin⟩ => ?_
  obtain ⟨ws, L1, S1, h1, h2⟩ := R.bind_inv (show (evs Δ es σw L S).bind _ = _ from e)
  obtain ⟨h3, rfl, rfl⟩ := R.ofO_inv h2
  obtain ⟨ds, h4, h5⟩ := Option.bind_eq_some_iff.mp h3
  split at h5
  · rename_i hz
    cases h5
    refine tes r h1 fun G' ρ' vs H' r' p' s' hv => ?_
    have hd := hv.data h4
    exact ⟨by rw [hd.length]; exact hz, (fin_data r' p' s' fin).tuple r'.gh hd⟩
  · cases h5
theorem e_lst {mu : Bool} {es : Es} {ys : List Expr} (h : PA X ys (tEs X.K Δ es)) : PE X (.List ys p) (tE X.K Δ (.lst mu es)) := by
  refine (pe_lst h).imp fun σ H Q ⟨F, G, ρ, σw, L, S, r, w, L', S', e, fin⟩ => ?_
  obtain ⟨ws, L1, S1, h1, h2⟩ := R.bind_inv (show (evs Δ es σw L S).bind _ = _ from e)
  refine tes r h1 fun G' ρ' vs H' r' p' s' hv => ?_
  split at h2
  · rename_i ds h4
    have hd := hv.data h4
    split at h2
    · rename_i hz
      refine ⟨by rw [hd.length]; exact hz, ?_⟩
      cases mu with
      | true =>
        simp only [if_true] at h2
        cases h2
        intro D hD
        obtain ⟨r2, p2⟩ := r'.mine (u := .lst vs) (o := .lst ds) hD fun H2 e2 => ⟨vs, e2, hd⟩
        refine fin _ _ _ _ r2 (p'.trans p2) s' ⟨D, ?_, rfl⟩
        rw [← r'.rl, List.getElem?_append_right (Nat.le_refl _)]
        simp
      | false =>
        simp only [Bool.false_eq_true, if_false] at h2
        cases h2
        exact (fin_data r' p' s' fin).list r'.gh hd
    · cases h2
  · cases h2
end
end Dk
end
section
set_option Elab.async false
set_option linter.all false
set_option maxRecDepth 100000
set_option maxHeartbeats 4000000
set_option autoImplicit false
namespace Dk
open PySem PySem.Spec PyProof.Rows L2
section
variable {prog : Program} {w : World} {A : Around} {E : Value → Shared → Prop} {s : Shared}
theorem adjust_back (n : Nat) : Builtin.Slice.sliceAdjust none none (-1) (n : Int) = ((n : Int) - 1, -1) := by
  unfold Builtin.Slice.sliceAdjust
  simp
theorem places_back (n : Nat) : Builtin.Slice.slicePlaces ((n : Int) - 1) (-1) (-1) = n := by
  unfold Builtin.Slice.slicePlaces
  simp
  omega
theorem fm_map {α β : Type} {f : α → Option β} {g : α → β} : ∀ {l : List α}, (∀ a ∈ l, f a = some (g a)) → l.filterMap f = l.map g
  | [], _ => rfl
  | a :: l, h => by
    rw [List.filterMap_cons_some (h a List.mem_cons_self), fm_map fun b hb => h b (List.mem_cons_of_mem _ hb), List.map_cons]
theorem pick_back (xs : Array Value) : ((List.range xs.size).filterMap fun (m : Nat) => xs[(((xs.size : Int) - 1) + (m : Int) * (-1)).toNat]?) = xs.toList.reverse := by
  have e : ∀ m ∈ List.range xs.size, xs[(((xs.size : Int) - 1) + (m : Int) * (-1)).toNat]? = some (xs.toList.reverse.getD m .none) := by
    intro m hm
    have hm := List.mem_range.mp hm
    have e1 : (((xs.size : Int) - 1) + (m : Int) * (-1)).toNat = xs.size - 1 - m := by omega
    rw [e1, List.getD_eq_getElem?_getD, List.getElem?_reverse (by rw [Array.length_toList]; exact hm), Array.length_toList, Array.getElem?_toList, Array.getElem?_eq_getElem (by omega)]
    rfl
  rw [fm_map e]
  refine List.ext_getElem? fun j => ?_
  by_cases hj : j < xs.size
  · rw [List.getElem?_map, List.getElem?_range hj]
    have hl : j < xs.toList.reverse.length := by rw [List.length_reverse, Array.length_toList]; exact hj
    rw [List.getElem?_eq_getElem hl]
    show some (xs.toList.reverse.getD j .none) = _
    rw [List.getD_eq_getElem?_getD, List.getElem?_eq_getElem hl]
    rfl
  · rw [List.getElem?_eq_none (by rw [List.length_map, List.length_range]; omega), List.getElem?_eq_none (by rw [List.length_reverse, Array.length_toList]; omega)]
theorem tuple_back {t sl : Addr} {xs : Array Value} {vl vu vs : Value} {Q : Value → Shared → Prop} (ht : IsTup s.heap t xs) (hs : s.heap.IsSliceOf sl vl vu vs) (pl : IsPart vl none) (pu : IsPart vu none) (ps : IsPart vs (some (-1))) (hz : xs.size ≤ sizeLine)
    (h : Q (.ref s.heap.objs.size) { s with heap := s.heap.push { cls := .type "tuple", data := .seq xs.toList.reverse.toArray } }) : wpAny (model prog w) A (getItem (.ref t) (.ref sl)) Q E s := by
  cases pl
  cases pu
  cases ps with
  | int _ tk =>
  obtain ⟨os, h1, h2, h3⟩ := id hs
  have isSl : s.TypeIs (.ref sl) "slice" := ⟨os, h1, h2⟩
  have small : sizeOk (.seq xs.toList.reverse.toArray) := by
    show xs.toList.reverse.toArray.size ≤ sizeLine
    rw [List.size_toArray, List.length_reverse, Array.length_toList]
    exact hz
  unfold getItem
  refine wpAny_holding ?_
  refine wpAny_bind (wpAny_sequenceKey ht.typeIs (by decide) ?_)
  refine wpAny_bind (wpAny_callSpecial?_slot (name := Str.ofString "__getitem__") ht.typeIs slot_tuple_getitem (wpAny_call_entry slot_tuple_getitem ht.typeIs entry_tuple_getitem ?_ (args_tuple_getitem _ _)))
  show wpAny _ _ (Builtin.Tuple.tupleItemsOf (.ref t) >>= _) _ _ s
  refine wpAny_bind (tupleItemsOf_ ht ?_)
  refine wpAny_bind (wpAny_typeOf isSl ?_)
  rw [if_pos (by decide)]
  refine wpAny_bind ?_
  unfold Builtin.Slice.sliceApplied Builtin.Slice.sliceFields
  refine wpAny_bind (wpAny_bind (wpAny_field h1 h3 (x := .none) rfl (wpAny_bind (wpAny_field h1 h3 (x := .none) rfl (wpAny_bind (wpAny_field h1 h3 (x := .int (-1) tk) rfl (wpAny_pure ?_)))))))
  refine wpAny_bind (HT.slicePart_ (.int (-1) tk) ?_)
  show wpAny _ _ (if ((-1 : Int) == 0) = true then _ else _) _ _ s
  rw [if_neg (by decide)]
  refine wpAny_bind (HT.slicePart_ .none (wpAny_bind (HT.slicePart_ .none (wpAny_bind (wpAny_pure ?_)))))
  show wpAny _ _ (match Builtin.Slice.sliceAdjust none none (-1) (xs.size : Int) with | (lo, hi) => pure (lo, (-1 : Int), Builtin.Slice.slicePlaces lo hi (-1))) _ _ s
  rw [adjust_back]
  show wpAny _ _ (pure ((xs.size : Int) - 1, (-1 : Int), Builtin.Slice.slicePlaces ((xs.size : Int) - 1) (-1) (-1))) _ _ s
  rw [places_back]
  refine wpAny_pure ?_
  show wpAny _ _ (if (((xs.size : Int) - 1) == 0 && (-1 : Int) == 1 && xs.size == xs.size) = true then _ else _) _ _ s
  rw [if_neg (by simp), pick_back]
  first
    | exact wpAny_bind (m := Builtin.Tuple.tupleExact _) (wpAny_newObj_type (wpAny_pure ⟨_, rfl, wpAny_pure h⟩) small)
    | exact wpAny_bind (m := Builtin.Tuple.tupleExact _) (wpAny_newObj_type (wpAny_bind (wpAny_pure (wpAny_pure ⟨_, rfl, wpAny_pure h⟩))) small)
    | exact wpAny_bind (wpAny_bind (m := Builtin.Tuple.tupleExact _) (wpAny_newObj_type (wpAny_pure (wpAny_pure ⟨_, rfl, wpAny_pure h⟩)) small))
    | exact wpAny_bind (wpAny_bind (m := Builtin.Tuple.tupleExact _) (wpAny_newObj_type (wpAny_pure ⟨_, rfl, wpAny_pure h⟩) small))
end
section
variable {Δ : Tb} {k : Nat} {X : Cx} {p q : Pos} {x y z : Expr}
/-! ## calls -/
theorem call_inv {f : Str} {es : Es} {σw : List W} {L L' : Lo} {S S' : Src} {w : W} (h : ev Δ (.call f es) σw L S = .ok w L' S') :
    ∃ ws L1 S1 x Lx, evs Δ es σw L S = .ok ws L1 S1 ∧ argOk ws = true ∧ Δ f ws S1 = .ok x Lx S' ∧ w = .d x ∧ L' = L1 := by
  obtain ⟨ws, L1, S1, h1, h2⟩ := R.bind_inv (show (evs Δ es σw L S).bind _ = _ from h)
  refine ⟨ws, L1, S1, ?_⟩
  split at h2
  · rename_i ha
    split at h2
    · rename_i x Lx Sx he
      cases h2
      exact ⟨x, Lx, h1, ha, he, rfl, rfl⟩
    · cases h2
    · cases h2
  · cases h2
theorem e_call (g : Good Δ k X) {f : Str} {es : Es} {ys : List Expr} (hg : glB X.env.scope f = true) (hn : plainN f = true) (hc : chkEs X.N es X.env.scope ys = true) (pa : PA X ys (tEs X.K Δ es)) : PE X (.Call (.Name f p) ys [] q) (tE X.K Δ (.call f es)) := by
  rcases g.tab f with never | ⟨fa, fd, ps, FG, hm, hk, hb, hl0⟩ | ⟨rfl, hm, hΔ⟩ | ⟨d0, u0, v0, hΔ, _⟩
  · refine ⟨fun pins s σ H Q I ⟨F, G, ρ, σw, L, S, r, w, L', S', e, fin⟩ => ?_⟩
    obtain ⟨ws, L1, S1, x, Lx, h1, h2, h3, _⟩ := call_inv e
    exact absurd h3 (never _ _ _ _ _)
  · have hl := fun ws S x L' S' h => (hl0 ws S x L' S' h).1
    refine ⟨fun pins s σ H Q I h => ?_⟩
    have px : Passes CX0 X (fun _ _ _ => False) := fun _ _ _ _ _ _ _ h => False.elim h
    obtain ⟨F, G, ρ, σw, L, S, r, w, L', S', e, fin⟩ := h
    obtain ⟨ws, L1, S1, x, Lx, h1, h2, h3, rfl, rfl⟩ := call_inv e
    refine wpAny_Call_Name_kw (ld_glob I (glB_ok hg) hm ?_ (plainN_ok hn).1)
    have go : tEs X.K Δ es σ H (fun vs H1 => spD X.K ps.length (Δ f) vs H1 Q (fun _ _ _ => False)) :=
      tes r h1 fun G' ρ' vs H' r' p' s' hv => call_fin (Δ := Δ) r' hv h2 (hl _ _ _ _ _ h3) h3 fun G2 v H2 r2 s2 d => fin _ _ _ _ r2 p' (s'.trans s2) d
    cases ys with
    | nil =>
      refine PySem.W.callWith_K0 I.kIn hk ?_
      cases es with
      | cons _ _ => simp [chkEs] at hc
      | nil =>
        cases h1
        exact runG (us := []) FG g.room g.gd hb px I .nil (call_fin (Δ := Δ) r .nil h2 (hl _ _ _ _ _ h3) h3 fun G2 v H2 r2 s2 d => fin _ _ _ _ r2 (List.prefix_refl _) s2 d)
    | cons e es' =>
      obtain ⟨c1, c2⟩ := calls_of (env := X.env) (pos := q) hc
      refine PySem.W.callWith_K (h₀ := X.base) I.ok.mod.kin hk (thn (pa.run q pins s σ H _ I go) fun us s1 ⟨vs, H1, I1, rv, q1⟩ => ⟨I1.kIn, ?_⟩) c1 c2
      exact runG FG g.room g.gd hb px I1 rv q1
  · cases ys with
    | nil =>
      refine ⟨fun pins s σ H Q I ⟨F, G, ρ, σw, L, S, r, w, L', S', e, fin⟩ => ?_⟩
      obtain ⟨ws, L1, S1, x, Lx, h1, h2, h3, _⟩ := call_inv e
      cases es with
      | cons _ _ => simp [chkEs] at hc
      | nil =>
        cases h1
        rw [hΔ] at h3
        cases h3
    | cons e es' =>
      obtain ⟨c1, c2⟩ := calls_of (env := X.env) (pos := q) hc
      refine (pe_callBfun cr_gcd (glB_ok hg) hm pa (by decide) c1 c2).imp fun σ H Q ⟨F, G, ρ, σw, L, S, r, w, L', S', e, fin⟩ => ?_
      obtain ⟨ws, L1, S1, x, Lx, h1, h2, h3, rfl, rfl⟩ := call_inv e
      rw [hΔ] at h3
      unfold gcdF at h3
      split at h3
      · cases h3
        refine tes r h1 fun G' ρ' vs H' r' p' s' hv => ?_
        cases hv with
        | cons v1 t =>
          cases t with
          | cons v2 t =>
            cases t
            exact ⟨_, _, by rw [v1.int, v2.int], fin _ _ _ _ r' p' s' (Dt.int _)⟩
      · cases h3
  · refine ⟨fun pins s σ H Q I ⟨F, G, ρ, σw, L, S, r, w, L', S', e, fin⟩ => ?_⟩
    obtain ⟨ws, L1, S1, x, Lx, h1, h2, h3, _⟩ := call_inv e
    rw [hΔ] at h3
    unfold conF at h3
    split at h3
    · cases h2
    · cases h3
theorem e_glo (g : Good Δ k X) {f : Str} (hg : glB X.env.scope f = true) (hn : plainN f = true) : PE X (.Name f p) (tE X.K Δ (.glo f)) := by
  refine ⟨fun pins s σ H Q I ⟨F, G, ρ, σw, L, S, r, w, L', S', e, fin⟩ => ?_⟩
  have e : (match Δ f [.un] S with
    | .ok d _ _ => R.ok (W.d d) L S
    | _ => .st) = .ok w L' S' := e
  rcases g.tab f with never | ⟨fa, fd, ps, FG, hm, hk, hb, hl⟩ | ⟨rfl, hm, hΔ⟩ | ⟨d0, u0, v0, hΔ, hm, rv, hd⟩
  · split at e
    · rename_i h
      exact absurd h (never _ _ _ _ _)
    · cases e
  · split at e
    · rename_i h
      cases (hl _ _ _ _ _ h).2
    · cases e
  · rw [hΔ] at e
    cases e
  · rw [hΔ] at e
    cases e
    exact ld_glob I (glB_ok hg) hm ⟨v0, H, I, rv, fin _ _ _ _ r (List.prefix_refl _) (Same.refl _) (hd G)⟩ (plainN_ok hn).1
theorem ev_bf {f : Bf} (h : f ≠ .listM) {es : Es} {σw : List W} {L : Lo} {S : Src} : ev Δ (.bf f es) σw L S = (evs Δ es σw L S).bind fun ws L S => R.ofO (((viewAll L ws).bind (opF f)).map .d) L S := by
  cases f <;> first | rfl | exact absurd rfl h
theorem e_bf (g : Good Δ k X) {f : Bf} {es : Es} {ys : List Expr} (hg : glB X.env.scope (bfName f) = true) (hc : chkEs X.N es X.env.scope (y :: ys) = true) (pa : PA X (y :: ys) (tEs X.K Δ es)) :
    PE X (.Call (.Name (bfName f) p) (y :: ys) [] q) (tE X.K Δ (.bf f es)) := by
  by_cases hf : f = .listM
  · subst hf
    refine (pe_bfD g hg hc pa listM_ok).imp fun σ H Q ⟨F, G, ρ, σw, L, S, r, w, L', S', e, fin⟩ => ?_
    obtain ⟨ws, L1, S1, h1, h2⟩ := R.bind_inv (show (evs Δ es σw L S).bind _ = _ from e)
    refine tes r h1 fun G' ρ' vs H' r' p' s' hv => ?_
    split at h2
    · rename_i xs h3
      cases h2
      obtain ⟨ds, h4, h5⟩ := Option.bind_eq_some_iff.mp h3
      refine ⟨G', ds, xs, r'.gh, r'.viewAll hv h4, h5, fun D us hD hd => ?_⟩
      obtain ⟨r2, p2⟩ := r'.mine (u := .lst us) (o := .lst xs) hD fun H2 e2 => ⟨us, e2, hd⟩
      refine fin _ _ _ _ r2 (p'.trans p2) s' ⟨D, ?_, rfl⟩
      rw [← r'.rl, List.getElem?_append_right (Nat.le_refl _)]
      simp
    · cases h2
  · refine (pe_bfD g hg hc pa (bf_ok g.calm g.u g.gd f hf)).imp fun σ H Q ⟨F, G, ρ, σw, L, S, r, w, L', S', e, fin⟩ => ?_
    rw [ev_bf hf] at e
    obtain ⟨ws, L1, S1, h1, h2⟩ := R.bind_inv e
    obtain ⟨h3, rfl, rfl⟩ := R.ofO_inv h2
    obtain ⟨c, h4, rfl⟩ := Option.map_eq_some_iff.mp h3
    obtain ⟨ds, h5, h6⟩ := Option.bind_eq_some_iff.mp h4
    exact tes r h1 fun G' ρ' vs H' r' p' s' hv => ⟨G', ds, c, r'.gh, r'.viewAll hv h5, h6, fin_data r' p' s' fin⟩
theorem e_isi (g : Good Δ k X) {a : E} {t : Ty} {p2 : Pos} (hg : glB X.env.scope "isinstance" = true) (hg2 : glB X.env.scope (tyName t) = true) (hs : ∀ u p, y ≠ .Starred u p) (pa : PE X y (tE X.K Δ a)) :
    PE X (.Call (.Name "isinstance" p) [y, .Name (tyName t) p2] [] q) (tE X.K Δ (.isi a t)) := by
  have m1 : X.mg "isinstance" = none := g.free _ (by decide)
  have m2 : X.mg (tyName t) = none := by cases t <;> exact g.free _ (by decide)
  have n1 : tyName t ≠ "__name__" := by cases t <;> decide
  have n2 : (tyName t == ("__debug__" : Str)) = false := by cases t <;> decide
  have pb : PE X (.Name (tyName t) p2) (tC (.ty t.nm)) := pe_bltn (glB_ok hg2) m2 (boot_ty t) rfl n1 n2
  have pp := pa_cons pa (pa_cons pb pa_nil) (star_of hs)
  refine (pe_callB call_isi (glB_ok hg) m1 (by decide +kernel) pp (by decide) (by decide) (star_of hs)).imp fun σ H Q ⟨F, G, ρ, σw, L, S, r, w, L', S', e, fin⟩ => ?_
  obtain ⟨x, L1, S1, h1, h2⟩ := R.bind_inv (show (ev Δ a σw L S).bind _ = _ from e)
  obtain ⟨h3, rfl, rfl⟩ := R.ofO_inv h2
  obtain ⟨d, h4, rfl⟩ := Option.map_eq_some_iff.mp h3
  exact t1 r h1 fun G' ρ' v H' r' p' s' hv => ⟨v, _, .type (tyOf d), .type t.nm, isTy t d, rfl, .ty _, tyX_of r'.gh (r'.view hv h4), kit_ty (kit_all d t), fin _ _ _ _ r' p' s' (.bl _)⟩
/-! ## parts -/
theorem plainIx {b : Expr} (h : isSlice b = false) : PlainIx b := fun o i => by
  cases b <;> first | rfl | cases h
theorem atI_get {α : Type} {xs : List α} {i : Int} {y : α} (h : atI xs i = some y) : ∃ j, ixN xs.length i = some j ∧ xs[j]? = some y := Option.bind_eq_some_iff.mp h
theorem e_ix {a i : E} (hs : isSlice z = false) (ha : PE X y (tE X.K Δ a)) (hb : PE X z (tE X.K Δ i)) : PE X (.Subscript y z p) (tE X.K Δ (.ix a i)) := by
  refine (pe_ix (ix_list.or ix_tup) ha hb (plainIx hs)).imp fun σ H Q ⟨F, G, ρ, σw, L, S, r, w, L', S', e, fin⟩ => ?_
  obtain ⟨x, L1, S1, h1, h2⟩ := R.bind_inv (show (ev Δ a σw L S).bind _ = _ from e)
  obtain ⟨y, L2, S2, h3, h4⟩ := R.bind_inv h2
  obtain ⟨h5, rfl, rfl⟩ := R.ofO_inv h4
  obtain ⟨c, h6, rfl⟩ := Option.map_eq_some_iff.mp h5
  obtain ⟨d, e, h7, h8, h9⟩ := vv h6
  refine t2 r h1 h3 fun G' ρ' v u H' r' p' s' hv hu => ?_
  have w1 := r'.view hv h7
  have w2 := r'.view hu h8
  unfold ixD at h9
  split at h9
  · obtain ⟨D, vs, rfl, k1, k2⟩ := w1.list r'.gh
    obtain ⟨j, k3, k4⟩ := atI_get h9
    obtain ⟨v2, k5, k6⟩ := k2.get k4
    exact .inl ⟨D, vs, _, v2, rfl, w2.int, .of k1, by unfold atI; rw [k2.length, k3]; exact k5, fin _ _ _ _ r' p' s' k6⟩
  · obtain ⟨D, vs, rfl, k1, k2⟩ := w1.tuple
    obtain ⟨j, k3, k4⟩ := atI_get h9
    obtain ⟨v2, k5, k6⟩ := k2.get k4
    exact .inr ⟨D, vs, _, v2, rfl, w2.int, Same.tseq r'.gh k1, by unfold atI; rw [k2.length, k3]; exact k5, fin _ _ _ _ r' p' s' k6⟩
  · cases h9
theorem o_no : PO X none (tO X.K Δ .no) := by
  refine ⟨fun pins s σ H Q I ⟨F, G, ρ, σw, L, S, r, w, L', S', e, fin⟩ => ?_⟩
  cases e
  exact po_none.run pins s σ H Q I (fin _ _ _ r (List.prefix_refl _) (Same.refl _))
theorem o_so {a : E} (h : PE X y (tE X.K Δ a)) : PO X (some y) (tO X.K Δ (.so a)) := by
  refine (po_some h).imp fun σ H Q ⟨F, G, ρ, σw, L, S, r, w, L', S', e, fin⟩ => ?_
  obtain ⟨x, L1, S1, h1, h2⟩ := R.bind_inv (show (ev Δ a σw L S).bind _ = _ from e)
  refine t1 r h1 fun G' ρ' v H' r' p' s' hv => ?_
  split at h2
  · cases h2
    exact ⟨_, hv.int, fin _ _ _ r' p' s'⟩
  · cases h2
theorem cut_ok {K : PySem.W.Frag} {G : Hp} {vs : List V} {xs : List PyData} {l h : Option Int} (a : DtAll K G vs xs) : DtAll K G (cutV vs l h) (cutD xs l h) := by
  unfold cutV cutD
  rw [a.length]
  exact (a.drop _).take _
theorem e_sl {a : E} {lo hi : O} {l h : Option Expr} {p2 : Pos} (ha : PE X y (tE X.K Δ a)) (hl : PO X l (tO X.K Δ lo)) (hh : PO X h (tO X.K Δ hi)) : PE X (.Subscript y (.Slice l h none p2) p) (tE X.K Δ (.sl a lo hi)) := by
  refine (pe_slice (sl_list.or sl_tupA) ha hl hh).imp fun σ H Q ⟨F, G, ρ, σw, L, S, r, w, L', S', e, fin⟩ => ?_
  obtain ⟨x, L1, S1, h1, h2⟩ := R.bind_inv (show (ev Δ a σw L S).bind _ = _ from e)
  obtain ⟨ol, L2, S2, h3, h4⟩ := R.bind_inv h2
  obtain ⟨oh, L3, S3, h5, h6⟩ := R.bind_inv h4
  obtain ⟨h7, rfl, rfl⟩ := R.ofO_inv h6
  obtain ⟨c, h8, rfl⟩ := Option.map_eq_some_iff.mp h7
  obtain ⟨d, h9, h10⟩ := Option.bind_eq_some_iff.mp h8
  refine t1 r h1 fun G1 ρ1 v H1 r1 p1 s1 hv => ?_
  refine ⟨F, G1, ρ1, σw, _, _, r1, ol, _, _, h3, fun G2 ρ2 H2 r2 p2 s2 => ?_⟩
  refine ⟨F, G2, ρ2, σw, _, _, r2, oh, _, _, h5, fun G' ρ' H' r' p' s' => ?_⟩
  have w1 := r'.view (hv.mono (s2.trans s') (p2.trans p')) h9
  have ff := fin_data r' (p1.trans (p2.trans p')) (s1.trans (s2.trans s')) fin
  unfold slD at h10
  split at h10
  · cases h10
    obtain ⟨D, vs, rfl, k1, k2⟩ := w1.list r'.gh
    exact .inl ⟨D, vs, rfl, .of k1, ff.list r'.gh (cut_ok k2)⟩
  · cases h10
    obtain ⟨D, vs, rfl, k1, k2⟩ := w1.tuple
    refine .inr ⟨D, vs, rfl, Same.tseq r'.gh k1, fun z => ?_, fun _ => ff.tuple r'.gh (cut_ok k2)⟩
    rw [k2.length] at z
    refine ff.flat (.tup k1 ?_)
    unfold cutD
    rw [z.1, z.2]
    simpa using k2
  · cases h10
theorem pe_revT {e : Expr} {te : TE} {j : Nat} {p1 p2 p3 : Pos} (he : PE X e te) : PE X (.Subscript e (.Slice none none (some (.UnaryOp .USub (.Constant (.int 1) j p1) p2)) p3) p)
    (fun σ H Q => te σ H fun x H1 => ∃ a xs, x = .ref a ∧ SqT X.K H1 a xs ∧ ∀ b, H1 b = none → Q (.ref b) (upd H1 b (.tup xs.reverse))) := by
  constructor
  intro pins s σ H Q I q
  have one : PO X (some (.UnaryOp .USub (.Constant (.int 1) j p1) p2)) (tPart (tUn (rU fun i => .int (-i)) (tC (.int 1)))) := po_some (pe_un un_neg pe_int)
  apply Subscript_
  refine thn (he.run pins s σ H _ I q) ?_
  rintro v s1 ⟨x, H1, I1, r1, a, xs, rfl, hx, q⟩
  cases r1
  apply wpAny_Slice
  refine thn (po_none.run pins s1 σ H1 (fun o h => o = none ∧ h = H1) I1 ⟨rfl, rfl⟩) ?_
  rintro vl s2 ⟨_, _, I2, k1, rfl, rfl⟩
  refine thn (po_none.run pins s2 σ _ (fun o h => o = none ∧ h = _) I2 ⟨rfl, rfl⟩) ?_
  rintro vu s3 ⟨_, _, I3, k2, rfl, rfl⟩
  refine thn (one.run pins s3 σ _ (fun o h => o = some (-1) ∧ h = _) I3 ⟨1, rfl, -1, rfl, rfl, rfl⟩) ?_
  rintro vs s4 ⟨_, _, I4, k3, rfl, rfl⟩
  let s5 : Shared := { s4 with heap := s4.heap.push { cls := .type "slice", data := .fields #[vl, vu, vs] } }
  have I5 : Inv X pins σ _ s5 := I4.kept (t' := s4.toks) fun b ob z => Heap.get?_push_of_some _ z
  obtain ⟨its, rv, ht, hz⟩ := I5.tuple hx
  have hlen := rv.length
  show wpAny (model X.prog X.w) X.A (subscriptTail e (.Slice none none (some (.UnaryOp .USub (.Constant (.int 1) j p1) p2)) p3) (.ref a) (.ref s4.heap.objs.size)) (EP X pins σ Q) X.xe s5
  refine tail_any (ops := [.ref a, .ref s4.heap.objs.size]) ht.typeIs slot_tuple_getitem.lookup ?_ (by with_unfolding_all rfl)
  refine tuple_back ht (Heap.IsSliceOf.new _ vl vu vs) k1 k2 k3 (by rw [List.size_toArray]; omega) ?_
  refine ⟨.ref _, _, I5.laid (t' := s4.toks) (o := .tup xs.reverse) (fun b ob z => Heap.get?_push_of_some _ z) (Nat.le_refl _) ?_, rfl, q _ (I5.hok.fresh (Nat.le_refl _))⟩
  exact ⟨by rw [List.length_reverse]; exact hz, _, rv.reverse, IsTup.new _ _⟩
theorem e_rev {a : E} {j : Nat} {p1 p2 p3 : Pos} (h : PE X y (tE X.K Δ a)) : PE X (.Subscript y (.Slice none none (some (.UnaryOp .USub (.Constant (.int 1) j p1) p2)) p3) p) (tE X.K Δ (.rev a)) := by
  refine ⟨fun pins s σ H Q I ⟨F, G, ρ, σw, L, S, r, w, L', S', e, fin⟩ => ?_⟩
  obtain ⟨x, L1, S1, h1, h2⟩ := R.bind_inv (show (ev Δ a σw L S).bind _ = _ from e)
  split at h2
  · rename_i xs h3
    cases h2
    refine (pe_revL h).run pins s σ H Q I (t1 r h1 fun G' ρ' v H' r' p' s' hv => ?_)
    obtain ⟨D, vs, rfl, k1, k2⟩ := (r'.view hv h3).list r'.gh
    exact ⟨D, vs, rfl, .of k1, (fin_data r' p' s' fin).list r'.gh k2.reverse⟩
  · rename_i xs h3
    cases h2
    refine (pe_revT h).run pins s σ H Q I (t1 r h1 fun G' ρ' v H' r' p' s' hv => ?_)
    obtain ⟨D, vs, rfl, k1, k2⟩ := (r'.view hv h3).tuple
    exact ⟨D, vs, rfl, Same.tseq r'.gh k1, (fin_data r' p' s' fin).tuple r'.gh k2.reverse⟩
  · cases h2
theorem abase {o : Expr} {n : Str} {env : Env} (h : isCallE o = false) : attributeBase o n env (eval o env) = eval o env := by
  cases o <;> first | rfl | cases h
theorem e_bits {a : E} {ap : Pos} (hc : isCallE y = false) (hl : (ap.endLine == p.line) = true) (h : PE X y (tE X.K Δ a)) : PE X (.Call (.Attribute y "bit_length" ap) [] [] p) (tE X.K Δ (.bits a)) := by
  refine (pe_bits h (abase hc) hl).imp fun σ H Q ⟨F, G, ρ, σw, L, S, r, w, L', S', e, fin⟩ => ?_
  obtain ⟨x, L1, S1, h1, h2⟩ := R.bind_inv (show (ev Δ a σw L S).bind _ = _ from e)
  refine t1 r h1 fun G' ρ' v H' r' p' s' hv => ?_
  split at h2
  · cases h2
    exact ⟨_, hv.int, fin _ _ _ _ r' p' s' (Dt.int _)⟩
  · cases h2
theorem isD_inv' {w : W} {d : PyData} (h : isD w = some d) : w = .d d := by
  cases w <;> cases h
  rfl
theorem idxOf_inv {y : PyData} : ∀ {xs : List PyData} {j : Nat}, idxOf y xs = some j → ∃ z, xs[j]? = some z ∧ z.eqv y = true ∧ ∀ m z', m < j → xs[m]? = some z' → z'.eqv y = false
  | [], j, h => by cases h
  | x :: xs, j, h => by
    unfold idxOf at h
    by_cases hx : PyData.eqv x y = true
    · rw [if_pos hx] at h
      cases h
      exact ⟨x, rfl, hx, fun m z' hm => absurd hm (Nat.not_lt_zero m)⟩
    · rw [if_neg hx] at h
      obtain ⟨k, h1, rfl⟩ := Option.map_eq_some_iff.mp h
      obtain ⟨z, h2, h3, h4⟩ := idxOf_inv h1
      refine ⟨z, h2, h3, fun m z' hm hz => ?_⟩
      cases m with
      | zero =>
        cases hz
        exact Bool.eq_false_iff.mpr hx
      | succ m => exact h4 m z' (Nat.lt_of_succ_lt_succ hm) hz
theorem e_idx (g : Good Δ k X) {a e : E} {ap : Pos} (hc : isCallE y = false) (hl : (ap.endLine == p.line) = true) (hs : ∀ u p, z ≠ .Starred u p) (h : PE X y (tE X.K Δ a)) (h' : PE X z (tE X.K Δ e)) :
    PE X (.Call (.Attribute y "index" ap) [z] [] p) (tE X.K Δ (.idx a e)) := by
  have s1 := star_of (env := X.env) hs (xs := [])
  refine (pe_bm PySem.F.plainAttrs_list PySem.F.slot_list_index PySem.F.type_list_index (mt_indexD (by have := g.u; omega)) h (pa_cons h' pa_nil s1) (abase hc) (by rw [s1]; rfl) hl s1 (by rfl)).imp fun σ H Q ⟨F, G, ρ, σw, L, S, r, w, L', S', e, fin⟩ => ?_
  obtain ⟨x, L1, S1, h1, h2⟩ := R.bind_inv (show (ev Δ a σw L S).bind _ = _ from e)
  split at h2
  · rename_i zs hz
    obtain ⟨y, L2, S2, h3, h4⟩ := R.bind_inv h2
    obtain ⟨h5, rfl, rfl⟩ := R.ofO_inv h4
    obtain ⟨c, h6, rfl⟩ := Option.map_eq_some_iff.mp h5
    obtain ⟨d, eD, h7, h8, h9⟩ := vv h6
    unfold idxD at h9
    split at h9
    · rename_i xs
      split at h9
      · rename_i hsh
        obtain ⟨j, h10, rfl⟩ := Option.map_eq_some_iff.mp h9
        obtain ⟨z, k1, k2, k3⟩ := idxOf_inv h10
        refine t1 r h1 fun G1 ρ1 v H1 r1 p1 s1 hv => ?_
        obtain ⟨D, vs, rfl, m1, m2⟩ := (r1.view hv hz).list r1.gh
        refine ⟨.inl ⟨rfl, vs, .of m1⟩, ?_⟩
        refine t1 r1 h3 fun G2 ρ2 u H2 r2 p2 s2 hu => ?_
        have w1 := (r2.view (hv.mono s2 p2) h7).dp r2.gh (shaped_nd hsh.2)
        have w2 := (r2.view hu h8).dp r2.gh (shaped_nd hsh.1)
        exact ⟨D, u, eD, xs, j, z, rfl, rfl, w1, w2, hsh.2, hsh.1, k1, k2, k3, fin _ _ _ _ r2 (p1.trans p2) (s1.trans s2) (Dt.int _)⟩
      · cases h9
    · cases h9
  · cases h2
theorem getLst_inv {L : Lo} {σw : List W} {v id : Nat} {xs : List PyData} (h : getLst L σw v = some (id, xs)) : σw[v]? = some (.m id) ∧ L[id]? = some (some (.lst xs)) := by
  unfold getLst at h
  split at h
  · rename_i i h1
    split at h
    · rename_i ys h2
      cases h
      exact ⟨h1, h2⟩
    · cases h
  · cases h
theorem own_at {K : PySem.W.Frag} {F : Fr} {G H : Hp} {ρ : List Addr} {σw : List W} {L : Lo} {S : Src} {σ : L2.St} (r : Rel K F G ρ σw L S σ H) {v id : Nat} {xs : List PyData} (h : getLst L σw v = some (id, xs)) :
    ∃ D vs, σ[v]? = some (some (.ref D)) ∧ ρ[id]? = some D ∧ H D = some (.lst vs) ∧ DtAll K G vs xs := by
  obtain ⟨h1, h2⟩ := getLst_inv h
  obtain ⟨u, h3, D, h4, rfl⟩ := r.slot v _ h1 (fun z => by cases z)
  obtain ⟨_, _, h5⟩ := r.loc id D h4
  obtain ⟨_, vs, h6, h7⟩ := h5 _ h2
  exact ⟨D, vs, h3, h4, h6, h7⟩
theorem DtAll.dropLast {K : PySem.W.Frag} {G : Hp} {vs : List V} {xs : List PyData} (h : DtAll K G vs xs) : DtAll K G vs.dropLast xs.dropLast := by
  rw [List.dropLast_eq_take, List.dropLast_eq_take, h.length]
  exact h.take _
theorem e_pop0 (g : Good Δ k X) {v : Nat} {n : Str} {ap p1 : Pos} (hv : X.N[v]? = some n) (h2 : visB X.env.scope n = true) (h3 : plainN n = true) (hl : (ap.endLine == p.line) = true) :
    PE X (.Call (.Attribute (.Name n p1) "pop" ap) [] [] p) (tE X.K Δ (.pop v none)) := by
  refine (pe_bm0 PySem.F.plainAttrs_list PySem.F.slot_list_pop PySem.F.type_list_pop mt_pop (pe_var hv (visB_ok h2) (plainN_ok h3).1 (plainN_ok h3).2) (by rfl) hl).imp fun σ H Q ⟨F, G, ρ, σw, L, S, r, w, L', S', e, fin⟩ => ?_
  unfold ev at e
  split at e
  · rename_i id xs h4
    dsimp only at e
    split at e
    · rename_i d h5
      cases e
      obtain ⟨D, vs, h6, h7, h8, h9⟩ := own_at r h4
      obtain ⟨u, h10, h11⟩ := h9.get h5
      refine ⟨.ref D, h6, .inl ⟨rfl, vs, .of h8⟩, D, vs, u, rfl, rfl, h8, by rw [h9.length]; exact h10, ?_⟩
      exact fin _ _ _ _ (r.change h7 (getLst_inv h4).2 (u := .lst vs.dropLast) fun H2 e2 => ⟨_, e2, h9.dropLast⟩) (List.prefix_refl _) (Same.refl _) h11
    · cases e
  · cases e
theorem e_popA (g : Good Δ k X) {v : Nat} {i : Int} {j : Nat} {n : Str} {ap p1 p2 : Pos} (hv : X.N[v]? = some n) (h2 : visB X.env.scope n = true) (h3 : plainN n = true) (hl : (ap.endLine == p.line) = true) :
    PE X (.Call (.Attribute (.Name n p1) "pop" ap) [.Constant (.int i) j p2] [] p) (tE X.K Δ (.pop v (some i))) := by
  refine (pe_bm PySem.F.plainAttrs_list PySem.F.slot_list_pop PySem.F.type_list_pop mt_popAt (pe_var hv (visB_ok h2) (plainN_ok h3).1 (plainN_ok h3).2) (pa_cons pe_int pa_nil) (by rfl) (by rfl) hl).imp fun σ H Q ⟨F, G, ρ, σw, L, S, r, w, L', S', e, fin⟩ => ?_
  unfold ev at e
  split at e
  · rename_i id xs h4
    dsimp only at e
    split at e
    · rename_i hz
      split at e
      · rename_i kk hk
        split at e
        · rename_i d h5
          cases e
          obtain ⟨D, vs, h6, h7, h8, h9⟩ := own_at r h4
          obtain ⟨u, h10, h11⟩ := h9.get h5
          refine ⟨.ref D, h6, .inl ⟨rfl, vs, .of h8⟩, D, vs, i, kk, u, rfl, rfl, h8, (b63_ok hz).1, (b63_ok hz).2, by rw [h9.length]; exact hk, h10, ?_⟩
          exact fin _ _ _ _ (r.change h7 (getLst_inv h4).2 (u := .lst (vs.eraseIdx kk)) fun H2 e2 => ⟨_, e2, h9.eraseIdx kk⟩) (List.prefix_refl _) (Same.refl _) h11
        · cases e
      · cases e
    · cases e
  · cases e
theorem e_popE (g : Good Δ k X) {v : Nat} {e : E} {n : Str} {ap p1 : Pos} (hv : X.N[v]? = some n) (h2 : visB X.env.scope n = true) (h3 : plainN n = true) (hl : (ap.endLine == p.line) = true) (hs : ∀ u p, y ≠ .Starred u p) (he : PE X y (tE X.K Δ e)) :
    PE X (.Call (.Attribute (.Name n p1) "pop" ap) [y] [] p) (tE X.K Δ (.popE v e)) := by
  have s1 := star_of (env := X.env) hs (xs := [])
  refine (pe_bm PySem.F.plainAttrs_list PySem.F.slot_list_pop PySem.F.type_list_pop mt_popAt (pe_var hv (visB_ok h2) (plainN_ok h3).1 (plainN_ok h3).2) (pa_cons he pa_nil s1) (by rfl) (by rw [s1]; rfl) hl s1 (by rfl)).imp fun σ H Q ⟨F, G, ρ, σw, L, S, r, w, L', S', e', fin⟩ => ?_
  unfold ev at e'
  split at e'
  · cases e'
  · rename_i z hz
    obtain ⟨id0, xs0⟩ := z
    obtain ⟨D0, vs0, k1, k2, k3, k4⟩ := own_at r hz
    refine ⟨_, k1, .inl ⟨rfl, vs0, .of k3⟩, ?_⟩
    obtain ⟨u, L1, S1, h4, h5⟩ := R.bind_inv e'
    refine t1 r h4 fun G' ρ' a H' r' p' s' ha => ?_
    split at h5
    · rename_i i id xs hi hg
      cases hD : u <;> rw [hD] at hi <;> cases hi
      subst hD
      obtain ⟨D1, us, m1, m2, m3, m4⟩ := own_at r' hg
      have e1 : D0 = D1 := by
        rw [k1] at m1
        cases m1
        rfl
      subst e1
      split at h5
      · rename_i hb
        split at h5
        · rename_i kk hk
          split at h5
          · rename_i d h6
            cases h5
            obtain ⟨b, h10, h11⟩ := m4.get h6
            refine ⟨D0, us, i, kk, b, rfl, by rw [ha.int], m3, (b63_ok hb).1, (b63_ok hb).2, by rw [m4.length]; exact hk, h10, ?_⟩
            exact fin _ _ _ _ (r'.change m2 (getLst_inv hg).2 (u := .lst (us.eraseIdx kk)) fun H2 e2 => ⟨_, e2, m4.eraseIdx kk⟩) p' s' h11
          · cases h5
        · cases h5
      · cases h5
    · cases h5
theorem rgV_data {K : PySem.W.Frag} {G : Hp} {i j : Int} : DtAll K G (rgV i j) ((List.range (j - i).toNat).map fun (k : Nat) => .int (i + k)) := by
  unfold rgV
  have : ∀ l : List Nat, DtAll K G (l.map fun (t : Nat) => V.int (i + t)) (l.map fun (t : Nat) => PyData.int (i + t)) := by
    intro l
    induction l with
    | nil => exact .nil
    | cons a l ih => exact .cons (.int _) ih
  exact this _
theorem lrng_fin {K : PySem.W.Frag} {F : Fr} {G H : Hp} {ρ ρ0 : List Addr} {G0 : Hp} {σw : List W} {L L' : Lo} {S S' : Src} {σ : L2.St} {w : W} {Q : VK} {mu : Bool} {i j : Int} (r : Rel K F G ρ σw L S σ H) (pp : ρ0 <+: ρ) (ss : Same G0 G)
    (h : (if mu = true then R.own ((List.range (j - i).toNat).map fun (k : Nat) => .int (i + k)) L S else .ok (.d (.list ((List.range (j - i).toNat).map fun (k : Nat) => .int (i + k)))) L S) = R.ok w L' S')
    (fin : ∀ (G' : Hp) (ρ' : List Addr) (v : V) (H' : Hp), Rel K F G' ρ' σw L' S' σ H' → ρ0 <+: ρ' → Same G0 G' → VR K F.sa G' ρ' w v → Q v H') : ∀ q, H q = none → Q (.ref q) (upd H q (.lst (rgV i j))) := by
  intro D hD
  cases mu with
  | true =>
    simp only [if_true] at h
    cases h
    obtain ⟨r2, p2⟩ := r.mine (u := .lst (rgV i j)) (o := .lst ((List.range (j - i).toNat).map fun (k : Nat) => .int (i + k))) hD fun H2 e2 => ⟨_, e2, rgV_data⟩
    refine fin _ _ _ _ r2 (pp.trans p2) ss ⟨D, ?_, rfl⟩
    rw [← r.rl, List.getElem?_append_right (Nat.le_refl _)]
    simp
  | false =>
    simp only [Bool.false_eq_true, if_false] at h
    cases h
    exact (fin_data r pp ss fin).list r.gh rgV_data D hD
theorem rangeD1 {x : PyData} {xs : List PyData} (h : rangeD [x] = some xs) : ∃ j : Int, x = .int j ∧ -(2 ^ 62) ≤ j ∧ j < 2 ^ 62 ∧ xs = (List.range (j - 0).toNat).map fun (k : Nat) => .int ((0 : Int) + k) := by
  unfold rangeD at h
  split at h
  · rename_i j e
    cases e
    split at h
    · rename_i hz
      cases h
      exact ⟨_, rfl, (b62_ok hz).1, (b62_ok hz).2, by rw [Int.sub_zero]⟩
    · cases h
  · rename_i e
    cases e
  · cases h
theorem rangeD2 {x y : PyData} {xs : List PyData} (h : rangeD [x, y] = some xs) : ∃ i j : Int, x = .int i ∧ y = .int j ∧ (-(2 ^ 62) ≤ i ∧ i < 2 ^ 62 ∧ -(2 ^ 62) ≤ j ∧ j < 2 ^ 62) ∧ xs = (List.range (j - i).toNat).map fun (k : Nat) => .int (i + k) := by
  unfold rangeD at h
  split at h
  · rename_i e
    cases e
  · rename_i i j e
    cases e
    split at h
    · rename_i hz
      cases h
      exact ⟨_, _, rfl, rfl, ⟨(b62_ok hz.1).1, (b62_ok hz.1).2, (b62_ok hz.2).1, (b62_ok hz.2).2⟩, rfl⟩
    · cases h
  · cases h
theorem e_lrng1 (g : Good Δ k X) {mu : Bool} {hi : E} {p1 p2 : Pos} (hg : glB X.env.scope "list" = true) (hg2 : glB X.env.scope "range" = true) (hs : ∀ u p, y ≠ .Starred u p) (h : PE X y (tE X.K Δ hi)) :
    PE X (.Call (.Name "list" p) [.Call (.Name "range" p1) [y] [] p2] [] q) (tE X.K Δ (.lrng1 mu hi)) := by
  refine (pe_listRg g.calm (glB_ok hg) (g.free _ (by decide)) (prg_1 (glB_ok hg2) (g.free _ (by decide)) h (star_of hs))).imp fun σ H Q ⟨F, G, ρ, σw, L, S, r, w, L', S', e, fin⟩ => ?_
  unfold ev at e
  obtain ⟨x, L1, S1, h1, h2⟩ := R.bind_inv e
  refine t1 r h1 fun G' ρ' v H' r' p' s' hv => ?_
  split at h2
  · rename_i xs hx
    obtain ⟨d, h3, h4⟩ := Option.bind_eq_some_iff.mp hx
    cases isD_inv' h3
    obtain ⟨j, rfl, b1, b2, rfl⟩ := rangeD1 h4
    split at h2
    · rename_i hz
      simp only [List.length_map, List.length_range] at hz
      exact ⟨j, hv.int, ⟨by decide, by decide, b1, b2, by omega⟩, lrng_fin r' p' s' h2 fin⟩
    · cases h2
  · cases h2
theorem e_lrng2 (g : Good Δ k X) {mu : Bool} {lo hi : E} {p1 p2 : Pos} (hg : glB X.env.scope "list" = true) (hg2 : glB X.env.scope "range" = true) (hs : ∀ u p, y ≠ .Starred u p) (hs2 : ∀ u p, z ≠ .Starred u p) (h : PE X y (tE X.K Δ lo)) (h' : PE X z (tE X.K Δ hi)) :
    PE X (.Call (.Name "list" p) [.Call (.Name "range" p1) [y, z] [] p2] [] q) (tE X.K Δ (.lrng2 mu lo hi)) := by
  have s2 := star_of (env := X.env) hs2 (xs := [])
  refine (pe_listRg g.calm (glB_ok hg) (g.free _ (by decide)) (prg_2 (glB_ok hg2) (g.free _ (by decide)) h h' (star_of hs) s2 (by rw [s2]; rfl))).imp fun σ H Q ⟨F, G, ρ, σw, L, S, r, w, L', S', e, fin⟩ => ?_
  unfold ev at e
  obtain ⟨x, L1, S1, h1, h2⟩ := R.bind_inv e
  obtain ⟨y, L2, S2, h3, h4⟩ := R.bind_inv h2
  refine t2 r h1 h3 fun G' ρ' v u H' r' p' s' hv hu => ?_
  split at h4
  · rename_i xs hx
    obtain ⟨d, k1, k2⟩ := Option.bind_eq_some_iff.mp hx
    obtain ⟨eD, k3, k4⟩ := Option.bind_eq_some_iff.mp k2
    cases isD_inv' k1
    cases isD_inv' k3
    obtain ⟨i, j, rfl, rfl, b, rfl⟩ := rangeD2 k4
    split at h4
    · rename_i hz
      simp only [List.length_map, List.length_range] at hz
      exact ⟨i, j, hv.int, hu.int, ⟨b.1, b.2.1, b.2.2.1, b.2.2.2, by omega⟩, lrng_fin r' p' s' h4 fin⟩
    · cases h4
  · cases h4
/-! ## iterators -/
theorem it_range {K : PySem.W.Frag} {G : Hp} {lo : Int} {n : Nat} : ItOk K G ((List.range n).map fun (k : Nat) => .int (lo + k)) (Itr lo n) := by
  intro G2 H2 _ _ i
  refine ⟨fun h => (show n ≤ i by simpa using h), fun d hd => ?_⟩
  have hi : i < n := by
    have := (List.getElem?_eq_some_iff.mp hd).1
    simpa using this
  refine ⟨hi, fun v H3 ⟨h1, h2⟩ => .inl ⟨h1, ?_⟩⟩
  rw [List.getElem?_map, List.getElem?_range hi] at hd
  cases hd
  subst h2
  exact .int _
theorem i_rng (g : Good Δ k X) {t : Expr} {es : Es} {ys : List Expr} (hg : glB X.env.scope "range" = true) (hc : chkEs X.N es X.env.scope ys = true) (pa : PA X ys (tEs X.K Δ es))
    (hy : oneTwo ys = true) : PI X t (.Call (.Name "range" p) ys [] q) (tI X.K Δ (.rng es)) := by
  have m1 : X.mg "range" = none := g.free _ (by decide)
  have ns := noStarEs hc
  have len : ∀ {es : Es} {ys : List Expr} {σw : List W} {L L' : Lo} {S S' : Src} {ws : List W}, chkEs X.N es X.env.scope ys = true → evs Δ es σw L S = .ok ws L' S' → ws.length = ys.length := by
    intro es
    induction es using Es.rec (motive_1 := fun _ => True) (motive_3 := fun _ => True) (motive_4 := fun _ => True) (motive_5 := fun _ => True) with
    | nil =>
      intro ys σw L L' S S' ws hc h
      cases h
      cases ys with
      | nil => rfl
      | cons _ _ => simp [chkEs] at hc
    | cons e es _ ih =>
      intro ys σw L L' S S' ws hc h
      cases ys with
      | nil => simp [chkEs] at hc
      | cons y ys =>
        obtain ⟨w, L1, S1, h1, h2⟩ := R.bind_inv (show (ev Δ e σw L S).bind _ = _ from h)
        obtain ⟨us, L2, S2, h3, h4⟩ := R.bind_inv h2
        cases h4
        exact congrArg (· + 1) (ih (and2 (show (chkE X.N e X.env.scope y && chkEs X.N es X.env.scope ys) = true from hc)).2 h3)
    | _ => trivial
  rcases ys with _ | ⟨a, _ | ⟨b, _ | ⟨c, rest⟩⟩⟩
  · cases hy
  · refine (pi_range1 (glB_ok hg) m1 pa (star_of (ns a List.mem_cons_self))).imp fun σ H Q ⟨F, G, ρ, σw, L, S, r, w, L', S', e, fin⟩ => ?_
    obtain ⟨ws, L1, S1, h1, h2⟩ := R.bind_inv (show (evs Δ es σw L S).bind _ = _ from e)
    obtain ⟨h3, rfl, rfl⟩ := R.ofO_inv h2
    obtain ⟨ds, h4, h5⟩ := Option.bind_eq_some_iff.mp h3
    refine tes r h1 fun G' ρ' vs H' r' p' s' hv => ?_
    have hd := hv.data h4
    have hl : ds.length = 1 := by rw [← hd.length, hv.length, len hc h1]; rfl
    unfold rangeD at h5
    split at h5
    · split at h5
      · rename_i hz
        cases h5
        cases hd with
        | cons q1 t =>
          cases t
          cases q1
          exact ⟨_, rfl, (b62_ok hz).1, (b62_ok hz).2, fin _ _ _ _ r' p' s' it_range⟩
      · cases h5
    · simp at hl
    · cases h5
  · have s2 := star_of (env := X.env) (ns b (List.mem_cons_of_mem _ List.mem_cons_self)) (xs := [])
    have s1 := star_of (env := X.env) (ns a List.mem_cons_self) (xs := [b])
    refine (pi_range2 (glB_ok hg) m1 pa (s1.trans (by rw [s2]; rfl)) s2).imp fun σ H Q ⟨F, G, ρ, σw, L, S, r, w, L', S', e, fin⟩ => ?_
    obtain ⟨ws, L1, S1, h1, h2⟩ := R.bind_inv (show (evs Δ es σw L S).bind _ = _ from e)
    obtain ⟨h3, rfl, rfl⟩ := R.ofO_inv h2
    obtain ⟨ds, h4, h5⟩ := Option.bind_eq_some_iff.mp h3
    refine tes r h1 fun G' ρ' vs H' r' p' s' hv => ?_
    have hd := hv.data h4
    have hl : ds.length = 2 := by rw [← hd.length, hv.length, len hc h1]; rfl
    unfold rangeD at h5
    split at h5
    · simp at hl
    · split at h5
      · rename_i hz
        cases h5
        cases hd with
        | cons q1 t =>
          cases t with
          | cons q2 t =>
            cases t
            cases q1
            cases q2
            exact ⟨_, _, rfl, ⟨(b62_ok hz.1).1, (b62_ok hz.1).2, (b62_ok hz.2).1, (b62_ok hz.2).2⟩, fin _ _ _ _ r' p' s' it_range⟩
      · cases h5
    · cases h5
  · cases hy
theorem i_seq {t : Expr} {a : E} (h : PE X y (tE X.K Δ a)) : PI X t y (tI X.K Δ (.seq a)) := by
  refine ⟨fun pins s σ H Q I ⟨F, G, ρ, σw, L, S, r, w, L', S', e, fin⟩ => ?_⟩
  obtain ⟨x, L1, S1, h1, h2⟩ := R.bind_inv (show (ev Δ a σw L S).bind _ = _ from e)
  split at h2
  · cases h2
    refine (pi_list h).run pins s σ H Q I (t1 r h1 fun G' ρ' v H' r' p' s' hv => ?_)
    obtain ⟨D, vs, rfl, k1, k2⟩ : ∃ D vs, v = .ref D ∧ G' D = some (.lst vs) ∧ DtAll X.K G' vs w := by
      cases (show Dt X.K G' v (.list w) from hv) with
      | lst k1 k2 => exact ⟨_, _, rfl, k1, k2⟩
    refine ⟨D, rfl, ⟨vs, .of (r'.gh _ _ k1)⟩, fin _ _ _ _ r' p' s' fun G2 H2 g1 g2 i => ⟨fun hi => ⟨vs, .of (g2 _ _ (g1 _ _ k1)), by rw [k2.length]; exact hi⟩, fun d hd => ?_⟩⟩
    obtain ⟨u, k3, k4⟩ := k2.get hd
    exact ⟨⟨vs, u, .of (g2 _ _ (g1 _ _ k1)), k3⟩, fun v H3 ⟨q1, q2⟩ => .inl ⟨q1, by rw [q2 vs (.of (g2 _ _ (g1 _ _ k1)))] at k3; cases k3; exact k4.mono g1⟩⟩
  · cases h2
    refine (pi_tup h).run pins s σ H Q I (t1 r h1 fun G' ρ' v H' r' p' s' hv => ?_)
    obtain ⟨D, vs, rfl, k1, k2⟩ : ∃ D vs, v = .ref D ∧ SqT X.K G' D vs ∧ DtAll X.K G' vs w := by
      cases (show Dt X.K G' v (.tuple w) from hv) with
      | tup k1 k2 => exact ⟨_, _, rfl, k1, k2⟩
    refine ⟨D, rfl, ⟨vs, Same.tseq r'.gh k1⟩, fin _ _ _ _ r' p' s' fun G2 H2 g1 g2 i => ⟨fun hi => ⟨vs, Same.tseq (g1.trans g2) k1, by rw [k2.length]; exact hi⟩, fun d hd => ?_⟩⟩
    obtain ⟨u, k3, k4⟩ := k2.get hd
    exact ⟨⟨vs, u, Same.tseq (g1.trans g2) k1, k3⟩, fun v H3 ⟨q1, q2⟩ => .inl ⟨q1, by rw [q2 vs (Same.tseq (g1.trans g2) k1)] at k3; cases k3; exact k4.mono g1⟩⟩
  · cases h2
theorem Dt.list_inv {K : PySem.W.Frag} {G : Hp} {v : V} {xs : List PyData} (h : Dt K G v (.list xs)) : ∃ D vs, v = .ref D ∧ G D = some (.lst vs) ∧ DtAll K G vs xs := by
  cases h with
  | lst k1 k2 => exact ⟨_, _, rfl, k1, k2⟩
theorem enum_get {xs : List PyData} {i : Nat} {d : PyData} (h : (enumD xs)[i]? = some d) : ∃ x, xs[i]? = some x ∧ d = .tuple [.int (i : Int), x] := by
  unfold enumD at h
  rw [List.getElem?_map] at h
  obtain ⟨⟨j, x⟩, h1, rfl⟩ := Option.map_eq_some_iff.mp h
  rw [List.getElem?_zip_eq_some] at h1
  obtain ⟨h2, h3⟩ := h1
  have hi : i < xs.length := (List.getElem?_eq_some_iff.mp h3).1
  rw [List.getElem?_range hi] at h2
  cases h2
  exact ⟨x, h3, rfl⟩
theorem enum_len {xs : List PyData} : (enumD xs).length = xs.length := by
  unfold enumD
  simp
theorem zip_get {xs ys : List PyData} {i : Nat} {d : PyData} (h : (zipD xs ys)[i]? = some d) : ∃ x y, xs[i]? = some x ∧ ys[i]? = some y ∧ d = .tuple [x, y] := by
  unfold zipD at h
  rw [List.getElem?_map] at h
  obtain ⟨⟨x, y⟩, h1, rfl⟩ := Option.map_eq_some_iff.mp h
  rw [List.getElem?_zip_eq_some] at h1
  exact ⟨x, y, h1.1, h1.2, rfl⟩
theorem zip_len {xs ys : List PyData} : (zipD xs ys).length = min xs.length ys.length := by
  unfold zipD
  simp
theorem i_enum (g : Good Δ k X) {a : E} {elts : List Expr} {kk : Nat} {tp : Pos} (hg : glB X.env.scope "enumerate" = true) (hs : ∀ u p, y ≠ .Starred u p) (h : PE X y (tE X.K Δ a)) :
    PI X (.Tuple elts kk tp) (.Call (.Name "enumerate" p) [y] [] q) (tI X.K Δ (.enum a)) := by
  refine (pi_enum (glB_ok hg) (g.free _ (by decide)) (pa_cons h pa_nil (star_of hs)) (star_of hs)).imp fun σ H Q ⟨F, G, ρ, σw, L, S, r, w, L', S', e, fin⟩ => ?_
  obtain ⟨x, L1, S1, h1, h2⟩ := R.bind_inv (show (ev Δ a σw L S).bind _ = _ from e)
  refine t1 r h1 fun G' ρ' v H' r' p' s' hv => ?_
  split at h2
  · rename_i xs
    cases h2
    obtain ⟨D, vs, rfl, k1, k2⟩ := Dt.list_inv hv
    refine ⟨D, vs, rfl, .of (r'.gh _ _ k1), fin _ _ _ _ r' p' s' fun G2 H2 g1 g2 i => ?_⟩
    have sq : SqL X.K H2 D vs := .of (g2 _ _ (g1 _ _ k1))
    refine ⟨fun hi => ⟨vs, sq, by rw [k2.length]; rw [enum_len] at hi; exact hi⟩, fun d hd => ?_⟩
    obtain ⟨z, k3, rfl⟩ := enum_get hd
    obtain ⟨u, k4, k5⟩ := k2.get k3
    refine ⟨⟨vs, u, sq, k4⟩, fun v H3 ⟨T, u2, q1, q2, q3, q4⟩ => .inr ⟨T, _, q2, q3, ?_⟩⟩
    have e1 := q4 vs sq
    rw [k4] at e1
    cases e1
    subst q1
    exact .tup (.of upd_same) (.cons (.int _) (.cons (k5.mono (g1.trans (same_new (gnone g2 q2)))) .nil))
  · cases h2
theorem i_zip (g : Good Δ k X) {a b : E} {elts : List Expr} {kk : Nat} {tp : Pos} (hg : glB X.env.scope "zip" = true) (hs : ∀ u p, y ≠ .Starred u p) (hs2 : ∀ u p, z ≠ .Starred u p) (h : PE X y (tE X.K Δ a)) (h' : PE X z (tE X.K Δ b)) :
    PI X (.Tuple elts kk tp) (.Call (.Name "zip" p) [y, z] [] q) (tI X.K Δ (.zip a b)) := by
  have s2 := star_of (env := X.env) hs2 (xs := [])
  refine (pi_zip (glB_ok hg) (g.free _ (by decide)) (pa_cons h (pa_cons h' pa_nil s2) (star_of hs)) (star_of hs) (by rw [s2]; rfl)).imp fun σ H Q ⟨F, G, ρ, σw, L, S, r, w, L', S', e, fin⟩ => ?_
  obtain ⟨x, L1, S1, h1, h2⟩ := R.bind_inv (show (ev Δ a σw L S).bind _ = _ from e)
  obtain ⟨y, L2, S2, h3, h4⟩ := R.bind_inv h2
  refine t2 r h1 h3 fun G' ρ' v u H' r' p' s' hv hu => ?_
  split at h4
  · rename_i xs ys
    cases h4
    obtain ⟨D, vs, rfl, k1, k2⟩ := Dt.list_inv hv
    obtain ⟨D2, us, rfl, l1, l2⟩ := Dt.list_inv hu
    refine ⟨D, D2, vs, us, rfl, .of (r'.gh _ _ k1), .of (r'.gh _ _ l1), fin _ _ _ _ r' p' s' fun G2 H2 g1 g2 i => ?_⟩
    have sq : SqL X.K H2 D vs := .of (g2 _ _ (g1 _ _ k1))
    have sq2 : SqL X.K H2 D2 us := .of (g2 _ _ (g1 _ _ l1))
    refine ⟨fun hi => ⟨vs, us, sq, sq2, by rw [k2.length, l2.length]; rw [zip_len] at hi; omega⟩, fun d hd => ?_⟩
    obtain ⟨z1, z2, k3, l3, rfl⟩ := zip_get hd
    obtain ⟨u1, k4, k5⟩ := k2.get k3
    obtain ⟨u2, l4, l5⟩ := l2.get l3
    refine ⟨⟨vs, us, u1, u2, sq, sq2, k4, l4⟩, fun v H3 ⟨T, w1, w2, q1, q2, q3, q4, q5⟩ => .inr ⟨T, _, q2, q3, ?_⟩⟩
    have e1 := q4 vs sq
    rw [k4] at e1
    cases e1
    have e2 := q5 us sq2
    rw [l4] at e2
    cases e2
    subst q1
    have sn := same_new (o := .tup [u1, u2]) (gnone g2 q2)
    exact .tup (.of upd_same) (.cons (k5.mono (g1.trans sn)) (.cons (l5.mono (g1.trans sn)) .nil))
  · cases h4
end
end Dk
end
section
set_option Elab.async false
set_option linter.all false
set_option maxRecDepth 100000
set_option maxHeartbeats 4000000
set_option autoImplicit false
namespace Dk
open PySem PySem.Spec PyProof.Rows L2
/-! ## comprehensions -/
def lcF (Δ : Tb) (elt : E) (vs : List Nat) (tg : Tg) (iff : T) (σ : List W) : PyData → Lo → Src → R (Option PyData) := fun x L S => match bindT tg x (wipeW σ vs) with
      | none => .st
      | some σ2 => (evT Δ iff σ2 L S).bind fun k L S =>
        if k = true then (ev Δ elt σ2 L S).bind fun w L S => R.ofO ((isD w).map some) L S else .ok none L S
structure LcI (K : PySem.W.Frag) (F : Fr) (G1 : Hp) (ρ1 : List Addr) (σw : List W) (σ : L2.St) (D : Addr) (G : Hp) (ρ : List Addr) (L : Lo) (S : Src) (H : Hp) (acc : List PyData) : Prop where
  rel : Rel K F G ρ σw L S σ H
  pre : ρ1 <+: ρ
  sm : Same G1 G
  gD : G D = none
  nD : D ∉ ρ
  hD : ∃ vs, H D = some (.lst vs) ∧ DtAll K G vs acc
theorem isD_inv {w : W} {d : PyData} (h : isD w = some d) : w = .d d := by
  cases w <;> cases h
  rfl
/-- an unknown object stays through a run looked at anew -/
theorem keepD {K : PySem.W.Frag} {F : Fr} {G H G' H' : Hp} {ρ ρ' : List Addr} {σw : List W} {L : Lo} {S : Src} {σ : L2.St} {D : Addr} {o : HO} (q : Rel K (F.re G H ρ) G' ρ' σw L S σ H') (hD : H D = some o) (gD : G D = none) (nD : D ∉ ρ) (ns : NotS F.sa D) :
    H' D = some o ∧ G' D = none ∧ D ∉ ρ' := by
  refine ⟨q.fram D o hD ns nD, ?_, fun h => ?_⟩
  · cases e : G' D with
    | none => rfl
    | some u =>
      rcases q.gn D u e with z | z
      · rw [show (F.re G H ρ).G0 D = G D from rfl, gD] at z; cases z
      · rw [show (F.re G H ρ).H0 D = H D from rfl, hD] at z; cases z
  · obtain ⟨j, hj⟩ := List.getElem?_of_mem h
    by_cases hl : j < ρ.length
    · exact nD (List.mem_of_getElem? (pre_of q.pre hj hl))
    · have z := (q.loc j D hj).1 (Nat.not_lt.mp hl)
      rw [show (F.re G H ρ).H0 D = H D from rfl, hD] at z; cases z
theorem wipe_unset : ∀ (us : List Nat) (j : Nat) (σ : L2.St), j ∈ us → (wipe σ us).set j none = wipe σ us := by
  intro us
  induction us with
  | nil => intro j σ h; cases h
  | cons u us ih =>
    intro j σ h
    show ((wipe σ us).set u none).set j none = (wipe σ us).set u none
    rcases List.mem_cons.mp h with rfl | h
    · rw [List.set_set]
    · by_cases hj : u = j
      · subst hj; rw [List.set_set]
      · rw [List.set_comm _ _ hj, ih j σ h]
theorem wipe_id : ∀ (us : List Nat) (τ : L2.St), (∀ j ∈ us, τ.set j none = τ) → wipe τ us = τ := by
  intro us
  induction us with
  | nil => intro τ _; rfl
  | cons u us ih =>
    intro τ hτ
    show (wipe τ us).set u none = τ
    rw [ih τ fun j hj => hτ j (List.mem_cons_of_mem _ hj)]
    exact hτ u List.mem_cons_self
theorem wipe_wipe (vs : List Nat) (σ : L2.St) : wipe (wipe σ vs) vs = wipe σ vs := wipe_id vs _ fun j hj => wipe_unset vs j σ hj
theorem lc_ok {K : PySem.W.Frag} {Δ : Tb} {mu : Bool} {elt : E} {own : List (Str × Nat)} {tg : Tg} {it : It} {iff : T} (tgi : tgIn (own.map (·.2)) tg = true) {σ : L2.St} {H : Hp} {Q : VK} (h : tE K Δ (.lc mu elt own tg it iff) σ H Q) :
    tLc (tI K Δ it) (gT K tg) (tT K Δ iff) (tE K Δ elt) (own.map (·.2)) σ H Q := by
  obtain ⟨F, G, ρ, σw, L, S, r, w, L', S', e, fin⟩ := h
  obtain ⟨xs, L1, S1, h1, h2⟩ := R.bind_inv (show (evIt Δ it σw L S).bind _ = _ from e)
  generalize own.map (·.2) = vs at *
  obtain ⟨ys, L2', S2, h3, h4⟩ := R.bind_inv (show (turns (lcF Δ elt vs tg iff σw) xs [] L1 S1).bind _ = _ from h2)
  refine ⟨F, G, ρ, σw, L, S, r, xs, L1, S1, h1, fun G1 ρ1 H1 J r1 p1 s1 itok => ?_⟩
  intro D hD
  have h0 : F.H0 D = none := r1.h0none hD
  have ns : NotS F.sa D := fun a c q => by
    obtain ⟨k1, _⟩ := r1.src a c q
    constructor
    · intro z
      rw [z, k1.dic] at hD
      cases hD
    · intro z
      rw [z, k1.cel] at hD
      cases hD
  have gD1 : G1 D = none := gnone r1.gh hD
  have nD1 : D ∉ ρ1 := fun z => by
    obtain ⟨j, hj⟩ := List.getElem?_of_mem z
    exact (r1.loc j D hj).2.1 hD
  refine ⟨fun i m H => i ≤ xs.length ∧ m = xs.length - i ∧ ∃ G ρ L S acc, LcI K F G1 ρ1 σw σ D G ρ L S H acc ∧ turns (lcF Δ elt vs tg iff σw) (xs.drop i) acc L S = .ok ys L2' S2, ⟨xs.length, Nat.zero_le _, rfl, G1, ρ1, L1, S1, [], ⟨r1.other h0 gD1 nD1 ns, List.prefix_refl _, Same.refl _, gD1, nD1, [], upd_same, .nil⟩, h3⟩, ?_⟩
  rintro i m H ⟨hi, rfl, G2, ρ2, Lb, S2', acc, I, ht⟩
  obtain ⟨js, jg⟩ := itok G2 H I.sm I.rel.gh i
  cases hx : xs[i]? with
  | none =>
    have hl : xs.length ≤ i := List.getElem?_eq_none_iff.mp hx
    refine .inl ⟨js hl, ?_⟩
    rw [List.drop_eq_nil_of_le hl] at ht
    cases ht
    obtain ⟨us, e1, e2⟩ := I.hD
    cases mu with
    | true =>
      simp only [if_true] at h4
      cases h4
      obtain ⟨r2, p2⟩ := I.rel.mine2 (o := .lst ys) h0 I.gD I.nD ns e1 ⟨us, e1, e2⟩
      refine fin _ _ _ _ r2 (p1.trans (I.pre.trans p2)) (s1.trans I.sm) ⟨D, ?_, rfl⟩
      rw [← I.rel.rl, List.getElem?_append_right (Nat.le_refl _)]
      simp
    | false =>
      simp only [Bool.false_eq_true, if_false] at h4
      cases h4
      obtain ⟨r2, p2⟩ := I.rel.data2 h0 I.gD I.nD ns e1
      exact fin _ _ _ _ r2 (p1.trans I.pre) (s1.trans (I.sm.trans p2)) (.lst upd_same (e2.mono p2))
  | some d =>
    have hlt : i < xs.length := (List.getElem?_eq_some_iff.mp hx).1
    obtain ⟨go, yl⟩ := jg d hx
    refine .inr ⟨go, fun H' => ∃ G ρ L S acc, LcI K F G1 ρ1 σw σ D G ρ L S H' acc ∧ turns (lcF Δ elt vs tg iff σw) (xs.drop (i + 1)) acc L S = .ok ys L2' S2, ?_, ?_⟩
    · rintro H' ⟨G, ρ, L, S, acc, I', t'⟩
      exact ⟨xs.length - (i + 1), by omega, hlt, rfl, G, ρ, L, S, acc, I', t'⟩
    rw [List.drop_eq_getElem_cons hlt] at ht
    have ed : xs[i] = d := by
      rw [List.getElem?_eq_getElem hlt] at hx
      exact Option.some.inj hx
    rw [ed] at ht
    obtain ⟨o, L3, S3, k1, k2⟩ := R.bind_inv (show (lcF Δ elt vs tg iff σw d Lb S2').bind _ = _ from ht)
    intro x H' hy
    -- the item
    obtain ⟨G3, I3, dx⟩ : ∃ G3, LcI K F G1 ρ1 σw σ D G3 ρ2 Lb S2' H' acc ∧ Dt K G3 x d := by
      rcases yl x H' hy with ⟨rfl, q⟩ | ⟨p, ob, q1, rfl, q2⟩
      · exact ⟨G2, I, q⟩
      · obtain ⟨r3, s3⟩ := I.rel.data (o := ob) q1
        obtain ⟨us, e1, e2⟩ := I.hD
        have np : D ≠ p := fun z => by rw [z, q1] at e1; cases e1
        exact ⟨_, ⟨r3, I.pre, I.sm.trans s3, by rw [upd_ne np]; exact I.gD, I.nD, us, by rw [upd_ne np]; exact e1, e2.mono s3⟩, q2⟩
    clear hy yl go jg js
    obtain ⟨us, e1, e2⟩ := I3.hD
    have re := I3.rel.re
    unfold lcF at k1
    split at k1
    · cases k1
    · rename_i σ2 hb
      refine ⟨F.re G3 H' ρ2, G3, ρ2, wipeW σw vs, Lb, S2', d, σ2, re.wipe vs, dx, hb, fun τ rτ wτ => ⟨(wτ vs tgi).trans (wipe_wipe vs σ), ?_⟩⟩
      obtain ⟨c, L4, S4, k3, k4⟩ := R.bind_inv k1
      refine tts rτ k3 fun G4 ρ4 H4 r4 p4 s4 => ?_
      cases c with
      | false =>
        simp only [Bool.false_eq_true, if_false] at k4 ⊢
        cases k4
        have k2 : turns (lcF Δ elt vs tg iff σw) (xs.drop (i + 1)) acc L3 S3 = .ok ys L2' S2 := k2
        obtain ⟨z1, z2, z3⟩ := keepD r4 e1 I3.gD I3.nD ns
        exact ⟨G4, ρ4, L3, S3, acc, ⟨I3.rel.back (r4.slots re s4 p4), I3.pre.trans p4, I3.sm.trans s4, z2, z3, us, z1, e2.mono s4⟩, k2⟩
      | true =>
        simp only [if_true] at k4 ⊢
        obtain ⟨w5, L5, S5, k5, k6⟩ := R.bind_inv k4
        obtain ⟨k7, rfl, rfl⟩ := R.ofO_inv k6
        obtain ⟨dd, k8, rfl⟩ := Option.map_eq_some_iff.mp k7
        cases isD_inv k8
        refine t1 r4 k5 fun G5 ρ5 y H5 r5 p5 s5 hy => ?_
        obtain ⟨z1, z2, z3⟩ := keepD r5 e1 I3.gD I3.nD ns
        have k2 : (if acc.length < sizeLine then turns (lcF Δ elt vs tg iff σw) (xs.drop (i + 1)) (acc ++ [dd]) L5 S5 else .st) = .ok ys L2' S2 := k2
        split at k2
        · rename_i hz
          refine ⟨us, z1, by rw [e2.length]; exact hz, G5, ρ5, L5, S5, acc ++ [dd], ⟨?_, I3.pre.trans (p4.trans p5), I3.sm.trans (s4.trans s5), z2, z3, _, upd_same, (e2.mono (s4.trans s5)).append (.cons hy .nil)⟩, k2⟩
          exact (I3.rel.back (r5.slots re (s4.trans s5) (p4.trans p5))).other h0 z2 z3 ns
        · cases k2
/-! ## the drawing -/
theorem subKey_eq {k : Str} {x : Expr} {n : Str} {p : Pos} (h : subKey k x = some (n, p)) : ∃ j p2 p3, x = .Subscript (.Name n p) (.Constant (.str k) j p2) p3 := by
  unfold subKey at h
  split at h
  · rename_i e
    split at h
    · rename_i e2
      subst e2
      cases h
      exact ⟨_, _, _, asSub_eq e⟩
    · cases h
  · cases h
abbrev srcKvs (c : Addr) (S : Src) : List (Key × V) := [(Sum.inr "cells", .ref c), (Sum.inr "left", .int S.left), (Sum.inr "mixed", .int S.mixed), (Sum.inr "turn", .int S.turn)]
section
variable {K : PySem.W.Frag} {F : Fr} {G H : Hp} {ρ : List Addr} {σw : List W} {L : Lo} {S : Src} {σ : L2.St} {a c : Addr}
theorem SrcAt.ne (h : SrcAt H a c S) : a ≠ c := fun z => by
  have h1 := h.dic
  rw [z, h.cel] at h1
  cases h1
theorem src_at (r : Rel K F G ρ σw L S σ H) {v : Nat} (h : isSrc σw v = true) : ∃ a c, F.sa = some (a, c) ∧ σ[v]? = some (some (.ref a)) ∧ SrcAt H a c S := by
  unfold isSrc at h
  split at h
  · rename_i e
    obtain ⟨u, h1, a, c, h2, rfl⟩ := r.slot v _ e (fun z => by cases z)
    exact ⟨a, c, h2, h1, (r.src a c h2).1⟩
  · cases h
/-- one of the two objects of the drawing changes -/
theorem Rel.draw (r : Rel K F G ρ σw L S σ H) (e : F.sa = some (a, c)) {D : Addr} {o : HO} {S' : Src} (hD : D = a ∨ D = c) (hs : SrcAt (upd H D o) a c S') : Rel K F G ρ σw L S' σ (upd H D o) := by
  obtain ⟨h1, h2, h3, h4, h5⟩ := r.src a c e
  have gD : G D = none := by
    rcases hD with z | z
    · rw [z]; exact h2
    · rw [z]; exact h3
  have rD : D ∉ ρ := by
    rcases hD with z | z
    · rw [z]; exact h4
    · rw [z]; exact h5
  have ne : ∀ {j : Nat} {b : Addr}, ρ[j]? = some b → b ≠ D := fun h z => rD (z ▸ List.mem_of_getElem? h)
  refine ⟨fun b u q => ?_, r.sl, r.slot, r.rl, r.nd, fun j b q => ?_, r.pre, fun a' c' q => ?_, fun b u q hb hc => ?_, r.g0, r.gn⟩
  · rw [upd_ne (ne_of_none q gD)]
    exact r.gh _ _ q
  · obtain ⟨k1, k2, k3⟩ := r.loc j b q
    refine ⟨k1, by rw [upd_ne (ne q)]; exact k2, fun ob eo => ?_⟩
    obtain ⟨k4, k5⟩ := k3 ob eo
    exact ⟨k4, k5.mono (Same.refl _) (upd_ne (ne q))⟩
  · rw [e] at q
    cases q
    exact ⟨hs, h2, h3, h4, h5⟩
  · have hd : b ≠ D := fun z => by
      obtain ⟨n1, n2⟩ := hb a c e
      rcases hD with y | y
      · exact n1 (z.trans y)
      · exact n2 (z.trans y)
    rw [upd_ne hd]
    exact r.fram b u q hb hc
theorem get_fld {f : SF} : valV (srcKvs c S) (.inr f.name) = some (.int (S.get f)) := by
  cases f <;> rfl
theorem put_fld {f : SF} {i : Int} : putK (srcKvs c S) (.inr f.name) (.int i) = srcKvs c (S.put i f) := by
  cases f <;> rfl
theorem get_cells : valV (srcKvs c S) (.inr "cells") = some (.ref c) := rfl
end
section
variable {Δ : Tb} {k : Nat} {X : Cx} {p q : Pos}
theorem pe_key (g : Good Δ k X) {v : Nat} {n : Str} {z : Str} {j : Nat} {p1 p2 p3 : Pos} (h1 : X.N[v]? = some n) (h2 : visB X.env.scope n = true) (h3 : plainN n = true) : PE X (.Subscript (.Name n p1) (.Constant (.str z) j p2) p3) (tDGet (tVar v) (tC (.str z))) :=
  pe_dget (by have := g.u; omega) (pe_var h1 (visB_ok h2) (plainN_ok h3).1 (plainN_ok h3).2) pe_str (fun _ _ => rfl)
theorem e_sget (g : Good Δ k X) {v : Nat} {f : SF} {n : Str} {j : Nat} {p1 p2 p3 : Pos} (h1 : X.N[v]? = some n) (h2 : visB X.env.scope n = true) (h3 : plainN n = true) : PE X (.Subscript (.Name n p1) (.Constant (.str f.name) j p2) p3) (tE X.K Δ (.sget v f)) := by
  refine (pe_key g h1 h2 h3).imp fun σ H Q ⟨F, G, ρ, σw, L, S, r, w, L', S', e, fin⟩ => ?_
  unfold ev at e
  split at e
  · rename_i hs
    cases e
    obtain ⟨a, c, e1, e2, sa⟩ := src_at r hs
    refine ⟨_, e2, a, _, rfl, ?_, fin _ _ _ _ r (List.prefix_refl _) (Same.refl _) (Dt.int _)⟩
    have z := DGet.k (k := .inr f.name) sa.dic
    rw [get_fld] at z
    exact z
  · cases e
theorem e_slen (g : Good Δ k X) {v : Nat} {n : Str} {j : Nat} {p0 p1 p2 p3 : Pos} (hg : glB X.env.scope "len" = true) (h1 : X.N[v]? = some n) (h2 : visB X.env.scope n = true) (h3 : plainN n = true) :
    PE X (.Call (.Name "len" p0) [.Subscript (.Name n p1) (.Constant (.str "cells") j p2) p3] [] q) (tE X.K Δ (.slen v)) := by
  refine (pe_callB call_len (glB_ok hg) (g.free _ (by decide)) boot_len (pa_cons (pe_key g h1 h2 h3) pa_nil)).imp fun σ H Q ⟨F, G, ρ, σw, L, S, r, w, L', S', e, fin⟩ => ?_
  unfold ev at e
  split at e
  · rename_i hs
    cases e
    obtain ⟨a, c, e1, e2, sa⟩ := src_at r hs
    refine ⟨_, e2, a, .ref c, rfl, ?_, .ref c, S.cells.length, rfl, .inl ⟨_, .of sa.cel, by rw [List.length_map]⟩, fin _ _ _ _ r (List.prefix_refl _) (Same.refl _) (Dt.int _)⟩
    have z := DGet.k (k := .inr "cells") sa.dic
    rw [get_cells] at z
    exact z
  · cases e
theorem e_spop (g : Good Δ k X) {v : Nat} {n : Str} {j : Nat} {ap p1 p2 p3 : Pos} (h1 : X.N[v]? = some n) (h2 : visB X.env.scope n = true) (h3 : plainN n = true) (hl : (ap.endLine == p.line) = true) :
    PE X (.Call (.Attribute (.Subscript (.Name n p1) (.Constant (.str "cells") j p2) p3) "pop" ap) [] [] p) (tE X.K Δ (.spop v)) := by
  refine (pe_bm0 PySem.F.plainAttrs_list PySem.F.slot_list_pop PySem.F.type_list_pop mt_pop (pe_key g h1 h2 h3) (by rfl) hl).imp fun σ H Q ⟨F, G, ρ, σw, L, S, r, w, L', S', e, fin⟩ => ?_
  unfold ev at e
  split at e
  · rename_i hs
    split at e
    · rename_i y hy
      cases e
      obtain ⟨a, c, e1, e2, sa⟩ := src_at r hs
      have z := DGet.k (k := .inr "cells") sa.dic
      rw [get_cells] at z
      refine ⟨_, e2, a, .ref c, rfl, z, .inl ⟨rfl, _, .of sa.cel⟩, c, _, .int y, rfl, rfl, sa.cel, ?_, ?_⟩
      · rw [List.length_map, List.getElem?_map, hy]
        rfl
      · refine fin _ _ _ _ (r.draw e1 (.inr rfl) ⟨?_, ?_⟩) (List.prefix_refl _) (Same.refl _) (Dt.int _)
        · rw [upd_ne sa.ne]
          exact sa.dic
        · rw [upd_same, List.dropLast_eq_take, List.dropLast_eq_take, List.map_take, List.length_map]
    · cases e
  · cases e
end
end Dk
end
section
set_option Elab.async false
set_option linter.all false
set_option maxRecDepth 100000
set_option maxHeartbeats 4000000
set_option autoImplicit false
namespace Dk
open PySem PySem.Spec PyProof.Rows L2
theorem noSet_it {x : Expr} (h : noSet x = true) {env : Env} : ∀ v, foldedSetIterable x env v = pure v := by
  intro v
  cases x <;> first | rfl | cases h
theorem chkIt_noSet {N : List Str} {it : It} {sc : Scope} {t x : Expr} (h : chkIt N it sc t x = true) : noSet x = true := by
  cases it with
  | seq e => exact (and2 (show (noSet x && chkE N e sc x) = true from h)).1
  | rng es => cases x <;> first | rfl | simp [chkIt, asCall] at h
  | enum e => cases x <;> first | rfl | simp [chkIt, asCall] at h
  | zip a b => cases x <;> first | rfl | simp [chkIt, asCall] at h
theorem asTuple_some {t : Expr} (h : (asTuple t).isSome = true) : ∃ es k p, t = .Tuple es k p := by
  cases t <;> simp [asTuple] at h
  exact ⟨_, _, _, rfl⟩
theorem rev_eq {x : Expr} {N : List Str} {a : E} {sc : Scope} (h : chkE N (.rev a) sc x = true) : ∃ y j p1 p2 p3 p, x = .Subscript y (.Slice none none (some (.UnaryOp .USub (.Constant (.int 1) j p1) p2)) p3) p ∧ chkE N a sc y = true := by
  have h : (match asSub x with
    | some (y, .Slice none none (some (.UnaryOp .USub (.Constant (.int 1) _ _) _)) _, _) => chkE N a sc y
    | _ => false) = true := h
  cases e : asSub x with
  | none => rw [e] at h; cases h
  | some r =>
    obtain ⟨y, z, p⟩ := r
    rw [e] at h
    have hx := asSub_eq e
    split at h
    · rename_i h1
      cases h1
      exact ⟨_, _, _, _, _, _, hx, h⟩
    · cases h
/-- a comprehension by its parts -/
theorem e_lc {Δ : Tb} {k : Nat} {X : Cx} (g : Good Δ k X) {elt : E} {own : List (Str × Nat)} {tg : Tg} {it : It} {iff : T} {e t i : Expr} {fs : List Expr} {s : Scope}
    (hb : blkC X.N X.env.scope s own = true) (ht : tgIn (own.map (·.2)) tg = true) (hg : chkTg X.N (fun n => s.names.lookup n == some .cell) (relS s X.env.scope) tg t = true) (hi : PI X t i (tI X.K Δ it)) (hs : noSet i = true)
    (hf : ∀ (X' : Cx), Good Δ k X' → X'.N = X.N → X'.env.scope = relS s X.env.scope → PTs X' fs (tT X'.K Δ iff)) (he : ∀ (X' : Cx), Good Δ k X' → X'.N = X.N → X'.env.scope = relS s X.env.scope → PE X' e (tE X'.K Δ elt)) :
    PI X t i (tI X.K Δ it) ∧ BlkOk X.N X.env.scope s own ∧ (∀ (s1 : Shared) (H : Hp) (C : Addr) (cl : List (Str × Addr)) (fp : List Addr), PG (X.blk s1 H s (compEnvC s cl C X.env) fp) t (gT X.K tg)) ∧
    (∀ (s1 : Shared) (H : Hp) (C : Addr) (cl : List (Str × Addr)) (fp : List Addr), PTs (X.blk s1 H s (compEnvC s cl C X.env) fp) fs (tT X.K Δ iff)) ∧ (∀ (s1 : Shared) (H : Hp) (C : Addr) (cl : List (Str × Addr)) (fp : List Addr), PE (X.blk s1 H s (compEnvC s cl C X.env) fp) e (tE X.K Δ elt)) := by
  have hk : s.kind = .function := by
    unfold blkC at hb
    simp only [Bool.and_eq_true] at hb
    have := hb.1.1.1
    split at this
    · assumption
    · cases this
  have ok := blkOk_by hb
  have gb : ∀ (s1 : Shared) (H : Hp) (C : Addr) (cl : List (Str × Addr)) (fp : List Addr), Good Δ k (X.blk s1 H s (compEnvC s cl C X.env) fp) := fun s1 H C cl fp => g.blk s1 H C cl fp hk
  exact ⟨hi, ok, fun s1 H C cl fp => sndTg tg (gb s1 H C cl fp) (fun x h => h) t hg, fun s1 H C cl fp => hf _ (gb s1 H C cl fp) rfl rfl, fun s1 H C cl fp => he _ (gb s1 H C cl fp) rfl rfl⟩
mutual
theorem sndE {Δ : Tb} {k : Nat} : ∀ (e : E) {X : Cx} (g : Good Δ k X) (x : Expr), chkE X.N e X.env.scope x = true → PE X x (tE X.K Δ e)
  | .var i, X, g, x, h => by
    unfold chkE at h
    cases e : asName x with
    | none => rw [e] at h; cases h
    | some r =>
      obtain ⟨n, p⟩ := r
      rw [e] at h
      rw [asName_eq e]
      obtain ⟨h1, h2⟩ := and2 h
      obtain ⟨h2, h3⟩ := and2 h2
      exact e_var g (of_decide_eq_true h1) h2 h3
  | .int i, X, g, x, h => by
    unfold chkE at h
    split at h
    · rename_i e
      rw [asConst_eq e]
      cases of_decide_eq_true h
      exact e_const (fun _ _ _ => rfl) (fun _ _ => .int _) pe_int
    · cases h
  | .bl b, X, g, x, h => by
    unfold chkE at h
    split at h
    · rename_i e
      rw [asConst_eq e]
      cases of_decide_eq_true h
      exact e_const (fun _ _ _ => rfl) (fun _ _ => .bl _) pe_bl
    · cases h
  | .non, X, g, x, h => by
    unfold chkE at h
    split at h
    · rename_i e
      rw [asConst_eq e]
      exact e_const (fun _ _ _ => rfl) (fun _ _ => .non) pe_non
    · cases h
  | .str z, X, g, x, h => by
    unfold chkE at h
    split at h
    · rename_i e
      rw [asConst_eq e]
      cases of_decide_eq_true h
      exact e_const (fun _ _ _ => rfl) (fun _ _ => .str _) pe_str
    · cases h
  | .neg a, X, g, x, h => by
    unfold chkE at h
    split at h
    · rename_i e
      rw [asUn_eq e]
      exact e_neg (sndE a g _ h)
    · cases h
  | .notv a, X, g, x, h => by
    unfold chkE at h
    split at h
    · rename_i e
      rw [asUn_eq e]
      exact e_notv (sndE a g _ h)
    · cases h
  | .bop o a b, X, g, x, h => by
    unfold chkE at h
    split at h
    · rename_i e
      rw [asBin_eq e]
      obtain ⟨h1, h2⟩ := and2 h
      obtain ⟨h2, h3⟩ := and2 h2
      exact e_bop h1 (sndE a g _ h2) (sndE b g _ h3)
    · cases h
  | .addM a b, X, g, x, h => by
    unfold chkE at h
    split at h
    · rename_i e
      rw [asBin_eq e]
      obtain ⟨h1, h2⟩ := and2 h
      exact e_addM (sndE a g _ h1) (sndE b g _ h2)
    · cases h
  | .cmp o a b, X, g, x, h => by
    unfold chkE at h
    split at h
    · rename_i e
      rw [asCmp_eq e]
      obtain ⟨h1, h2⟩ := and2 h
      obtain ⟨h2, h3⟩ := and2 h2
      obtain ⟨h3, h4⟩ := and2 h3
      exact e_cmp g h1 h2 (sndE a g _ h3) (sndE b g _ h4)
    · cases h
  | .chain o o' a b c, X, g, x, h => by
    unfold chkE at h
    split at h
    · rename_i e
      rw [asCmp_eq e]
      obtain ⟨h1, h2⟩ := and2 h
      obtain ⟨h2, h3⟩ := and2 h2
      obtain ⟨h3, h4⟩ := and2 h3
      obtain ⟨h4, h5⟩ := and2 h4
      obtain ⟨h5, h6⟩ := and2 h5
      obtain ⟨h6, h7⟩ := and2 h6
      exact e_chain g h1 h2 h3 h4 (sndE a g _ h5) (sndE b g _ h6) (sndE c g _ h7)
    · cases h
  | .and a b, X, g, x, h => by
    unfold chkE at h
    split at h
    · rename_i e
      rw [asBool_eq e]
      obtain ⟨h1, h2⟩ := and2 h
      exact e_and (sndE a g _ h1) (pe_one (sndE b g _ h2))
    · rename_i e
      rw [asBool_eq e]
      obtain ⟨h1, h2⟩ := and2 h
      exact e_and (sndE a g _ h1) (sndE b g _ h2)
    · cases h
  | .or a b, X, g, x, h => by
    unfold chkE at h
    split at h
    · rename_i e
      rw [asBool_eq e]
      obtain ⟨h1, h2⟩ := and2 h
      exact e_or (sndE a g _ h1) (pe_one (sndE b g _ h2))
    · rename_i e
      rw [asBool_eq e]
      obtain ⟨h1, h2⟩ := and2 h
      exact e_or (sndE a g _ h1) (sndE b g _ h2)
    · cases h
  | .ife c a b, X, g, x, h => by
    unfold chkE at h
    split at h
    · rename_i e
      rw [asIf_eq e]
      obtain ⟨h1, h2⟩ := and2 h
      obtain ⟨h2, h3⟩ := and2 h2
      exact e_ife (sndT c g _ h1).1 (sndE a g _ h2) (sndE b g _ h3)
    · cases h
  | .tup es, X, g, x, h => by
    unfold chkE at h
    split at h
    · rename_i e
      rw [asTuple_eq e]
      exact e_tup (sndEs es g _ h)
    · cases h
  | .lst mu es, X, g, x, h => by
    unfold chkE at h
    split at h
    · rename_i e
      rw [asList_eq e]
      exact e_lst (sndEs es g _ h)
    · cases h
  | .dnew, X, g, x, h => by
    unfold chkE at h
    cases h
  | .call f es, X, g, x, h => by
    unfold chkE at h
    split at h
    · rename_i e
      rw [asCall_eq e]
      obtain ⟨h1, h2⟩ := and2 h
      obtain ⟨h2, h3⟩ := and2 h2
      obtain ⟨h3, h4⟩ := and2 h3
      cases of_decide_eq_true h1
      exact e_call g h2 h3 h4 (sndEs es g _ h4)
    · cases h
  | .bf f es, X, g, x, h => by
    unfold chkE at h
    split at h
    · rename_i e
      rw [asCall_eq e]
      obtain ⟨h1, h2⟩ := and2 h
      obtain ⟨h2, h3⟩ := and2 h2
      cases of_decide_eq_true h1
      exact e_bf g h2 h3 (sndEs es g _ h3)
    · cases h
  | .isi a t, X, g, x, h => by
    unfold chkE at h
    split at h
    · rename_i e
      rw [asCall_eq e]
      obtain ⟨h1, h2⟩ := and2 h
      obtain ⟨h2, h3⟩ := and2 h2
      obtain ⟨h3, h4⟩ := and2 h3
      cases of_decide_eq_true h1
      split at h4
      · rename_i e2
        obtain ⟨h5, h6⟩ := and2 h4
        cases of_decide_eq_true h5
        rw [asName_eq e2]
        exact e_isi g h2 h6 (noStarE h3) (sndE a g _ h3)
      · cases h4
    · cases h
  | .ix a i, X, g, x, h => by
    unfold chkE at h
    split at h
    · rename_i e
      rw [asSub_eq e]
      obtain ⟨h1, h2⟩ := and2 h
      obtain ⟨h2, h3⟩ := and2 h2
      exact e_ix (by simpa using h1) (sndE a g _ h2) (sndE i g _ h3)
    · cases h
  | .dget v kk, X, g, x, h => by
    unfold chkE at h
    cases h
  | .sl a lo hi, X, g, x, h => by
    unfold chkE at h
    split at h
    · rename_i e
      obtain ⟨h1, h2⟩ := and2 h
      split at h2
      · rename_i e2
        rw [asSub_eq e, asSlice_eq e2]
        obtain ⟨h2, h3⟩ := and2 h2
        exact e_sl (sndE a g _ h1) (sndO lo g _ h2) (sndO hi g _ h3)
      · cases h2
    · cases h
  | .rev a, X, g, x, h => by
    obtain ⟨y, j, p1, p2, p3, p, rfl, h2⟩ := rev_eq h
    exact e_rev (sndE a g _ h2)
  | .lc mu elt own tg it iff, X, g, x, h => by
    unfold chkE at h
    split at h
    · rename_i fs sc' _ e
      rw [asLc_eq e]
      obtain ⟨h1, h2⟩ := and2 h
      obtain ⟨h2, h3⟩ := and2 h2
      obtain ⟨h3, h4⟩ := and2 h3
      obtain ⟨h4, h5⟩ := and2 h4
      obtain ⟨h5, h6⟩ := and2 h5
      have hf : ∀ (X' : Cx), Good Δ k X' → X'.N = X.N → X'.env.scope = relS sc' X.env.scope → PTs X' fs (tT X'.K Δ iff) := fun X' g' eN eS => by
        rcases fs with _ | ⟨f, _ | ⟨f2, fs⟩⟩
        · have ei : iff = .tt := by
            cases iff <;> first | rfl | cases h6
          subst ei
          exact pts_nil.imp fun σ H Q ⟨F, G, ρ, σw, L, S, r, w, L', S', e, fin⟩ => by
            cases e
            exact fin _ _ _ r (List.prefix_refl _) (Same.refl _)
        · have h7 : chkT X.N iff (relS sc' X.env.scope) f = true := by
            cases iff <;> first | exact h6 | cases h6
          exact pts_one (sndT iff g' _ (by rw [eN, eS]; exact h7)).1
        · cases h6
      obtain ⟨k1, k2, k3, k4, k5⟩ := e_lc g h1 h2 h3 (sndIt it g _ _ h4) (chkIt_noSet h4) hf fun X' g' eN eS => sndE elt g' _ (by rw [eN, eS]; exact h5)
      exact (pe_lc g.calm g.nd k1 k2 k3 k4 k5 (noSet_it (chkIt_noSet h4))).imp fun σ H Q q => lc_ok h2 q
    · cases h
  | .bits a, X, g, x, h => by
    unfold chkE at h
    split at h
    · rename_i e
      rw [asMeth_eq e]
      obtain ⟨h1, h2⟩ := and2 h
      obtain ⟨h2, h3⟩ := and2 h2
      obtain ⟨h3, h4⟩ := and2 h3
      cases of_decide_eq_true h1
      exact e_bits (by simpa using h2) h4 (sndE a g _ h3)
    · cases h
  | .pop v i, X, g, x, h => by
    unfold chkE at h
    split at h
    · rename_i e
      rw [asMeth_eq e]
      obtain ⟨h1, hl⟩ := and2 h
      have hline := (and2 hl).1
      obtain ⟨h3, h4⟩ := and2 (and2 hl).2
      clear h hl
      cases of_decide_eq_true h1
      split at h3
      · rename_i e2
        rw [asName_eq e2]
        obtain ⟨h5, h6⟩ := and2 h3
        obtain ⟨h6, h7⟩ := and2 h6
        split at h4
        · cases i with
          | none => exact e_pop0 g (of_decide_eq_true h5) h6 h7 hline
          | some _ => cases h4
        · split at h4
          · rename_i e3
            rw [asConst_eq e3]
            cases of_decide_eq_true h4
            exact e_popA g (of_decide_eq_true h5) h6 h7 hline
          · cases h4
        · cases h4
      · cases h3
    · cases h
  | .sget v f, X, g, x, h => by
    unfold chkE at h
    split at h
    · rename_i e
      obtain ⟨j, p2, p3, rfl⟩ := subKey_eq e
      obtain ⟨h1, h2⟩ := and2 h
      obtain ⟨h2, h3⟩ := and2 h2
      exact e_sget g (of_decide_eq_true h1) h2 h3
    · cases h
  | .slen v, X, g, x, h => by
    unfold chkE at h
    split at h
    · rename_i e
      rw [asCall_eq e]
      obtain ⟨ha, hz⟩ := and2 h
      obtain ⟨hb, hy⟩ := and2 hz
      clear h hz
      cases of_decide_eq_true ha
      split at hy
      · rename_i e2
        obtain ⟨j, p2, p3, rfl⟩ := subKey_eq e2
        obtain ⟨h1, h2⟩ := and2 hy
        obtain ⟨h2, h3⟩ := and2 h2
        exact e_slen g hb (of_decide_eq_true h1) h2 h3
      · cases hy
    · cases h
  | .spop v, X, g, x, h => by
    unfold chkE at h
    split at h
    · rename_i e
      rw [asMeth_eq e]
      obtain ⟨ha, hz⟩ := and2 h
      obtain ⟨hb, hy⟩ := and2 hz
      clear h hz
      cases of_decide_eq_true ha
      split at hy
      · rename_i e2
        obtain ⟨j, p2, p3, rfl⟩ := subKey_eq e2
        obtain ⟨h1, h2⟩ := and2 hy
        obtain ⟨h2, h3⟩ := and2 h2
        exact e_spop g (of_decide_eq_true h1) h2 h3 hb
      · cases hy
    · cases h
  | .glo z, X, g, x, h => by
    unfold chkE at h
    split at h
    · rename_i e
      rw [asName_eq e]
      obtain ⟨h1, h2⟩ := and2 h
      obtain ⟨h2, h3⟩ := and2 h2
      cases of_decide_eq_true h1
      exact e_glo g h2 h3
    · cases h
  | .idx a e, X, g, x, h => by
    unfold chkE at h
    split at h
    · rename_i em
      rw [asMeth_eq em]
      obtain ⟨h1, ha⟩ := and2 h
      obtain ⟨h2, hb⟩ := and2 ha
      obtain ⟨h3, hc⟩ := and2 hb
      obtain ⟨h4, h5⟩ := and2 hc
      clear h ha hb hc
      cases of_decide_eq_true h1
      exact e_idx g ((Bool.not_eq_true' _).mp h2) h4 (noStarE h5) (sndE a g _ h3) (sndE e g _ h5)
    · cases h
  | .lrng1 mu hi, X, g, x, h => by
    unfold chkE at h
    split at h
    · rename_i ea
      rw [asCall_eq ea]
      obtain ⟨h1, ha⟩ := and2 h
      obtain ⟨h2, hb⟩ := and2 ha
      clear h ha
      cases of_decide_eq_true h1
      split at hb
      · rename_i eb
        rw [asCall_eq eb]
        obtain ⟨h3, hc⟩ := and2 hb
        obtain ⟨h4, h5⟩ := and2 hc
        clear hb hc
        cases of_decide_eq_true h3
        exact e_lrng1 g h2 h4 (noStarE h5) (sndE hi g _ h5)
      · cases hb
    · cases h
  | .lrng2 mu lo hi, X, g, x, h => by
    unfold chkE at h
    split at h
    · rename_i ea
      rw [asCall_eq ea]
      obtain ⟨h1, ha⟩ := and2 h
      obtain ⟨h2, hb⟩ := and2 ha
      clear h ha
      cases of_decide_eq_true h1
      split at hb
      · rename_i eb
        rw [asCall_eq eb]
        obtain ⟨h3, hc⟩ := and2 hb
        obtain ⟨h4, hd⟩ := and2 hc
        obtain ⟨h5, h6⟩ := and2 hd
        clear hb hc hd
        cases of_decide_eq_true h3
        exact e_lrng2 g h2 h4 (noStarE h5) (noStarE h6) (sndE lo g _ h5) (sndE hi g _ h6)
      · cases hb
    · cases h
  | .popE v e, X, g, x, h => by
    unfold chkE at h
    split at h
    · rename_i em
      rw [asMeth_eq em]
      obtain ⟨h1, ha⟩ := and2 h
      obtain ⟨h2, hb⟩ := and2 ha
      obtain ⟨h3, h4⟩ := and2 hb
      clear h ha hb
      cases of_decide_eq_true h1
      split at h3
      · rename_i en
        rw [asName_eq en]
        obtain ⟨h5, h6⟩ := and2 h3
        obtain ⟨h6, h7⟩ := and2 h6
        exact e_popE g (of_decide_eq_true h5) h6 h7 h2 (noStarE h4) (sndE e g _ h4)
      · cases h3
    · cases h
theorem sndEs {Δ : Tb} {k : Nat} : ∀ (es : Es) {X : Cx} (g : Good Δ k X) (xs : List Expr), chkEs X.N es X.env.scope xs = true → PA X xs (tEs X.K Δ es)
  | .nil, X, g, xs, h => by
    cases xs with
    | cons _ _ => simp [chkEs] at h
    | nil =>
      refine pa_nil.imp fun σ H Q ⟨F, G, ρ, σw, L, S, r, w, L', S', e, fin⟩ => ?_
      cases e
      exact fin _ _ _ _ r (List.prefix_refl _) (Same.refl _) .nil
  | .cons a es, X, g, xs, h => by
    cases xs with
    | nil => simp [chkEs] at h
    | cons y ys =>
      have hs := noStarEs h
      obtain ⟨h1, h2⟩ := and2 (show (chkE X.N a X.env.scope y && chkEs X.N es X.env.scope ys) = true from h)
      refine (pa_cons (sndE a g _ h1) (sndEs es g _ h2) (star_of (hs y List.mem_cons_self))).imp fun σ H Q ⟨F, G, ρ, σw, L, S, r, w, L', S', e, fin⟩ => ?_
      obtain ⟨x, L1, S1, k1, k2⟩ := R.bind_inv (show (ev Δ a σw L S).bind _ = _ from e)
      obtain ⟨ws, L2', S2, k3, k4⟩ := R.bind_inv k2
      cases k4
      exact t1 r k1 fun G1 ρ1 v H1 r1 p1 s1 hv => tes r1 k3 fun G2 ρ2 vs H2 r2 p2 s2 hvs => fin _ _ _ _ r2 (p1.trans p2) (s1.trans s2) (.cons (hv.mono s2 p2) hvs)
theorem sndT {Δ : Tb} {k : Nat} : ∀ (e : T) {X : Cx} (g : Good Δ k X) (x : Expr), chkT X.N e X.env.scope x = true → PT X x (tT X.K Δ e) ∧ ∀ op es p, x = .BoolOp op es p → PW X x (tT X.K Δ e)
  | .tt, X, g, x, h => by
    unfold chkT at h
    cases h
  | .val e, X, g, x, h => by
    unfold chkT at h
    obtain ⟨h1, h2⟩ := and2 h
    refine ⟨(pt_truth (sndE e g _ h1) (isTrue_of h2)).imp fun σ H Q ⟨F, G, ρ, σw, L, S, r, w, L', S', e', fin⟩ => ?_, fun op es p z => by subst z; cases h2⟩
    obtain ⟨x, L1, S1, k1, k2⟩ := R.bind_inv (show (ev Δ e σw L S).bind _ = _ from e')
    obtain ⟨k3, rfl, rfl⟩ := R.ofO_inv k2
    obtain ⟨d, k4, k5⟩ := Option.bind_eq_some_iff.mp k3
    exact t1 r k1 fun G1 ρ1 v H1 r1 p1 s1 hv => ⟨w, truth_ok r1.gh (r1.view hv k4) k5, fin _ _ _ r1 p1 s1⟩
  | .cmp o a b, X, g, x, h => by
    unfold chkT at h
    split at h
    · rename_i e
      rw [asCmp_eq e]
      obtain ⟨h1, h2⟩ := and2 h
      obtain ⟨h2, h3⟩ := and2 h2
      obtain ⟨h3, h4⟩ := and2 h3
      exact ⟨tt_cmp g h1 h2 (sndE a g _ h3) (sndE b g _ h4), fun op es p z => by cases z⟩
    · cases h
  | .chain o o' a b c, X, g, x, h => by
    unfold chkT at h
    split at h
    · rename_i e
      rw [asCmp_eq e]
      obtain ⟨h1, h2⟩ := and2 h
      obtain ⟨h2, h3⟩ := and2 h2
      obtain ⟨h3, h4⟩ := and2 h3
      obtain ⟨h4, h5⟩ := and2 h4
      obtain ⟨h5, h6⟩ := and2 h5
      obtain ⟨h6, h7⟩ := and2 h6
      exact ⟨tt_chain g h1 h2 h3 h4 (sndE a g _ h5) (sndE b g _ h6) (sndE c g _ h7), fun op es p z => by cases z⟩
    · cases h
  | .and a b, X, g, x, h => by
    have im : ∀ σ H Q, tT X.K Δ (.and a b) σ H Q → tAnd (tT X.K Δ a) (tT X.K Δ b) σ H Q := fun σ H Q ⟨F, G, ρ, σw, L, S, r, w, L', S', e', fin⟩ => by
      obtain ⟨c, L1, S1, k1, k2⟩ := R.bind_inv (show (evT Δ a σw L S).bind _ = _ from e')
      refine tts r k1 fun G1 ρ1 H1 r1 p1 s1 => ?_
      split at k2
      · rename_i hc
        rw [if_pos hc]
        exact tts r1 k2 fun G2 ρ2 H2 r2 p2 s2 => fin _ _ _ r2 (p1.trans p2) (s1.trans s2)
      · rename_i hc
        cases k2
        rw [if_neg hc]
        exact fin _ _ _ r1 p1 s1
    unfold chkT at h
    split at h
    · rename_i p e
      rw [asBool_eq e]
      obtain ⟨h1, h2⟩ := and2 h
      have q := (pw_and (pos := p) (sndT a g _ h1).1 (pw_and1 (sndT b g _ h2).1)).imp im
      exact ⟨q.pt, fun _ _ _ _ => q⟩
    · rename_i p _ e
      rw [asBool_eq e]
      obtain ⟨h1, h2⟩ := and2 h
      have q := (pw_and (pos := p) (sndT a g _ h1).1 ((sndT b g _ h2).2 _ _ _ rfl)).imp im
      exact ⟨q.pt, fun _ _ _ _ => q⟩
    · cases h
  | .or a b, X, g, x, h => by
    have im : ∀ σ H Q, tT X.K Δ (.or a b) σ H Q → tOr (tT X.K Δ a) (tT X.K Δ b) σ H Q := fun σ H Q ⟨F, G, ρ, σw, L, S, r, w, L', S', e', fin⟩ => by
      obtain ⟨c, L1, S1, k1, k2⟩ := R.bind_inv (show (evT Δ a σw L S).bind _ = _ from e')
      refine tts r k1 fun G1 ρ1 H1 r1 p1 s1 => ?_
      split at k2
      · rename_i hc
        cases k2
        rw [if_pos hc]
        exact fin _ _ _ r1 p1 s1
      · rename_i hc
        rw [if_neg hc]
        exact tts r1 k2 fun G2 ρ2 H2 r2 p2 s2 => fin _ _ _ r2 (p1.trans p2) (s1.trans s2)
    unfold chkT at h
    split at h
    · rename_i p e
      rw [asBool_eq e]
      obtain ⟨h1, h2⟩ := and2 h
      have q := (pw_or (pos := p) (sndT a g _ h1).1 (pw_or1 (sndT b g _ h2).1)).imp im
      exact ⟨q.pt, fun _ _ _ _ => q⟩
    · rename_i p _ e
      rw [asBool_eq e]
      obtain ⟨h1, h2⟩ := and2 h
      have q := (pw_or (pos := p) (sndT a g _ h1).1 ((sndT b g _ h2).2 _ _ _ rfl)).imp im
      exact ⟨q.pt, fun _ _ _ _ => q⟩
    · cases h
  | .not a, X, g, x, h => by
    unfold chkT at h
    split at h
    · rename_i e
      rw [asUn_eq e]
      refine ⟨(pt_not (sndT a g _ h).1).imp fun σ H Q ⟨F, G, ρ, σw, L, S, r, w, L', S', e', fin⟩ => ?_, fun op es p z => by cases z⟩
      obtain ⟨c, L1, S1, k1, k2⟩ := R.bind_inv (show (evT Δ a σw L S).bind _ = _ from e')
      cases k2
      exact tts r k1 fin
    · cases h
theorem sndO {Δ : Tb} {k : Nat} : ∀ (e : O) {X : Cx} (g : Good Δ k X) (x : Option Expr), chkO X.N e X.env.scope x = true → PO X x (tO X.K Δ e)
  | .no, X, g, x, h => by
    cases x with
    | none => exact o_no
    | some _ => cases h
  | .so e, X, g, x, h => by
    cases x with
    | none => simp [chkO] at h
    | some y => exact o_so (sndE e g y h)
theorem sndIt {Δ : Tb} {k : Nat} : ∀ (e : It) {X : Cx} (g : Good Δ k X) (t x : Expr), chkIt X.N e X.env.scope t x = true → PI X t x (tI X.K Δ e)
  | .rng es, X, g, t, x, h => by
    unfold chkIt at h
    split at h
    · rename_i e
      rw [asCall_eq e]
      obtain ⟨h1, h2⟩ := and2 h
      obtain ⟨h2, h3⟩ := and2 h2
      obtain ⟨h3, h4⟩ := and2 h3
      cases of_decide_eq_true h1
      exact i_rng g h2 h3 (sndEs es g _ h3) h4
    · cases h
  | .seq e, X, g, t, x, h => i_seq (sndE e g x (and2 (show (noSet x && chkE X.N e X.env.scope x) = true from h)).2)
  | .enum e, X, g, t, x, h => by
    unfold chkIt at h
    split at h
    · rename_i e
      rw [asCall_eq e]
      obtain ⟨h1, ha⟩ := and2 h
      obtain ⟨hb, hc⟩ := and2 ha
      obtain ⟨hd, he⟩ := and2 hc
      clear ha hc h
      obtain ⟨es, kk, tp, rfl⟩ := asTuple_some he
      cases of_decide_eq_true h1
      exact i_enum g hb (noStarE hd) (sndE _ g _ hd)
    · cases h
  | .zip a b, X, g, t, x, h => by
    unfold chkIt at h
    split at h
    · rename_i e
      rw [asCall_eq e]
      obtain ⟨h1, ha⟩ := and2 h
      obtain ⟨hb, hc⟩ := and2 ha
      obtain ⟨hd, he⟩ := and2 hc
      obtain ⟨hf, hh⟩ := and2 he
      clear ha hc h he
      obtain ⟨es, kk, tp, rfl⟩ := asTuple_some hh
      cases of_decide_eq_true h1
      exact i_zip g hb (noStarE hd) (noStarE hf) (sndE a g _ hd) (sndE b g _ hf)
    · cases h
end
end Dk
end
section
set_option Elab.async false
set_option linter.all false
set_option maxRecDepth 100000
set_option maxHeartbeats 4000000
set_option autoImplicit false
namespace L2
open PySem PySem.Spec PyProof.Rows
theorem PS.imp {X : Cx} {e : Stmt} {t t' : TS} (h : PS X e t) (i : ∀ D σ H, t' D σ H → t D σ H) : PS X e t' := ⟨fun pins s σ H D I q => h.run pins s σ H D I (i D σ H q)⟩
theorem PSs.imp {X : Cx} {e : List Stmt} {t t' : TS} (h : PSs X e t) (i : ∀ D σ H, t' D σ H → t D σ H) : PSs X e t' := ⟨fun pins s σ H D I q => h.run pins s σ H D I (i D σ H q)⟩
end L2
namespace Dk
open PySem PySem.Spec PyProof.Rows L2
/-! ## readings of statements -/
def Out (K : PySem.W.Frag) (D : Ends) (F : Fr) (G : Hp) : RS → Prop
  | .st => False
  | .nx σw L S => ∀ (G' : Hp) (ρ' : List Addr) (σ : L2.St) (H : Hp), Rel K F G' ρ' σw L S σ H → Same G G' → D.nx σ H
  | .bk σw L S => ∀ (G' : Hp) (ρ' : List Addr) (σ : L2.St) (H : Hp), Rel K F G' ρ' σw L S σ H → Same G G' → D.bk σ H
  | .ct σw L S => ∀ (G' : Hp) (ρ' : List Addr) (σ : L2.St) (H : Hp), Rel K F G' ρ' σw L S σ H → Same G G' → D.ct σ H
  | .rt x S => ∀ (G' : Hp) (ρ' : List Addr) (σw : List W) (L : Lo) (σ : L2.St) (v : V) (H : Hp), Rel K F G' ρ' σw L S σ H → Same G G' → Dt K G' v x → D.rt v H
  | .ex _ _ _ _ => False
theorem Out.up {K : PySem.W.Frag} {D : Ends} {F : Fr} {G G1 : Hp} {r : RS} (h : Out K D F G r) (s : Same G G1) : Out K D F G1 r := by
  cases r with
  | st => exact h
  | nx σw L S => exact fun G' ρ' σ H r' s' => h G' ρ' σ H r' (s.trans s')
  | bk σw L S => exact fun G' ρ' σ H r' s' => h G' ρ' σ H r' (s.trans s')
  | ct σw L S => exact fun G' ρ' σ H r' s' => h G' ρ' σ H r' (s.trans s')
  | rt x S => exact fun G' ρ' σw L σ v H r' s' => h G' ρ' σw L σ v H r' (s.trans s')
  | ex e σ L S => exact h
section
variable (K : PySem.W.Frag) (Δ : Tb) (n : Nat)
def tS (s : Dk.S) : TS := fun D σ H => ∃ (F : Fr) (G : Hp) (ρ : List Addr) (σw : List W) (L : Lo) (S : Src), F.ρ0 = [] ∧ Rel K F G ρ σw L S σ H ∧ Out K D F G (exec Δ n s σw L S)
def tSs (s : Ss) : TS := fun D σ H => ∃ (F : Fr) (G : Hp) (ρ : List Addr) (σw : List W) (L : Lo) (S : Src), F.ρ0 = [] ∧ Rel K F G ρ σw L S σ H ∧ Out K D F G (execs Δ n s σw L S)
end
theorem out_then {K : PySem.W.Frag} {D : Ends} {F : Fr} {G : Hp} {α : Type} {r : R α} {σ : List W} {f : α → Lo → Src → RS} (h : Out K D F G (r.then σ f)) : ∃ a L S, r = .ok a L S ∧ Out K D F G (f a L S) := by
  cases r with
  | st => exact h.elim
  | ok a L S => exact ⟨a, L, S, rfl, h⟩
  | ex e L S => exact h.elim
/-! ## shapes of assignments -/
theorem sw_none {v : Expr} {env : Env} {line : Nat} {t : Option Expr} (h : isLc v = false) : swapsWith v t line env = pure false := by
  cases v <;> first | rfl | cases h
theorem sw_tup {v : Expr} {env : Env} {line : Nat} {us : List Expr} {k : Nat} {p : Pos} : swapsWithSole [.Tuple us k p] v line env = pure false := by
  cases v <;> rfl
theorem sw_sub {v : Expr} {env : Env} {line : Nat} {a b : Expr} {p : Pos} : swapsWithSole [.Subscript a b p] v line env = pure false := by
  cases v <;> rfl
theorem sw_nm {v : Expr} {env : Env} {line : Nat} {x : Str} {p : Pos} (h : isLc v = false) : swapsWithSole [.Name x p] v line env = pure false := by
  cases v <;> first | rfl | cases h
theorem sw_false {elt : Expr} {gs : List Comprehension} {scope : Scope} {pos py : Pos} {y : Str} {l : Nat} {env : Env} (hk : env.scope.kind = .function)
    (h : ((env.scope.names.lookup y == some .local) && ((py.line == pos.line) && !(scope.names.any fun (n, k) => n == y && (k == .local || k == .cell)))) = false) : swapsWith (.ListComp elt gs scope pos) (some (.Name y py)) l env = pure false := by
  have hb : env.blockKind = .function := by unfold Env.blockKind; rw [hk]; rfl
  have ky : env.kindOf y = env.scope.names.lookup y := rfl
  unfold swapsWith
  simp only [hb, ky, Expr.pos]
  show (pure (((ScopeKind.function == ScopeKind.function) && (env.scope.names.lookup y == some .local) && (py.line == pos.line)) && !(scope.names.any fun (n, k) => n == y && (k == .local || k == .cell))) : Sem Bool) = pure false
  rw [← h]
  congr 1
  simp [Bool.and_assoc]
theorem no_swap {us vs : List Expr} {k k2 : Nat} {p p2 : Pos} {env : Env} (hk : env.scope.kind = .function) (h : Dk.noSw env.scope us vs = true) : swappedStores [.Tuple us k p] (.Tuple vs k2 p2) env = pure none := by
  have hb : env.blockKind = .function := by unfold Env.blockKind; rw [hk]; rfl
  unfold swappedStores
  rw [hb]
  dsimp only
  split
  · rfl
  · rename_i h1
    split
    · rfl
    · split
      · rfl
      · rename_i h3
        split
        · rfl
        · rename_i h4
          exfalso
          have h3 : ¬ ((tgNames env.scope us).length != us.length || (tgNames env.scope us).eraseDups.length != (tgNames env.scope us).length) = true := h3
          unfold noSw at h
          simp only [Bool.or_eq_true, not_or] at h h1 h3
          rcases h with h | h | (h | h) | h
          · exact h1.1.1 h
          · exact h1.1.2 h
          · exact h3.1 h
          · exact h3.2 h
          · exact h4 h
theorem noStar_any {vs : List Expr} (h : noStar vs = true) : (vs.any fun | .Starred .. => true | _ => false) = false := by
  induction vs with
  | nil => rfl
  | cons v vs ih =>
    have : noStar vs = true := by cases v <;> first | exact h | cases h
    rw [List.any_cons, ih this]
    cases v <;> first | rfl | cases h
theorem do_swap {x y : Str} {px py p p2 : Pos} {u v : Expr} {k k2 : Nat} {env : Env} (hk : env.scope.kind = .function) (hx : env.scope.names.lookup x = some .local) (hy : env.scope.names.lookup y = some .local) (hxy : x ≠ y) (hl : (py.line == px.line) = true)
    (h1 : [u, v].all (foldedForSure 8) = false) (h2 : [u, v].all (constantsAlone 8) = false) (h3 : noStar [u, v] = true) : swappedStores [.Tuple [.Name x px, .Name y py] k p] (.Tuple [u, v] k2 p2) env = pure (some [x, y]) := by
  have hb : env.blockKind = .function := by unfold Env.blockKind; rw [hk]; rfl
  have kx : env.kindOf x = some .local := hx
  have ky : env.kindOf y = some .local := hy
  have hs := noStar_any h3
  have ed : ([x, y] : List Str).eraseDups.length = 2 := by
    have : (y == x) = false := beq_eq_false_iff_ne.mpr hxy.symm
    simp [List.eraseDups_cons, this]
  unfold swappedStores
  rw [hb]
  simp only [h1, h2, hs, kx, ky, hl, Expr.pos, List.filterMap_cons, List.filterMap_nil, List.head?_cons, Option.map_some, Option.getD_some, beq_self_eq_true, Bool.and_self, if_true, ed]
  refine (if_neg (show ¬ (false = true) from by decide)).trans ((if_neg (fun z => Bool.false_ne_true (hs.symm.trans z))).trans ?_)
  rfl
theorem do_swap3 {x y z : Str} {px py pz p p2 : Pos} {u v w : Expr} {k k2 : Nat} {env : Env} (hk : env.scope.kind = .function) (hx : env.scope.names.lookup x = some .local) (hy : env.scope.names.lookup y = some .local) (hz : env.scope.names.lookup z = some .local) (hxy : x ≠ y ∧ x ≠ z ∧ y ≠ z)
    (hl : (py.line == px.line) = true) (hl2 : (pz.line == px.line) = true) (h1 : [u, v, w].all (foldedForSure 8) = false) (h2 : [u, v, w].all (constantsAlone 8) = false) (h3 : noStar [u, v, w] = true) :
    swappedStores [.Tuple [.Name x px, .Name y py, .Name z pz] k p] (.Tuple [u, v, w] k2 p2) env = pure (some [x, y, z]) := by
  have hb : env.blockKind = .function := by unfold Env.blockKind; rw [hk]; rfl
  have kx : env.kindOf x = some .local := hx
  have ky : env.kindOf y = some .local := hy
  have kz : env.kindOf z = some .local := hz
  have hs := noStar_any h3
  have ed : ([x, y, z] : List Str).eraseDups.length = 3 := by
    have e1 : (y == x) = false := beq_eq_false_iff_ne.mpr hxy.1.symm
    have e2 : (z == x) = false := beq_eq_false_iff_ne.mpr hxy.2.1.symm
    have e3 : (z == y) = false := beq_eq_false_iff_ne.mpr hxy.2.2.symm
    simp [List.eraseDups_cons, e1, e2, e3]
  unfold swappedStores
  rw [hb]
  simp only [h1, h2, kx, ky, kz, hl, hl2, Expr.pos, List.filterMap_cons, List.filterMap_nil, List.head?_cons, Option.map_some, Option.getD_some, beq_self_eq_true, Bool.and_self, if_true, ed]
  refine (if_neg (show ¬ (false = true) from by decide)).trans ((if_neg (fun z => Bool.false_ne_true (hs.symm.trans z))).trans ?_)
  rfl
/-! ## the statements -/
section
variable {Δ : Tb} {k n : Nat} {X : Cx} {p q : Pos}
theorem s_nev {st : Stmt} : PS X st (tS X.K Δ n .nev) := ⟨fun pins s σ H D I ⟨F, G, ρ, σw, L, S, h0, r, o⟩ => by
  have o : Out X.K D F G .st := o
  exact o.elim⟩
theorem s_asg1 (g : Good Δ k X) (hfn : ∀ x, X.fn x = true) {i : Nat} {e : E} {t v : Expr} (ht : chkTg X.N (fun _ => true) X.env.scope (.nm i) t = true) (hv : chkE X.N e X.env.scope v = true)
    (hl : isLc v = false ∨ ∃ mu elt own tg it iff, e = .lc mu elt own tg it iff) : PS X (.Assign [t] v p) (tS X.K Δ n (.asg (.nm i) e)) := by
  have im : ∀ D σ H, tS X.K Δ n (.asg (.nm i) e) D σ H → tAsg (tE X.K Δ e) (gName i) D σ H := fun D σ H ⟨F, G, ρ, σw, L, S, h0, r, o⟩ => by
    obtain ⟨w, L1, S1, h1, h2⟩ := out_then (show Out X.K D F G ((ev Δ e σw L S).then σw fun w L S => .nx (σw.set i w) L S) from o)
    exact t1 r h1 fun G' ρ' v H' r' p' s' hv => h2 _ _ _ _ (r'.put i hv) s'
  unfold chkTg at ht
  split at ht
  · rename_i x px ex
    obtain ⟨h1, h2⟩ := and2 ht
    have hN := of_decide_eq_true h1
    rw [asName_eq ex]
    have loc : Loc X.env.scope x := by
      split at h2
      · exact .inl (by assumption)
      · exact .inr (by assumption)
      · cases h2
    have pg : PG X (.Name x px) (gName i) := pg_name g.nd hN loc (.inl (hfn x))
    by_cases hlc : isLc v = true
    · rcases hl with hl | ⟨mu, elt, own, tg, it, iff, rfl⟩
      · rw [hl] at hlc; cases hlc
      · have pe := sndE (.lc mu elt own tg it iff) g v hv
        have hv' := hv
        unfold chkE at hv'
        split at hv'
        · rename_i ee te ie fs sc' pe' eq'
          have ev' := asLc_eq eq'
          subst ev'
          by_cases hb : ((X.env.scope.names.lookup x == some .local) && ((px.line == pe'.line) && !(sc'.names.any fun (n, k) => n == x && (k == .local || k == .cell)))) = true
          · obtain ⟨b1, b2⟩ := and2 hb
            obtain ⟨b2, b3⟩ := and2 b2
            have b1 : X.env.scope.names.lookup x = some .local := by simpa using b1
            obtain ⟨a1, a2⟩ := and2 hv'
            obtain ⟨a2, a3⟩ := and2 a2
            obtain ⟨a3, a4⟩ := and2 a3
            obtain ⟨a4, a5⟩ := and2 a4
            obtain ⟨a5, a6⟩ := and2 a5
            have hf : ∀ (X' : Cx), Good Δ k X' → X'.N = X.N → X'.env.scope = relS sc' X.env.scope → PTs X' fs (tT X'.K Δ iff) := fun X' g' eN eS => by
              rcases fs with _ | ⟨f, _ | ⟨f2, fs⟩⟩
              · have ei : iff = .tt := by
                  cases iff <;> first | rfl | cases a6
                subst ei
                exact pts_nil.imp fun σ H Q ⟨F, G, ρ, σw, L, S, r, w, L', S', e, fin⟩ => by
                  cases e
                  exact fin _ _ _ r (List.prefix_refl _) (Same.refl _)
              · have h7 : chkT X.N iff (relS sc' X.env.scope) f = true := by
                  cases iff <;> first | exact a6 | cases a6
                exact pts_one (sndT iff g' _ (by rw [eN, eS]; exact h7)).1
              · cases a6
            obtain ⟨k1, k2, k3, k4, k5⟩ := e_lc g a1 a2 a3 (sndIt it g _ _ a4) (chkIt_noSet a4) hf fun X' g' eN eS => sndE elt g' _ (by rw [eN, eS]; exact a5)
            refine (ps_setLc g.calm g.nd hN b1 (sw_true g.kind b1 b2 (by simpa using b3)) k1 k2 k3 k4 k5 (noSet_it (chkIt_noSet a4))).imp fun D σ H o => ?_
            exact lc_ok a2 (im D σ H o)
          · exact (ps_asg (pos := p) pe pg (show swapsWithSole [.Name x px] _ p.line X.env = pure false from sw_false (l := p.line) g.kind (Bool.eq_false_iff.mpr hb)) (by rfl) (by rfl)).imp im
        · cases hv'
    · have hlc : isLc v = false := by simpa using hlc
      exact (ps_asg (pos := p) (sndE e g v hv) pg (sw_nm hlc) (by cases v <;> rfl) (by rfl)).imp im
  · cases ht
theorem s_asgT (g : Good Δ k X) (hfn : ∀ x, X.fn x = true) {ts : Tgs} {e : E} {t v : Expr} (ht : chkTg X.N (fun _ => true) X.env.scope (.tp ts) t = true) (hv : chkE X.N e X.env.scope v = true)
    (hs : (match asTuple t with
      | some (us, _, _) => (match asTuple v with
        | some (vs, _, _) => noStar vs && noSw X.env.scope us vs
        | none => true)
      | none => false) = true) : PS X (.Assign [t] v p) (tS X.K Δ n (.asg (.tp ts) e)) := by
  have pg := sndTg (.tp ts) g (fun x _ => hfn x) t ht
  split at hs
  · rename_i us kk pt et
    rw [asTuple_eq et] at pg ⊢
    have hw : swappedStores [.Tuple us kk pt] v X.env = pure none := by
      split at hs
      · rename_i vs k2 p2 ev'
        rw [asTuple_eq ev']
        exact no_swap g.kind (and2 hs).2
      · rename_i ev'
        cases v <;> first | rfl | cases ev'
    refine (ps_asg (pos := p) (sndE e g v hv) pg sw_tup hw (by rfl)).imp fun D σ H ⟨F, G, ρ, σw, L, S, h0, r, o⟩ => ?_
    obtain ⟨w, L1, S1, h1, h2⟩ := out_then (show Out X.K D F G ((ev Δ e σw L S).then σw fun w L S => match (isD w).bind fun x => bindT (.tp ts) x σw with
      | some σ' => .nx σ' L S
      | none => .st) from o)
    refine t1 r h1 fun G' ρ' v H' r' p' s' hv => ?_
    split at h2
    · rename_i σ' hb
      obtain ⟨d, b1, b2⟩ := Option.bind_eq_some_iff.mp hb
      cases isD_inv b1
      exact ⟨F, G', ρ', σw, L1, S1, d, σ', r', hv, b2, fun σ2 r2 _ => h2 _ _ _ _ r2 s'⟩
    · exact h2.elim
  · cases hs
theorem s_par (g : Good Δ k X) {i j : Nat} {a b : E} {x y : Str} {px py pt pt2 : Pos} {kt k2 : Nat} {u v : Expr} (hi : X.N[i]? = some x) (hj : X.N[j]? = some y) (hij : i ≠ j) (hx : X.env.scope.names.lookup x = some .local)
    (hy : X.env.scope.names.lookup y = some .local) (hxy : x ≠ y) (hl : (py.line == px.line) = true) (h1 : [u, v].all (foldedForSure 8) = false) (h2 : [u, v].all (constantsAlone 8) = false) (h3 : noStar [u, v] = true)
    (ha : chkE X.N a X.env.scope u = true) (hb : chkE X.N b X.env.scope v = true) : PS X (.Assign [.Tuple [.Name x px, .Name y py] kt pt] (.Tuple [u, v] k2 pt2) p) (tS X.K Δ n (.par i j a b)) := by
  have s2 := star_of (env := X.env) (noStarE hb) (xs := [])
  have s1 := star_of (env := X.env) (noStarE ha) (xs := [v])
  refine (ps_par (pos := p) g.calm g.nd hi hj hij hx hy (pa_cons (sndE a g u ha) (pa_cons (sndE b g v hb) pa_nil s2) s1) (do_swap g.kind hx hy hxy hl h1 h2 h3) sw_tup).imp fun D σ H ⟨F, G, ρ, σw, L, S, h0, r, o⟩ => ?_
  obtain ⟨w, L1, S1, k1, k2⟩ := out_then (show Out X.K D F G ((ev Δ a σw L S).then σw fun x L S => (ev Δ b σw L S).then σw fun y L S => .nx ((σw.set i x).set j y) L S) from o)
  obtain ⟨w2, L2', S2, k3, k4⟩ := out_then k2
  exact t2 r k1 k3 fun G' ρ' v u H' r' p' s' hv hu => ⟨v, u, rfl, k4 _ _ _ _ ((r'.put i hv).put j hu) s'⟩
theorem s_par3 (g : Good Δ k X) {i j l : Nat} {a b c : E} {x y z : Str} {px py pz pt pt2 : Pos} {kt k2 : Nat} {u v w : Expr} (hi : X.N[i]? = some x) (hj : X.N[j]? = some y) (hl : X.N[l]? = some z) (hij : i ≠ j ∧ i ≠ l ∧ j ≠ l)
    (hx : X.env.scope.names.lookup x = some .local ∧ X.env.scope.names.lookup y = some .local ∧ X.env.scope.names.lookup z = some .local) (hxy : x ≠ y ∧ x ≠ z ∧ y ≠ z) (hl1 : (py.line == px.line) = true) (hl2 : (pz.line == px.line) = true)
    (h1 : [u, v, w].all (foldedForSure 8) = false) (h2 : [u, v, w].all (constantsAlone 8) = false) (h3 : noStar [u, v, w] = true) (ha : chkE X.N a X.env.scope u = true) (hb : chkE X.N b X.env.scope v = true) (hc : chkE X.N c X.env.scope w = true) :
    PS X (.Assign [.Tuple [.Name x px, .Name y py, .Name z pz] kt pt] (.Tuple [u, v, w] k2 pt2) p) (tS X.K Δ n (.par3 i j l a b c)) := by
  have s3 := star_of (env := X.env) (noStarE hc) (xs := [])
  have s2 := star_of (env := X.env) (noStarE hb) (xs := [w])
  have s1 := star_of (env := X.env) (noStarE ha) (xs := [v, w])
  refine (ps_par3 (pos := p) g.calm g.nd hi hj hl hij.1 hij.2.1 hij.2.2 hx.1 hx.2.1 hx.2.2 (pa_cons (sndE a g u ha) (pa_cons (sndE b g v hb) (pa_cons (sndE c g w hc) pa_nil s3) s2) s1) (do_swap3 g.kind hx.1 hx.2.1 hx.2.2 hxy hl1 hl2 h1 h2 h3) sw_tup).imp fun D σ H ⟨F, G, ρ, σw, L, S, h0, r, o⟩ => ?_
  obtain ⟨w1, L1, S1, k1, k2⟩ := out_then (show Out X.K D F G ((ev Δ a σw L S).then σw fun x L S => (ev Δ b σw L S).then σw fun y L S => (ev Δ c σw L S).then σw fun z L S => .nx (((σw.set i x).set j y).set l z) L S) from o)
  obtain ⟨w2, L2', S2, k3, k4⟩ := out_then k2
  obtain ⟨w3, L3, S3, k5, k6⟩ := out_then k4
  exact t2 r k1 k3 fun G' ρ' v u H' r' p' s' hv hu => t1 r' k5 fun G3 ρ3 t H3 r3 p3 s3 ht => ⟨v, u, t, rfl, k6 _ _ _ _ (((r3.put i (hv.mono s3 p3)).put j (hu.mono s3 p3)).put l ht) (s'.trans s3)⟩
theorem ip_mul : PIp X .Mult (fun x y H Q => ∃ i j : Int, x = .int i ∧ y = .int j ∧ mulOk i j = true ∧ Q (.int (i * j)) H) := by
  intro pins s σ H x y v u Q I r1 r2 h
  obtain ⟨i, j, rfl, rfl, ok, q⟩ := h
  obtain ⟨t, rfl⟩ := r1
  obtain ⟨t2, rfl⟩ := r2
  exact PyProof.Rows.imul_int ⟨.int _, H, I.tok _, ⟨_, rfl⟩, q⟩ (mulOk_ok ok)
theorem s_aug (g : Good Δ k X) (hfn : ∀ x, X.fn x = true) {i : Nat} {o : Bop} {op : Operator} {e : E} {x : Str} {px : Pos} {v : Expr} (ht : chkTg X.N (fun _ => true) X.env.scope (.nm i) (.Name x ⟨0, 0, 0, 0⟩) = true) (ho : opIs o op = true)
    (ho2 : addSub o = true) (hv : chkE X.N e X.env.scope v = true) : PS X (.AugAssign (.Name x px) op v p) (tS X.K Δ n (.aug i o e)) := by
  unfold chkTg at ht
  obtain ⟨h1, h2⟩ := and2 ht
  have hN := of_decide_eq_true h1
  have loc : Loc X.env.scope x := by
    split at h2
    · exact .inl (by assumption)
    · exact .inr (by assumption)
    · cases h2
  have inv : ∀ {D : Ends} {F : Fr} {G : Hp} {σw : List W} {L : Lo} {S : Src}, Out X.K D F G (exec Δ n (.aug i o e) σw L S) → ∃ a b c L1 S1, σw[i]? = some (.d (.int a)) ∧ ev Δ e σw L S = .ok (.d (.int b)) L1 S1 ∧ opB o (.int a) (.int b) = some c ∧
      Out X.K D F G (.nx (σw.set i (.d c)) L1 S1) := by
    intro D F G σw L S out
    unfold exec at out
    split at out
    · rename_i x hx
      obtain ⟨w, L1, S1, k1, k2⟩ := out_then out
      split at k2
      · split at k2
        · split at k2
          · rename_i hc
            exact ⟨_, _, _, L1, S1, hx, k1, hc, k2⟩
          · exact k2.elim
        · exact k2.elim
      · exact k2.elim
    · exact out.elim
  cases o with
  | add =>
    cases op <;> first | (cases ho; done) | skip
    refine (ps_aug g.nd hN loc (sndE e g v hv) ip_add (.inl (hfn x))).imp fun D σ H ⟨F, G, ρ, σw, L, S, h0, r, o⟩ => ?_
    obtain ⟨a, b, c, L1, S1, k1, k2, k3, k4⟩ := inv o
    obtain ⟨u, k5, k6⟩ := r.slot i _ k1 (fun z => by cases z)
    cases k3
    exact ⟨u, k5, t1 r k2 fun G' ρ' v H' r' p' s' hv => ⟨a, b, k6.int, hv.int, k4 _ _ _ _ (r'.put i (w := .d (.int (a + b))) (v := .int (a + b)) (Dt.int _)) s'⟩⟩
  | sub =>
    cases op <;> first | (cases ho; done) | skip
    refine (ps_aug g.nd hN loc (sndE e g v hv) ip_sub (.inl (hfn x))).imp fun D σ H ⟨F, G, ρ, σw, L, S, h0, r, o⟩ => ?_
    obtain ⟨a, b, c, L1, S1, k1, k2, k3, k4⟩ := inv o
    obtain ⟨u, k5, k6⟩ := r.slot i _ k1 (fun z => by cases z)
    cases k3
    exact ⟨u, k5, t1 r k2 fun G' ρ' v H' r' p' s' hv => ⟨a, b, k6.int, hv.int, k4 _ _ _ _ (r'.put i (w := .d (.int (a - b))) (v := .int (a - b)) (Dt.int _)) s'⟩⟩
  | mul =>
    cases op <;> first | (cases ho; done) | skip
    refine (ps_aug g.nd hN loc (sndE e g v hv) ip_mul (.inl (hfn x))).imp fun D σ H ⟨F, G, ρ, σw, L, S, h0, r, o⟩ => ?_
    obtain ⟨a, b, c, L1, S1, k1, k2, k3, k4⟩ := inv o
    obtain ⟨u, k5, k6⟩ := r.slot i _ k1 (fun z => by cases z)
    unfold opB at k3
    dsimp only at k3
    split at k3
    · rename_i hm
      cases k3
      exact ⟨u, k5, t1 r k2 fun G' ρ' v H' r' p' s' hv => ⟨a, b, k6.int, hv.int, hm, k4 _ _ _ _ (r'.put i (w := .d (.int (a * b))) (v := .int (a * b)) (Dt.int _)) s'⟩⟩
    · cases k3
  | fdiv => cases ho2
  | mod => cases ho2
  | pow => cases ho2
theorem s_app (g : Good Δ k X) {v : Nat} {e : E} {x : Str} {p1 ap p2 : Pos} {y : Expr} (hN : X.N[v]? = some x) (h2 : visB X.env.scope x = true) (h3 : plainN x = true) (hl : (ap.endLine == q.line) = true) (hv : chkE X.N e X.env.scope y = true) :
    PS X (.Expr (.Call (.Attribute (.Name x p1) "append" ap) [y] [] q) p) (tS X.K Δ n (.app v e)) := by
  have s1 := star_of (env := X.env) (noStarE hv) (xs := [])
  refine (ps_expr (pe_bm PySem.F.plainAttrs_list PySem.F.slot_list_append PySem.F.type_list_append mt_append (pe_var hN (visB_ok h2) (plainN_ok h3).1 (plainN_ok h3).2) (pa_cons (sndE e g y hv) pa_nil s1) (by rfl) (by rw [s1]; rfl) hl s1 (by rfl)) (by rfl)).imp fun D σ H ⟨F, G, ρ, σw, L, S, h0, r, o⟩ => ?_
  unfold exec at o
  split at o
  · exact o.elim
  · rename_i z hz
    obtain ⟨id, xs⟩ := z
    obtain ⟨D0, vs, k1, k2, k3, k4⟩ := own_at r hz
    refine ⟨_, k1, .inl ⟨rfl, vs, .of k3⟩, ?_⟩
    obtain ⟨w, L1, S1, k5, k6⟩ := out_then o
    refine t1 r k5 fun G' ρ' u H' r' p' s' hu => ?_
    split at k6
    · rename_i id2 ys d hz2 hd
      split at k6
      · rename_i hlen
        cases isD_inv hd
        obtain ⟨D1, us, m1, m2, m3, m4⟩ := own_at r' hz2
        have e1 : D0 = D1 := by
          rw [k1] at m1
          cases m1
          rfl
        subst e1
        refine ⟨D0, us, u, rfl, rfl, m3, by rw [m4.length]; exact hlen, ?_⟩
        exact k6 _ _ _ _ (r'.change m2 (getLst_inv hz2).2 (u := .lst (us ++ [u])) fun H2 e2 => ⟨_, e2, m4.append (.cons hu .nil)⟩) s'
      · exact k6.elim
    · exact k6.elim
theorem s_seti (g : Good Δ k X) {v : Nat} {kk e : E} {x : Str} {p1 p2 : Pos} {i u : Expr} (hN : X.N[v]? = some x) (h2 : visB X.env.scope x = true) (h3 : plainN x = true) (hs : isSlice i = false) (hi : chkE X.N kk X.env.scope i = true) (hv : chkE X.N e X.env.scope u = true) :
    PS X (.Assign [.Subscript (.Name x p1) i p2] u p) (tS X.K Δ n (.seti v kk e)) := by
  refine (ps_asg (pos := p) (sndE e g u hv) (pg_sub (pe_var hN (visB_ok h2) (plainN_ok h3).1 (plainN_ok h3).2) (sndE kk g i hi) set_list (fun _ => by cases i <;> first | rfl | cases hs)) sw_sub (by cases u <;> rfl) (by rfl)).imp fun D σ H ⟨F, G, ρ, σw, L, S, h0, r, o⟩ => ?_
  obtain ⟨w, L1, S1, k1, k2⟩ := out_then (show Out X.K D F G ((ev Δ e σw L S).then σw _) from o)
  refine t1 r k1 fun G1 ρ1 a H1 r1 q1 s1 ha => ?_
  obtain ⟨wi, L2', S2, k3, k4⟩ := out_then k2
  split at k4
  · rename_i d j id xs e1 e2 e3
    split at k4
    · rename_i jj hj
      cases isD_inv e1
      cases isD_inv e2
      obtain ⟨D0, _, m0⟩ : ∃ D0, σ[v]? = some (some (.ref D0)) ∧ True := by
        obtain ⟨z1, z2⟩ := getLst_inv e3
        obtain ⟨u, h3, D, h4, rfl⟩ := r1.slot v _ z1 (fun z => by cases z)
        exact ⟨D, h3, trivial⟩
      refine ⟨_, by assumption, ?_⟩
      refine t1 r1 k3 fun G2 ρ2 b H2 r2 q2 s2 hb => ?_
      obtain ⟨D1, us, m1, m2, m3, m4⟩ := own_at r2 e3
      have e1 : D0 = D1 := by
        have z : σ[v]? = some (some (.ref D0)) := by assumption
        rw [z] at m1
        cases m1
        rfl
      subst e1
      refine ⟨D0, us, j, jj, rfl, hb.int, m3, by rw [m4.length]; exact hj, ?_⟩
      exact k4 _ _ _ _ (r2.change m2 (getLst_inv e3).2 (u := .lst (us.set jj a)) fun H2 e2 => ⟨_, e2, m4.set (Dt.mono s2 ha) jj⟩) (s1.trans s2)
    · exact k4.elim
  · exact k4.elim
theorem s_ex (g : Good Δ k X) {e : E} {c : Expr} (hl : isLc c = false) (hv : chkE X.N e X.env.scope c = true) : PS X (.Expr c p) (tS X.K Δ n (.ex e)) := by
  refine (ps_expr (pos := p) (sndE e g c hv) (sw_none (line := p.line) hl)).imp fun D σ H ⟨F, G, ρ, σw, L, S, h0, r, o⟩ => ?_
  obtain ⟨w, L1, S1, k1, k2⟩ := out_then (show Out X.K D F G ((ev Δ e σw L S).then σw _) from o)
  exact t1 r k1 fun G1 ρ1 a H1 r1 q1 s1 ha => k2 _ _ _ _ r1 s1
theorem s_sset (g : Good Δ k X) {v : Nat} {f : SF} {e : E} {x : Str} {j : Nat} {p1 p2 p3 : Pos} {u : Expr} (hN : X.N[v]? = some x) (h2 : visB X.env.scope x = true) (h3 : plainN x = true) (hl : isLc u = false) (hv : chkE X.N e X.env.scope u = true) :
    PS X (.Assign [.Subscript (.Name x p1) (.Constant (.str f.name) j p2) p3] u p) (tS X.K Δ n (.sset v f e)) := by
  refine (ps_dput (pos := p) (by have := g.u; omega) (pe_var hN (visB_ok h2) (plainN_ok h3).1 (plainN_ok h3).2) pe_str (sndE e g u hv) (sw_none hl)).imp fun D σ H ⟨F, G, ρ, σw, L, S, h0, r, o⟩ => ?_
  obtain ⟨w, L1, S1, k1, k2⟩ := out_then (show Out X.K D F G ((ev Δ e σw L S).then σw _) from o)
  refine t1 r k1 fun G1 ρ1 a H1 r1 q1 s1 ha => ?_
  split at k2
  · rename_i hs
    split at k2
    · obtain ⟨b, c, e1, e2, sa⟩ := src_at r1 hs
      have z := DPut.k (k := .inr f.name) (v := a) sa.dic (show (4 : Nat) < sizeLine by decide)
      rw [ha.int] at z ⊢
      rw [put_fld] at z
      refine ⟨_, e2, b, _, rfl, z, k2 _ _ _ _ (r1.draw e1 (.inl rfl) ⟨?_, ?_⟩) s1⟩
      · rw [upd_same]
      · rw [upd_ne sa.ne.symm]
        have z2 := sa.cel
        cases f <;> exact z2
    · exact k2.elim
  · exact k2.elim
theorem s_ret (g : Good Δ k X) {e : E} {c : Expr} (hv : chkE X.N e X.env.scope c = true) : PS X (.Return (some c) p) (tS X.K Δ n (.ret e)) := by
  refine (ps_ret (sndE e g c hv)).imp fun D σ H ⟨F, G, ρ, σw, L, S, h0, r, o⟩ => ?_
  obtain ⟨w, L1, S1, k1, k2⟩ := out_then (show Out X.K D F G ((ev Δ e σw L S).then σw _) from o)
  refine t1 r k1 fun G1 ρ1 a H1 r1 q1 s1 ha => ?_
  split at k2
  · exact k2 _ _ _ _ _ _ _ r1 s1 ha
  · exact k2.elim
theorem s_ite {c : T} {a b : Ss} {x : Expr} {ys zs : List Stmt} (hc : PT X x (tT X.K Δ c)) (ha : PSs X ys (tSs X.K Δ n a)) (hb : PSs X zs (tSs X.K Δ n b)) : PS X (.If x ys zs p) (tS X.K Δ n (.ite c a b)) := by
  refine (ps_if hc ha hb).imp fun D σ H ⟨F, G, ρ, σw, L, S, h0, r, o⟩ => ?_
  obtain ⟨w, L1, S1, k1, k2⟩ := out_then (show Out X.K D F G ((evT Δ c σw L S).then σw _) from o)
  refine tts r k1 fun G1 ρ1 H1 r1 q1 s1 => ?_
  cases w with
  | true =>
    simp only [if_true] at k2 ⊢
    exact ⟨F, G1, ρ1, σw, L1, S1, h0, r1, k2.up s1⟩
  | false =>
    simp only [Bool.false_eq_true, if_false] at k2 ⊢
    exact ⟨F, G1, ρ1, σw, L1, S1, h0, r1, k2.up s1⟩
theorem s_whl (hp : PassesOwn (model X.prog X.w) X.A X.env X.xe) {c : T} {b : Ss} {x : Expr} {ys : List Stmt} (hc : PT X x (tT X.K Δ c)) (hb : PSs X ys (tSs X.K Δ n b)) : PS X (.While x ys [] p) (tS X.K Δ n (.whl c b)) := by
  refine (ps_while hp hc hb).imp fun D σ H ⟨F, G, ρ, σw, L, S, h0, r, o⟩ => ?_
  have o : Out X.K D F G (whl (evT Δ c) (execs Δ n b) n σw L S) := o
  refine ⟨fun m σ H => ∃ G' ρ' σw L S, Rel X.K F G' ρ' σw L S σ H ∧ Same G G' ∧ Out X.K D F G (whl (evT Δ c) (execs Δ n b) m σw L S), ⟨n, G, ρ, σw, L, S, r, Same.refl _, o⟩, ?_⟩
  rintro m σ H ⟨G1, ρ1, σw, L, S, r, s1, o⟩
  cases m with
  | zero => exact o.elim
  | succ m =>
    obtain ⟨w, L1, S1, k1, k2⟩ := out_then (show Out X.K D F G ((evT Δ c σw L S).then σw _) from o)
    refine tts r k1 fun G2 ρ2 H2 r2 q2 s2 => ?_
    cases w with
    | false =>
      simp only [Bool.false_eq_true, if_false] at k2 ⊢
      exact k2 _ _ _ _ r2 (s1.trans s2)
    | true =>
      simp only [if_true] at k2 ⊢
      refine ⟨fun σ H => ∃ G' ρ' σw L S, Rel X.K F G' ρ' σw L S σ H ∧ Same G G' ∧ Out X.K D F G (whl (evT Δ c) (execs Δ n b) m σw L S), fun σ' H' z => ⟨m, Nat.lt_succ_self m, z⟩, F, G2, ρ2, σw, L1, S1, h0, r2, ?_⟩
      cases e : execs Δ n b σw L1 S1 with
      | st => rw [e] at k2; exact k2.elim
      | nx σ' L' S' =>
        rw [e] at k2
        exact fun G3 ρ3 σ3 H3 r3 s3 => ⟨G3, ρ3, σ', L', S', r3, s1.trans (s2.trans s3), k2⟩
      | ct σ' L' S' =>
        rw [e] at k2
        exact fun G3 ρ3 σ3 H3 r3 s3 => ⟨G3, ρ3, σ', L', S', r3, s1.trans (s2.trans s3), k2⟩
      | bk σ' L' S' =>
        rw [e] at k2
        exact fun G3 ρ3 σ3 H3 r3 s3 => k2 _ _ _ _ r3 (s1.trans (s2.trans s3))
      | rt x S' =>
        rw [e] at k2
        exact fun G3 ρ3 σw3 L3 σ3 v H3 r3 s3 d => k2 _ _ _ _ _ _ _ r3 (s1.trans (s2.trans s3)) d
      | ex z σ' L' S' => rw [e] at k2; exact k2.elim
theorem s_for (hp : PassesOwn (model X.prog X.w) X.A X.env X.xe) (hcalm : X.calm = true) {t : Tg} {it : It} {b : Ss} {x y : Expr} {ys : List Stmt} (hi : PI X x y (tI X.K Δ it)) (hg : PG X x (gT X.K t)) (hb : PSs X ys (tSs X.K Δ n b)) (hs : noSet y = true) :
    PS X (.For x y ys [] p) (tS X.K Δ n (.for_ t it b)) := by
  refine (ps_for hp hcalm hi hg hb (noSet_it hs)).imp fun D σ H ⟨F, G, ρ, σw, L, S, h0, r, o⟩ => ?_
  obtain ⟨xs, L1, S1, k1, k2⟩ := out_then (show Out X.K D F G ((evIt Δ it σw L S).then σw _) from o)
  refine ⟨F, G, ρ, σw, L, S, r, xs, L1, S1, k1, fun G1 ρ1 H1 J r1 p1 s1 itok => ?_⟩
  generalize hf : (fun x σ L S => match bindT t x σ with
      | some σ' => execs Δ n b σ' L S
      | none => RS.st : PyData → List W → Lo → Src → RS) = f at k2
  refine ⟨fun i m σ H => i ≤ xs.length ∧ m = xs.length - i ∧ ∃ G' ρ' σw L S, Rel X.K F G' ρ' σw L S σ H ∧ Same G1 G' ∧ Out X.K D F G (forL f (xs.drop i) σw L S), ⟨xs.length, Nat.zero_le _, rfl, G1, ρ1, σw, L1, S1, r1, Same.refl _, k2⟩, ?_⟩
  rintro i m σ H ⟨hi, rfl, G2, ρ2, σw, L, S, r2, s2, o⟩
  obtain ⟨js, jg⟩ := itok G2 H s2 r2.gh i
  cases hx : xs[i]? with
  | none =>
    have hl : xs.length ≤ i := List.getElem?_eq_none_iff.mp hx
    rw [List.drop_eq_nil_of_le hl] at o
    exact .inl ⟨js hl, o _ _ _ _ r2 (s1.trans s2)⟩
  | some d =>
    have hlt : i < xs.length := (List.getElem?_eq_some_iff.mp hx).1
    obtain ⟨go, yl⟩ := jg d hx
    have ed : xs[i] = d := by
      rw [List.getElem?_eq_getElem hlt] at hx
      exact Option.some.inj hx
    rw [List.drop_eq_getElem_cons hlt, ed] at o
    refine .inr ⟨go, fun σ H => ∃ G' ρ' σw L S, Rel X.K F G' ρ' σw L S σ H ∧ Same G1 G' ∧ Out X.K D F G (forL f (xs.drop (i + 1)) σw L S), fun σ' H' z => ⟨xs.length - (i + 1), by omega, hlt, rfl, z⟩, fun v H3 hy => ?_⟩
    obtain ⟨G3, r3, s3, dv⟩ : ∃ G3, Rel X.K F G3 ρ2 σw L S σ H3 ∧ Same G2 G3 ∧ Dt X.K G3 v d := by
      rcases yl v H3 hy with ⟨rfl, q⟩ | ⟨p, ob, q1, rfl, q2⟩
      · exact ⟨G2, r2, Same.refl _, q⟩
      · obtain ⟨r4, s4⟩ := r2.data (o := ob) q1
        exact ⟨_, r4, s4, q2⟩
    have o : Out X.K D F G (match f d σw L S with
      | .nx σ L S => forL f (xs.drop (i + 1)) σ L S
      | .ct σ L S => forL f (xs.drop (i + 1)) σ L S
      | .bk σ L S => .nx σ L S
      | r => r) := o
    cases hb2 : bindT t d σw with
    | none =>
      have e : f d σw L S = .st := by rw [← hf]; simp only [hb2]
      rw [e] at o
      exact o.elim
    | some σ' =>
      have e : f d σw L S = execs Δ n b σ' L S := by rw [← hf]; simp only [hb2]
      rw [e] at o
      refine ⟨F, G3, ρ2, σw, L, S, d, σ', r3, dv, hb2, fun σ2 r4 _ => ?_⟩
      refine ⟨F, G3, ρ2, σ', L, S, h0, r4, ?_⟩
      have sx : Same G G3 := s1.trans (s2.trans s3)
      cases e2 : execs Δ n b σ' L S with
      | st => rw [e2] at o; exact o.elim
      | nx σ5 L5 S5 =>
        rw [e2] at o
        exact fun G5 ρ5 σ5' H5 r5 s5 => ⟨G5, ρ5, σ5, L5, S5, r5, s2.trans (s3.trans s5), o⟩
      | ct σ5 L5 S5 =>
        rw [e2] at o
        exact fun G5 ρ5 σ5' H5 r5 s5 => ⟨G5, ρ5, σ5, L5, S5, r5, s2.trans (s3.trans s5), o⟩
      | bk σ5 L5 S5 =>
        rw [e2] at o
        exact fun G5 ρ5 σ5' H5 r5 s5 => o _ _ _ _ r5 (sx.trans s5)
      | rt x S' =>
        rw [e2] at o
        exact fun G5 ρ5 σw5 L5 σ5 v H5 r5 s5 d => o _ _ _ _ _ _ _ r5 (sx.trans s5) d
      | ex z σ' L' S' => rw [e2] at o; exact o.elim
end
end Dk
end
section
set_option Elab.async false
set_option linter.all false
set_option maxRecDepth 100000
set_option maxHeartbeats 4000000
set_option autoImplicit false
namespace Dk
open PySem PySem.Spec PyProof.Rows L2
theorem chkSs_cons {N : List Str} {sc : Scope} {s : Dk.S} {ss : Ss} {xs : List Stmt} (h : chkSs N sc (.cons s ss) xs = true) : (∃ v, s = .frz v ∧ chkSs N sc ss xs = true) ∨ ∃ y ys, xs = y :: ys ∧ chkS N sc s y = true ∧ chkSs N sc ss ys = true := by
  cases s <;> first
    | exact .inl ⟨_, rfl, h⟩
    | cases xs with
      | nil => simp [chkSs] at h
      | cons y ys => exact .inr ⟨y, ys, rfl, and2 h⟩
theorem seal_in {K : PySem.W.Frag} {Δ : Tb} {n : Nat} {v : Nat} {ss : Ss} {D : Ends} {σ : L2.St} {H : Hp} (h : tSs K Δ n (.cons (.frz v) ss) D σ H) : tSs K Δ n ss D σ H := by
  obtain ⟨F, G, ρ, σw, L, S, h0, r, o⟩ := h
  have o : Out K D F G ((match getLst L σw v with
    | some (id, xs) => RS.nx (σw.set v (.d (.list xs))) (L.set id none) S
    | none => .st).seq fun σ L S => execs Δ n ss σ L S) := o
  split at o
  · rename_i id xs hz
    obtain ⟨z1, z2⟩ := getLst_inv hz
    obtain ⟨u, h3, D0, h4, rfl⟩ := r.slot v _ z1 (fun z => by cases z)
    obtain ⟨vs, r2, s2, d2⟩ := r.frz h0 h4 z2
    have r3 := r2.put v (w := .d (.list xs)) (v := .ref D0) d2
    have e : σ.set v (some (.ref D0)) = σ := by
      refine List.ext_getElem? fun j => ?_
      by_cases hj : j = v
      · subst hj
        have hl : j < σ.length := (List.getElem?_eq_some_iff.mp h3).1
        rw [List.getElem?_set_self hl, h3]
      · rw [List.getElem?_set_ne (Ne.symm hj)]
    rw [e] at r3
    exact ⟨F, _, ρ, _, _, S, h0, r3, Out.up o s2⟩
  · exact o.elim
mutual
theorem sndS {Δ : Tb} {k n : Nat} : ∀ (s : Dk.S) {X : Cx} (g : Good Δ k X) (hfn : ∀ x, X.fn x = true) (hp : PassesOwn (model X.prog X.w) X.A X.env X.xe) (st : Stmt), chkS X.N X.env.scope s st = true → PS X st (tS X.K Δ n s)
  | .asg (.nm i) e, X, g, hfn, hp, st, h => by
    unfold chkS at h
    split at h
    · rename_i t v p
      obtain ⟨h1, h2⟩ := and2 h
      obtain ⟨h3, h4⟩ := and2 h2
      refine s_asg1 g hfn h1 h3 ?_
      split at h4
      · by_cases hl : isLc v = true
        · rw [hl] at h4
          right
          cases e <;> first | exact ⟨_, _, _, _, _, _, rfl⟩ | (simp at h4; done)
        · exact .inl (by simpa using hl)
      · cases h4
    · cases h
  | .asg (.tp ts) e, X, g, hfn, hp, st, h => by
    unfold chkS at h
    split at h
    · rename_i t v p
      obtain ⟨h1, h2⟩ := and2 h
      obtain ⟨h3, h4⟩ := and2 h2
      refine s_asgT g hfn h1 h3 ?_
      exact h4
    · cases h
  | .par i j a b, X, g, hfn, hp, st, h => by
    unfold chkS at h
    split at h
    · obtain ⟨h1, h⟩ := and2 h
      obtain ⟨h2, h⟩ := and2 h
      obtain ⟨h3, h⟩ := and2 h
      obtain ⟨h4, h⟩ := and2 h
      obtain ⟨h5, h⟩ := and2 h
      obtain ⟨h6, h⟩ := and2 h
      obtain ⟨h7, h⟩ := and2 h
      obtain ⟨h8, h⟩ := and2 h
      obtain ⟨h9, h⟩ := and2 h
      obtain ⟨h10, h⟩ := and2 h
      obtain ⟨h11, h12⟩ := and2 h
      exact s_par g (of_decide_eq_true h1) (of_decide_eq_true h2) (of_decide_eq_true h3) (by simpa using h4) (by simpa using h5) (of_decide_eq_true h6) h7 ((Bool.not_eq_true' _).mp h8) ((Bool.not_eq_true' _).mp h9) h10 h11 h12
    · cases h
  | .par3 i j l a b c, X, g, hfn, hp, st, h => by
    unfold chkS at h
    split at h
    · obtain ⟨h1, h⟩ := and2 h
      obtain ⟨h2, h⟩ := and2 h
      obtain ⟨h3, h⟩ := and2 h
      obtain ⟨h4, h⟩ := and2 h
      obtain ⟨h5, h⟩ := and2 h
      obtain ⟨h6, h⟩ := and2 h
      obtain ⟨h7, h⟩ := and2 h
      obtain ⟨h8, h⟩ := and2 h
      obtain ⟨h9, h⟩ := and2 h
      obtain ⟨h10, h⟩ := and2 h
      obtain ⟨h11, h⟩ := and2 h
      obtain ⟨h12, h⟩ := and2 h
      obtain ⟨h13, h14⟩ := and2 h
      exact s_par3 g (of_decide_eq_true h1) (of_decide_eq_true h2) (of_decide_eq_true h3) (of_decide_eq_true h4) (of_decide_eq_true h5) (of_decide_eq_true h6) h7 h8 ((Bool.not_eq_true' _).mp h9) ((Bool.not_eq_true' _).mp h10) h11 h12 h13 h14
    · cases h
  | .aug i o e, X, g, hfn, hp, st, h => by
    unfold chkS at h
    split at h
    · obtain ⟨h1, h⟩ := and2 h
      obtain ⟨h2, h⟩ := and2 h
      obtain ⟨h3, h4⟩ := and2 h
      exact s_aug g hfn h1 h2 h3 h4
    · cases h
  | .app v e, X, g, hfn, hp, st, h => by
    unfold chkS at h
    split at h
    · split at h
      · rename_i em
        rw [asMeth_eq em]
        obtain ⟨h1, h⟩ := and2 h
        obtain ⟨h2, h⟩ := and2 h
        obtain ⟨h3, h4⟩ := and2 h
        split at h3
        · rename_i en
          rw [asName_eq en]
          obtain ⟨h5, h6⟩ := and2 h3
          obtain ⟨h6, h7⟩ := and2 h6
          cases of_decide_eq_true h1
          exact s_app g (p2 := ⟨0, 0, 0, 0⟩) (of_decide_eq_true h5) h6 h7 h2 h4
        · cases h3
      · cases h
    · cases h
  | .seti v kk e, X, g, hfn, hp, st, h => by
    unfold chkS at h
    split at h
    · obtain ⟨h1, h⟩ := and2 h
      obtain ⟨h2, h⟩ := and2 h
      obtain ⟨h3, h⟩ := and2 h
      obtain ⟨h4, h5⟩ := and2 h
      split at h1
      · rename_i en
        rw [asName_eq en]
        obtain ⟨h6, h7⟩ := and2 h1
        obtain ⟨h7, h8⟩ := and2 h7
        exact s_seti g (of_decide_eq_true h6) h7 h8 ((Bool.not_eq_true' _).mp h2) h4 h5
      · cases h1
    · cases h
  | .sset v f e, X, g, hfn, hp, st, h => by
    unfold chkS at h
    split at h
    · obtain ⟨ha, h⟩ := and2 h
      obtain ⟨hb, hc⟩ := and2 h
      split at ha
      · rename_i e2
        obtain ⟨j, p2, p3, rfl⟩ := subKey_eq e2
        obtain ⟨h1, h2⟩ := and2 ha
        obtain ⟨h2, h3⟩ := and2 h2
        exact s_sset g (of_decide_eq_true h1) h2 h3 ((Bool.not_eq_true' _).mp hb) hc
      · cases ha
    · cases h
  | .ex e, X, g, hfn, hp, st, h => by
    unfold chkS at h
    split at h
    · obtain ⟨h1, h2⟩ := and2 h
      exact s_ex g ((Bool.not_eq_true' _).mp h1) h2
    · cases h
  | .ite c a b, X, g, hfn, hp, st, h => by
    unfold chkS at h
    split at h
    · obtain ⟨h1, h⟩ := and2 h
      obtain ⟨h2, h3⟩ := and2 h
      exact s_ite (sndT c g _ h1).1 (sndSs a g hfn hp _ h2) (sndSs b g hfn hp _ h3)
    · cases h
  | .whl c b, X, g, hfn, hp, st, h => by
    unfold chkS at h
    split at h
    · obtain ⟨h1, h2⟩ := and2 h
      exact s_whl hp (sndT c g _ h1).1 (sndSs b g hfn hp _ h2)
    · cases h
  | .for_ t it b, X, g, hfn, hp, st, h => by
    unfold chkS at h
    split at h
    · obtain ⟨h1, h⟩ := and2 h
      obtain ⟨h2, h3⟩ := and2 h
      exact s_for hp g.calm (sndIt it g _ _ h2) (sndTg t g (fun x _ => hfn x) _ h1) (sndSs b g hfn hp _ h3) (chkIt_noSet h2)
    · cases h
  | .ret e, X, g, hfn, hp, st, h => by
    unfold chkS at h
    split at h
    · exact s_ret g h
    · cases h
  | .brk, X, g, hfn, hp, st, h => by
    unfold chkS at h
    split at h
    · exact ps_break.imp fun D σ H ⟨F, G, ρ, σw, L, S, h0, r, o⟩ => (show Out X.K D F G (.bk σw L S) from o) _ _ _ _ r (Same.refl _)
    · cases h
  | .cnt, X, g, hfn, hp, st, h => by
    unfold chkS at h
    split at h
    · exact ps_continue.imp fun D σ H ⟨F, G, ρ, σw, L, S, h0, r, o⟩ => (show Out X.K D F G (.ct σw L S) from o) _ _ _ _ r (Same.refl _)
    · cases h
  | .pas, X, g, hfn, hp, st, h => by
    unfold chkS at h
    split at h
    · exact ps_pass.imp fun D σ H ⟨F, G, ρ, σw, L, S, h0, r, o⟩ => (show Out X.K D F G (.nx σw L S) from o) _ _ _ _ r (Same.refl _)
    · cases h
  | .nev, X, g, hfn, hp, st, h => s_nev
  | .frz v, X, g, hfn, hp, st, h => by
    unfold chkS at h
    cases h
theorem sndSs {Δ : Tb} {k n : Nat} : ∀ (ss : Ss) {X : Cx} (g : Good Δ k X) (hfn : ∀ x, X.fn x = true) (hp : PassesOwn (model X.prog X.w) X.A X.env X.xe) (sts : List Stmt), chkSs X.N X.env.scope ss sts = true → PSs X sts (tSs X.K Δ n ss)
  | .nil, X, g, hfn, hp, sts, h => by
    cases sts with
    | cons _ _ => simp [chkSs] at h
    | nil => exact pss_nil.imp fun D σ H ⟨F, G, ρ, σw, L, S, h0, r, o⟩ => (show Out X.K D F G (.nx σw L S) from o) _ _ _ _ r (Same.refl _)
  | .cons s ss, X, g, hfn, hp, sts, h => by
    rcases chkSs_cons h with ⟨v, hs, h2⟩ | ⟨y, ys, rfl, h1, h2⟩
    · have ih := sndSs (n := n) ss g hfn hp sts h2
      rw [hs]
      exact ih.imp fun D σ H o => seal_in o
    · refine (pss_cons (sndS (n := n) s g hfn hp y h1) (sndSs (n := n) ss g hfn hp ys h2)).imp fun D σ H ⟨F, G, ρ, σw, L, S, h0, r, o⟩ => ?_
      have o : Out X.K D F G ((exec Δ n s σw L S).seq fun σ L S => execs Δ n ss σ L S) := o
      refine ⟨F, G, ρ, σw, L, S, h0, r, ?_⟩
      cases e : exec Δ n s σw L S with
      | st => rw [e] at o; exact o
      | nx σ2 L2 S2 =>
        rw [e] at o
        exact fun G' ρ' σ' H' r' s' => ⟨F, G', ρ', σ2, L2, S2, h0, r', Out.up o s'⟩
      | bk σ2 L2 S2 => rw [e] at o; exact o
      | ct σ2 L2 S2 => rw [e] at o; exact o
      | rt x S2 => rw [e] at o; exact o
      | ex z σ2 L2 S2 => rw [e] at o; exact o
end
/-! ## defs -/
structure Tabs (Δ : Tb) (P : Program) (w : World) (K : PySem.W.Frag) (mg : Str → Option Value) (base : Heap) (k : Nat) : Prop where
  free : ∀ x ∈ (["abs", "max", "min", "len", "int", "repr", "all", "tuple", "list", "sum", "sorted", "str", "isinstance", "range", "enumerate", "zip", "bool"] : List Str), mg x = none
  tab : ∀ f, (∀ ws S x L' S', Δ f ws S ≠ .ok x L' S') ∨ Cal Δ P w K mg base k f ∨ (f = "gcd" ∧ mg "gcd" = some (.builtin "math.gcd") ∧ Δ f = gcdF) ∨ Cst Δ K mg f
theorem start_get {K : PySem.W.Frag} {sa : Option (Addr × Addr)} {G : Hp} {N : List Str} : ∀ {ws : List W} {vs : List V} {m : Nat}, VRs K sa G [] ws vs → ∀ (i : Nat) (w : W), (ws ++ List.replicate m .un)[i]? = some w → w ≠ .un → ∃ v, vs[i]? = some v ∧ VR K sa G [] w v
  | _, _, m, .nil, i, w, e, hw => by
    have := List.mem_of_getElem? e
    simp at this
    exact absurd this.2 hw
  | _, _, m, .cons (v := v) a t, 0, w, e, hw => by
    have e : some _ = some w := e
    cases e
    exact ⟨v, rfl, a⟩
  | _, _, m, .cons a t, i + 1, w, e, hw => start_get (N := N) t i w e hw
theorem def_ok {Δ : Tb} {k : Nat} {P : Program} {w : World} {K : PySem.W.Frag} {mg : Str → Option Value} {base : Heap} {x : Str} {st : Stmt} {f : Addr} {fd : FuncData} {N ps : List Str} {body : Ss} (T : Tabs Δ P w K mg base k) (F : Fun K x x st f fd)
    (S : FnScope N ps (defScope st)) (chk : chkSs N (defScope st) body (defBody st) = true) {φ : Fn} (hφ : ∀ ws S0 y L' S', φ ws S0 = .ok y L' S' → ws.length = ps.length ∧ ∃ n L2, run Δ n N.length body ws S0 = .ok y L2 S') :
    FnG P w K mg base CX0 (k + 1) f fd ps (spD K ps.length φ) := by
  refine fnG_of F S (fun vs H Q E ⟨G, sa, ws, S0, sg, hv, hl, _⟩ => hv.length.trans hl) fun cd A out s H vs Q E hr hg q => ?_
  obtain ⟨G, sa, ws, S0, sg, hv, hl, ha, src, y, L', S', hx, fin⟩ := q
  obtain ⟨_, n, Lz, hrun⟩ := hφ _ _ _ _ _ hx
  have g : Good Δ k (cxOf CX0 P w K mg base N x (defScope st) f cd A out s H E) := ⟨rfl, S.nd, S.kind, hr, hg, T.free, T.tab⟩
  refine ⟨tSs K Δ n body, sndSs body g (fun _ => rfl) (passes_of rfl) _ chk, ⟨H, G, [], sa⟩, G, [], ws ++ List.replicate (N.length - ws.length) .un, [], S0, rfl, ?_, ?_⟩
  · refine ⟨sg, ?_, fun i w e hw => ?_, rfl, List.nodup_nil, fun j a e => by simp at e, List.prefix_refl _, fun a c e => ?_, fun b o e _ _ => e, Same.refl _, fun b o e => .inl e⟩
    · unfold L2.start
      rw [List.length_append, List.length_append, List.length_replicate, List.length_replicate, List.length_map, hv.length]
    · obtain ⟨v, h1, h2⟩ := start_get (N := N) hv i w e hw
      refine ⟨v, ?_, h2⟩
      unfold L2.start
      have hi : i < (vs.map some).length := by
        rw [List.length_map]
        exact (List.getElem?_eq_some_iff.mp h1).1
      rw [List.getElem?_append_left hi, List.getElem?_map, h1]
      rfl
    · obtain ⟨h1, h2, h3⟩ := src a c e
      exact ⟨h1, h2, h3, by simp, by simp⟩
  · unfold run at hrun
    cases e : execs Δ n body (ws ++ List.replicate (N.length - ws.length) .un) [] S0 with
    | st => rw [e] at hrun; cases hrun
    | nx σ2 L3 S2 =>
      rw [e] at hrun
      cases hrun
      exact fun G' ρ' σ' H' r s => fin G' .non H' s r.gh r.gn (fun b o hb hs => r.fram b o hb hs (by simp)) (fun a c h => (r.src a c h).1) .non
    | bk σ2 L3 S2 => rw [e] at hrun; cases hrun
    | ct σ2 L3 S2 => rw [e] at hrun; cases hrun
    | rt z S2 =>
      rw [e] at hrun
      cases hrun
      exact fun G' ρ' σw L σ' v H' r s d => fin G' v H' s r.gh r.gn (fun b o hb hs => r.fram b o hb hs (by simp)) (fun a c h => (r.src a c h).1) d
    | ex z σ2 L3 S2 => rw [e] at hrun; cases hrun
end Dk
end
section
set_option Elab.async false
set_option linter.all false
set_option maxRecDepth 100000
set_option maxHeartbeats 4000000
set_option autoImplicit false
namespace Dk
open PySem PySem.Spec PyProof.Rows L2
/-! ## the law is called -/
/-- what the caller of a law wants -/
abbrev Said (s1 : Shared) : Result → Shared → Prop := fun r s2 => r = .ok (.ret (.bool true)) ∧ OldK s1.heap s2.heap ∧ s2.os = s1.os ∧ AllBare s2.gens
/-- the law's heap as it is seen at its beginning: at most the script is frozen in it -/
structure Seen (P : Program) (w : World) (K : PySem.W.Frag) (a : Addr) (ns : List Int) (s1 : Shared) (H : Hp) : Prop where
  only : Only H
  scr : SqL K H a (ns.map V.int)
  ok : HOk P w H s1.heap
  at1 : ∀ b, H b ≠ none → b = a
  out : H a ≠ none → K.lookup a = none
section
variable {P : Program} {w : World} {K : PySem.W.Frag} {mg mb : Str → Option Value} {k : Nat} {fa a : Addr} {fd : FuncData} {x : Str} {sp : Sp} {s1 : Shared} {vs : List Value} {ns : List Int} {H : Hp}
theorem Seen.go (Z : Seen P w K a ns s1 H) (hK : K.In s1.heap) (hm : s1.heap.Ns mainGlobals mg) (hb : s1.heap.Ns builtinsNs mb) (boot : ∀ y : Str, y ≠ "__name__" → mb y = bootBuiltins y) (nl : s1.heap.NoLimit) (gens : s1.gens = #[])
    (scr : s1.heap.get? a = some { cls := .type "list", data := .seq vs.toArray }) (room : Room k callerA) (F : ∀ B : Heap, K.In B → B.Ns mainGlobals mg → FnG P w K mg B CX0 k fa fd [x] sp)
    (bnd : ∀ (s : Shared) (u : Value), BindsTo s fd ⟨[u], []⟩ [(x, u)]) (prom : sp [.ref a] H (fun v _ => v = .bl true) fun _ _ _ => False) : codeAny (model P w) callerA (.call (.ref fa) ⟨[.ref a], []⟩) (Said s1) s1 := by
  have isA : ∀ {b : Addr} {u : HO}, H b = some u → b = a := fun {b u} q => Z.at1 b (by rw [q]; exact fun z => by cases z)
  have bare : ∀ {b : Addr} {o : Obj} {es : Array DictEntry} {ep : Nat}, s1.heap.get? b = some o → o.data = .dict es ep → H b = none := by
    intro b o es ep h1 h2
    cases q : H b with
    | none => rfl
    | some u =>
      exfalso
      have z := isA q
      rw [z, scr] at h1
      cases h1
      cases (show Data.seq vs.toArray _ = Data.dict es ep from h2)
  have space : ∀ {b : Addr} {m : Str → Option Value}, s1.heap.Ns b m → (hidT s1.heap H).Ns b m := by
    rintro b m ⟨o, es, ep, h1, h2, h3⟩
    exact ⟨o, es, ep, hidT_get h1 (bare h1 h2), h2, h3⟩
  have hKB : K.In (hidT s1.heap H) := by
    intro b o h
    refine hidT_get (hK b o h) ?_
    cases q : H b with
    | none => rfl
    | some u =>
      exfalso
      have z := isA q
      subst z
      rw [Z.out (by rw [q]; exact fun z => by cases z)] at h
      cases h
  obtain ⟨mc, l1, l2⟩ := nl
  have start : Env0 P w K mg (hidT s1.heap H) callerA [] s1 H :=
    ⟨rfl, ⟨hKB, space hm, ⟨mb, space hb, boot⟩, ⟨mc, space l1, l2⟩⟩, fun _ _ h => of_hidT h, Nat.le_of_eq (hidT_size _ _), trivial, fun b h => absurd (show b ∈ ([] : List Addr) from h) List.not_mem_nil, Z.ok, .of_eq gens⟩
  have ran := (F _ hKB (space hm)).run callerA [] s1 H ⟨[.ref a], []⟩ [.ref a] [.ref a] _ _ room rfl start (bnd s1 (.ref a)) (.cons rfl .nil) prom
  refine codeAny_mono ran ?_
  intro res s2 h
  match res, h with
  | .ok (.ret u), ⟨v, H2, e1, e2, un, ok2, rv, e3⟩ =>
    cases (show v = .bl true from e3)
    cases (show u = Value.bool true from rv)
    refine ⟨rfl, OldK.of_keep ?_, e1, e2⟩
    intro b o h
    cases q : H b with
    | none => exact un.keep b o h q (fun z => absurd (show b ∈ ([] : List Addr) from z) List.not_mem_nil) List.not_mem_nil
    | some u =>
      rcases Z.only b with z | ⟨ob, xs, z⟩
      · rw [q] at z; cases z
      · have f1 := (Z.ok b _ z).1
        have f2 := (ok2 b _ (un.frzs b ob _ z)).1
        rw [h] at f1
        cases f1
        exact f2
/-- whatever holds of every beginning holds of the call -/
theorem law_callG (hK : K.In s1.heap) (hm : s1.heap.Ns mainGlobals mg) (hb : s1.heap.Ns builtinsNs mb) (boot : ∀ y : Str, y ≠ "__name__" → mb y = bootBuiltins y) (nl : s1.heap.NoLimit) (gens : s1.gens = #[])
    (scr : s1.heap.get? a = some { cls := .type "list", data := .seq vs.toArray }) (areI : IntsAre vs ns) (len : ns.length ≤ sizeLine) (room : Room k callerA) (F : ∀ B : Heap, K.In B → B.Ns mainGlobals mg → FnG P w K mg B CX0 k fa fd [x] sp)
    (bnd : ∀ (s : Shared) (u : Value), BindsTo s fd ⟨[u], []⟩ [(x, u)]) (prom : ∀ H : Hp, Only H → SqL K H a (ns.map V.int) → sp [.ref a] H (fun v _ => v = .bl true) fun _ _ _ => False) :
    codeAny (model P w) callerA (.call (.ref fa) ⟨[.ref a], []⟩) (Said s1) s1 := by
  have rel := vals_ints areI
  have go : ∀ {H : Hp}, Seen P w K a ns s1 H → codeAny (model P w) callerA (.call (.ref fa) ⟨[.ref a], []⟩) (Said s1) s1 := fun {H} Z => Z.go hK hm hb boot nl gens scr room F bnd (prom H Z.only Z.scr)
  cases q : K.lookup a with
  | some o =>
    have e := hK a o q
    rw [scr] at e
    cases e
    refine go (H := fun _ => none) ⟨fun _ => .inl rfl, .inr ⟨_, vs.toArray, _, q, rfl, rfl, rfl, ?_, ?_⟩, ?_, fun b z => absurd rfl z, fun z => absurd rfl z⟩
    · rw [List.size_toArray, areI.length]
      exact len
    · rw [List.toList_toArray]
      exact rel
    · intro b u z
      cases (show (none : Option HO) = some u from z)
  | none =>
    let S0 : Obj := { cls := .type "list", data := .seq vs.toArray }
    let H0 : Hp := fun b => if b = a then some (.frz S0 (.lst (ns.map V.int))) else none
    have at_ : H0 a = some (.frz S0 (.lst (ns.map V.int))) := if_pos rfl
    have off : ∀ {b : Addr}, b ≠ a → H0 b = none := fun h => if_neg h
    refine go (H := H0) ⟨fun b => ?_, .inl (.inr ⟨S0, at_⟩), fun b u z => ?_, fun b z => ?_, fun _ => q⟩
    · by_cases e : b = a
      · rw [e]
        exact .inr ⟨_, _, at_⟩
      · exact .inl (off e)
    · by_cases e : b = a
      · rw [e, at_] at z
        cases z
        rw [e]
        exact ⟨scr, by rw [List.length_map]; exact len, vs, _, rel, scr⟩
      · rw [off e] at z
        cases z
    · by_cases e : b = a
      · exact e
      · exact absurd (off e) z
/-- the goal that the head leaves -/
theorem walk_G {l : PySem.W.OpenLaw} {n : Nat} {q : Program} {loose : List Str} {XP : (Str → Option Value) → Heap → Prop} {YP : World → Heap → Prop} {d : DefRec} (most : l.most = some n) (small : n ≤ sizeLine) (plain : d.params.defaults = []) (room : Room k callerA)
    (F : ∀ (w : World) (mg : Str → Option Value) (fa : Addr) (h : Heap), YP w h → h.Ns mainGlobals mg → mg d.name = some (.ref fa) →
      ∃ (K : PySem.W.Frag) (fd : FuncData) (sp : Sp), K.In h ∧ (∀ (s : Shared) (u : Value), BindsTo s fd ⟨[u], []⟩ [(x, u)]) ∧
        (∀ (H : Hp) (a : Addr) (ns : List Int), ns.length ≤ n → SqL K H a (ns.map V.int) → sp [.ref a] H (fun v _ => v = .bl true) fun _ _ _ => False) ∧
        ∀ B : Heap, K.In B → B.Ns mainGlobals mg → FnG l.prog w K mg B CX0 k fa fd [x] sp) :
    PySem.W.WalkO q loose XP YP l.row.toRowW d [] (fun f vs => PySem.call f vs) := by
  refine Att.attach_call most plain ?_
  intro w s0 s1 mg mb fa o pm cd doc a vs ns G Y _ _ _ named scr areI short gens
  obtain ⟨K, fd, sp, hK, bnd, prom, ok⟩ := F w mg fa _ Y G.T.g named
  exact law_callG hK G.T.g G.T.b G.T.builtins G.T.nolimit gens scr areI (Nat.le_trans short small) room ok bnd fun H _ sc => prom H a ns short sc
end
end Dk
end
section
set_option Elab.async false
set_option linter.all false
set_option maxRecDepth 100000
set_option maxHeartbeats 4000000
set_option autoImplicit false
namespace Dk
open PySem PySem.Spec PyProof.Rows L2
/-! ## _law_source -/
abbrev srcCs : Scope := ⟨.function, [(".0", .local), ("cell", .local), ("abs", .globalImplicit)], false, false, []⟩
abbrev srcSc : Scope := ⟨.function, [("script", .local), ("mixed", .local), ("cell", .local), ("int", .globalImplicit)], false, false, [("fast", .str "script"), ("fast", .str "mixed"), ("fast", .str "cell")]⟩
abbrev srcB (p1 p2 p3 p4 p5 p6 p7 p8 p9 p10 p11 p12 p13 p14 p15 p16 p17 p18 p19 p20 p21 p22 p23 p24 p25 p26 p27 p28 p29 p30 p31 p32 p33 p34 p35 p36 p37 p38 p39 p40 : Pos) : List Stmt := [.Assign [(.Name "mixed" p1)] (.Constant (.int 11) 0 p2) p3, .For (.Name "cell" p4) (.Name "script" p5) [.Assign [(.Name "mixed" p6)] (.BinOp (.Call (.Name "int" p7) [(.BinOp (.BinOp (.BinOp (.Name "mixed" p8) .Mult (.Constant (.int 69069) 0 p9) p10) .Add (.BinOp (.Name "cell" p11) .Mult (.Constant (.int 31) 0 p12) p13) p14) .Add (.Constant (.int 5) 0 p15) p16)] [] p17) .Mod (.Constant (.int 2147483629) 0 p18) p19) p20] [] p21, .Return (some (.Dict [some (.Constant (.str "cells") 0 p22), some (.Constant (.str "left") 0 p23), some (.Constant (.str "mixed") 0 p24), some (.Constant (.str "turn") 0 p25)] [(.Subscript (.ListComp (.Call (.Name "abs" p26) [(.Name "cell" p27)] [] p28) [⟨(.Name "cell" p29), (.Name "script" p30), [], 0⟩] srcCs p31) (.Slice none none (some (.UnaryOp .USub (.Constant (.int 1) 0 p32) p33)) p34) p35), (.Constant (.int 1) 0 p36), (.Name "mixed" p37), (.Constant (.int 0) 0 p38)] p39)) p40]
def absI (i : Int) : Int := if i < 0 then -i else i
def mixOf (ns : List Int) : Int := ns.foldl (fun m c => (m * 69069 + c * 31 + 5).fmod 2147483629) 11
/-- the drawing at its beginning -/
def src0 (ns : List Int) : Src := ⟨(ns.map absI).reverse, 1, mixOf ns, 0⟩
def spSrc (K : PySem.W.Frag) : Sp := fun vs H Q _ => ∃ (a0 : Addr) (ns : List Int), vs = [.ref a0] ∧ SqL K H a0 (ns.map V.int) ∧ ns.length ≤ 1000 ∧
  ∀ (a c : Addr) (H' : Hp), H a = none → H c = none → SrcAt H' a c (src0 ns) → Same H H' → Q (.ref a) H'
theorem Same.rd {H H' : Hp} {a : Addr} {o : HO} (s : Same H H') (h : Rd H a o) : Rd H' a o := by
  rcases h with h | ⟨z, h⟩
  · exact .inl (s _ _ h)
  · exact .inr ⟨z, s _ _ h⟩
theorem Same.sql {K : PySem.W.Frag} {H H' : Hp} {a : Addr} {xs : List V} (s : Same H H') (h : SqL K H a xs) : SqL K H' a xs := by
  rcases h with h | h
  · exact .inl (Same.rd s h)
  · exact .inr h
theorem sql_fun {K : PySem.W.Frag} {H : Hp} {a : Addr} {xs ys : List V} (h : SqL K H a xs) (e : ∀ zs, SqL K H a zs → zs = ys) : xs = ys := e _ h
theorem mixOf_snoc (ns : List Int) (c : Int) : mixOf (ns ++ [c]) = (mixOf ns * 69069 + c * 31 + 5).fmod 2147483629 := by
  unfold mixOf
  rw [List.foldl_append]
  rfl
theorem take_snoc {ns : List Int} {i : Nat} {c : Int} (h : ns[i]? = some c) : ns.take (i + 1) = ns.take i ++ [c] := by
  rw [List.take_add_one, h]
  rfl
theorem Itl_turn {K : PySem.W.Frag} {H : Hp} {a0 : Addr} {ns : List Int} (h : SqL K H a0 (ns.map V.int)) (i : Nat) : (ns.length ≤ i ∧ (Itl K a0).stop i H) ∨ ∃ c, ns[i]? = some c ∧ (Itl K a0).go i H ∧ ∀ x H', (Itl K a0).yld i H x H' → x = .int c ∧ H' = H := by
  cases e : ns[i]? with
  | none => exact .inl ⟨List.getElem?_eq_none_iff.mp e, _, h, by rw [List.length_map]; exact List.getElem?_eq_none_iff.mp e⟩
  | some c =>
    have e2 : (ns.map V.int)[i]? = some (.int c) := by rw [List.getElem?_map, e]; rfl
    refine .inr ⟨c, rfl, ⟨_, _, h, e2⟩, fun x H' hy => ⟨?_, hy.1⟩⟩
    have z := hy.2 _ h
    rw [e2] at z
    exact (Option.some.inj z).symm
section
variable {P : Program} {w : World} {K : PySem.W.Frag} {mg : Str → Option Value} {base : Heap}
theorem ok_src {p1 p2 p3 p4 p5 p6 p7 p8 p9 p10 p11 p12 p13 p14 p15 p16 p17 p18 p19 p20 p21 p22 p23 p24 p25 p26 p27 p28 p29 p30 p31 p32 p33 p34 p35 p36 p37 p38 p39 p40 : Pos} {st : Stmt} {f : Addr} {fd : FuncData} (F : Fun K "_law_source" "_law_source" st f fd) (hb : defBody st = srcB p1 p2 p3 p4 p5 p6 p7 p8 p9 p10 p11 p12 p13 p14 p15 p16 p17 p18 p19 p20 p21 p22 p23 p24 p25 p26 p27 p28 p29 p30 p31 p32 p33 p34 p35 p36 p37 p38 p39 p40) (hs : defScope st = srcSc) (mi : mg "int" = none) (ma : mg "abs" = none) :
    FnG P w K mg base CX0 1 f fd ["script"] (spSrc K) := by
  have S : FnScope ["script", "mixed", "cell"] ["script"] (defScope st) := by
    rw [hs]
    exact ⟨rfl, rfl, rfl, by decide, rfl, by decide, by decide⟩
  refine fnG_of F S (fun vs H Q E ⟨a0, ns, e, _⟩ => by rw [e]; rfl) fun cd A out s H vs Q E hr hg q => ?_
  rw [hs] at hr ⊢
  rw [hb]
  generalize hX : cxOf CX0 P w K mg base ["script", "mixed", "cell"] "_law_source" srcSc f cd A out s H E = X
  have hN : X.N = (["script", "mixed", "cell"] : List Str) := by subst hX; rfl
  have hsc : X.env.scope = srcSc := by subst hX; rfl
  have hc : X.calm = true := by subst hX; rfl
  have hK : X.K = K := by subst hX; rfl
  have hfn : ∀ x, X.fn x = true := by subst hX; exact fun _ => rfl
  have hp : PassesOwn (model X.prog X.w) X.A X.env X.xe := by subst hX; exact passes_of rfl
  have hmi : X.mg "int" = none := by subst hX; exact mi
  have hma : X.mg "abs" = none := by subst hX; exact ma
  clear hX
  have n0 : X.N[0]? = some ("script" : Str) := by rw [hN]; rfl
  have n1 : X.N[1]? = some ("mixed" : Str) := by rw [hN]; rfl
  have n2 : X.N[2]? = some ("cell" : Str) := by rw [hN]; rfl
  have nd : X.N.Nodup := by rw [hN]; decide
  have l1 : Loc X.env.scope "mixed" := by rw [hsc]; exact .inl rfl
  have l2 : Loc X.env.scope "cell" := by rw [hsc]; exact .inl rfl
  have v0 : Vis X.env.scope "script" := by rw [hsc]; exact .inl rfl
  have v1 : Vis X.env.scope "mixed" := by rw [hsc]; exact .inl rfl
  have v2 : Vis X.env.scope "cell" := by rw [hsc]; exact .inl rfl
  have gi : Gl X "int" := by show X.env.scope.names.lookup _ = _; rw [hsc]; rfl
  have bi : bootBuiltins "int" = some (.type "int") := boot_ty .int
  have ba : bootBuiltins "abs" = some (.builtin "abs") := boot_bf .abs
  have blk : BlkOk X.N X.env.scope srcCs [("cell", 2)] := by rw [hN, hsc]; exact blkOk_by (by decide)
  have s1 := ps_asg (pos := p3) (pe_int (X := X) (i := 11) (j := 0) (pos := p2)) (pg_name (pos := p1) nd n1 l1 (.inl (hfn _)))
  have sB := ps_asg (pos := p20) (pe_op (pos := p19) op_modN (pe_callTy (p := p7) (pos := p17) call_int1 gi hmi bi (pa_cons (pe_op (pos := p16) op_add (pe_op (pos := p14) op_add (pe_op (pos := p10) op_mulD (pe_var (pos := p8) n1 v1) (pe_int (i := 69069) (j := 0) (pos := p9))) (pe_op (pos := p13) op_mulD (pe_var (pos := p11) n2 v2) (pe_int (i := 31) (j := 0) (pos := p12)))) (pe_int (i := 5) (j := 0) (pos := p15))) pa_nil)) (pe_int (i := 2147483629) (j := 0) (pos := p18))) (pg_name (pos := p6) nd n1 l1 (.inl (hfn _)))
  have s2 := ps_for (pos := p21) hp hc (pi_list (tg := .Name "cell" p4) (pe_var (pos := p5) n0 v0)) (pg_name (pos := p4) nd n2 l2 (.inl (hfn _))) (pss_one sB) (fun _ => rfl)
  have lc := pe_lc (pos := p31) hc nd (pi_list (tg := .Name "cell" p29) (pe_var (pos := p30) n0 v0)) blk
    (g := gName 2) (fun s H C cl fp => pg_name (X := X.blk s H srcCs (compEnvC srcCs cl C X.env) fp) (pos := p29) nd n2 (.inl rfl) (.inr rfl)) (fun s H C cl fp => pts_nil)
    (te := tCB (fun xs H Q => ∃ i : Int, xs = [.int i] ∧ Q (.int (if i < 0 then -i else i)) H) (tCons (tVar 2) tNil)) (fun s H C cl fp => pe_callB (X := X.blk s H srcCs (compEnvC srcCs cl C X.env) fp) (p := p26) (pos := p28) call_abs (show List.lookup _ _ = _ from rfl) hma ba (pa_cons (pe_var (pos := p27) n2 (.inl rfl)) pa_nil)) (fun _ => rfl)
  have s3 := ps_ret (pos := p40) (pe_disp (pos := p39) (pps_cons (pe_str (x := "cells") (j := 0) (pos := p22)) (pe_revL (k := 0) (p1 := p32) (p2 := p33) (p3 := p34) (pos := p35) lc) (pps_cons (pe_str (x := "left") (j := 0) (pos := p23)) (pe_int (i := 1) (j := 0) (pos := p36)) (pps_cons (pe_str (x := "mixed") (j := 0) (pos := p24)) (pe_var (pos := p37) n1 v1) (pps_cons (pe_str (x := "turn") (j := 0) (pos := p25)) (pe_int (i := 0) (j := 0) (pos := p38)) pps_nil)))) rfl rfl (by simp) (show (4 : Nat) ≤ 15 by decide))
  refine ⟨_, pss_cons s1 (pss_cons s2 (pss_one s3)), ?_⟩
  rw [hK]
  obtain ⟨a0, ns, rfl, hS, hl, fin⟩ := q
  have hz : ns.length ≤ sizeLine := Nat.le_trans hl (by decide)
  -- the loop
  refine ⟨_, rfl, a0, rfl, ⟨_, hS⟩, ?_⟩
  refine ⟨fun i m σ H' => H' = H ∧ i ≤ ns.length ∧ m = ns.length - i ∧ ∃ o, σ = [some (.ref a0), some (.int (mixOf (ns.take i))), o], ⟨ns.length, rfl, Nat.zero_le _, rfl, none, rfl⟩, ?_⟩
  rintro i m σ H' ⟨rfl, hi, rfl, o, rfl⟩
  rcases Itl_turn hS i with ⟨h1, h2⟩ | ⟨c, h1, h2, h3⟩
  · refine .inl ⟨h2, ?_⟩
    have e : ns.take i = ns := List.take_of_length_le h1
    rw [e]
    -- the display
    intro a ha
    have ne : ∀ {b : Addr} {o : HO}, H' b = some o → b ≠ a := fun h => ne_of_none h ha
    have sA : Same H' (upd H' a (.dK [])) := same_new ha
    refine ⟨_, rfl, a0, rfl, ⟨_, Same.sql sA hS⟩, ?_⟩
    intro D hD
    have hDa : D ≠ a := fun z => by rw [z, upd_same] at hD; cases hD
    have hD0 : H' D = none := by rw [upd_ne hDa] at hD; exact hD
    have sD : ∀ u, Same H' (upd (upd H' a (.dK [])) D u) := fun u => sA.trans (same_new hD)
    refine ⟨fun i m H2 => i ≤ ns.length ∧ m = ns.length - i ∧ H2 = upd (upd H' a (.dK [])) D (.lst (((ns.map absI).take i).map V.int)), ⟨ns.length, Nat.zero_le _, rfl, rfl⟩, ?_⟩
    rintro j m H2 ⟨hj, rfl, rfl⟩
    rcases Itl_turn (Same.sql (sD _) hS) j with ⟨k1, k2⟩ | ⟨c, k1, k2, k3⟩
    · refine .inl ⟨k2, ?_⟩
      have e2 : (ns.map absI).take j = ns.map absI := List.take_of_length_le (by rw [List.length_map]; exact k1)
      rw [e2]
      refine ⟨D, _, rfl, .inl (.inl upd_same), ?_⟩
      intro p hp
      have pD : p ≠ D := fun z => by rw [z, upd_same] at hp; cases hp
      rw [upd_ne pD] at hp
      have pa : p ≠ a := fun z => by rw [z, upd_same] at hp; cases hp
      rw [upd_ne pa] at hp
      refine ⟨_, rfl, ?_, [(.inr "cells", .ref p), (.inr "left", .int 1), (.inr "mixed", .int (mixOf ns)), (.inr "turn", .int 0)], rfl, (show (4 : Nat) ≤ 15 by decide), ?_⟩
      · rw [upd_ne pa.symm, upd_ne hDa.symm, upd_same]
      · refine fin a p _ ha hp ⟨?_, ?_⟩ fun b o h => ?_
        · rw [upd_same]
          rfl
        · rw [upd_ne pa, upd_same]
          show some (HO.lst ((ns.map absI).map V.int).reverse) = some (HO.lst ((ns.map absI).reverse.map V.int))
          rw [List.map_reverse]
        · rw [upd_ne (ne h), upd_ne (ne_of_none h hp), upd_ne (ne_of_none h hD0), upd_ne (ne h)]
          exact h
    · have hlt : j < ns.length := (List.getElem?_eq_some_iff.mp k1).1
      refine .inr ⟨k2, fun H2 => H2 = upd (upd H' a (.dK [])) D (.lst (((ns.map absI).take (j + 1)).map V.int)), fun H3 e3 => ⟨ns.length - (j + 1), by omega, hlt, rfl, e3⟩, fun x H3 hy => ?_⟩
      obtain ⟨rfl, rfl⟩ := k3 x H3 hy
      refine ⟨rfl, ?_⟩
      show ∃ v, _ ∧ _
      refine ⟨_, rfl, c, rfl, _, upd_same, ?_, ?_⟩
      · rw [List.length_map, List.length_take, List.length_map]
        omega
      · have k4 : (ns.map absI)[j]? = some (absI c) := by rw [List.getElem?_map, k1]; rfl
        rw [upd_upd, take_snoc k4, List.map_append]
        rfl
  · have hlt : i < ns.length := (List.getElem?_eq_some_iff.mp h1).1
    refine .inr ⟨h2, fun σ H2 => H2 = H' ∧ ∃ o, σ = [some (.ref a0), some (.int (mixOf (ns.take (i + 1)))), o], fun σ2 H3 ⟨e1, o, e2⟩ => ⟨ns.length - (i + 1), by omega, e1, hlt, rfl, o, e2⟩, fun x H3 hy => ?_⟩
    obtain ⟨rfl, rfl⟩ := h3 x H3 hy
    refine ⟨_, rfl, _, _, rfl, rfl, ?_, _, rfl, _, _, rfl, rfl, ?_, _, _, rfl, rfl, _, _, rfl, rfl, .inl ⟨_, rfl, _, _, rfl, rfl, ?_, rfl, some (.int c), ?_⟩⟩
    · unfold mulOk
      simp
    · unfold mulOk
      simp
    · show (2147483629 : Int) ≠ 0
      decide
    · rw [take_snoc h1, mixOf_snoc]
      rfl
end
end Dk
end
section
set_option Elab.async false
set_option linter.all false
set_option maxRecDepth 100000
set_option maxHeartbeats 4000000
set_option autoImplicit false
namespace Dk
open PySem PySem.Spec PyProof.Rows L2
/-! ## more laps change nothing -/
theorem whl_up {c : List W → Lo → Src → R Bool} {b b' : List W → Lo → Src → RS} (hb : ∀ σ L S, b σ L S ≠ .st → b' σ L S = b σ L S) : ∀ (n m : Nat) (σ : List W) (L : Lo) (S : Src), n ≤ m → whl c b n σ L S ≠ .st → whl c b' m σ L S = whl c b n σ L S
  | 0, _, _, _, _, _, h => absurd rfl h
  | n + 1, 0, _, _, _, hm, _ => absurd hm (Nat.not_succ_le_zero n)
  | n + 1, m + 1, σ, L, S, hm, h => by
    have h : (c σ L S).then σ (fun k L S => if k = true then
      match b σ L S with
      | .nx σ L S => whl c b n σ L S
      | .ct σ L S => whl c b n σ L S
      | .bk σ L S => .nx σ L S
      | r => r
      else .nx σ L S) ≠ .st := h
    show (c σ L S).then σ (fun k L S => if k = true then
      match b' σ L S with
      | .nx σ L S => whl c b' m σ L S
      | .ct σ L S => whl c b' m σ L S
      | .bk σ L S => .nx σ L S
      | r => r
      else .nx σ L S) = (c σ L S).then σ (fun k L S => if k = true then
      match b σ L S with
      | .nx σ L S => whl c b n σ L S
      | .ct σ L S => whl c b n σ L S
      | .bk σ L S => .nx σ L S
      | r => r
      else .nx σ L S)
    cases e : c σ L S with
    | st => rfl
    | ex z L S => rfl
    | ok k L1 S1 =>
      rw [e] at h
      simp only [R.then_ok] at h ⊢
      cases k with
      | false => rfl
      | true =>
        simp only [if_true] at h ⊢
        have hne : b σ L1 S1 ≠ .st := fun z => by rw [z] at h; exact h rfl
        rw [hb _ _ _ hne]
        cases e2 : b σ L1 S1 with
        | st => rfl
        | nx σ2 L2 S2 => rw [e2] at h; exact whl_up hb n m σ2 L2 S2 (Nat.le_of_succ_le_succ hm) h
        | ct σ2 L2 S2 => rw [e2] at h; exact whl_up hb n m σ2 L2 S2 (Nat.le_of_succ_le_succ hm) h
        | bk σ2 L2 S2 => rfl
        | rt x S2 => rfl
        | ex z σ2 L2 S2 => rfl
theorem forL_up {f f' : PyData → List W → Lo → Src → RS} (hf : ∀ x σ L S, f x σ L S ≠ .st → f' x σ L S = f x σ L S) : ∀ (xs : List PyData) (σ : List W) (L : Lo) (S : Src), forL f xs σ L S ≠ .st → forL f' xs σ L S = forL f xs σ L S
  | [], _, _, _, _ => rfl
  | x :: xs, σ, L, S, h => by
    have h : (match f x σ L S with
      | .nx σ L S => forL f xs σ L S
      | .ct σ L S => forL f xs σ L S
      | .bk σ L S => .nx σ L S
      | r => r) ≠ .st := h
    show (match f' x σ L S with
      | .nx σ L S => forL f' xs σ L S
      | .ct σ L S => forL f' xs σ L S
      | .bk σ L S => .nx σ L S
      | r => r) = (match f x σ L S with
      | .nx σ L S => forL f xs σ L S
      | .ct σ L S => forL f xs σ L S
      | .bk σ L S => .nx σ L S
      | r => r)
    have hne : f x σ L S ≠ .st := fun z => by rw [z] at h; exact h rfl
    rw [hf _ _ _ _ hne]
    cases e : f x σ L S with
    | st => rfl
    | nx σ2 L2 S2 => rw [e] at h; exact forL_up hf xs σ2 L2 S2 h
    | ct σ2 L2 S2 => rw [e] at h; exact forL_up hf xs σ2 L2 S2 h
    | bk σ2 L2 S2 => rfl
    | rt x S2 => rfl
    | ex z σ2 L2 S2 => rfl
theorem then_up {α : Type} {r : R α} {σ : List W} {f f' : α → Lo → Src → RS} (h : r.then σ f ≠ .st) (hf : ∀ a L S, f a L S ≠ .st → f' a L S = f a L S) : r.then σ f' = r.then σ f := by
  cases r with
  | st => rfl
  | ok a L S => exact hf a L S h
  | ex e L S => rfl
mutual
theorem exec_up {Δ : Tb} {n m : Nat} (hm : n ≤ m) : ∀ (s : Dk.S) (σ : List W) (L : Lo) (S : Src), exec Δ n s σ L S ≠ .st → exec Δ m s σ L S = exec Δ n s σ L S
  | .asg (.nm i) e, σ, L, S, h => rfl
  | .asg (.tp ts) e, σ, L, S, h => rfl
  | .par i j a b, σ, L, S, h => rfl
  | .par3 i j l a b c, σ, L, S, h => rfl
  | .aug i o e, σ, L, S, h => rfl
  | .app v e, σ, L, S, h => rfl
  | .seti v k e, σ, L, S, h => rfl
  | .sset v f e, σ, L, S, h => rfl
  | .ex e, σ, L, S, h => rfl
  | .ite c a b, σ, L, S, h => then_up h fun k L S h => by
      cases k with
      | true => exact execs_up hm a σ L S h
      | false => exact execs_up hm b σ L S h
  | .whl c b, σ, L, S, h => whl_up (fun σ L S h => execs_up hm b σ L S h) n m σ L S hm h
  | .for_ t it b, σ, L, S, h => then_up h fun xs L S h => forL_up (fun x σ L S h => by
      cases e : bindT t x σ with
      | none => rfl
      | some σ' =>
        rw [e] at h
        exact execs_up hm b σ' L S h) xs σ L S h
  | .ret e, σ, L, S, h => rfl
  | .brk, σ, L, S, h => rfl
  | .cnt, σ, L, S, h => rfl
  | .pas, σ, L, S, h => rfl
  | .nev, σ, L, S, h => rfl
  | .frz v, σ, L, S, h => rfl
theorem execs_up {Δ : Tb} {n m : Nat} (hm : n ≤ m) : ∀ (s : Ss) (σ : List W) (L : Lo) (S : Src), execs Δ n s σ L S ≠ .st → execs Δ m s σ L S = execs Δ n s σ L S
  | .nil, σ, L, S, h => rfl
  | .cons s ss, σ, L, S, h => by
    have h : (exec Δ n s σ L S).seq (fun σ L S => execs Δ n ss σ L S) ≠ .st := h
    show (exec Δ m s σ L S).seq (fun σ L S => execs Δ m ss σ L S) = (exec Δ n s σ L S).seq (fun σ L S => execs Δ n ss σ L S)
    have hne : exec Δ n s σ L S ≠ .st := fun z => by rw [z] at h; exact h rfl
    rw [exec_up hm s σ L S hne]
    cases e : exec Δ n s σ L S with
    | nx σ2 L2 S2 => rw [e] at h; exact execs_up hm ss σ2 L2 S2 h
    | _ => rfl
end
/-! ## the meaning of a def by its body -/
theorem run_nil {Δ : Tb} {n slots : Nat} {b : Ss} {ws : List W} {S S' : Src} {x : PyData} {L : Lo} (h : run Δ n slots b ws S = .ok x L S') : L = [] := by
  unfold run at h
  split at h <;> first | (cases h; rfl) | cases h
theorem run_up {Δ : Tb} {n m slots : Nat} {b : Ss} {ws : List W} {S : Src} (hm : n ≤ m) (h : run Δ n slots b ws S ≠ .st) : run Δ m slots b ws S = run Δ n slots b ws S := by
  have hne : execs Δ n b (ws ++ List.replicate (slots - ws.length) .un) [] S ≠ .st := fun z => h (by unfold run; rw [z])
  unfold run
  rw [execs_up hm b _ _ _ hne]
open Classical in
noncomputable def mean (Δ : Tb) (np slots : Nat) (b : Ss) : Fn := fun ws S =>
  if ws.length = np ∧ argOk ws = true then (if h : ∃ n, run Δ n slots b ws S ≠ .st then run Δ (Classical.choose h) slots b ws S else .st) else .st
theorem mean_ok {Δ : Tb} {n np slots : Nat} {b : Ss} {ws : List W} {S S' : Src} {x : PyData} {L : Lo} (hl : ws.length = np ∧ argOk ws = true) (h : run Δ n slots b ws S = .ok x L S') : mean Δ np slots b ws S = .ok x [] S' := by
  have e := run_nil h
  subst e
  have hx : ∃ n, run Δ n slots b ws S ≠ .st := ⟨n, by rw [h]; exact fun z => by cases z⟩
  unfold mean
  rw [if_pos hl, dif_pos hx]
  have h1 := Classical.choose_spec hx
  rcases Nat.le_total n (Classical.choose hx) with z | z
  · rw [run_up z (by rw [h]; exact fun z => by cases z), h]
  · rw [← run_up z h1, h]
theorem mean_inv {Δ : Tb} {np slots : Nat} {b : Ss} {ws : List W} {S S' : Src} {x : PyData} {L : Lo} (h : mean Δ np slots b ws S = .ok x L S') : (ws.length = np ∧ argOk ws = true) ∧ ∃ n L2, run Δ n slots b ws S = .ok x L2 S' := by
  unfold mean at h
  split at h
  · rename_i hl
    split at h
    · exact ⟨hl, _, _, h⟩
    · cases h
  · cases h
/-! ## tables -/
def tb0 : Tb := fun _ _ _ => .st
def add (x : Str) (φ : Fn) (Δ : Tb) : Tb := fun f => if f = x then φ else Δ f
theorem add_eq {x : Str} {φ : Fn} {Δ : Tb} : add x φ Δ x = φ := if_pos rfl
theorem add_ne {x y : Str} {φ : Fn} {Δ : Tb} (h : y ≠ x) : add x φ Δ y = Δ y := if_neg h
section
variable {P : Program} {w : World} {K : PySem.W.Frag} {mg : Str → Option Value} {base : Heap} {k : Nat} {Δ : Tb}
theorem Fun.ofD {x : Str} {st : Stmt} {f : Addr} {fd : FuncData} (F : FunD K x x (defArgs st) (defBody st) (defScope st) [] [] f fd) : Fun K x x st f fd := by
  obtain ⟨oc, od, dV, kV, doc, pm, an, cdv, ct, osl, e, lk, hcd, hD, _⟩ := F.ex
  rcases hD with ⟨_, rfl⟩ | ⟨z, _⟩
  · exact ⟨⟨oc, od, kV, doc, pm, an, cdv, ct, osl, e, lk, hcd⟩, F.kp⟩
  · exact absurd rfl z
abbrev freeNames : List Str := ["abs", "max", "min", "len", "int", "repr", "all", "tuple", "list", "sum", "sorted", "str", "isinstance", "range", "enumerate", "zip", "bool"]
theorem Tabs.nil (h : ∀ x ∈ freeNames, mg x = none) : Tabs tb0 P w K mg base 0 := ⟨h, fun f => .inl fun _ _ _ _ _ z => by cases z⟩
theorem Cal.up {j : Nat} {f : Str} (h : Cal Δ P w K mg base k f) {Δ' : Tb} (e : Δ' f = Δ f) (hj : k ≤ j) : Cal Δ' P w K mg base j f := by
  obtain ⟨fa, fd, ps, h1, h2, h3, h4, h5⟩ := h.ex
  exact ⟨fa, fd, ps, by rw [e]; exact h1.mono hj, h2, h3, h4, by rw [e]; exact h5⟩
theorem Cst.up {f : Str} (h : Cst Δ K mg f) {Δ' : Tb} (e : Δ' f = Δ f) : Cst Δ' K mg f := by
  obtain ⟨d, u, v, h1, h2⟩ := h.ex
  exact ⟨d, u, v, e.trans h1, h2⟩
theorem Tabs.gcd (T : Tabs Δ P w K mg base k) (h : mg "gcd" = some (.builtin "math.gcd")) : Tabs (add "gcd" gcdF Δ) P w K mg base k := by
  refine ⟨T.free, fun f => ?_⟩
  by_cases e : f = "gcd"
  · subst e
    exact .inr (.inr (.inl ⟨rfl, h, add_eq⟩))
  · rcases T.tab f with z | z | ⟨z, _⟩ | z
    · exact .inl (by rw [add_ne e]; exact z)
    · exact .inr (.inl (z.up (add_ne e) (Nat.le_refl _)))
    · exact absurd z e
    · exact .inr (.inr (.inr (z.up (add_ne e))))
theorem Tabs.con {x : Str} {d : PyData} (T : Tabs Δ P w K mg base k) (h : ∃ u v, mg x = some u ∧ L2.RelV v u ∧ ∀ G, Dt K G v d) : Tabs (add x (conF d) Δ) P w K mg base k := by
  refine ⟨T.free, fun f => ?_⟩
  by_cases e : f = x
  · subst e
    obtain ⟨u, v, h1, h2, h3⟩ := h
    exact .inr (.inr (.inr ⟨d, u, v, add_eq, h1, h2, h3⟩))
  · rcases T.tab f with z | z | ⟨z1, z2, z3⟩ | z
    · exact .inl (by rw [add_ne e]; exact z)
    · exact .inr (.inl (z.up (add_ne e) (Nat.le_refl _)))
    · exact .inr (.inr (.inl ⟨z1, z2, by rw [add_ne e]; exact z3⟩))
    · exact .inr (.inr (.inr (z.up (add_ne e))))
theorem Tabs.add {x : Str} {φ : Fn} {f : Addr} {fd : FuncData} {ps : List Str} (T : Tabs Δ P w K mg base k) (FG : FnG P w K mg base CX0 (k + 1) f fd ps (spD K ps.length φ)) (hm : mg x = some (.ref f)) (kp : PySem.W.keepIn K (.ref f) = true) (bnd : Binds K fd ps [])
    (hl : ∀ ws S y L' S', φ ws S = .ok y L' S' → ws.length = ps.length ∧ argOk ws = true) : Tabs (add x φ Δ) P w K mg base (k + 1) := by
  refine ⟨T.free, fun g => ?_⟩
  by_cases e : g = x
  · subst e
    exact .inr (.inl ⟨f, fd, ps, by rw [add_eq]; exact FG, hm, kp, bnd, by rw [add_eq]; exact hl⟩)
  · rcases T.tab g with z | z | ⟨z1, z2, z3⟩ | z
    · exact .inl (by rw [add_ne e]; exact z)
    · exact .inr (.inl (z.up (add_ne e) (Nat.le_succ _)))
    · exact .inr (.inr (.inl ⟨z1, z2, by rw [add_ne e]; exact z3⟩))
    · exact .inr (.inr (.inr (z.up (add_ne e))))
/-- one more def of the text -/
theorem Tabs.def_ {x : Str} {st : Stmt} {f : Addr} {fd : FuncData} {N ps : List Str} {b : Ss} (T : Tabs Δ P w K mg base k) (F : FunD K x x (defArgs st) (defBody st) (defScope st) [] [] f fd) (hm : mg x = some (.ref f))
    (bnd : ∀ (kV doc pm : Value) (an : Option Addr) (cdv ct : Value) (us : List Value), us.length = ps.length → bindArgs (PySem.W.fnOf x x (defArgs st) (defBody st) (defScope st) .none kV doc pm an cdv ct) ⟨us, []⟩ = pure (ps.zip us))
    (S : FnScope N ps (defScope st)) (chk : chkSs N (defScope st) b (defBody st) = true) : Tabs (Dk.add x (mean Δ ps.length N.length b) Δ) P w K mg base (k + 1) :=
  T.add (def_ok T (Fun.ofD F) S chk fun _ _ _ _ _ h => ⟨(mean_inv h).1.1, (mean_inv h).2⟩) hm F.kp (F.bindsN bnd) fun _ _ _ _ _ h => (mean_inv h).1
/-! ## data of the module -/
mutual
def litB (K : PySem.W.Frag) : PyData → Value → Bool
  | .none, .none => true
  | .bool b, .bool c => decide (b = c)
  | .int i, .int j _ => decide (i = j)
  | .str x, .str y _ => decide (x = y)
  | .tuple ds, .ref a => match K.lookup a with
    | some ⟨.type c, _, .seq its _, _⟩ => decide (c = "tuple") && (decide (its.size ≤ sizeLine) && litAll K ds its.toList)
    | _ => false
  | _, _ => false
def litAll (K : PySem.W.Frag) : List PyData → List Value → Bool
  | [], [] => true
  | d :: ds, u :: us => litB K d u && litAll K ds us
  | _, _ => false
end
mutual
theorem litB_ok : ∀ {d : PyData} {u : Value}, litB K d u = true → ∃ v, L2.RelV v u ∧ ∀ G, Dt K G v d
  | .none, u, h => by
    cases u <;> first | (simp [litB] at h; done) | skip
    exact ⟨.non, rfl, fun _ => .non⟩
  | .bool b, u, h => by
    cases u <;> first | (simp [litB] at h; done) | skip
    rename_i c
    cases of_decide_eq_true (show decide (b = c) = true from h)
    exact ⟨.bl b, rfl, fun _ => .bl _⟩
  | .int i, u, h => by
    cases u <;> first | (simp [litB] at h; done) | skip
    rename_i c t
    cases of_decide_eq_true (show decide (i = c) = true from h)
    exact ⟨.int i, ⟨t, rfl⟩, fun _ => .int _⟩
  | .str x, u, h => by
    cases u <;> first | (simp [litB] at h; done) | skip
    rename_i c t
    cases of_decide_eq_true (show decide (x = c) = true from h)
    exact ⟨.str x, ⟨t, rfl⟩, fun _ => .str _⟩
  | .tuple ds, u, h => by
    cases u <;> first | (simp [litB] at h; done) | skip
    rename_i a
    have h : (match K.lookup a with
      | some ⟨.type c, _, .seq its _, _⟩ => decide (c = "tuple") && (decide (its.size ≤ sizeLine) && litAll K ds its.toList)
      | _ => false) = true := h
    split at h
    · rename_i c od its n sl e
      obtain ⟨h1, h2⟩ := and2 h
      obtain ⟨h3, h4⟩ := and2 h2
      obtain ⟨vs, h5, h6⟩ := litAll_ok h4
      exact ⟨.ref a, rfl, fun G => .tup (.inr ⟨_, its, n, e, congrArg Value.type (of_decide_eq_true h1), rfl, of_decide_eq_true h3, h5⟩) (h6 G)⟩
    · cases h
  | .list _, u, h => by cases u <;> simp [litB] at h
  | .dict _, u, h => by cases u <;> simp [litB] at h
theorem litAll_ok : ∀ {ds : List PyData} {us : List Value}, litAll K ds us = true → ∃ vs, L2.Vals vs us ∧ ∀ G, DtAll K G vs ds
  | [], us, h => by
    cases us with
    | nil => exact ⟨[], .nil, fun _ => .nil⟩
    | cons _ _ => simp [litAll] at h
  | d :: ds, us, h => by
    cases us with
    | nil => simp [litAll] at h
    | cons u us =>
      obtain ⟨h1, h2⟩ := and2 (show (litB K d u && litAll K ds us) = true from h)
      obtain ⟨v, h3, h4⟩ := litB_ok h1
      obtain ⟨vs, h5, h6⟩ := litAll_ok h2
      exact ⟨v :: vs, .cons h3 h5, fun G => .cons (h4 G) (h6 G)⟩
end
/-- the module's name x stands for the datum d -/
def gvB (K : PySem.W.Frag) (x : Str) (d : PyData) : Bool := match PySem.W.nsIn K mainGlobals x with
  | some (some u) => litB K d u
  | _ => false
theorem gvB_ok {h : Heap} (hK : K.In h) (hm : h.Ns mainGlobals mg) {x : Str} {d : PyData} (c : gvB K x d = true) : ∃ u v, mg x = some u ∧ L2.RelV v u ∧ ∀ G, Dt K G v d := by
  unfold gvB at c
  split at c
  · rename_i u e
    obtain ⟨v, h1, h2⟩ := litB_ok c
    exact ⟨u, v, PySem.W.mg_of hK hm e, h1, h2⟩
  · cases c
def gcdB (K : PySem.W.Frag) : Bool := match PySem.W.nsIn K mainGlobals "gcd" with
  | some (some (.builtin id)) => decide (id = "math.gcd")
  | _ => false
theorem gcdB_ok {h : Heap} (hK : K.In h) (hm : h.Ns mainGlobals mg) (c : gcdB K = true) : mg "gcd" = some (.builtin "math.gcd") := by
  unfold gcdB at c
  split at c
  · rename_i id e
    cases of_decide_eq_true c
    exact PySem.W.mg_of hK hm e
  · cases c
/-! ## the law -/
def spLaw (K : PySem.W.Frag) (n : Nat) : Sp := fun vs H Q _ => ∃ (a0 : Addr) (ns : List Int), vs = [.ref a0] ∧ SqL K H a0 (ns.map V.int) ∧ ns.length ≤ n ∧ ∀ H', Q (.bl true) H'
theorem law_ok {p1 p2 p3 p4 p5 : Pos} {st : Stmt} {f fS : Addr} {fd fdS : FuncData} {N : List Str} {b : Ss} {rest : List Stmt} {i n j : Nat} (T : Tabs Δ P w K mg base k) (F : FunD K "law" "law" (defArgs st) (defBody st) (defScope st) [] [] f fd)
    (FS : FnG P w K mg base CX0 j fS fdS ["script"] (spSrc K)) (hj : j ≤ k) (mS : mg "_law_source" = some (.ref fS)) (kS : PySem.W.keepIn K (.ref fS) = true) (bS : Binds K fdS ["script"] []) (S : FnScope N ["script"] (defScope st))
    (hb : defBody st = .Assign [.Name "source" p1] (.Call (.Name "_law_source" p2) [.Name "script" p3] [] p4) p5 :: rest) (h0 : N[0]? = some ("script" : Str)) (hi : N[i]? = some ("source" : Str)) (hsrc : chkTg N (fun _ => true) (defScope st) (.nm i) (.Name "source" p1) = true)
    (hscr : visB (defScope st) "script" = true) (hg : glB (defScope st) "_law_source" = true) (chk : chkSs N (defScope st) b rest = true) (hn : n ≤ 1000)
    (pure_ : ∀ ns : List Int, ns.length ≤ n → ∃ m S', execs Δ m b ((List.replicate N.length .un).set i .src) [] (src0 ns) = .rt (.bool true) S') : FnG P w K mg base CX0 (k + 1) f fd ["script"] (spLaw K n) := by
  refine fnG_of (Fun.ofD F) S (fun vs H Q E ⟨a0, ns, e, _⟩ => by rw [e]; rfl) fun cd A out s H vs Q E hr hgd q => ?_
  obtain ⟨a0, ns, rfl, hS, hl, fin⟩ := q
  obtain ⟨m, S', hrun⟩ := pure_ ns hl
  rw [hb]
  generalize hX : cxOf CX0 P w K mg base N "law" (defScope st) f cd A out s H E = X
  have g : Good Δ k X := by subst hX; exact ⟨rfl, S.nd, S.kind, hr, hgd, T.free, T.tab⟩
  have hN : X.N = N := by subst hX; rfl
  have hsc : X.env.scope = defScope st := by subst hX; rfl
  have hK : X.K = K := by subst hX; rfl
  have hP : FnG X.prog X.w X.K X.mg X.base CX0 j fS fdS ["script"] (spSrc K) := by subst hX; exact FS
  have hmS : X.mg "_law_source" = some (.ref fS) := by subst hX; exact mS
  have hkS : PySem.W.keepIn X.K (.ref fS) = true := by subst hX; exact kS
  have hbS : Binds X.K fdS ["script"] [] := by subst hX; exact bS
  have hfn : ∀ x, X.fn x = true := by subst hX; exact fun _ => rfl
  have hp : PassesOwn (model X.prog X.w) X.A X.env X.xe := by subst hX; exact passes_of rfl
  clear hX
  have n0 : X.N[0]? = some ("script" : Str) := by rw [hN]; exact h0
  have ni : X.N[i]? = some ("source" : Str) := by rw [hN]; exact hi
  have v0 : Vis X.env.scope "script" := by rw [hsc]; exact visB_ok hscr
  have loc : Loc X.env.scope "source" := by
    rw [hsc]
    unfold chkTg at hsrc
    have h2 := (and2 hsrc).2
    split at h2
    · exact .inl (by assumption)
    · exact .inr (by assumption)
    · cases h2
  have pc : PE X (.Call (.Name "_law_source" p2) [.Name "script" p3] [] p4) (fun σ H Q => tCons (tVar 0) tNil σ H fun vs H1 => spSrc K vs H1 Q (fun _ _ _ => False)) := by
    refine ⟨fun pins s σ H Q I h => ?_⟩
    refine wpAny_Call_Name_kw (ld_glob I (by rw [← hsc] at hg; exact glB_ok hg) hmS ?_)
    refine PySem.W.callWith_K (h₀ := X.base) I.ok.mod.kin hkS (thn ((pa_cons (pe_var (pos := p3) n0 v0) pa_nil).run p4 pins s σ H _ I h) fun us s1 ⟨vs, H1, I1, rv, q1⟩ => ⟨I1.kIn, ?_⟩)
    exact runG hP (g.room.mono hj) g.gd hbS (fun _ _ _ _ _ _ _ z => False.elim z) I1 rv q1
  have s1 := ps_asg (pos := p5) pc (pg_name (pos := p1) g.nd ni loc (.inl (hfn _)))
  refine ⟨_, pss_cons s1 (sndSs (n := m) b g hfn hp rest (by rw [hN, hsc]; exact chk)), ?_⟩
  have z0 : (start N [V.ref a0])[0]? = some (some (.ref a0)) := rfl
  refine ⟨_, z0, a0, ns, rfl, hS, Nat.le_trans hl hn, fun a c H' ha hc hsa sm => ?_⟩
  have hil : i < N.length := (List.getElem?_eq_some_iff.mp hi).1
  refine ⟨⟨H', fun _ => none, [], some (a, c)⟩, fun _ => none, [], (List.replicate N.length .un).set i .src, [], src0 ns, rfl, ?_, ?_⟩
  · refine ⟨fun b o z => (nomatch (show (none : Option HO) = some o from z)), ?_, fun t w' e hw => ?_, rfl, List.nodup_nil, fun j a e => by simp at e, List.prefix_refl _, fun a' c' e => ?_, fun b o e _ _ => e, Same.refl _, fun b o e => .inl e⟩
    · have hN1 : 1 ≤ N.length := by omega
      unfold L2.start
      simp only [List.length_set, List.length_replicate, List.length_append, List.length_map, List.length_cons, List.length_nil]
      omega
    · by_cases ht : t = i
      · subst ht
        rw [List.getElem?_set_self (by rw [List.length_replicate]; exact hil)] at e
        cases e
        refine ⟨.ref a, List.getElem?_set_self ?_, a, c, rfl, rfl⟩
        have hN1 : 1 ≤ N.length := by omega
        unfold L2.start
        simp only [List.length_replicate, List.length_append, List.length_map, List.length_cons, List.length_nil]
        omega
      · rw [List.getElem?_set_ne (Ne.symm ht)] at e
        have := List.mem_of_getElem? e
        exact absurd (List.eq_of_mem_replicate this) hw
    · cases e
      exact ⟨hsa, rfl, rfl, by simp, by simp⟩
  · rw [hrun]
    intro G' ρ' σw L σ v H2 r s d
    cases d
    exact fin H2
end
end Dk
end
section
set_option Elab.async false
set_option linter.all false
set_option maxRecDepth 100000
set_option maxHeartbeats 4000000
set_option autoImplicit false
namespace Dk
open PySem PySem.Spec
/-! ## what holds behind a run -/
def Wr {α : Type} (r : R α) (Q : α → Lo → Src → Prop) : Prop :=
  match r with
  | .ok a L S => Q a L S
  | _ => False
@[simp] theorem Wr_ok {α : Type} {a : α} {L : Lo} {S : Src} {Q : α → Lo → Src → Prop} : Wr (.ok a L S) Q ↔ Q a L S := Iff.rfl
@[simp] theorem Wr_st {α : Type} {Q : α → Lo → Src → Prop} : Wr .st Q ↔ False := Iff.rfl
@[simp] theorem Wr_bind {α β : Type} {r : R α} {f : α → Lo → Src → R β} {Q : β → Lo → Src → Prop} : Wr (r.bind f) Q ↔ Wr r fun a L S => Wr (f a L S) Q := by
  cases r <;> exact Iff.rfl
theorem Wr.mono {α : Type} {r : R α} {Q Q' : α → Lo → Src → Prop} (h : Wr r Q) (i : ∀ a L S, Q a L S → Q' a L S) : Wr r Q' := by
  cases r with
  | ok a L S => exact i _ _ _ h
  | st => exact h
  | ex e L S => exact h
theorem Wr_eq {α : Type} {r : R α} {Q : α → Lo → Src → Prop} : Wr r Q ↔ ∃ a L S, r = .ok a L S ∧ Q a L S := by
  cases r with
  | ok a L S => exact ⟨fun h => ⟨a, L, S, rfl, h⟩, fun ⟨_, _, _, e, h⟩ => by cases e; exact h⟩
  | st => exact ⟨fun h => h.elim, fun ⟨_, _, _, e, _⟩ => by cases e⟩
  | ex e L S => exact ⟨fun h => h.elim, fun ⟨_, _, _, e, _⟩ => by cases e⟩
structure Fin4 where
  nx : List W → Lo → Src → Prop
  rt : PyData → Src → Prop
  bk : List W → Lo → Src → Prop := fun _ _ _ => False
  ct : List W → Lo → Src → Prop := fun _ _ _ => False
def Ws (r : RS) (D : Fin4) : Prop :=
  match r with
  | .nx σ L S => D.nx σ L S
  | .bk σ L S => D.bk σ L S
  | .ct σ L S => D.ct σ L S
  | .rt x S => D.rt x S
  | _ => False
@[simp] theorem Ws_nx {σ : List W} {L : Lo} {S : Src} {D : Fin4} : Ws (.nx σ L S) D ↔ D.nx σ L S := Iff.rfl
@[simp] theorem Ws_bk {σ : List W} {L : Lo} {S : Src} {D : Fin4} : Ws (.bk σ L S) D ↔ D.bk σ L S := Iff.rfl
@[simp] theorem Ws_ct {σ : List W} {L : Lo} {S : Src} {D : Fin4} : Ws (.ct σ L S) D ↔ D.ct σ L S := Iff.rfl
@[simp] theorem Ws_rt {x : PyData} {S : Src} {D : Fin4} : Ws (.rt x S) D ↔ D.rt x S := Iff.rfl
@[simp] theorem Ws_st {D : Fin4} : Ws .st D ↔ False := Iff.rfl
@[simp] theorem Ws_then {α : Type} {r : R α} {σ : List W} {f : α → Lo → Src → RS} {D : Fin4} : Ws (r.then σ f) D ↔ Wr r fun a L S => Ws (f a L S) D := by
  cases r <;> exact Iff.rfl
@[simp] theorem Ws_seq {r : RS} {f : List W → Lo → Src → RS} {D : Fin4} : Ws (r.seq f) D ↔ Ws r { D with nx := fun σ L S => Ws (f σ L S) D } := by
  cases r <;> exact Iff.rfl
theorem Ws.mono {r : RS} {D D' : Fin4} (h : Ws r D) (i1 : ∀ σ L S, D.nx σ L S → D'.nx σ L S) (i2 : ∀ x S, D.rt x S → D'.rt x S) (i3 : ∀ σ L S, D.bk σ L S → D'.bk σ L S) (i4 : ∀ σ L S, D.ct σ L S → D'.ct σ L S) : Ws r D' := by
  cases r with
  | nx σ L S => exact i1 _ _ _ h
  | bk σ L S => exact i3 _ _ _ h
  | ct σ L S => exact i4 _ _ _ h
  | rt x S => exact i2 _ _ h
  | st => exact h
  | ex e σ L S => exact h
theorem Ws_ite {c : Prop} [Decidable c] {r r' : RS} {D : Fin4} : Ws (if c then r else r') D ↔ if c then Ws r D else Ws r' D := by
  split <;> exact Iff.rfl
theorem Wr_ite {α : Type} {c : Prop} [Decidable c] {r r' : R α} {Q : α → Lo → Src → Prop} : Wr (if c then r else r') Q ↔ if c then Wr r Q else Wr r' Q := by
  split <;> exact Iff.rfl
@[simp] theorem Wr_ofO {α : Type} {o : Option α} {L : Lo} {S : Src} {Q : α → Lo → Src → Prop} : Wr (R.ofO o L S) Q ↔ ∃ a, o = some a ∧ Q a L S := by
  cases o with
  | none => exact ⟨fun h => h.elim, fun ⟨_, e, _⟩ => by cases e⟩
  | some a => exact ⟨fun h => ⟨a, rfl, h⟩, fun ⟨_, e, h⟩ => by cases e; exact h⟩
/-- a def by its body -/
theorem run_of {Δ : Tb} {n slots : Nat} {b : Ss} {ws : List W} {S : Src} {Q : PyData → Src → Prop}
    (h : Ws (execs Δ n b (ws ++ List.replicate (slots - ws.length) .un) [] S) ⟨fun _ _ S => Q .none S, Q, fun _ _ _ => False, fun _ _ _ => False⟩) : ∃ x S', run Δ n slots b ws S = .ok x [] S' ∧ Q x S' := by
  unfold run
  cases e : execs Δ n b (ws ++ List.replicate (slots - ws.length) .un) [] S with
  | st => rw [e] at h; exact h.elim
  | nx σ L S => rw [e] at h; exact ⟨_, _, rfl, h⟩
  | bk σ L S => rw [e] at h; exact h.elim
  | ct σ L S => rw [e] at h; exact h.elim
  | rt x S => rw [e] at h; exact ⟨_, _, rfl, h⟩
  | ex z σ L S => rw [e] at h; exact h.elim
theorem mean_of {Δ : Tb} {n np slots : Nat} {b : Ss} {ws : List W} {S : Src} {Q : PyData → Src → Prop} (hl : ws.length = np ∧ argOk ws = true)
    (h : Ws (execs Δ n b (ws ++ List.replicate (slots - ws.length) .un) [] S) ⟨fun _ _ S => Q .none S, Q, fun _ _ _ => False, fun _ _ _ => False⟩) : ∃ x S', mean Δ np slots b ws S = .ok x [] S' ∧ Q x S' := by
  obtain ⟨x, S', h1, h2⟩ := run_of h
  exact ⟨x, S', mean_ok hl h1, h2⟩
/-- a call of a known def -/
theorem Wr_call {Δ : Tb} {f : Str} {es : Es} {σ : List W} {L : Lo} {S : Src} {Q : W → Lo → Src → Prop} (h : Wr (evs Δ es σ L S) fun ws L S => argOk ws = true ∧ ∃ x S', Δ f ws S = .ok x [] S' ∧ Q (.d x) L S') : Wr (ev Δ (.call f es) σ L S) Q := by
  show Wr ((evs Δ es σ L S).bind _) Q
  rw [Wr_bind]
  refine h.mono fun ws L S ⟨h1, x, S', h2, h3⟩ => ?_
  rw [if_pos h1, h2]
  exact h3
/-! ## loops -/
theorem forL_of {f : PyData → List W → Lo → Src → RS} {D : Fin4} (I : Nat → List W → Lo → Src → Prop) {xs : List PyData} {σ : List W} {L : Lo} {S : Src} (h0 : I 0 σ L S)
    (step : ∀ i x σ L S, xs[i]? = some x → I i σ L S → Ws (f x σ L S) ⟨I (i + 1), D.rt, D.nx, I (i + 1)⟩) (fin : ∀ σ L S, I xs.length σ L S → D.nx σ L S) : Ws (forL f xs σ L S) D := by
  have key : ∀ (ys : List PyData) (i : Nat) (σ : List W) (L : Lo) (S : Src), xs.drop i = ys → i ≤ xs.length → I i σ L S → Ws (forL f ys σ L S) D := by
    intro ys
    induction ys with
    | nil =>
      intro i σ L S hd hl hi
      have hl' : xs.length ≤ i := List.drop_eq_nil_iff.mp hd
      have e : i = xs.length := by omega
      subst e
      exact fin _ _ _ hi
    | cons y ys ih =>
      intro i σ L S hd hl hi
      have hlt : i < xs.length := by
        rcases Nat.lt_or_ge i xs.length with h | h
        · exact h
        · rw [List.drop_eq_nil_of_le h] at hd
          cases hd
      rw [List.drop_eq_getElem_cons hlt] at hd
      injection hd with h1 h2
      have st := step i y σ L S (by rw [List.getElem?_eq_getElem hlt, h1]) hi
      show Ws (match f y σ L S with
        | .nx σ L S => forL f ys σ L S
        | .ct σ L S => forL f ys σ L S
        | .bk σ L S => .nx σ L S
        | r => r) D
      cases e : f y σ L S with
      | nx σ2 L2 S2 => rw [e] at st; exact ih (i + 1) σ2 L2 S2 h2 hlt st
      | ct σ2 L2 S2 => rw [e] at st; exact ih (i + 1) σ2 L2 S2 h2 hlt st
      | bk σ2 L2 S2 => rw [e] at st; exact st
      | rt x S2 => rw [e] at st; exact st
      | st => rw [e] at st; exact st.elim
      | ex z σ2 L2 S2 => rw [e] at st; exact st.elim
  exact key xs 0 σ L S rfl (Nat.zero_le _) h0
theorem whl_of {c : List W → Lo → Src → R Bool} {b : List W → Lo → Src → RS} {D : Fin4} (I : Nat → List W → Lo → Src → Prop)
    (step : ∀ m σ L S, I m σ L S → Wr (c σ L S) fun k L S => if k = true then Ws (b σ L S) ⟨fun σ L S => ∃ m', m' < m ∧ I m' σ L S, D.rt, D.nx, fun σ L S => ∃ m', m' < m ∧ I m' σ L S⟩ else D.nx σ L S) :
    ∀ (n m : Nat) (σ : List W) (L : Lo) (S : Src), m < n → I m σ L S → Ws (whl c b n σ L S) D := by
  intro n
  induction n with
  | zero => intro m σ L S hm; exact absurd hm (Nat.not_lt_zero m)
  | succ n ih =>
    intro m σ L S hm hi
    have st := step m σ L S hi
    show Ws ((c σ L S).then σ fun k L S => if k = true then
      match b σ L S with
      | .nx σ L S => whl c b n σ L S
      | .ct σ L S => whl c b n σ L S
      | .bk σ L S => .nx σ L S
      | r => r
      else .nx σ L S) D
    rw [Ws_then]
    refine st.mono fun k L S h => ?_
    cases k with
    | false => exact h
    | true =>
      simp only [if_true] at h ⊢
      cases e : b σ L S with
      | nx σ2 L2 S2 =>
        rw [e] at h
        obtain ⟨m', h1, h2⟩ := h
        exact ih m' σ2 L2 S2 (by omega) h2
      | ct σ2 L2 S2 =>
        rw [e] at h
        obtain ⟨m', h1, h2⟩ := h
        exact ih m' σ2 L2 S2 (by omega) h2
      | bk σ2 L2 S2 => rw [e] at h; exact h
      | rt x S2 => rw [e] at h; exact h
      | st => rw [e] at h; exact h.elim
      | ex z σ2 L2 S2 => rw [e] at h; exact h.elim
theorem turns_of {f : PyData → Lo → Src → R (Option PyData)} {Q : List PyData → Lo → Src → Prop} (I : Nat → List PyData → Lo → Src → Prop) {xs : List PyData} {L : Lo} {S : Src} (h0 : I 0 [] L S)
    (step : ∀ i x acc L S, xs[i]? = some x → I i acc L S → Wr (f x L S) fun o L S => match o with
      | none => I (i + 1) acc L S
      | some y => acc.length < sizeLine ∧ I (i + 1) (acc ++ [y]) L S) (fin : ∀ acc L S, I xs.length acc L S → Q acc L S) : Wr (turns f xs [] L S) Q := by
  have key : ∀ (ys : List PyData) (i : Nat) (acc : List PyData) (L : Lo) (S : Src), xs.drop i = ys → i ≤ xs.length → I i acc L S → Wr (turns f ys acc L S) Q := by
    intro ys
    induction ys with
    | nil =>
      intro i acc L S hd hl hi
      have hl' : xs.length ≤ i := List.drop_eq_nil_iff.mp hd
      have e : i = xs.length := by omega
      subst e
      exact fin _ _ _ hi
    | cons y ys ih =>
      intro i acc L S hd hl hi
      have hlt : i < xs.length := by
        rcases Nat.lt_or_ge i xs.length with h | h
        · exact h
        · rw [List.drop_eq_nil_of_le h] at hd
          cases hd
      rw [List.drop_eq_getElem_cons hlt] at hd
      injection hd with h1 h2
      have st := step i y acc L S (by rw [List.getElem?_eq_getElem hlt, h1]) hi
      show Wr ((f y L S).bind _) Q
      rw [Wr_bind]
      refine st.mono fun o L S h => ?_
      cases o with
      | none => exact ih (i + 1) acc L S h2 hlt h
      | some z =>
        obtain ⟨k1, k2⟩ := h
        dsimp only
        rw [if_pos k1]
        exact ih (i + 1) _ L S h2 hlt k2
  exact key xs 0 [] L S rfl (Nat.zero_le _) h0
theorem turns_pure {f : PyData → Lo → Src → R (Option PyData)} {g : PyData → Option PyData} {L : Lo} {S : Src} : ∀ {xs acc : List PyData}, (∀ x ∈ xs, f x L S = .ok (g x) L S) → acc.length + xs.length ≤ sizeLine → turns f xs acc L S = .ok (acc ++ xs.filterMap g) L S
  | [], acc, _, _ => by rw [List.filterMap_nil, List.append_nil]; rfl
  | x :: xs, acc, h, hl => by
    show (f x L S).bind _ = _
    rw [h x List.mem_cons_self, R.bind_ok]
    rw [List.length_cons] at hl
    cases e : g x with
    | none =>
      dsimp only
      rw [turns_pure (fun y hy => h y (List.mem_cons_of_mem _ hy)) (by omega), List.filterMap_cons_none e]
    | some y =>
      dsimp only
      rw [if_pos (by omega), turns_pure (fun y hy => h y (List.mem_cons_of_mem _ hy)) (by rw [List.length_append, List.length_singleton]; omega), List.filterMap_cons_some e, List.append_assoc]
      rfl
/-! ## steps -/
@[simp] theorem opC_eqi (i j : Int) : opC .eq (.int i) (.int j) = some (decide (i = j)) := rfl
@[simp] theorem opC_nei (i j : Int) : opC .ne (.int i) (.int j) = some (!decide (i = j)) := rfl
@[simp] theorem opC_eqs (i j : Str) : opC .eq (.str i) (.str j) = some (decide (i = j)) := rfl
@[simp] theorem opC_nes (i j : Str) : opC .ne (.str i) (.str j) = some (!decide (i = j)) := rfl
@[simp] theorem opC_lt (i j : Int) : opC .lt (.int i) (.int j) = some (decide (i < j)) := rfl
@[simp] theorem opC_le (i j : Int) : opC .le (.int i) (.int j) = some (decide (i ≤ j)) := rfl
@[simp] theorem opC_gt (i j : Int) : opC .gt (.int i) (.int j) = some (decide (j < i)) := rfl
@[simp] theorem opC_ge (i j : Int) : opC .ge (.int i) (.int j) = some (decide (j ≤ i)) := rfl
@[simp] theorem opC_is (x : PyData) : opC .is x .none = some (isNone x) := by cases x <;> rfl
@[simp] theorem opC_isnt (x : PyData) : opC .isnt x .none = some (!isNone x) := by cases x <;> rfl
@[simp] theorem opC_isb (x y : Bool) : opC .is (.bool x) (.bool y) = some (decide (x = y)) := rfl
@[simp] theorem opC_isntb (x y : Bool) : opC .isnt (.bool x) (.bool y) = some (!decide (x = y)) := rfl
section
variable {Δ : Tb} {n : Nat} {σ : List W} {L : Lo} {S : Src} {D : Fin4}
theorem Ws_nil : Ws (execs Δ n .nil σ L S) D ↔ D.nx σ L S := Iff.rfl
theorem Ws_cons {s : Dk.S} {ss : Ss} : Ws (execs Δ n (.cons s ss) σ L S) D ↔ Ws (exec Δ n s σ L S) { D with nx := fun σ L S => Ws (execs Δ n ss σ L S) D } := Ws_seq
theorem Ws_asg {i : Nat} {e : E} : Ws (exec Δ n (.asg (.nm i) e) σ L S) D ↔ Wr (ev Δ e σ L S) fun w L S => D.nx (σ.set i w) L S := Ws_then
theorem Ws_par {i j : Nat} {a b : E} : Ws (exec Δ n (.par i j a b) σ L S) D ↔ Wr (ev Δ a σ L S) fun x L S => Wr (ev Δ b σ L S) fun y L S => D.nx ((σ.set i x).set j y) L S := by
  show Ws ((ev Δ a σ L S).then σ _) D ↔ _
  rw [Ws_then]
  constructor
  · exact fun h => h.mono fun x L S h => Ws_then.mp h
  · exact fun h => h.mono fun x L S h => Ws_then.mpr h
theorem Ws_ex {e : E} : Ws (exec Δ n (.ex e) σ L S) D ↔ Wr (ev Δ e σ L S) fun _ L S => D.nx σ L S := Ws_then
theorem Ws_if {c : T} {a b : Ss} : Ws (exec Δ n (.ite c a b) σ L S) D ↔ Wr (evT Δ c σ L S) fun k L S => if k = true then Ws (execs Δ n a σ L S) D else Ws (execs Δ n b σ L S) D := by
  show Ws ((evT Δ c σ L S).then σ _) D ↔ _
  rw [Ws_then]
  constructor
  · exact fun h => h.mono fun k L S h => Ws_ite.mp h
  · exact fun h => h.mono fun k L S h => Ws_ite.mpr h
theorem Ws_ret {e : E} : Ws (exec Δ n (.ret e) σ L S) D ↔ Wr (ev Δ e σ L S) fun w L S => ∃ x, w = .d x ∧ D.rt x S := by
  show Ws ((ev Δ e σ L S).then σ _) D ↔ _
  rw [Ws_then]
  constructor
  · refine fun h => h.mono fun w L S h => ?_
    cases w with
    | d x => exact ⟨x, rfl, h⟩
    | un => exact h.elim
    | m id => exact h.elim
    | src => exact h.elim
  · refine fun h => h.mono fun w L S h => ?_
    obtain ⟨x, rfl, h⟩ := h
    exact h
theorem Ws_whl {c : T} {b : Ss} : Ws (exec Δ n (.whl c b) σ L S) D ↔ Ws (whl (evT Δ c) (execs Δ n b) n σ L S) D := Iff.rfl
theorem Ws_for {t : Tg} {it : It} {b : Ss} : Ws (exec Δ n (.for_ t it b) σ L S) D ↔ Wr (evIt Δ it σ L S) fun xs L S => Ws (forL (fun x σ L S => match bindT t x σ with
      | some σ' => execs Δ n b σ' L S
      | none => .st) xs σ L S) D := Ws_then
theorem Ws_sset {v : Nat} {f : SF} {e : E} : Ws (exec Δ n (.sset v f e) σ L S) D ↔ Wr (ev Δ e σ L S) fun w L S => isSrc σ v = true ∧ ∃ i, w = .d (.int i) ∧ D.nx σ L (S.put i f) := by
  show Ws ((ev Δ e σ L S).then σ _) D ↔ _
  rw [Ws_then]
  constructor
  · refine fun h => h.mono fun w L S h => ?_
    rw [Ws_ite] at h
    by_cases hs : isSrc σ v = true
    · rw [if_pos hs] at h
      refine ⟨hs, ?_⟩
      cases w with
      | d x => cases x <;> first | exact ⟨_, rfl, h⟩ | exact h.elim
      | un => exact h.elim
      | m id => exact h.elim
      | src => exact h.elim
    · rw [if_neg hs] at h
      exact h.elim
  · refine fun h => h.mono fun w L S h => ?_
    obtain ⟨h1, i, rfl, h2⟩ := h
    rw [if_pos h1]
    exact h2
@[simp] theorem Wr_call_iff {f : Str} {es : Es} {Q : W → Lo → Src → Prop} : Wr (ev Δ (.call f es) σ L S) Q ↔ Wr (evs Δ es σ L S) fun ws L S => argOk ws = true ∧ Wr (Δ f ws S) fun x _ S' => Q (.d x) L S' := by
  show Wr ((evs Δ es σ L S).bind _) Q ↔ _
  rw [Wr_bind]
  constructor
  · refine fun h => h.mono fun ws L S h => ?_
    by_cases ha : argOk ws = true
    · rw [if_pos ha] at h
      refine ⟨ha, ?_⟩
      cases e : Δ f ws S with
      | ok x L' S' => rw [e] at h; exact h
      | st => rw [e] at h; exact h.elim
      | ex z L' S' => rw [e] at h; exact h.elim
    · rw [if_neg ha] at h
      exact h.elim
  · refine fun h => h.mono fun ws L S h => ?_
    obtain ⟨ha, h⟩ := h
    rw [if_pos ha]
    cases e : Δ f ws S with
    | ok x L' S' => rw [e] at h; exact h
    | st => rw [e] at h; exact h.elim
    | ex z L' S' => rw [e] at h; exact h.elim
end
/-! ## drawing -/
structure SrcOk (S : Src) : Prop where
  cells : ∀ c ∈ S.cells, 0 ≤ c
  left : 0 ≤ S.left
theorem src0_ok (ns : List Int) : SrcOk (src0 ns) := by
  refine ⟨fun c h => ?_, by show (0 : Int) ≤ 1; decide⟩
  have h2 := List.mem_reverse.mp (show c ∈ (ns.map absI).reverse from h)
  obtain ⟨i, _, rfl⟩ := List.mem_map.mp h2
  unfold absI
  split <;> omega
theorem mul_l {i j : Int} (h : i.natAbs < 18446744073709551616) : mulOk i j = true := by
  unfold mulOk
  rw [decide_eq_true (by simpa using h)]
  rfl
theorem mul_r {i j : Int} (h : j.natAbs < 18446744073709551616) : mulOk i j = true := by
  unfold mulOk
  rw [decide_eq_true (p := j.natAbs < 2 ^ 64) (by simpa using h)]
  simp
def b_pick : Ss := (.cons (.whl (.and (.cmp .gt (.var 1) (.int 1)) (.and (.cmp .lt (.sget 0 .left) (.int 2)) (.cmp .gt (.slen 0) (.int 0)))) (.cons (.sset 0 .left (.spop 0)) .nil)) (.cons (.asg (.nm 2) (.sget 0 .left)) (.cons (.ite (.or (.cmp .lt (.var 1) (.int 2)) (.cmp .gt (.var 2) (.int 1))) (.cons (.sset 0 .left (.bop .fdiv (.var 2) (.bf .max2 (.cons (.int 1) (.cons (.var 1) .nil))))) (.cons (.ret (.bop .mod (.bf .int (.cons (.var 2) .nil)) (.bf .max2 (.cons (.int 1) (.cons (.var 1) .nil))))) .nil)) .nil) (.cons (.sset 0 .turn (.bop .add (.sget 0 .turn) (.int 1))) (.cons (.asg (.nm 3) (.bop .mod (.bf .int (.cons (.bop .add (.sget 0 .mixed) (.bop .mul (.sget 0 .turn) (.int 104729))) .nil)) (.int 998244353))) (.cons (.asg (.nm 3) (.bop .mod (.bf .int (.cons (.bop .add (.bop .mul (.var 3) (.var 3)) (.bop .mul (.sget 0 .turn) (.int 17))) .nil)) (.int 2147483647))) (.cons (.sset 0 .mixed (.var 3)) (.cons (.ret (.bop .mod (.bf .int (.cons (.bop .fdiv (.var 3) (.int 16)) .nil)) (.var 1))) .nil))))))))
theorem Ws_cut {n : Nat} {Δ : Tb} {s : Dk.S} {ss : Ss} {σ : List W} {L : Lo} {S : Src} {D : Fin4} (E : List W → Lo → Src → Prop) (h : Ws (exec Δ n s σ L S) { D with nx := E }) (k : ∀ σ L S, E σ L S → Ws (execs Δ n ss σ L S) D) : Ws (execs Δ n (.cons s ss) σ L S) D := by
  rw [Ws_cons]
  exact h.mono k (fun _ _ h => h) (fun _ _ _ h => h) fun _ _ _ h => h
theorem max_1 {m : Int} (h : 1 ≤ m) : (if m > 1 then m else 1) = m := by
  split <;> omega
theorem opB_fdiv {a b : Int} (h1 : b ≠ 0) (h2 : b.natAbs.log2 < 9000) : opB .fdiv (.int a) (.int b) = some (.int (a.fdiv b)) := if_pos ⟨h1, h2⟩
theorem opB_mod {a b : Int} (h1 : b ≠ 0) : opB .mod (.int a) (.int b) = some (.int (a.fmod b)) := if_pos h1
theorem opB_mul {a b : Int} (h : mulOk a b = true) : opB .mul (.int a) (.int b) = some (.int (a * b)) := if_pos h
@[simp] theorem opB_add {a b : Int} : opB .add (.int a) (.int b) = some (.int (a + b)) := rfl
@[simp] theorem opB_sub {a b : Int} : opB .sub (.int a) (.int b) = some (.int (a - b)) := rfl
theorem log_small {m : Int} (h : m.natAbs < 2 ^ 9000) (h0 : m ≠ 0) : m.natAbs.log2 < 9000 := (Nat.log2_lt (by omega)).mpr h
theorem log_64 {m : Int} (h1 : 1 ≤ m) (h2 : m < 18446744073709551616) : m.natAbs.log2 < 9000 := by
  have : m.natAbs.log2 < 64 := (Nat.log2_lt (by omega)).mpr (by
    have : (2 : Nat) ^ 64 = 18446744073709551616 := by decide
    omega)
  omega
theorem pick_ok {Δ : Tb} {S : Src} (h : SrcOk S) {m : Int} (h1 : 1 ≤ m) (h2 : m < 18446744073709551616) : ∃ x S', mean Δ 2 4 b_pick [.src, .d (.int m)] S = .ok x [] S' ∧ ((∃ v : Int, x = .int v ∧ 0 ≤ v ∧ v < m) ∧ SrcOk S') := by
  refine mean_of (n := S.cells.length + 1) ⟨rfl, rfl⟩ ?_
  unfold b_pick
  refine Ws_cut (fun σ L S => ∃ w2 w3, σ = [.src, .d (.int m), w2, w3] ∧ L = [] ∧ SrcOk S) ?_ ?_
  · rw [Ws_whl]
    refine whl_of (D := _) (fun t σ L S => ∃ w2 w3, σ = [.src, .d (.int m), w2, w3] ∧ L = [] ∧ SrcOk S ∧ t = S.cells.length) (fun t σ L S ⟨w2, w3, e1, e2, ok, e3⟩ => ?_) _ S.cells.length _ _ _ (Nat.lt_succ_self _) ⟨.un, .un, rfl, rfl, h, rfl⟩
    subst e1 e2 e3
    simp [Wr_ite]
    by_cases k1 : 1 < m
    · by_cases k2 : S.left < 2
      · by_cases k3 : 0 < S.cells.length
        · simp only [k1, k2, k3, if_true]
          simp only [Ws_cons, Ws_nil, Ws_sset]
          have hl : S.cells.length - 1 < S.cells.length := by omega
          simp [List.getElem?_eq_getElem hl]
          refine ⟨by omega, ⟨fun c hc => ok.cells c ((List.dropLast_sublist _).subset hc), ok.cells _ (List.getElem_mem _)⟩⟩
        · simp only [k1, k2, k3, if_true, if_false]
          exact ok
      · simp only [k1, k2, if_true, if_false]
        exact ok
    · simp only [k1, if_false]
      exact ok
  · rintro σ L S ⟨w2, w3, rfl, rfl, ok⟩
    have ln := log_64 h1 h2
    have m0 : m ≠ 0 := by omega
    rw [Ws_cons, Ws_asg]
    simp
    have e1 : (if m > 1 then m else 1) = m := max_1 h1
    have body : ∀ (n : Nat) (N : List W → Lo → Src → Prop), Ws (execs Δ n (.cons (.sset 0 .left (.bop .fdiv (.var 2) (.bf .max2 (.cons (.int 1) (.cons (.var 1) .nil))))) (.cons (.ret (.bop .mod (.bf .int (.cons (.var 2) .nil)) (.bf .max2 (.cons (.int 1) (.cons (.var 1) .nil))))) .nil)) [.src, .d (.int m), .d (.int S.left), w3] [] S)
        ⟨N, fun x S' => (∃ v : Int, x = .int v ∧ 0 ≤ v ∧ v < m) ∧ SrcOk S', fun _ _ _ => False, fun _ _ _ => False⟩ := by
      intro n N
      simp only [Ws_cons, Ws_nil, Ws_sset, Ws_ret]
      simp [viewAll, opF, e1, opB_fdiv m0 ln, opB_mod m0]
      exact ⟨⟨Int.fmod_nonneg_of_pos _ (by omega), Int.fmod_lt_of_pos _ (by omega)⟩, ok.cells, Int.fdiv_nonneg ok.left (by omega)⟩
    rw [Ws_cons, Ws_if]
    simp [Wr_ite]
    by_cases k1 : m < 2
    · simp only [k1, if_true]
      exact body _ _
    · by_cases k2 : 1 < S.left
      · simp only [k1, k2, if_true, if_false]
        exact body _ _
      · simp only [k1, k2, if_false]
        simp only [Ws_cons, Ws_nil, Ws_sset, Ws_asg, Ws_ret]
        have c1 : ∀ a : Int, opB .mul (.int a) (.int 104729) = some (.int (a * 104729)) := fun a => opB_mul (mul_r (by decide))
        have c2 : ∀ a : Int, opB .mul (.int a) (.int 17) = some (.int (a * 17)) := fun a => opB_mul (mul_r (by decide))
        have c3 : ∀ a : Int, opB .mod (.int a) (.int 998244353) = some (.int (a.fmod 998244353)) := fun a => opB_mod (by decide)
        have c4 : ∀ a : Int, opB .mod (.int a) (.int 2147483647) = some (.int (a.fmod 2147483647)) := fun a => opB_mod (by decide)
        have c5 : ∀ a : Int, opB .fdiv (.int a) (.int 16) = some (.int (a.fdiv 16)) := fun a => opB_fdiv (by decide) (by decide)
        have c6 : ∀ a : Int, opB .mul (.int (a.fmod 998244353)) (.int (a.fmod 998244353)) = some (.int (a.fmod 998244353 * a.fmod 998244353)) := fun a => opB_mul (mul_l (by
          have h1 := Int.fmod_nonneg_of_pos a (b := 998244353) (by decide)
          have h2 := Int.fmod_lt_of_pos a (b := 998244353) (by decide)
          omega))
        simp [viewAll, opF, c1, c2, c3, c4, c5, c6, opB_mod m0]
        exact ⟨⟨Int.fmod_nonneg_of_pos _ (by omega), Int.fmod_lt_of_pos _ (by omega)⟩, ok.cells, ok.left⟩
def b_of : Ss := (.cons (.ret (.ix (.var 1) (.call "_law_pick" (.cons (.var 0) (.cons (.bf .len (.cons (.var 1) .nil)) .nil))))) .nil)
theorem ixN_of {n : Nat} {v : Int} (h0 : 0 ≤ v) (h1 : v < n) : L2.ixN n v = some v.toNat := by
  unfold L2.ixN
  split <;> first | rfl | (split <;> first | rfl | omega) | omega
theorem atI_of {α : Type} {xs : List α} {v : Int} {y : α} (h0 : 0 ≤ v) (h : xs[v.toNat]? = some y) : L2.atI xs v = some y := by
  have := (List.getElem?_eq_some_iff.mp h).1
  unfold L2.atI
  rw [ixN_of h0 (by omega)]
  exact h
theorem of_ok {Δ Δ' : Tb} (hp : Δ "_law_pick" = mean Δ' 2 4 b_pick) {S : Src} (h : SrcOk S) {xs : List PyData} (h1 : xs ≠ []) (h2 : xs.length < 18446744073709551616) : ∃ x S', mean Δ 2 2 b_of [.src, .d (.list xs)] S = .ok x [] S' ∧ (x ∈ xs ∧ SrcOk S') := by
  refine mean_of (n := 0) ⟨rfl, rfl⟩ ?_
  unfold b_of
  simp only [Ws_cons, Ws_nil, Ws_ret]
  have hl : 0 < xs.length := List.length_pos_iff.mpr h1
  obtain ⟨x, S', e, ⟨v, rfl, v0, v1⟩, ok⟩ := pick_ok (Δ := Δ') h (m := (xs.length : Int)) (by omega) (by omega)
  have hv : v.toNat < xs.length := by omega
  simp [viewAll, opF, hp, e, ixD, L2.atI, ixN_of v0 v1, List.getElem?_eq_getElem hv]
  exact ok
end Dk
end
section
set_option Elab.async false
set_option linter.all false
set_option maxRecDepth 100000
set_option maxHeartbeats 4000000
set_option autoImplicit false
namespace Dk
open PySem PySem.Spec
/-! ## texts of data are short -/
mutual
def wt : PyData → Nat
  | .none => 4
  | .bool _ => 5
  | .int _ => 1921
  | .str x => (reprText x).length
  | .list xs => 2 + wtAll xs
  | .tuple xs => 3 + wtAll xs
  | .dict _ => 0
def wtAll : List PyData → Nat
  | [] => 0
  | x :: xs => wt x + 2 + wtAll xs
end
def sumLen : List Str → Nat
  | [] => 0
  | t :: r => t.length + 2 + sumLen r
theorem textFrom_le : ∀ (ts : List Str) (k : Nat) (acc : Str), (textFrom k acc ts).length ≤ acc.length + sumLen ts
  | [], k, acc => Nat.le_refl _
  | t :: r, k, acc => by
    have h := textFrom_le r (k + 1) (acc ++ (if k > 0 then ", " else "" : String) ++ t)
    have e : textFrom k acc (t :: r) = textFrom (k + 1) (acc ++ (if k > 0 then ", " else "" : String) ++ t) r := rfl
    rw [e]
    refine Nat.le_trans h ?_
    rw [strLen_append, strLen_append]
    show _ ≤ acc.length + (t.length + 2 + sumLen r)
    have : (Str.ofString (if k > 0 then ", " else "" : String)).length ≤ 2 := by
      split <;> decide
    omega
theorem piled_eq : ∀ ts : List Str, piled ts = sumLen ts
  | [] => rfl
  | t :: r => by
    have := piled_eq r
    show t.length + 2 + piled r = t.length + 2 + sumLen r
    rw [this]
theorem int_len (i : Int) : (Str.ofString (toString i)).length = (toString i).length := by
  rw [ofString_length]
theorem listText_le (ts : List Str) : (listText ts).length ≤ 2 + sumLen ts := by
  have h := textFrom_le ts 0 "["
  show (textFrom 0 "[" ts ++ Str.ofString "]").length ≤ _
  rw [strLen_append]
  have e1 : (Str.ofString "[").length = 1 := by decide
  have e2 : (Str.ofString "]").length = 1 := by decide
  omega
theorem tupleText_le (ts : List Str) : (tupleText ts).length ≤ 3 + sumLen ts := by
  unfold tupleText
  rw [strLen_append, strLen_append]
  have e1 : (Str.ofString "(").length = 1 := by decide
  have e2 : (Str.ofString (if ts.length == 1 then ",)" else ")" : String)).length ≤ 2 := by
    split <;> decide
  have e3 : (Str.join ", " ts).length ≤ sumLen ts := by
    cases ts with
    | nil => decide
    | cons t r =>
      have := join_length_add (t :: r) (by simp)
      rw [piled_eq] at this
      omega
  omega
mutual
theorem shown_wt : ∀ (d : PyData), d.showable = true → d.hasDict = false → d.shown.length ≤ wt d
  | .none, _, _ => by decide
  | .bool b, _, _ => by cases b <;> decide
  | .int i, h, _ => by
    have h2 := int_text_length_le (k := 1920) (by decide) (of_decide_eq_true (show decide (i.natAbs.log2 < 1920) = true from h))
    show (Str.ofString (toString i)).length ≤ 1921
    rw [int_len]
    exact h2
  | .str x, _, _ => Nat.le_refl _
  | .list xs, h, hd => Nat.le_trans (listText_le _) (Nat.add_le_add_left (shownAll_wt xs h (by simpa only [PyData.hasDict] using hd)) 2)
  | .tuple xs, h, hd => Nat.le_trans (tupleText_le _) (Nat.add_le_add_left (shownAll_wt xs h (by simpa only [PyData.hasDict] using hd)) 3)
  | .dict _, _, hd => by simp only [PyData.hasDict] at hd; cases hd
theorem shownAll_wt : ∀ (ds : List PyData), PyData.showableAll ds = true → PyData.hasDictAll ds = false → sumLen (PyData.shownAll ds) ≤ wtAll ds
  | [], _, _ => Nat.le_refl _
  | d :: ds, h, hd => by
    have h1 : d.showable = true ∧ PyData.showableAll ds = true := by simpa [PyData.showableAll] using h
    have h2 : d.hasDict = false ∧ PyData.hasDictAll ds = false := by simpa [PyData.hasDictAll] using hd
    have a := shown_wt d h1.1 h2.1
    have b := shownAll_wt ds h1.2 h2.2
    show d.shown.length + 2 + sumLen (PyData.shownAll ds) ≤ wt d + 2 + wtAll ds
    omega
end
/-- a datum whose text may be made -/
structure Shn (n : Nat) (d : PyData) : Prop where
  sh : d.showable = true
  nd : d.hasDict = false
  dp : d.depth ≤ n
structure ShnA (n : Nat) (ds : List PyData) : Prop where
  sh : PyData.showableAll ds = true
  nd : PyData.hasDictAll ds = false
  dp : PyData.depthAll ds ≤ n
theorem Shn.ok {n : Nat} {d : PyData} (h : Shn n d) (hn : n ≤ 64) (hw : wt d ≤ sizeLine) : reprOk d = true := by
  unfold reprOk
  rw [h.sh, h.nd, decide_eq_true (Nat.le_trans h.dp hn), decide_eq_true (Nat.le_trans (shown_wt d h.sh h.nd) hw)]
  rfl
theorem Shn.int {i : Int} (h : i.natAbs < 2 ^ 1920) {n : Nat} : Shn n (.int i) := by
  refine ⟨?_, rfl, Nat.zero_le _⟩
  show decide (i.natAbs.log2 < 1920) = true
  by_cases h0 : i.natAbs = 0
  · rw [h0]; decide
  · exact decide_eq_true ((Nat.log2_lt h0).mpr h)
theorem ShnA.nil {n : Nat} : ShnA n [] := ⟨rfl, rfl, Nat.zero_le _⟩
theorem ShnA.cons {n : Nat} {d : PyData} {ds : List PyData} (h : Shn n d) (t : ShnA n ds) : ShnA n (d :: ds) := by
  refine ⟨?_, ?_, ?_⟩
  · simp [PyData.showableAll, h.sh, t.sh]
  · simp [PyData.hasDictAll, h.nd, t.nd]
  · have h1 := h.dp
    have h2 := t.dp
    simp only [PyData.depthAll]
    omega
theorem Shn.list {n : Nat} {ds : List PyData} (h : ShnA n ds) : Shn (n + 1) (.list ds) := by
  refine ⟨h.sh, by simpa only [PyData.hasDict] using h.nd, ?_⟩
  have := h.dp
  simp only [PyData.depth]
  omega
theorem Shn.tuple {n : Nat} {ds : List PyData} (h : ShnA n ds) : Shn (n + 1) (.tuple ds) := by
  refine ⟨h.sh, by simpa only [PyData.hasDict] using h.nd, ?_⟩
  have := h.dp
  simp only [PyData.depth]
  omega
theorem ShnA.of {n : Nat} : ∀ {ds : List PyData}, (∀ d ∈ ds, Shn n d) → ShnA n ds
  | [], _ => .nil
  | _ :: _, h => .cons (h _ List.mem_cons_self) (ShnA.of fun d hd => h d (List.mem_cons_of_mem _ hd))
theorem wtAll_le {m : Nat} : ∀ {ds : List PyData}, (∀ d ∈ ds, wt d ≤ m) → wtAll ds ≤ ds.length * (m + 2)
  | [], _ => Nat.zero_le _
  | d :: ds, h => by
    have a := h d List.mem_cons_self
    have b := wtAll_le fun e he => h e (List.mem_cons_of_mem _ he)
    show wt d + 2 + wtAll ds ≤ (ds.length + 1) * (m + 2)
    rw [Nat.add_mul]
    omega
/-! ## comparing data -/
structure Shp (n : Nat) (d : PyData) : Prop where
  lay : d.canLay0 = true
  dp : d.depth ≤ n
theorem Shp.ok {n : Nat} {d : PyData} (h : Shp n d) (hn : n ≤ 64) : SeqAt.shaped d = true := by
  unfold SeqAt.shaped
  rw [h.lay, decide_eq_true (Nat.le_trans h.dp hn)]
  rfl
theorem Shp.list {n : Nat} {ds : List PyData} (h : ∀ d ∈ ds, Shp n d) : Shp (n + 1) (.list ds) := by
  have : PyData.canLayAll0 ds = true ∧ PyData.depthAll ds ≤ n := by
    induction ds with
    | nil => exact ⟨rfl, Nat.zero_le _⟩
    | cons d ds ih =>
      obtain ⟨i1, i2⟩ := ih fun e he => h e (List.mem_cons_of_mem _ he)
      have hd := h d List.mem_cons_self
      refine ⟨by simp [PyData.canLayAll0, hd.lay, i1], ?_⟩
      have := hd.dp
      simp only [PyData.depthAll]
      omega
  refine ⟨this.1, ?_⟩
  have := this.2
  simp only [PyData.depth]
  omega
theorem Shp.tuple {n : Nat} {ds : List PyData} (h : ∀ d ∈ ds, Shp n d) : Shp (n + 1) (.tuple ds) := by
  have z := Shp.list h
  exact ⟨z.lay, z.dp⟩
theorem Shp.int {n : Nat} {i : Int} : Shp n (.int i) := ⟨rfl, Nat.zero_le _⟩
theorem eqv_nil_list {ds : List PyData} : PyData.eqv (.list ds) (.list []) = ds.isEmpty := by
  cases ds <;> rfl
end Dk
end
section
set_option Elab.async false
set_option linter.all false
set_option maxRecDepth 100000
set_option maxHeartbeats 4000000
set_option autoImplicit false
namespace Dk
open PySem PySem.Spec
theorem mean_eq {Δ : Tb} {n np slots : Nat} {b : Ss} {ws : List W} {S : Src} {v : PyData} (hl : ws.length = np ∧ argOk ws = true)
    (h : Ws (execs Δ n b (ws ++ List.replicate (slots - ws.length) .un) [] S) ⟨fun _ _ S' => PyData.none = v ∧ S' = S, fun x S' => x = v ∧ S' = S, fun _ _ _ => False, fun _ _ _ => False⟩) : mean Δ np slots b ws S = .ok v [] S := by
  obtain ⟨x, S', e, h1, h2⟩ := mean_of (Q := fun x S' => x = v ∧ S' = S) hl h
  rw [e, h1, h2]
theorem ixN_neg {n : Nat} {k : Nat} (h : k < n) : L2.ixN n (-((k : Int) + 1)) = some (n - (k + 1)) := by
  unfold L2.ixN
  rw [if_neg (by omega), if_pos (by omega)]
  exact congrArg some (by omega)
theorem atI_last {α : Type} {xs : List α} : L2.atI xs (-1) = xs.getLast? := by
  rw [List.getLast?_eq_getElem?]
  unfold L2.atI
  cases xs with
  | nil => rfl
  | cons x xs =>
    have e := ixN_neg (n := (x :: xs).length) (k := 0) (by simp)
    rw [show (-1 : Int) = -(((0 : Nat) : Int) + 1) from rfl, e]
    rfl
theorem atI_nat {α : Type} {xs : List α} {k : Nat} : L2.atI xs (k : Int) = xs[k]? := by
  unfold L2.atI L2.ixN
  rw [if_pos (by omega)]
  by_cases h : k < xs.length
  · rw [if_pos (by omega)]
    rfl
  · rw [if_neg (by omega), List.getElem?_eq_none (by omega)]
    rfl
@[simp] theorem atI_0 {α : Type} {xs : List α} : L2.atI xs 0 = xs[0]? := atI_nat (k := 0)
theorem shp_ints (w : List Int) : SeqAt.shaped (.list (w.map .int)) = true := (Shp.list (n := 0) fun d hd => by
  obtain ⟨i, _, rfl⟩ := List.mem_map.mp hd
  exact Shp.int).ok (by decide)
theorem shp_nil : SeqAt.shaped (.list []) = true := shp_ints []
theorem eqD_nil {w : List PyData} (h : SeqAt.shaped (.list w) = true) : eqD (.list w) (.list []) = some w.isEmpty := by
  unfold eqD
  rw [if_pos ⟨h, shp_nil⟩, eqv_nil_list]
@[simp] theorem eqD_ints (w : List Int) : eqD (.list (w.map .int)) (.list []) = some w.isEmpty := by
  rw [eqD_nil (shp_ints w), List.isEmpty_map]
theorem Ws_app {Δ : Tb} {n v : Nat} {e : E} {σ : List W} {L : Lo} {S : Src} {D : Fin4} (h00 : ∃ p, getLst L σ v = some p)
    (h : Wr (ev Δ e σ L S) fun w L S => ∃ id xs y, getLst L σ v = some (id, xs) ∧ w = .d y ∧ xs.length < sizeLine ∧ D.nx σ (L.set id (some (.lst (xs ++ [y])))) S) : Ws (exec Δ n (.app v e) σ L S) D := by
  obtain ⟨p, h0⟩ := h00
  have e0 : exec Δ n (.app v e) σ L S = (ev Δ e σ L S).then σ fun w L S => match getLst L σ v, isD w with
      | some (id, xs), some y => if xs.length < sizeLine then .nx σ (L.set id (some (.lst (xs ++ [y])))) S else .st
      | _, _ => .st := by
    show (match getLst L σ v with
      | none => RS.st
      | some _ => (ev Δ e σ L S).then σ fun w L S => match getLst L σ v, isD w with
        | some (id, xs), some y => if xs.length < sizeLine then .nx σ (L.set id (some (.lst (xs ++ [y])))) S else .st
        | _, _ => .st) = _
    rw [h0]
  rw [e0, Ws_then]
  refine h.mono fun w L S ⟨id, xs, y, h1, h2, h3, h4⟩ => ?_
  subst h2
  rw [h1]
  show Ws (if xs.length < sizeLine then RS.nx σ (L.set id (some (.lst (xs ++ [y])))) S else .st) D
  rw [if_pos h3]
  exact h4
theorem Wr_turns {f : PyData → Lo → Src → R (Option PyData)} (g : PyData → Option PyData) {xs : List PyData} {L : Lo} {S : Src} {Q : List PyData → Lo → Src → Prop} (h : ∀ x ∈ xs, f x L S = .ok (g x) L S) (hl : xs.length ≤ sizeLine) (q : Q (xs.filterMap g) L S) : Wr (turns f xs [] L S) Q := by
  rw [turns_pure h (by simpa using hl)]
  exact q
theorem Wr_turnsI {f : PyData → Lo → Src → R (Option PyData)} (g : Int → Option PyData) {w : List Int} {L : Lo} {S : Src} {Q : List PyData → Lo → Src → Prop} (h : ∀ i ∈ w, f (.int i) L S = .ok (g i) L S) (hl : w.length ≤ sizeLine) (q : Q (w.filterMap g) L S) : Wr (turns f (w.map .int) [] L S) Q := by
  let g' : PyData → Option PyData := fun x => match x with
    | .int i => g i
    | _ => none
  refine Wr_turns g' (fun x hx => ?_) (by rw [List.length_map]; exact hl) ?_
  · obtain ⟨i, hi, rfl⟩ := List.mem_map.mp hx
    exact h i hi
  · rw [List.filterMap_map]
    exact q
theorem fm_some {α β : Type} {g : α → β} {l : List α} : l.filterMap (fun a => some (g a)) = l.map g := fm_map fun _ _ => rfl
theorem sIx_pos {n d : Nat} {k : Nat} : HT.sIx n d (some (k : Int)) = min k n := HT.sIx_nat n d k
theorem cutTo {α : Type} {xs : List α} {k : Nat} : cutD xs none (some (k : Int)) = xs.take k := by
  unfold cutD
  rw [sIx_pos, HT.sIx_none, List.drop_zero, Nat.sub_zero]
  rcases Nat.le_total k xs.length with h | h
  · rw [Nat.min_eq_left h]
  · rw [Nat.min_eq_right h, List.take_of_length_le (Nat.le_refl _), List.take_of_length_le h]
theorem cutFrom {α : Type} {xs : List α} {k : Nat} : cutD xs (some (k : Int)) none = xs.drop k := by
  unfold cutD
  rw [sIx_pos, HT.sIx_none]
  rcases Nat.le_total k xs.length with h | h
  · rw [Nat.min_eq_left h, List.take_of_length_le (by rw [List.length_drop]; omega)]
  · rw [Nat.min_eq_right h, List.drop_eq_nil_of_le h]
    simp
theorem Wr_turnsN {f : PyData → Lo → Src → R (Option PyData)} {F : Nat → PyData} (g : Nat → Option PyData) {m : Nat} {L : Lo} {S : Src} {Q : List PyData → Lo → Src → Prop} (h : ∀ j, j < m → f (F j) L S = .ok (g j) L S) (hl : m ≤ sizeLine) (q : Q ((List.range m).filterMap g) L S) : Wr (turns f ((List.range m).map F) [] L S) Q := by
  have key : ∀ (l : List Nat) (acc : List PyData), (∀ j ∈ l, j < m) → acc.length + l.length ≤ sizeLine → turns f (l.map F) acc L S = .ok (acc ++ l.filterMap g) L S := by
    intro l
    induction l with
    | nil => intro acc _ _; rw [List.map_nil, List.filterMap_nil, List.append_nil]; rfl
    | cons j l ih =>
      intro acc hj hz
      rw [List.length_cons] at hz
      rw [List.map_cons]
      show (f (F j) L S).bind _ = _
      rw [h j (hj j List.mem_cons_self), R.bind_ok]
      cases e : g j with
      | none =>
        dsimp only
        rw [ih acc (fun i hi => hj i (List.mem_cons_of_mem _ hi)) (by omega), List.filterMap_cons_none e]
      | some y =>
        dsimp only
        rw [if_pos (by omega), ih _ (fun i hi => hj i (List.mem_cons_of_mem _ hi)) (by rw [List.length_append, List.length_singleton]; omega), List.filterMap_cons_some e, List.append_assoc]
        rfl
  rw [key _ [] (fun j hj => List.mem_range.mp hj) (by simpa using hl)]
  exact q
theorem filter_fm {α : Type} {f : Nat → α} {p : Nat → Bool} : ∀ {l : List Nat}, l.filterMap (fun j => if p j = true then some (f j) else none) = (l.filter p).map f
  | [] => rfl
  | j :: l => by
    rw [List.filterMap_cons, List.filter_cons]
    by_cases h : p j = true
    · simp only [h, if_true]
      rw [List.map_cons, filter_fm]
    · simp only [h, if_false]
      exact filter_fm
theorem range_2 {i j : Int} (h : b62 i = true ∧ b62 j = true) : rangeD [.int i, .int j] = some ((List.range (j - i).toNat).map fun (k : Nat) => .int (i + (k : Int))) := if_pos h
theorem add_lists {xs ys : List PyData} (h : xs.length + ys.length ≤ sizeLine) : opB .add (.list xs) (.list ys) = some (.list (xs ++ ys)) := if_pos h
theorem add_tups {xs ys : List PyData} (h : xs.length + ys.length ≤ sizeLine) : opB .add (.tuple xs) (.tuple ys) = some (.tuple (xs ++ ys)) := if_pos h
theorem Wr_vv {α : Type} {f : PyData → PyData → Option α} {g : α → W} {x y : W} {L : Lo} {S : Src} {Q : W → Lo → Src → Prop} : Wr (R.ofO (((view L x).bind fun x => (view L y).bind fun y => f x y).map g) L S) Q ↔ ∃ a b c, view L x = some a ∧ view L y = some b ∧ f a b = some c ∧ Q (g c) L S := by
  rw [Wr_ofO]
  constructor
  · rintro ⟨_, h, q⟩
    obtain ⟨c, hc, rfl⟩ := Option.map_eq_some_iff.mp h
    obtain ⟨a, b, h1, h2, h3⟩ := vv hc
    exact ⟨a, b, c, h1, h2, h3, q⟩
  · rintro ⟨a, b, c, h1, h2, h3, q⟩
    exact ⟨_, by rw [h1, h2]; show (f a b).map g = _; rw [h3]; rfl, q⟩
theorem Wr_ix {Δ : Tb} {a i : E} {σ : List W} {L : Lo} {S : Src} {Q : W → Lo → Src → Prop} : Wr (ev Δ (.ix a i) σ L S) Q ↔ Wr (ev Δ a σ L S) fun x L S => Wr (ev Δ i σ L S) fun y L S => ∃ a b c, view L x = some a ∧ view L y = some b ∧ ixD a b = some c ∧ Q (.d c) L S := by
  show Wr ((ev Δ a σ L S).bind _) Q ↔ _
  rw [Wr_bind]
  constructor
  · exact fun h => h.mono fun x L S h => (Wr_bind.mp h).mono fun y L S h => Wr_vv.mp h
  · exact fun h => h.mono fun x L S h => Wr_bind.mpr (h.mono fun y L S h => Wr_vv.mpr h)
@[simp] theorem truth_bool (b : Bool) : truth (.bool b) = some b := rfl
theorem Wr_cmp {Δ : Tb} {o : Cop} {a b : E} {σ : List W} {L : Lo} {S : Src} {Q : W → Lo → Src → Prop} : Wr (ev Δ (.cmp o a b) σ L S) Q ↔ Wr (ev Δ a σ L S) fun x L S => Wr (ev Δ b σ L S) fun y L S => ∃ u v c, view L x = some u ∧ view L y = some v ∧ opC o u v = some c ∧ Q (.d (.bool c)) L S := by
  show Wr ((ev Δ a σ L S).bind _) Q ↔ _
  rw [Wr_bind]
  constructor
  · exact fun h => h.mono fun x L S h => (Wr_bind.mp h).mono fun y L S h => Wr_vv.mp h
  · exact fun h => h.mono fun x L S h => Wr_bind.mpr (h.mono fun y L S h => Wr_vv.mpr h)
theorem gcd_step {a b : Nat} (hb : b ≠ 0) : Nat.gcd b (a % b) = Nat.gcd a b := by
  rw [Nat.gcd_comm a b]
  exact (Nat.gcd_rec b a).symm ▸ Nat.gcd_comm _ _
theorem fmod_nat (a b : Nat) : (a : Int).fmod (b : Int) = ((a % b : Nat) : Int) := by
  rw [Int.fmod_eq_emod_of_nonneg _ (Int.natCast_nonneg b)]
  exact (Int.natCast_emod a b).symm
theorem euclid_loop {Δ : Tb} {c : T} {i j : Nat} {σ0 : List W} {S : Src} {D : Fin4} (hij : i ≠ j) (hi : i < σ0.length) (hj : j < σ0.length)
    (hc : ∀ (a b : Nat), evT Δ c ((σ0.set i (.d (.int a))).set j (.d (.int b))) [] S = .ok (decide (b ≠ 0)) [] S) (a b n k : Nat) (hn : b < n) (hD : D.nx ((σ0.set i (.d (.int (Nat.gcd a b : Nat)))).set j (.d (.int (0 : Nat)))) [] S) :
    Ws (whl (evT Δ c) (execs Δ k (.cons (.par i j (.var j) (.bop .mod (.bf .int (.cons (.var i) .nil)) (.var j))) .nil)) n ((σ0.set i (.d (.int a))).set j (.d (.int b))) [] S) D := by
  refine whl_of (D := D) (fun m σ L S' => ∃ a' : Nat, σ = (σ0.set i (.d (.int a'))).set j (.d (.int m)) ∧ L = [] ∧ S' = S ∧ Nat.gcd a' m = Nat.gcd a b) ?_ n b _ _ _ hn ⟨a, rfl, rfl, rfl, rfl⟩
  rintro m σ L S' ⟨a', rfl, rfl, rfl, e⟩
  rw [hc, Wr_ok]
  by_cases hm : m = 0
  · subst hm
    rw [Nat.gcd_zero_right] at e
    rw [e]
    simpa using hD
  · have hd : decide (m ≠ 0) = true := decide_eq_true hm
    rw [hd, if_pos rfl]
    rw [Ws_cons, Ws_par]
    have gj : ((σ0.set i (W.d (.int (a' : Int)))).set j (W.d (.int (m : Int))))[j]? = some (.d (.int m)) := List.getElem?_set_self (by rw [List.length_set]; exact hj)
    have gi : ((σ0.set i (W.d (.int (a' : Int)))).set j (W.d (.int (m : Int))))[i]? = some (.d (.int a')) := by
      rw [List.getElem?_set_ne hij.symm]
      exact List.getElem?_set_self hi
    have mz : (m : Int) ≠ 0 := by omega
    simp only [ev, evs, gi, gj, R.bind_ok, Wr_bind, Wr_ok, Wr_ofO, viewAll, view, Option.bind_some, Option.map_some, opF, opB_mod mz, fmod_nat]
    simp only [Ws_nil]
    refine ⟨_, rfl, .d (.int ((a' % m : Nat) : Int)), by simp only [Option.bind_some, opB_mod mz, fmod_nat, Option.map_some], a' % m, Nat.mod_lt _ (by omega), m, ?_, trivial, trivial, ?_⟩
    · rw [List.set_comm _ _ hij.symm, List.set_set, List.set_set]
    · rw [gcd_step hm, e]
theorem Ws_asgT {Δ : Tb} {n : Nat} {ts : Tgs} {e : E} {σ : List W} {L : Lo} {S : Src} {D : Fin4} : Ws (Dk.exec Δ n (.asg (.tp ts) e) σ L S) D ↔ Wr (ev Δ e σ L S) fun w L S => ∃ x σ', w = .d x ∧ bindT (.tp ts) x σ = some σ' ∧ D.nx σ' L S := by
  show Ws ((ev Δ e σ L S).then σ fun w L S => match (isD w).bind fun x => bindT (.tp ts) x σ with
    | some σ' => .nx σ' L S
    | none => .st) D ↔ _
  rw [Ws_then]
  constructor
  · refine fun h => h.mono fun w L S h => ?_
    split at h
    · rename_i σ' e
      obtain ⟨x, h1, h2⟩ := Option.bind_eq_some_iff.mp e
      exact ⟨x, σ', isD_inv h1, h2, h⟩
    · exact h.elim
  · refine fun h => h.mono fun w L S h => ?_
    obtain ⟨x, σ', rfl, h2, h3⟩ := h
    have e : ((isD (W.d x)).bind fun x => bindT (.tp ts) x σ) = some σ' := h2
    rw [e]
    exact h3
theorem opB_mul2 {a b : Int} (h : a.natAbs < 18446744073709551616) : opB .mul (.int a) (.int b) = some (.int (a * b)) := opB_mul (mul_l h)
theorem range_0 {d : Int} (h : d ≤ 2000) (h0 : 0 ≤ d) : rangeD [.int d] = some ((List.range d.toNat).map fun (k : Nat) => .int ((0 : Int) + k)) := if_pos (b62_iff.mpr (by omega))
theorem len_0 (n : Nat) : ((List.range n).map fun (k : Nat) => PyData.int ((0 : Int) + k)).length = n := by rw [List.length_map, List.length_range]
theorem Wr_lc {Δ : Tb} {elt : E} {nm : Str} {q : Nat} {it : It} {σ : List W} {L : Lo} {S0 : Src} {Q : W → Lo → Src → Prop} (I : List PyData → Nat → List PyData → Src → Prop)
    (hit : Wr (evIt Δ it σ L S0) fun xs L' S => L' = L ∧ I xs 0 [] S)
    (step : ∀ xs i x acc S, xs[i]? = some x → I xs i acc S → Wr (ev Δ elt ((σ.set q .un).set q (.d x)) L S) fun w L' S => L' = L ∧ ∃ y, w = .d y ∧ acc.length < sizeLine ∧ I xs (i + 1) (acc ++ [y]) S)
    (fin : ∀ xs acc S, I xs xs.length acc S → Q (.d (.list acc)) L S) : Wr (ev Δ (.lc false elt [(nm, q)] (.nm q) it .tt) σ L S0) Q := by
  show Wr ((evIt Δ it σ L S0).bind _) Q
  rw [Wr_bind]
  refine hit.mono fun xs L1 S ⟨hL, hI⟩ => ?_
  subst hL
  rw [Wr_bind]
  refine turns_of (fun i acc L' S => L' = L1 ∧ I xs i acc S) ⟨rfl, hI⟩ ?_ ?_
  · rintro i x acc L2 S2 hx ⟨hL2, hi⟩
    subst hL2
    have st := step xs i x acc S2 hx hi
    show Wr ((ev Δ elt ((σ.set q .un).set q (.d x)) _ S2).bind fun w L S => R.ofO ((isD w).map some) L S) _
    rw [Wr_bind]
    refine st.mono fun w L3 S ⟨h1, y, h2, h3, h4⟩ => ?_
    subst h1 h2
    exact ⟨h3, rfl, h4⟩
  · rintro acc L2 S2 ⟨hL2, hi⟩
    subst hL2
    exact fin xs acc S2 hi
theorem Wr_lcP {α : Type} {Δ : Tb} {elt : E} {nm : Str} {q : Nat} {it : It} {σ : List W} {L : Lo} {S : Src} {Q : W → Lo → Src → Prop} (F : α → PyData) (g : α → PyData) {l : List α}
    (hit : evIt Δ it σ L S = .ok (l.map F) L S) (hl : l.length ≤ sizeLine)
    (step : ∀ a ∈ l, ev Δ elt ((σ.set q .un).set q (.d (F a))) L S = .ok (.d (g a)) L S)
    (fin : Q (.d (.list (l.map g))) L S) : Wr (ev Δ (.lc false elt [(nm, q)] (.nm q) it .tt) σ L S) Q := by
  refine Wr_lc (fun xs i acc S' => xs = l.map F ∧ acc = (l.take i).map g ∧ S' = S) ?_ ?_ ?_
  · rw [hit]
    exact ⟨rfl, rfl, rfl, rfl⟩
  · rintro xs i x acc S' hx ⟨rfl, rfl, rfl⟩
    rw [List.getElem?_map] at hx
    obtain ⟨a, ha, rfl⟩ := Option.map_eq_some_iff.mp hx
    have hi := (List.getElem?_eq_some_iff.mp ha).1
    rw [step a (List.mem_of_getElem? ha)]
    refine ⟨rfl, _, rfl, by rw [List.length_map, List.length_take]; omega, rfl, ?_, rfl⟩
    rw [List.take_succ, ha, List.map_append]
    rfl
  · rintro xs acc S' ⟨rfl, rfl, rfl⟩
    rw [List.length_map, List.take_of_length_le (Nat.le_refl _)]
    exact fin
theorem rpB (b : Bool) : reprOk (.bool b) = true := by cases b <;> decide
theorem opC_ne_str (x : PyData) : opC .ne (.str x.shown) (.str x.shown) = some false := by
  show some (!decide (x.shown = x.shown)) = some false
  rw [decide_eq_true rfl]
  rfl
theorem abs_eq (i : Int) : opF .abs [.int i] = some (.int (absI i)) := rfl
theorem Wr_turnsM {α : Type} {f : PyData → Lo → Src → R (Option PyData)} (F : α → PyData) (g : α → Option PyData) {l : List α} {L : Lo} {S : Src} {Q : List PyData → Lo → Src → Prop} (h : ∀ a ∈ l, f (F a) L S = .ok (g a) L S) (hl : l.length ≤ sizeLine) (q : Q (l.filterMap g) L S) : Wr (turns f (l.map F) [] L S) Q := by
  have key : ∀ (ys : List α) (acc : List PyData), (∀ a ∈ ys, a ∈ l) → acc.length + ys.length ≤ sizeLine → turns f (ys.map F) acc L S = .ok (acc ++ ys.filterMap g) L S := by
    intro ys
    induction ys with
    | nil => intro acc _ _; rw [List.map_nil, List.filterMap_nil, List.append_nil]; rfl
    | cons j ys ih =>
      intro acc hj hz
      rw [List.length_cons] at hz
      rw [List.map_cons]
      show (f (F j) L S).bind _ = _
      rw [h j (hj j List.mem_cons_self), R.bind_ok]
      cases e : g j with
      | none =>
        dsimp only
        rw [ih acc (fun i hi => hj i (List.mem_cons_of_mem _ hi)) (by omega), List.filterMap_cons_none e]
      | some y =>
        dsimp only
        rw [if_pos (by omega), ih _ (fun i hi => hj i (List.mem_cons_of_mem _ hi)) (by rw [List.length_append, List.length_singleton]; omega), List.filterMap_cons_some e, List.append_assoc]
        rfl
  rw [key l [] (fun _ h => h) (by simpa using hl)]
  exact q
theorem filter_fmA {α β : Type} {f : α → β} {p : α → Bool} : ∀ {l : List α}, l.filterMap (fun j => if p j = true then some (f j) else none) = (l.filter p).map f
  | [] => rfl
  | j :: l => by
    rw [List.filterMap_cons, List.filter_cons]
    by_cases h : p j = true
    · simp only [h, if_true]
      rw [List.map_cons, filter_fmA]
    · simp only [h, if_false]
      exact filter_fmA
theorem Wr_lcF {α : Type} {Δ : Tb} {elt : E} {cnd : T} {nm : Str} {q : Nat} {it : It} {σ : List W} {L : Lo} {S : Src} {Q : W → Lo → Src → Prop} (F : α → PyData) (k : α → Bool) (g : α → PyData) {l : List α}
    (hit : evIt Δ it σ L S = .ok (l.map F) L S) (hl : l.length ≤ sizeLine)
    (cond : ∀ a ∈ l, evT Δ cnd ((σ.set q .un).set q (.d (F a))) L S = .ok (k a) L S)
    (step : ∀ a ∈ l, k a = true → ev Δ elt ((σ.set q .un).set q (.d (F a))) L S = .ok (.d (g a)) L S)
    (fin : Q (.d (.list ((l.filter k).map g))) L S) : Wr (ev Δ (.lc false elt [(nm, q)] (.nm q) it cnd) σ L S) Q := by
  show Wr ((evIt Δ it σ L S).bind _) Q
  rw [hit, R.bind_ok, Wr_bind]
  refine Wr_turnsM F (fun a => if k a = true then some (g a) else none) (fun a ha => ?_) hl ?_
  · show ((evT Δ cnd ((σ.set q .un).set q (.d (F a))) L S).bind fun k L S => if k = true then (ev Δ elt ((σ.set q .un).set q (.d (F a))) L S).bind fun w L S => R.ofO ((isD w).map some) L S else .ok none L S) = _
    rw [cond a ha, R.bind_ok]
    cases e : k a with
    | false => rfl
    | true =>
      rw [if_pos rfl, step a ha e]
      rfl
  · rw [filter_fmA]
    exact fin
@[simp] theorem ixD_tup (xs : List PyData) (k : Int) : ixD (.tuple xs) (.int k) = L2.atI xs k := rfl
@[simp] theorem ixD_lst (xs : List PyData) (k : Int) : ixD (.list xs) (.int k) = L2.atI xs k := rfl
@[simp] theorem atI_1 {α : Type} {xs : List α} : L2.atI xs 1 = xs[1]? := atI_nat (k := 1)
@[simp] theorem atI_2 {α : Type} {xs : List α} : L2.atI xs 2 = xs[2]? := atI_nat (k := 2)
@[simp] theorem atI_3 {α : Type} {xs : List α} : L2.atI xs 3 = xs[3]? := atI_nat (k := 3)
end Dk
end
section
set_option Elab.async false
set_option linter.all false
set_option maxRecDepth 100000
set_option maxHeartbeats 4000000
set_option autoImplicit false
namespace Dk
open PySem PySem.Spec
/-! ## slots: what stands in some -/
structure Sl (n : Nat) (fs : List (Nat × W)) (σ : List W) : Prop where
  len : σ.length = n
  at_ : ∀ (i : Nat) (w : W), fs.lookup i = some w → σ[i]? = some w
structure At (n : Nat) (fs : List (Nat × W)) (Q : Src → Prop) (σ : List W) (L : Lo) (S : Src) : Prop where
  sl : Sl n fs σ
  L0 : L = []
  q : Q S
theorem Sl.g {n : Nat} {fs : List (Nat × W)} {σ : List W} (h : Sl n fs σ) (i : Nat) {w : W} (hw : fs.lookup i = some w) : σ[i]? = some w := h.at_ i w hw
theorem Sl.put {n : Nat} {fs : List (Nat × W)} {σ : List W} (h : Sl n fs σ) (i : Nat) (w : W) (hi : i < n) : Sl n ((i, w) :: fs) (σ.set i w) := by
  refine ⟨by rw [List.length_set]; exact h.len, fun j u hj => ?_⟩
  rw [List.lookup_cons] at hj
  by_cases e : j = i
  · subst e
    rw [beq_self_eq_true] at hj
    cases hj
    exact List.getElem?_set_self (by rw [h.len]; exact hi)
  · have : (j == i) = false := by simpa using e
    rw [this] at hj
    rw [List.getElem?_set_ne (fun z => e z.symm)]
    exact h.at_ j u hj
theorem lookup_keep {fs : List (Nat × W)} {i : Nat} {w : W} : ∀ {is : List Nat}, (is.filterMap fun i => (fs.lookup i).map fun w => (i, w)).lookup i = some w → fs.lookup i = some w
  | [], h => by cases h
  | j :: is, h => by
    rw [List.filterMap_cons] at h
    cases e : fs.lookup j with
    | none =>
      rw [e] at h
      exact lookup_keep (is := is) h
    | some u =>
      rw [e] at h
      simp only [Option.map_some, List.lookup_cons] at h
      by_cases ij : i = j
      · subst ij
        rw [beq_self_eq_true] at h
        cases h
        exact e
      · have : (i == j) = false := by simpa using ij
        rw [this] at h
        exact lookup_keep (is := is) h
theorem Sl.keep {n : Nat} {fs : List (Nat × W)} {σ : List W} (h : Sl n fs σ) (is : List Nat) : Sl n (is.filterMap fun i => (fs.lookup i).map fun w => (i, w)) σ := ⟨h.len, fun i w hi => h.at_ i w (lookup_keep hi)⟩
theorem Sl.nil {n : Nat} {σ : List W} (h : σ.length = n) : Sl n [] σ := ⟨h, fun _ _ e => by cases e⟩
theorem Sl.cons {n : Nat} {fs : List (Nat × W)} {σ : List W} (h : Sl n fs σ) {i : Nat} {w : W} (hw : σ[i]? = some w) : Sl n ((i, w) :: fs) σ := by
  refine ⟨h.len, fun j u hj => ?_⟩
  rw [List.lookup_cons] at hj
  by_cases e : j = i
  · subst e
    rw [beq_self_eq_true] at hj
    cases hj
    exact hw
  · have : (j == i) = false := by simpa using e
    rw [this] at hj
    exact h.at_ j u hj
/-- a loop over so many turns, nothing but drawing -/
theorem Ws_forI {Δ : Tb} {n k : Nat} {q : Nat} {it : It} {b : Ss} {fs : List (Nat × W)} {Q : Src → Prop} {σ : List W} {L : Lo} {S : Src} {D : Fin4} (h : At k fs Q σ L S) (hit : ∃ xs, evIt Δ it σ L S = .ok xs L S)
    (step : ∀ x σ L S, At k fs Q σ L S → Ws (execs Δ n b (σ.set q (.d x)) L S) ⟨At k fs Q, D.rt, D.nx, At k fs Q⟩) (fin : ∀ σ L S, At k fs Q σ L S → D.nx σ L S) : Ws (exec Δ n (.for_ (.nm q) it b) σ L S) D := by
  obtain ⟨xs, e⟩ := hit
  rw [Ws_for, e]
  refine forL_of (fun _ σ L S => At k fs Q σ L S) h ?_ fin
  intro i x σ L S _ h
  exact step x σ L S h
/-- own lists left open -/
structure Ax (n : Nat) (fs : List (Nat × W)) (Q : Src → Prop) (σ : List W) (L : Lo) (S : Src) : Prop where
  sl : Sl n fs σ
  q : Q S
theorem Ws_forX {Δ : Tb} {n k : Nat} {q : Nat} {it : It} {b : Ss} {fs : List (Nat × W)} {Q : Src → Prop} {σ : List W} {L : Lo} {S : Src} {D : Fin4} (h : Ax k fs Q σ L S) (hit : ∃ xs, evIt Δ it σ L S = .ok xs L S)
    (step : ∀ x σ L S, Ax k fs Q σ L S → Ws (execs Δ n b (σ.set q (.d x)) L S) ⟨Ax k fs Q, D.rt, D.nx, Ax k fs Q⟩) (fin : ∀ σ L S, Ax k fs Q σ L S → D.nx σ L S) : Ws (exec Δ n (.for_ (.nm q) it b) σ L S) D := by
  obtain ⟨xs, e⟩ := hit
  rw [Ws_for, e]
  refine forL_of (fun _ σ L S => Ax k fs Q σ L S) h ?_ fin
  intro i x σ L S _ h
  exact step x σ L S h
theorem ok_of_Wr {α : Type} {r : R α} {a : α} {L : Lo} {S : Src} (h : Wr r fun a' L' S' => a' = a ∧ L' = L ∧ S' = S) : r = .ok a L S := by
  obtain ⟨a', L', S', e, rfl, rfl, rfl⟩ := Wr_eq.mp h
  exact e
theorem ev_lcF {α : Type} {Δ : Tb} {elt : E} {cnd : T} {nm : Str} {q : Nat} {it : It} {σ : List W} {L : Lo} {S : Src} (F : α → PyData) (k : α → Bool) (g : α → PyData) {l : List α}
    (hit : evIt Δ it σ L S = .ok (l.map F) L S) (hl : l.length ≤ sizeLine)
    (cond : ∀ a ∈ l, evT Δ cnd ((σ.set q .un).set q (.d (F a))) L S = .ok (k a) L S)
    (step : ∀ a ∈ l, k a = true → ev Δ elt ((σ.set q .un).set q (.d (F a))) L S = .ok (.d (g a)) L S) : ev Δ (.lc false elt [(nm, q)] (.nm q) it cnd) σ L S = .ok (.d (.list ((l.filter k).map g))) L S := ok_of_Wr (Wr_lcF F k g hit hl cond step ⟨rfl, rfl, rfl⟩)
theorem ev_lcP {α : Type} {Δ : Tb} {elt : E} {nm : Str} {q : Nat} {it : It} {σ : List W} {L : Lo} {S : Src} (F : α → PyData) (g : α → PyData) {l : List α}
    (hit : evIt Δ it σ L S = .ok (l.map F) L S) (hl : l.length ≤ sizeLine)
    (step : ∀ a ∈ l, ev Δ elt ((σ.set q .un).set q (.d (F a))) L S = .ok (.d (g a)) L S) : ev Δ (.lc false elt [(nm, q)] (.nm q) it .tt) σ L S = .ok (.d (.list (l.map g))) L S := ok_of_Wr (Wr_lcP F g hit hl step ⟨rfl, rfl, rfl⟩)
theorem Ws_par3 {Δ : Tb} {n i j l : Nat} {a b c : E} {σ : List W} {L : Lo} {S : Src} {D : Fin4} : Ws (exec Δ n (.par3 i j l a b c) σ L S) D ↔ Wr (ev Δ a σ L S) fun x L S => Wr (ev Δ b σ L S) fun y L S => Wr (ev Δ c σ L S) fun z L S => D.nx (((σ.set i x).set j y).set l z) L S := by
  show Ws ((ev Δ a σ L S).then σ _) D ↔ _
  rw [Ws_then]
  constructor
  · exact fun h => h.mono fun x L S h => (Ws_then.mp h).mono fun y L S h => Ws_then.mp h
  · exact fun h => h.mono fun x L S h => Ws_then.mpr (h.mono fun y L S h => Ws_then.mpr h)
theorem ev_lcT {α : Type} {Δ : Tb} {elt : E} {nm1 nm2 : Str} {q1 q2 : Nat} {it : It} {σ : List W} {L : Lo} {S : Src} (F1 F2 g : α → PyData) {l : List α}
    (hit : evIt Δ it σ L S = .ok (l.map fun a => .tuple [F1 a, F2 a]) L S) (hl : l.length ≤ sizeLine)
    (step : ∀ a ∈ l, ev Δ elt ((((σ.set q2 .un).set q1 .un).set q1 (.d (F1 a))).set q2 (.d (F2 a))) L S = .ok (.d (g a)) L S) : ev Δ (.lc false elt [(nm1, q1), (nm2, q2)] (.tp (.cons (.nm q1) (.cons (.nm q2) .nil))) it .tt) σ L S = .ok (.d (.list (l.map g))) L S := by
  refine ok_of_Wr ?_
  show Wr ((evIt Δ it σ L S).bind _) _
  rw [hit, R.bind_ok, Wr_bind]
  refine Wr_turnsM (fun a => PyData.tuple [F1 a, F2 a]) (fun a => some (g a)) (fun a ha => ?_) hl ?_
  · show ((ev Δ elt ((((σ.set q2 .un).set q1 .un).set q1 (.d (F1 a))).set q2 (.d (F2 a))) L S).bind fun w L S => R.ofO ((isD w).map some) L S) = _
    rw [step a ha]
    rfl
  · rw [fm_some]
    exact ⟨rfl, rfl, rfl⟩
end Dk
end
section
set_option Elab.async false
set_option linter.all false
set_option maxRecDepth 100000
set_option maxHeartbeats 4000000
set_option autoImplicit false
namespace Dk
open PySem PySem.Spec
/-! ## loops by their turns -/
theorem Ws_forT {α : Type} {Δ : Tb} {n : Nat} {t : Tg} {it : It} {b : Ss} {σ : List W} {L : Lo} {S0 : Src} {D : Fin4} (F : α → PyData) (I : List α → Nat → List W → Lo → Src → Prop)
    (hev : Wr (evIt Δ it σ L S0) fun xs L' S' => ∃ l : List α, xs = l.map F ∧ I l 0 σ L' S')
    (step : ∀ l i a σ L S, l[i]? = some a → I l i σ L S → ∃ σ', bindT t (F a) σ = some σ' ∧ Ws (execs Δ n b σ' L S) ⟨I l (i + 1), D.rt, D.nx, I l (i + 1)⟩)
    (fin : ∀ l σ L S, I l l.length σ L S → D.nx σ L S) : Ws (exec Δ n (.for_ t it b) σ L S0) D := by
  rw [Ws_for]
  refine hev.mono fun xs L1 S1 ⟨l, e, h0⟩ => ?_
  subst e
  refine forL_of (I l) h0 ?_ (fun σ L S h => fin l σ L S (by rw [List.length_map] at h; exact h))
  intro i x σ L S hx hi
  rw [List.getElem?_map] at hx
  obtain ⟨a, ha, rfl⟩ := Option.map_eq_some_iff.mp hx
  obtain ⟨σ', h1, h2⟩ := step l i a σ L S ha hi
  rw [h1]
  exact h2
theorem Ws_forR {Δ : Tb} {n q : Nat} {it : It} {b : Ss} {σ : List W} {L : Lo} {S0 : Src} {D : Fin4} (I : Nat → Nat → List W → Lo → Src → Prop)
    (hev : Wr (evIt Δ it σ L S0) fun xs L' S' => ∃ d : Nat, xs = ((List.range d).map fun (k : Nat) => PyData.int ((0 : Int) + k)) ∧ I d 0 σ L' S')
    (step : ∀ d i σ L S, i < d → I d i σ L S → Ws (execs Δ n b (σ.set q (.d (.int (i : Int)))) L S) ⟨I d (i + 1), D.rt, D.nx, I d (i + 1)⟩)
    (fin : ∀ d σ L S, I d d σ L S → D.nx σ L S) : Ws (exec Δ n (.for_ (.nm q) it b) σ L S0) D := by
  refine Ws_forT (α := Nat) (fun k => PyData.int ((0 : Int) + k)) (fun l i σ L S => ∃ d : Nat, l = List.range d ∧ I d i σ L S) ?_ ?_ ?_
  · refine hev.mono fun xs L1 S1 ⟨d, e, h0⟩ => ⟨List.range d, e, d, rfl, h0⟩
  · rintro l i a σ L S ha ⟨d, rfl, hi⟩
    have hlt := (List.getElem?_eq_some_iff.mp ha).1
    rw [List.length_range] at hlt
    rw [List.getElem?_range hlt] at ha
    cases ha
    refine ⟨_, rfl, ?_⟩
    rw [Int.zero_add]
    exact (step d i σ L S hlt hi).mono (fun _ _ _ h => ⟨d, rfl, h⟩) (fun _ _ h => h) (fun _ _ _ h => h) (fun _ _ _ h => ⟨d, rfl, h⟩)
  · rintro l σ L S ⟨d, rfl, h⟩
    rw [List.length_range] at h
    exact fin d σ L S h
theorem range_n {d : Int} (h0 : 0 ≤ d) (h : d ≤ 2000) : rangeD [.int d] = some ((List.range d.toNat).map fun (k : Nat) => .int ((0 : Int) + k)) := range_0 h h0
theorem Wr_rng {Δ : Tb} {es : Es} {σ : List W} {L : Lo} {S0 : Src} {I : Nat → Nat → List W → Lo → Src → Prop} {J : List W}
    (h : Wr (evs Δ es σ L S0) fun ws L' S' => ∃ d : Int, ws = [.d (.int d)] ∧ 0 ≤ d ∧ d ≤ 2000 ∧ I d.toNat 0 J L' S') : Wr (evIt Δ (.rng es) σ L S0) fun xs L' S' => ∃ d : Nat, xs = ((List.range d).map fun (k : Nat) => PyData.int ((0 : Int) + k)) ∧ I d 0 J L' S' := by
  show Wr ((evs Δ es σ L S0).bind _) _
  rw [Wr_bind]
  refine h.mono fun ws L1 S1 ⟨d, e, d0, d1, hI⟩ => ?_
  subst e
  have hr := range_n d0 d1
  show Wr (R.ofO (rangeD [.int d]) L1 S1) _
  rw [hr]
  exact ⟨d.toNat, rfl, hI⟩
theorem ix_at {xs : List PyData} {v : Int} {y : PyData} (h0 : 0 ≤ v) (h : xs[v.toNat]? = some y) : ixD (.list xs) (.int v) = some y := atI_of h0 h
/-- an item of a list of given shape -/
theorem at_map {α : Type} {l : List α} {F : α → PyData} {v : Int} (h0 : 0 ≤ v) (h : v < l.length) : ∃ a, a ∈ l ∧ l[v.toNat]? = some a ∧ L2.atI (l.map F) v = some (F a) := by
  have hv : v.toNat < l.length := by omega
  refine ⟨l[v.toNat], List.getElem_mem hv, List.getElem?_eq_getElem hv, atI_of h0 ?_⟩
  rw [List.getElem?_map, List.getElem?_eq_getElem hv]
  rfl
theorem Ws_frz {Δ : Tb} {n v id : Nat} {xs : List PyData} {σ : List W} {L : Lo} {S : Src} {D : Fin4} (h : getLst L σ v = some (id, xs)) (k : D.nx (σ.set v (.d (.list xs))) (L.set id none) S) : Ws (exec Δ n (.frz v) σ L S) D := by
  have e : exec Δ n (.frz v) σ L S = .nx (σ.set v (.d (.list xs))) (L.set id none) S := by
    show (match getLst L σ v with
      | some (id, xs) => RS.nx (σ.set v (.d (.list xs))) (L.set id none) S
      | none => .st) = _
    rw [h]
  rw [e]
  exact k
end Dk
end
section
set_option Elab.async false
set_option linter.all false
set_option autoImplicit false
namespace Pd
open PySem PySem.Spec Dk
/-- k07 k09 k11 k13 k36 -/
def b_is_whole : Ss := (.cons (.ret (.and (.isi (.var 0) .int) (.notv (.isi (.var 0) .bool)))) .nil)
/-- k07 k09 k11 k12 k13 k15 k24 -/
def b_ratio_low : Ss := (.cons (.asg (.nm 2) (.ife (.cmp .gt (.var 1) (.int 0)) (.call "gcd" (.cons (.var 0) (.cons (.var 1) .nil))) (.neg (.call "gcd" (.cons (.var 0) (.cons (.var 1) .nil)))))) (.cons (.ret (.tup (.cons (.bop .fdiv (.var 0) (.var 2)) (.cons (.bop .fdiv (.var 1) (.var 2)) .nil)))) .nil))
/-- k07 k09 k11 -/
def b_is_ratio : Ss := (.cons (.ite (.or (.not (.val (.isi (.var 0) .tuple))) (.or (.cmp .ne (.bf .len (.cons (.var 0) .nil)) (.int 2)) (.not (.val (.bf .all (.cons (.lc false (.call "is_whole" (.cons (.var 1) .nil)) [("one", 1)] (.nm 1) (.seq (.var 0)) .tt) .nil)))))) (.cons (.ret (.bl false)) .nil) .nil) (.cons (.ret (.and (.cmp .gt (.ix (.var 0) (.int 1)) (.int 0)) (.cmp .eq (.call "ratio_low" (.cons (.ix (.var 0) (.int 0)) (.cons (.ix (.var 0) (.int 1)) .nil))) (.var 0)))) .nil))
/-- k07 k11 k13 k15 -/
def b_ratios_added : Ss := (.cons (.ret (.call "ratio_low" (.cons (.bop .add (.bop .mul (.ix (.var 0) (.int 0)) (.ix (.var 1) (.int 1))) (.bop .mul (.ix (.var 1) (.int 0)) (.ix (.var 0) (.int 1)))) (.cons (.bop .mul (.ix (.var 0) (.int 1)) (.ix (.var 1) (.int 1))) .nil)))) .nil)
/-- k07 k11 k12 k15 k24 -/
def b_ratios_less : Ss := (.cons (.ret (.call "ratio_low" (.cons (.bop .sub (.bop .mul (.ix (.var 0) (.int 0)) (.ix (.var 1) (.int 1))) (.bop .mul (.ix (.var 1) (.int 0)) (.ix (.var 0) (.int 1)))) (.cons (.bop .mul (.ix (.var 0) (.int 1)) (.ix (.var 1) (.int 1))) .nil)))) .nil)
/-- k07 k11 k13 k15 -/
def b_ratios_times : Ss := (.cons (.ret (.call "ratio_low" (.cons (.bop .mul (.ix (.var 0) (.int 0)) (.ix (.var 1) (.int 0))) (.cons (.bop .mul (.ix (.var 0) (.int 1)) (.ix (.var 1) (.int 1))) .nil)))) .nil)
/-- k07 k09 k11 k13 k15 -/
def b_ratios_over : Ss := (.cons (.ret (.call "ratio_low" (.cons (.bop .mul (.ix (.var 0) (.int 0)) (.ix (.var 1) (.int 1))) (.cons (.bop .mul (.ix (.var 0) (.int 1)) (.ix (.var 1) (.int 0))) .nil)))) .nil)
/-- k07 -/
def b_is_ahead : Ss := (.cons (.ret (.cmp .lt (.bop .mul (.ix (.var 0) (.int 0)) (.ix (.var 1) (.int 1))) (.bop .mul (.ix (.var 1) (.int 0)) (.ix (.var 0) (.int 1))))) .nil)
/-- k07 k09 k11 k12 k13 k15 k24 -/
def b_whole_power : Ss := (.cons (.asg (.nm 2) (.int 1)) (.cons (.for_ (.nm 3) (.rng (.cons (.var 1) .nil)) (.cons (.aug 2 .mul (.var 0)) .nil)) (.cons (.ret (.var 2)) .nil)))
/-- k07 k09 k11 k13 k15 -/
def b_power_of : Ss := (.cons (.ret (.ife (.cmp .ge (.var 1) (.int 0)) (.tup (.cons (.call "whole_power" (.cons (.var 0) (.cons (.var 1) .nil))) (.cons (.int 1) .nil))) (.tup (.cons (.int 1) (.cons (.call "whole_power" (.cons (.var 0) (.cons (.neg (.var 1)) .nil))) .nil))))) .nil)
/-- k07 k09 k11 k12 k13 k15 k24 -/
def b_many_in : Ss := (.cons (.asg (.nm 2) (.int 0)) (.cons (.whl (.cmp .eq (.bop .mod (.var 1) (.var 0)) (.int 0)) (.cons (.par 1 2 (.bop .fdiv (.var 1) (.var 0)) (.bop .add (.var 2) (.int 1))) .nil)) (.cons (.ret (.var 2)) .nil)))
/-- k07 k09 k11 k12 k13 k15 k24 -/
def b_power_in (g : Str) : Ss := (.cons (.ite (.cmp .eq (.var 1) (.glo g)) (.cons (.ret .non) .nil) .nil) (.cons (.ret (.bop .sub (.call "many_in" (.cons (.var 0) (.cons (.ix (.var 1) (.int 0)) .nil))) (.call "many_in" (.cons (.var 0) (.cons (.ix (.var 1) (.int 1)) .nil))))) .nil))
/-- k07 k09 -/
def b_unit_of : Ss := (.cons (.ret (.call "ratios_over" (.cons (.var 1) (.cons (.call "power_of" (.cons (.var 0) (.cons (.call "power_in" (.cons (.var 0) (.cons (.var 1) .nil))) .nil))) .nil)))) .nil)
/-- k07 k09 k11 k12 k13 k15 k24 -/
def b_undone_by : Ss := (.cons (.par 2 3 (.tup (.cons (.var 1) (.cons (.int 0) .nil))) (.tup (.cons (.bop .mod (.var 0) (.var 1)) (.cons (.int 1) .nil)))) (.cons (.whl (.cmp .gt (.ix (.var 3) (.int 0)) (.int 1)) (.cons (.asg (.nm 4) (.bop .fdiv (.ix (.var 2) (.int 0)) (.ix (.var 3) (.int 0)))) (.cons (.par 2 3 (.var 3) (.tup (.cons (.bop .sub (.ix (.var 2) (.int 0)) (.bop .mul (.var 4) (.ix (.var 3) (.int 0)))) (.cons (.bop .sub (.ix (.var 2) (.int 1)) (.bop .mul (.var 4) (.ix (.var 3) (.int 1)))) .nil)))) .nil))) (.cons (.ret (.bop .mod (.ix (.var 3) (.int 1)) (.var 1))) .nil)))
/-- k07 k09 k11 k12 k13 k15 k24 -/
def b_rest_of (g : Str) : Ss := (.cons (.asg (.nm 3) (.call "many_in" (.cons (.var 0) (.cons (.ix (.var 1) (.int 1)) .nil)))) (.cons (.asg (.nm 4) (.bop .add (.var 2) (.var 3))) (.cons (.ite (.cmp .le (.var 4) (.int 0)) (.cons (.ret (.glo g)) .nil) .nil) (.cons (.par 5 6 (.call "whole_power" (.cons (.var 0) (.cons (.var 4) .nil))) (.bop .fdiv (.ix (.var 1) (.int 1)) (.call "whole_power" (.cons (.var 0) (.cons (.var 3) .nil))))) (.cons (.ret (.call "ratio_low" (.cons (.bop .mod (.bop .mul (.ix (.var 1) (.int 0)) (.call "undone_by" (.cons (.var 6) (.cons (.var 5) .nil)))) (.var 5)) (.cons (.call "whole_power" (.cons (.var 0) (.cons (.var 3) .nil))) .nil)))) .nil)))))
/-- k09 k11 k12 k13 k15 k24 -/
def b_place_named : Ss := (.cons (.ret (.tup (.cons (.var 1) (.cons (.call "rest_of" (.cons (.var 0) (.cons (.var 2) (.cons (.var 1) .nil)))) .nil)))) .nil)
/-- k09 k11 k12 k15 k24 -/
def b_upward : Ss := (.cons (.ret (.call "place_named" (.cons (.var 0) (.cons (.var 2) (.cons (.ix (.var 1) (.int 1)) .nil))))) .nil)
/-- k11 k15 -/
def b_up_from : Ss := (.cons (.ret (.call "upward" (.cons (.var 0) (.cons (.var 1) (.cons (.bop .sub (.ix (.var 1) (.int 0)) (.int 1)) .nil))))) .nil)
/-- k09 k11 -/
def b_is_below_power : Ss := (.cons (.ite (.cmp .ge (.var 2) (.bits (.var 1))) (.cons (.ret (.bl true)) .nil) .nil) (.cons (.ret (.and (.cmp .ge (.var 2) (.int 0)) (.cmp .lt (.var 1) (.call "whole_power" (.cons (.var 0) (.cons (.var 2) .nil)))))) .nil))
/-- k09 k11 -/
def b_is_place : Ss := (.cons (.ite (.or (.not (.val (.isi (.var 1) .tuple))) (.or (.cmp .ne (.bf .len (.cons (.var 1) .nil)) (.int 2)) (.or (.not (.val (.call "is_whole" (.cons (.ix (.var 1) (.int 0)) .nil)))) (.not (.val (.call "is_ratio" (.cons (.ix (.var 1) (.int 1)) .nil))))))) (.cons (.ret (.bl false)) .nil) .nil) (.cons (.asg (.tp (.cons (.nm 2) (.cons (.tp (.cons (.nm 3) (.cons (.nm 4) .nil))) .nil))) (.var 1)) (.cons (.ite (.cmp .eq (.var 3) (.int 0)) (.cons (.ret (.bl true)) .nil) .nil) (.cons (.asg (.nm 5) (.call "many_in" (.cons (.var 0) (.cons (.var 4) .nil)))) (.cons (.ret (.and (.cmp .gt (.var 3) (.int 0)) (.and (.cmp .eq (.var 4) (.call "whole_power" (.cons (.var 0) (.cons (.var 5) .nil)))) (.call "is_below_power" (.cons (.var 0) (.cons (.var 3) (.cons (.bop .add (.var 2) (.var 5)) .nil))))))) .nil)))))
/-- k11 k15 -/
def b_next_places : Ss := (.cons (.asg (.tp (.cons (.nm 2) (.cons (.nm 3) .nil))) (.var 1)) (.cons (.asg (.nm 4) (.lst true (.cons (.call "up_from" (.cons (.var 0) (.cons (.var 1) .nil))) .nil))) (.cons (.for_ (.nm 5) (.rng (.cons (.var 0) .nil)) (.cons (.app 4 (.tup (.cons (.bop .add (.var 2) (.int 1)) (.cons (.call "ratios_added" (.cons (.var 3) (.cons (.call "ratios_times" (.cons (.tup (.cons (.var 5) (.cons (.int 1) .nil))) (.cons (.call "power_of" (.cons (.var 0) (.cons (.var 2) .nil))) .nil))) .nil))) .nil)))) .nil)) (.cons (.ret (.bf .tuple (.cons (.var 4) .nil))) .nil))))
/-- k11 k15 -/
def b_next_number : Ss := (.cons (.ite (.cmp .eq (.var 2) (.call "up_from" (.cons (.var 0) (.cons (.var 1) .nil)))) (.cons (.ret (.int 0)) .nil) .nil) (.cons (.ite (.or (.cmp .ne (.ix (.var 2) (.int 0)) (.bop .add (.ix (.var 1) (.int 0)) (.int 1))) (.cmp .ne (.call "up_from" (.cons (.var 0) (.cons (.var 2) .nil))) (.var 1))) (.cons (.ret .non) .nil) .nil) (.cons (.asg (.nm 3) (.call "ratios_over" (.cons (.call "ratios_less" (.cons (.ix (.var 2) (.int 1)) (.cons (.ix (.var 1) (.int 1)) .nil))) (.cons (.call "power_of" (.cons (.var 0) (.cons (.ix (.var 1) (.int 0)) .nil))) .nil)))) (.cons (.ret (.bop .add (.ix (.var 3) (.int 0)) (.int 1))) .nil))))
/-- k11 k12 k15 k24 -/
def b_meeting : Ss := (.cons (.asg (.nm 3) (.bf .min2 (.cons (.ix (.var 1) (.int 0)) (.cons (.ix (.var 2) (.int 0)) .nil)))) (.cons (.asg (.nm 4) (.call "power_in" (.cons (.var 0) (.cons (.call "ratios_less" (.cons (.ix (.var 1) (.int 1)) (.cons (.ix (.var 2) (.int 1)) .nil))) .nil)))) (.cons (.ret (.ife (.cmp .is (.var 4) .non) (.var 3) (.bf .min2 (.cons (.var 3) (.cons (.var 4) .nil))))) .nil)))
/-- k11 k12 k15 k24 -/
def b_steps_between : Ss := (.cons (.ret (.bop .sub (.bop .add (.ix (.var 1) (.int 0)) (.ix (.var 2) (.int 0))) (.bop .mul (.int 2) (.call "meeting" (.cons (.var 0) (.cons (.var 1) (.cons (.var 2) .nil))))))) .nil)
/-- k11 k12 k15 -/
def b_place_along : Ss := (.cons (.asg (.nm 4) (.call "meeting" (.cons (.var 0) (.cons (.var 1) (.cons (.var 2) .nil))))) (.cons (.ite (.cmp .le (.var 3) (.bop .sub (.ix (.var 1) (.int 0)) (.var 4))) (.cons (.ret (.call "upward" (.cons (.var 0) (.cons (.var 1) (.cons (.bop .sub (.ix (.var 1) (.int 0)) (.var 3)) .nil))))) .nil) .nil) (.cons (.ret (.call "upward" (.cons (.var 0) (.cons (.var 2) (.cons (.bop .sub (.bop .add (.var 4) (.var 3)) (.bop .sub (.ix (.var 1) (.int 0)) (.var 4))) .nil))))) .nil)))
/-- k11 k12 k15 -/
def b_way_between : Ss := (.cons (.asg (.nm 3) (.call "steps_between" (.cons (.var 0) (.cons (.var 1) (.cons (.var 2) .nil))))) (.cons (.ite (.cmp .gt (.var 3) (.glo "MOST_STEPS")) (.cons .nev .nil) .nil) (.cons (.ret (.bf .tuple (.cons (.lc false (.call "place_along" (.cons (.var 0) (.cons (.var 1) (.cons (.var 2) (.cons (.var 4) .nil))))) [("k", 4)] (.nm 4) (.rng (.cons (.bop .add (.var 3) (.int 1)) .nil)) .tt) .nil))) .nil)))
/-- k12 k24 -/
def b_middle_of : Ss := (.cons (.par 4 5 (.call "meeting" (.cons (.var 0) (.cons (.var 1) (.cons (.var 2) .nil)))) (.call "meeting" (.cons (.var 0) (.cons (.var 1) (.cons (.var 3) .nil))))) (.cons (.ite (.cmp .ne (.var 4) (.var 5)) (.cons (.ret (.call "upward" (.cons (.var 0) (.cons (.var 1) (.cons (.bf .max2 (.cons (.var 4) (.cons (.var 5) .nil))) .nil))))) .nil) .nil) (.cons (.ret (.call "upward" (.cons (.var 0) (.cons (.var 2) (.cons (.call "meeting" (.cons (.var 0) (.cons (.var 2) (.cons (.var 3) .nil)))) .nil))))) .nil)))
/-- k24 -/
def b_place_at (g : Str) : Ss := (.cons (.ret (.ife (.cmp .isnt (.var 1) .non) (.call "place_named" (.cons (.var 0) (.cons (.var 2) (.cons (.var 1) .nil)))) (.tup (.cons (.neg (.var 2)) (.cons (.glo g) .nil))))) .nil)
/-- k24 -/
def b_turn_of : Ss := (.cons (.asg (.nm 2) (.call "power_in" (.cons (.var 0) (.cons (.var 1) .nil)))) (.cons (.ret (.ife (.cmp .isnt (.var 2) .non) (.bf .min2 (.cons (.int 0) (.cons (.var 2) .nil))) (.int 0))) .nil))
/-- k24 -/
def b_fork_told (g : Str) : Ss := (.cons (.ite (.cmp .eq (.var 1) (.var 2)) (.cons (.ret .non) .nil) .nil) (.cons (.ite (.or (.cmp .is (.var 1) .non) (.cmp .is (.var 2) .non)) (.cons (.ret (.tup (.cons (.call "turn_of" (.cons (.var 0) (.cons (.ife (.cmp .isnt (.var 1) .non) (.var 1) (.var 2)) .nil))) (.cons (.glo g) .nil)))) .nil) .nil) (.cons (.asg (.nm 3) (.tup (.cons (.call "turn_of" (.cons (.var 0) (.cons (.var 1) .nil))) (.cons (.call "turn_of" (.cons (.var 0) (.cons (.var 2) .nil))) .nil)))) (.cons (.ite (.cmp .ne (.ix (.var 3) (.int 0)) (.ix (.var 3) (.int 1))) (.cons (.ret (.tup (.cons (.bf .max1 (.cons (.var 3) .nil)) (.cons (.glo g) .nil)))) .nil) .nil) (.cons (.ret (.call "place_named" (.cons (.var 0) (.cons (.call "power_in" (.cons (.var 0) (.cons (.call "ratios_less" (.cons (.var 1) (.cons (.var 2) .nil))) .nil))) (.cons (.var 1) .nil))))) .nil)))))
/-- k07 k11 k15 -/
def b__law_frac : Ss := (.cons (.par 2 3 (.bf .abs (.cons (.var 1) .nil)) (.bf .abs (.cons (.var 0) .nil))) (.cons (.whl (.cmp .gt (.var 3) (.int 0)) (.cons (.par 2 3 (.var 3) (.bop .mod (.bf .int (.cons (.var 2) .nil)) (.var 3))) .nil)) (.cons (.asg (.nm 4) (.ife (.cmp .gt (.var 1) (.int 0)) (.int 1) (.neg (.int 1)))) (.cons (.ret (.tup (.cons (.bop .fdiv (.bop .mul (.var 4) (.var 0)) (.var 2)) (.cons (.bop .fdiv (.bf .abs (.cons (.var 1) .nil)) (.var 2)) .nil)))) .nil))))
/-- k09 k12 k13 -/
def b__law_low_a : Ss := (.cons (.par 2 3 (.bf .abs (.cons (.var 0) .nil)) (.bf .abs (.cons (.var 1) .nil))) (.cons (.whl (.cmp .gt (.var 3) (.int 0)) (.cons (.par 2 3 (.var 3) (.bop .mod (.bf .int (.cons (.var 2) .nil)) (.var 3))) .nil)) (.cons (.asg (.nm 2) (.ife (.cmp .gt (.var 1) (.int 0)) (.var 2) (.bop .sub (.int 0) (.var 2)))) (.cons (.ret (.tup (.cons (.bop .fdiv (.var 0) (.var 2)) (.cons (.bop .fdiv (.var 1) (.var 2)) .nil)))) .nil))))
/-- k24 -/
def b__law_low_b : Ss := (.cons (.par 2 3 (.bf .abs (.cons (.var 0) .nil)) (.bf .abs (.cons (.var 1) .nil))) (.cons (.whl (.cmp .ne (.var 3) (.int 0)) (.cons (.par 2 3 (.var 3) (.bop .mod (.bf .int (.cons (.var 2) .nil)) (.var 3))) .nil)) (.cons (.asg (.nm 2) (.ife (.cmp .gt (.var 1) (.int 0)) (.var 2) (.bop .sub (.int 0) (.var 2)))) (.cons (.ret (.tup (.cons (.bop .fdiv (.var 0) (.var 2)) (.cons (.bop .fdiv (.var 1) (.var 2)) .nil)))) .nil))))
/-- k07 k11 k15 -/
def b__law_plus_a : Ss := (.cons (.ret (.call "_law_frac" (.cons (.bop .add (.bop .mul (.ix (.var 0) (.int 0)) (.ix (.var 1) (.int 1))) (.bop .mul (.ix (.var 1) (.int 0)) (.ix (.var 0) (.int 1)))) (.cons (.bop .mul (.ix (.var 0) (.int 1)) (.ix (.var 1) (.int 1))) .nil)))) .nil)
/-- k09 k12 k13 k24 -/
def b__law_plus_b : Ss := (.cons (.ret (.call "_law_low" (.cons (.bop .add (.bop .mul (.ix (.var 0) (.int 0)) (.ix (.var 1) (.int 1))) (.bop .mul (.ix (.var 1) (.int 0)) (.ix (.var 0) (.int 1)))) (.cons (.bop .mul (.ix (.var 0) (.int 1)) (.ix (.var 1) (.int 1))) .nil)))) .nil)
/-- k07 k15 -/
def b__law_less_a : Ss := (.cons (.ret (.call "_law_frac" (.cons (.bop .sub (.bop .mul (.ix (.var 0) (.int 0)) (.ix (.var 1) (.int 1))) (.bop .mul (.ix (.var 1) (.int 0)) (.ix (.var 0) (.int 1)))) (.cons (.bop .mul (.ix (.var 0) (.int 1)) (.ix (.var 1) (.int 1))) .nil)))) .nil)
/-- k09 k13 -/
def b__law_less_b : Ss := (.cons (.ret (.call "_law_low" (.cons (.bop .sub (.bop .mul (.ix (.var 0) (.int 0)) (.ix (.var 1) (.int 1))) (.bop .mul (.ix (.var 1) (.int 0)) (.ix (.var 0) (.int 1)))) (.cons (.bop .mul (.ix (.var 0) (.int 1)) (.ix (.var 1) (.int 1))) .nil)))) .nil)
/-- k12 -/
def b__law_minus : Ss := (.cons (.ret (.call "_law_low" (.cons (.bop .sub (.bop .mul (.ix (.var 0) (.int 0)) (.ix (.var 1) (.int 1))) (.bop .mul (.ix (.var 1) (.int 0)) (.ix (.var 0) (.int 1)))) (.cons (.bop .mul (.ix (.var 0) (.int 1)) (.ix (.var 1) (.int 1))) .nil)))) .nil)
/-- k07 k11 k15 -/
def b__law_times_a : Ss := (.cons (.ret (.call "_law_frac" (.cons (.bop .mul (.ix (.var 0) (.int 0)) (.ix (.var 1) (.int 0))) (.cons (.bop .mul (.ix (.var 0) (.int 1)) (.ix (.var 1) (.int 1))) .nil)))) .nil)
/-- k09 k12 k13 -/
def b__law_times_b : Ss := (.cons (.ret (.call "_law_low" (.cons (.bop .mul (.ix (.var 0) (.int 0)) (.ix (.var 1) (.int 0))) (.cons (.bop .mul (.ix (.var 0) (.int 1)) (.ix (.var 1) (.int 1))) .nil)))) .nil)
/-- k24 -/
def b__law_by : Ss := (.cons (.ret (.call "_law_low" (.cons (.bop .mul (.ix (.var 0) (.int 0)) (.ix (.var 1) (.int 0))) (.cons (.bop .mul (.ix (.var 0) (.int 1)) (.ix (.var 1) (.int 1))) .nil)))) .nil)
/-- k07 -/
def b__law_over_a : Ss := (.cons (.ret (.call "_law_frac" (.cons (.bop .mul (.ix (.var 0) (.int 0)) (.ix (.var 1) (.int 1))) (.cons (.bop .mul (.ix (.var 0) (.int 1)) (.ix (.var 1) (.int 0))) .nil)))) .nil)
/-- k24 -/
def b__law_over_b : Ss := (.cons (.ret (.call "_law_low" (.cons (.bop .mul (.ix (.var 0) (.int 0)) (.ix (.var 1) (.int 1))) (.cons (.bop .mul (.ix (.var 0) (.int 1)) (.ix (.var 1) (.int 0))) .nil)))) .nil)
/-- k07 k09 k11 k12 k13 k15 k24 -/
def b__law_power : Ss := (.cons (.asg (.nm 2) (.int 1)) (.cons (.for_ (.nm 3) (.rng (.cons (.bf .abs (.cons (.var 1) .nil)) .nil)) (.cons (.asg (.nm 2) (.bop .mul (.var 2) (.var 0))) .nil)) (.cons (.ret (.ife (.cmp .ge (.var 1) (.int 0)) (.tup (.cons (.var 2) (.cons (.int 1) .nil))) (.tup (.cons (.int 1) (.cons (.var 2) .nil))))) .nil)))
/-- k07 k11 k15 -/
def b__law_often_a : Ss := (.cons (.asg (.nm 2) (.int 0)) (.cons (.whl (.cmp .eq (.bop .mod (.bf .int (.cons (.var 1) .nil)) (.var 0)) (.int 0)) (.cons (.par 1 2 (.bop .fdiv (.var 1) (.var 0)) (.bop .add (.var 2) (.int 1))) .nil)) (.cons (.ret (.var 2)) .nil)))
/-- k09 k13 -/
def b__law_often_b : Ss := (.cons (.ite (.cmp .eq (.ix (.var 1) (.int 0)) (.int 0)) (.cons (.ret .non) .nil) .nil) (.cons (.asg (.nm 2) (.int 0)) (.cons (.for_ (.tp (.cons (.nm 3) (.cons (.nm 4) .nil))) (.seq (.tup (.cons (.tup (.cons (.ix (.var 1) (.int 0)) (.cons (.int 1) .nil))) (.cons (.tup (.cons (.ix (.var 1) (.int 1)) (.cons (.neg (.int 1)) .nil))) .nil)))) (.cons (.asg (.nm 5) (.bf .abs (.cons (.var 3) .nil))) (.cons (.whl (.cmp .eq (.bop .mod (.bf .int (.cons (.var 5) .nil)) (.var 0)) (.int 0)) (.cons (.par 5 2 (.bop .fdiv (.var 5) (.var 0)) (.bop .add (.var 2) (.var 4))) .nil)) .nil))) (.cons (.ret (.var 2)) .nil))))
/-- k12 -/
def b__law_often_c : Ss := (.cons (.asg (.tp (.cons (.nm 2) (.cons (.tp (.cons (.nm 3) (.cons (.nm 4) .nil))) .nil))) (.tup (.cons (.int 0) (.cons (.var 1) .nil)))) (.cons (.ite (.cmp .eq (.var 3) (.int 0)) (.cons (.ret (.int 9999)) .nil) .nil) (.cons (.whl (.cmp .eq (.bop .mod (.bf .int (.cons (.var 3) .nil)) (.var 0)) (.int 0)) (.cons (.par 3 2 (.bop .fdiv (.var 3) (.var 0)) (.bop .add (.var 2) (.int 1))) .nil)) (.cons (.whl (.cmp .eq (.bop .mod (.bf .int (.cons (.var 4) .nil)) (.var 0)) (.int 0)) (.cons (.par 4 2 (.bop .fdiv (.var 4) (.var 0)) (.bop .sub (.var 2) (.int 1))) .nil)) (.cons (.ret (.var 2)) .nil)))))
/-- k24 -/
def b__law_often_d : Ss := (.cons (.par3 2 3 4 (.bf .abs (.cons (.ix (.var 1) (.int 0)) .nil)) (.ix (.var 1) (.int 1)) (.int 0)) (.cons (.whl (.cmp .eq (.bop .mod (.bf .int (.cons (.var 2) .nil)) (.var 0)) (.int 0)) (.cons (.par 2 4 (.bop .fdiv (.var 2) (.var 0)) (.bop .add (.var 4) (.int 1))) .nil)) (.cons (.whl (.cmp .eq (.bop .mod (.bf .int (.cons (.var 3) .nil)) (.var 0)) (.int 0)) (.cons (.par 3 4 (.bop .fdiv (.var 3) (.var 0)) (.bop .sub (.var 4) (.int 1))) .nil)) (.cons (.ret (.var 4)) .nil))))
/-- k07 k15 -/
def b__law_in : Ss := (.cons (.ret (.ife (.cmp .ne (.ix (.var 1) (.int 0)) (.int 0)) (.bop .sub (.call "_law_often" (.cons (.var 0) (.cons (.ix (.var 1) (.int 0)) .nil))) (.call "_law_often" (.cons (.var 0) (.cons (.ix (.var 1) (.int 1)) .nil)))) .non)) .nil)
/-- k07 k11 k15 -/
def b__law_rest_a : Ss := (.cons (.asg (.tp (.cons (.nm 3) (.cons (.nm 4) (.cons (.nm 5) .nil)))) (.tup (.cons (.call "_law_often" (.cons (.var 0) (.cons (.ix (.var 1) (.int 1)) .nil))) (.cons (.int 0) (.cons (.int 1) .nil))))) (.cons (.asg (.nm 6) (.bop .fdiv (.ix (.var 1) (.int 1)) (.ix (.call "_law_power" (.cons (.var 0) (.cons (.var 3) .nil))) (.int 0)))) (.cons (.for_ (.nm 7) (.rng (.cons (.bf .max2 (.cons (.int 0) (.cons (.bop .add (.var 2) (.var 3)) .nil))) .nil)) (.cons (.asg (.nm 4) (.ix (.lc false (.bop .add (.var 4) (.bop .mul (.var 8) (.var 5))) [("d", 8)] (.nm 8) (.rng (.cons (.var 0) .nil)) (.cmp .eq (.bop .mod (.bf .int (.cons (.bop .sub (.bop .mul (.bop .add (.var 4) (.bop .mul (.var 8) (.var 5))) (.var 6)) (.ix (.var 1) (.int 0))) .nil)) (.bop .mul (.var 5) (.var 0))) (.int 0))) (.int 0))) (.cons (.asg (.nm 5) (.bop .mul (.var 5) (.var 0))) .nil))) (.cons (.ret (.call "_law_frac" (.cons (.var 4) (.cons (.ix (.call "_law_power" (.cons (.var 0) (.cons (.var 3) .nil))) (.int 0)) .nil)))) .nil))))
/-- k09 -/
def b__law_rest_b : Ss := (.cons (.par 3 4 (.call "_law_often" (.cons (.var 0) (.cons (.var 1) .nil))) (.tup (.cons (.int 0) (.cons (.int 1) .nil)))) (.cons (.ite (.cmp .is (.var 3) .non) (.cons (.ret (.var 4)) .nil) .nil) (.cons (.for_ (.nm 5) (.rng (.cons (.var 3) (.cons (.var 2) .nil))) (.cons (.for_ (.nm 6) (.rng (.cons (.var 0) .nil)) (.cons (.asg (.nm 7) (.call "_law_plus" (.cons (.var 4) (.cons (.call "_law_times" (.cons (.tup (.cons (.var 6) (.cons (.int 1) .nil))) (.cons (.call "_law_power" (.cons (.var 0) (.cons (.var 5) .nil))) .nil))) .nil)))) (.cons (.asg (.nm 8) (.call "_law_often" (.cons (.var 0) (.cons (.call "_law_less" (.cons (.var 1) (.cons (.var 7) .nil))) .nil)))) (.cons (.ite (.or (.cmp .is (.var 8) .non) (.cmp .gt (.var 8) (.var 5))) (.cons .brk .nil) .nil) .nil)))) (.cons (.asg (.nm 4) (.var 7)) .nil))) (.cons (.ret (.var 4)) .nil))))
/-- k12 -/
def b__law_rest_c : Ss := (.cons (.par 3 4 (.tup (.cons (.int 0) (.cons (.int 1) .nil))) (.var 1)) (.cons (.for_ (.nm 5) (.rng (.cons (.bf .min2 (.cons (.call "_law_often" (.cons (.var 0) (.cons (.var 1) .nil))) (.cons (.var 2) .nil))) (.cons (.var 2) .nil))) (.cons (.for_ (.nm 6) (.rng (.cons (.var 0) .nil)) (.cons (.asg (.nm 7) (.call "_law_times" (.cons (.tup (.cons (.var 6) (.cons (.int 1) .nil))) (.cons (.call "_law_power" (.cons (.var 0) (.cons (.var 5) .nil))) .nil)))) (.cons (.ite (.cmp .gt (.call "_law_often" (.cons (.var 0) (.cons (.call "_law_minus" (.cons (.var 4) (.cons (.var 7) .nil))) .nil))) (.var 5)) (.cons (.par 3 4 (.call "_law_plus" (.cons (.var 3) (.cons (.var 7) .nil))) (.call "_law_minus" (.cons (.var 4) (.cons (.var 7) .nil)))) (.cons .brk .nil)) .nil) .nil))) .nil)) (.cons (.ret (.var 3)) .nil)))
/-- k13 -/
def b__law_rest_d : Ss := (.cons (.asg (.nm 3) (.call "_law_often" (.cons (.var 0) (.cons (.var 1) .nil)))) (.cons (.ite (.or (.cmp .is (.var 3) .non) (.cmp .ge (.var 3) (.var 2))) (.cons (.ret (.tup (.cons (.int 0) (.cons (.int 1) .nil)))) .nil) .nil) (.cons (.par 4 5 (.call "_law_times" (.cons (.var 1) (.cons (.call "_law_power" (.cons (.var 0) (.cons (.bop .sub (.int 0) (.var 3)) .nil))) .nil))) (.ix (.call "_law_power" (.cons (.var 0) (.cons (.bop .sub (.var 2) (.var 3)) .nil))) (.int 0))) (.cons (.asg (.nm 6) (.bop .mod (.bf .int (.cons (.bop .mul (.ix (.var 4) (.int 0)) (.call "_law_undone_by" (.cons (.ix (.var 4) (.int 1)) (.cons (.var 5) .nil)))) .nil)) (.var 5))) (.cons (.ret (.call "_law_times" (.cons (.tup (.cons (.var 6) (.cons (.int 1) .nil))) (.cons (.call "_law_power" (.cons (.var 0) (.cons (.var 3) .nil))) .nil)))) .nil)))))
/-- k24 -/
def b__law_rest_e : Ss := (.cons (.ite (.or (.cmp .eq (.ix (.var 1) (.int 0)) (.int 0)) (.cmp .ge (.call "_law_often" (.cons (.var 0) (.cons (.var 1) .nil))) (.var 2))) (.cons (.ret (.tup (.cons (.int 0) (.cons (.int 1) .nil)))) .nil) .nil) (.cons (.asg (.nm 3) (.call "_law_often" (.cons (.var 0) (.cons (.var 1) .nil)))) (.cons (.par 4 5 (.call "_law_by" (.cons (.var 1) (.cons (.call "_law_power" (.cons (.var 0) (.cons (.bop .sub (.int 0) (.var 3)) .nil))) .nil))) (.tup (.cons (.int 0) (.cons (.int 1) .nil)))) (.cons (.asg (.tp (.cons (.nm 6) (.cons (.nm 7) .nil))) (.var 4)) (.cons (.for_ (.nm 8) (.rng (.cons (.var 3) (.cons (.var 2) .nil))) (.cons (.asg (.nm 9) (.ix (.lc false (.var 10) [("d", 10)] (.nm 10) (.rng (.cons (.var 0) .nil)) (.cmp .eq (.bop .mod (.bf .int (.cons (.bop .sub (.var 6) (.bop .mul (.var 10) (.var 7))) .nil)) (.var 0)) (.int 0))) (.int 0))) (.cons (.asg (.nm 6) (.bop .fdiv (.bop .sub (.var 6) (.bop .mul (.var 9) (.var 7))) (.var 0))) (.cons (.asg (.nm 5) (.call "_law_plus" (.cons (.var 5) (.cons (.call "_law_by" (.cons (.tup (.cons (.var 9) (.cons (.int 1) .nil))) (.cons (.call "_law_power" (.cons (.var 0) (.cons (.var 8) .nil))) .nil))) .nil)))) .nil)))) (.cons (.ret (.var 5)) .nil))))))
/-- k11 k15 -/
def b__law_place_a : Ss := (.cons (.ret (.tup (.cons (.var 1) (.cons (.call "_law_rest" (.cons (.var 0) (.cons (.var 2) (.cons (.var 1) .nil)))) .nil)))) .nil)
/-- k12 -/
def b__law_place_b : Ss := (.cons (.asg (.nm 3) (.bop .sub (.call "_law_pick" (.cons (.var 0) (.cons (.bop .add (.var 2) (.int 4)) .nil))) (.int 3))) (.cons (.asg (.nm 4) (.call "_law_low" (.cons (.bop .sub (.call "_law_pick" (.cons (.var 0) (.cons (.int 60) .nil))) (.int 20)) (.cons (.call "_law_of" (.cons (.var 0) (.cons (.lst false (.cons (.int 1) (.cons (.int 1) (.cons (.int 1) (.cons (.int 2) (.cons (.int 3) (.cons (.int 5) (.cons (.var 1) (.cons (.bop .mul (.var 1) (.var 1)) .nil))))))))) .nil))) .nil)))) (.cons (.ret (.tup (.cons (.var 3) (.cons (.call "_law_rest" (.cons (.var 1) (.cons (.var 4) (.cons (.var 3) .nil)))) .nil)))) .nil)))
/-- k13 -/
def b__law_place_c : Ss := (.cons (.asg (.nm 2) (.bop .sub (.call "_law_pick" (.cons (.var 0) (.cons (.int 9) .nil))) (.int 4))) (.cons (.ret (.tup (.cons (.var 2) (.cons (.call "_law_rest" (.cons (.var 1) (.cons (.call "_law_fraction" (.cons (.var 0) (.cons (.var 1) (.cons (.int 30) .nil)))) (.cons (.var 2) .nil)))) .nil)))) .nil))
/-- k11 k15 -/
def b__law_up_a : Ss := (.cons (.ret (.call "_law_place" (.cons (.var 0) (.cons (.bop .sub (.ix (.var 1) (.int 0)) (.int 1)) (.cons (.ix (.var 1) (.int 1)) .nil))))) .nil)
/-- k12 -/
def b__law_up_b : Ss := (.cons (.ret (.tup (.cons (.var 2) (.cons (.call "_law_rest" (.cons (.var 0) (.cons (.ix (.var 1) (.int 1)) (.cons (.var 2) .nil)))) .nil)))) .nil)
/-- k13 -/
def b__law_undone_by : Ss := (.cons (.asg (.tp (.cons (.nm 2) (.cons (.nm 3) (.cons (.nm 4) (.cons (.nm 5) .nil))))) (.tup (.cons (.bop .mod (.bf .int (.cons (.var 0) .nil)) (.var 1)) (.cons (.var 1) (.cons (.int 1) (.cons (.int 0) .nil)))))) (.cons (.whl (.cmp .gt (.var 3) (.int 0)) (.cons (.asg (.nm 6) (.bop .fdiv (.var 2) (.var 3))) (.cons (.asg (.tp (.cons (.nm 2) (.cons (.nm 3) (.cons (.nm 4) (.cons (.nm 5) .nil))))) (.tup (.cons (.var 3) (.cons (.bop .sub (.var 2) (.bop .mul (.var 6) (.var 3))) (.cons (.var 5) (.cons (.bop .sub (.var 4) (.bop .mul (.var 6) (.var 5))) .nil)))))) .nil))) (.cons (.ret (.bop .mod (.bf .int (.cons (.var 4) .nil)) (.var 1))) .nil)))
/-- k07 -/
def b__law_fraction_a : Ss := (.cons (.par 2 3 (.bop .sub (.call "_law_pick" (.cons (.var 0) (.cons (.int 81) .nil))) (.int 40)) (.bop .add (.int 1) (.call "_law_pick" (.cons (.var 0) (.cons (.int 12) .nil))))) (.cons (.ite (.cmp .eq (.call "_law_pick" (.cons (.var 0) (.cons (.int 4) .nil))) (.int 0)) (.cons (.asg (.nm 2) (.bop .add (.bop .mul (.var 2) (.bop .pow (.int 10) (.int 12))) (.call "_law_pick" (.cons (.var 0) (.cons (.bop .pow (.int 10) (.int 9)) .nil))))) .nil) .nil) (.cons (.par 4 5 (.call "_law_frac" (.cons (.var 2) (.cons (.var 3) .nil))) (.bop .sub (.call "_law_pick" (.cons (.var 0) (.cons (.int 9) .nil))) (.int 4))) (.cons (.ret (.call "_law_times" (.cons (.var 4) (.cons (.call "_law_power" (.cons (.var 1) (.cons (.var 5) .nil))) .nil)))) .nil))))
/-- k09 k13 -/
def b__law_fraction_b : Ss := (.cons (.asg (.nm 3) (.bop .sub (.call "_law_pick" (.cons (.var 0) (.cons (.bop .add (.bop .mul (.int 2) (.var 2)) (.int 1)) .nil))) (.var 2))) (.cons (.asg (.nm 4) (.call "_law_of" (.cons (.var 0) (.cons (.lst false (.cons (.int 1) (.cons (.int 1) (.cons (.int 2) (.cons (.int 3) (.cons (.int 5) (.cons (.int 7) (.cons (.var 1) (.cons (.bop .mul (.var 1) (.var 1)) (.cons (.bop .mul (.int 2) (.var 1)) .nil)))))))))) .nil)))) (.cons (.ret (.call "_law_low" (.cons (.bop .mul (.var 3) (.call "_law_of" (.cons (.var 0) (.cons (.lst false (.cons (.int 1) (.cons (.int 1) (.cons (.var 1) (.cons (.bop .mul (.var 1) (.var 1)) .nil))))) .nil)))) (.cons (.var 4) .nil)))) .nil)))
/-- k11 k15 -/
def b__law_fraction_c : Ss := (.cons (.asg (.nm 2) (.call "_law_of" (.cons (.var 0) (.cons (.lst false (.cons (.int 1) (.cons (.int 1) (.cons (.int 2) (.cons (.int 3) (.cons (.int 7) (.cons (.var 1) (.cons (.bop .mul (.var 1) (.var 1)) (.cons (.bop .mul (.int 5) (.var 1)) .nil))))))))) .nil)))) (.cons (.ret (.call "_law_frac" (.cons (.bop .sub (.call "_law_pick" (.cons (.var 0) (.cons (.int 121) .nil))) (.int 60)) (.cons (.var 2) .nil)))) .nil))
/-- k09 -/
def b__law_is_place : Ss := (.cons (.ite (.or (.not (.val (.isi (.var 1) .tuple))) (.or (.cmp .ne (.bf .len (.cons (.var 1) .nil)) (.int 2)) (.or (.not (.val (.isi (.ix (.var 1) (.int 1)) .tuple))) (.cmp .ne (.bf .len (.cons (.ix (.var 1) (.int 1)) .nil)) (.int 2))))) (.cons (.ret (.bl false)) .nil) .nil) (.cons (.asg (.nm 2) (.bop .add (.tup (.cons (.ix (.var 1) (.int 0)) .nil)) (.ix (.var 1) (.int 1)))) (.cons (.ite (.or (.cmp .ne (.lc false (.var 3) [("one", 3)] (.nm 3) (.seq (.var 2)) (.or (.not (.val (.isi (.var 3) .int))) (.val (.isi (.var 3) .bool)))) (.lst false .nil)) (.cmp .lt (.ix (.ix (.var 1) (.int 1)) (.int 1)) (.int 1))) (.cons (.ret (.bl false)) .nil) .nil) (.cons (.ret (.and (.cmp .eq (.call "_law_low" (.cons (.ix (.ix (.var 1) (.int 1)) (.int 0)) (.cons (.ix (.ix (.var 1) (.int 1)) (.int 1)) .nil))) (.ix (.var 1) (.int 1))) (.cmp .eq (.call "_law_rest" (.cons (.var 0) (.cons (.ix (.var 1) (.int 1)) (.cons (.ix (.var 1) (.int 0)) .nil)))) (.ix (.var 1) (.int 1))))) .nil))))
/-- k13 -/
def b__law_led : Ss := (.cons (.asg (.tp (.cons (.nm 2) (.cons (.nm 3) (.cons (.nm 4) (.cons (.nm 5) .nil))))) (.var 0)) (.cons (.ite (.cmp .is (.var 1) .non) (.cons (.ret (.ife (.cmp .ne (.var 4) (.int 0)) (.call "_law_low" (.cons (.var 2) (.cons (.var 4) .nil))) .non)) .nil) .nil) (.cons (.par 6 7 (.bop .add (.bop .mul (.var 2) (.ix (.var 1) (.int 0))) (.bop .mul (.var 3) (.ix (.var 1) (.int 1)))) (.bop .add (.bop .mul (.var 4) (.ix (.var 1) (.int 0))) (.bop .mul (.var 5) (.ix (.var 1) (.int 1))))) (.cons (.ret (.ife (.cmp .ne (.var 7) (.int 0)) (.call "_law_low" (.cons (.var 6) (.cons (.var 7) .nil))) .non)) .nil))))
/-- k13 -/
def b__law_middle_a : Ss := (.cons (.asg (.nm 2) (.lc false (.var 3) [("end", 3)] (.nm 3) (.seq (.var 1)) (.cmp .isnt (.var 3) .non))) (.cons (.ite (.cmp .eq (.bf .len (.cons (.var 2) .nil)) (.int 2)) (.cons (.asg (.nm 4) (.call "_law_often" (.cons (.var 0) (.cons (.call "_law_less" (.cons (.ix (.var 2) (.int 0)) (.cons (.ix (.var 2) (.int 1)) .nil))) .nil)))) (.cons (.ret (.tup (.cons (.var 4) (.cons (.call "_law_rest" (.cons (.var 0) (.cons (.ix (.var 2) (.int 0)) (.cons (.var 4) .nil)))) .nil)))) .nil)) .nil) (.cons (.asg (.nm 5) (.lst false (.cons (.tup (.cons (.int 0) (.cons (.int 1) .nil))) (.cons (.tup (.cons (.int 0) (.cons (.int 2) .nil))) (.cons (.tup (.cons (.int 1) (.cons (.int 2) .nil))) .nil))))) (.cons (.asg (.nm 6) (.lc false (.call "_law_often" (.cons (.var 0) (.cons (.call "_law_less" (.cons (.ix (.var 2) (.var 7)) (.cons (.ix (.var 2) (.var 8)) .nil))) .nil))) [("i", 7), ("j", 8)] (.tp (.cons (.nm 7) (.cons (.nm 8) .nil))) (.seq (.var 5)) .tt)) (.cons (.asg (.nm 4) (.bf .max1 (.cons (.var 6) .nil))) (.cons (.ret (.tup (.cons (.var 4) (.cons (.call "_law_rest" (.cons (.var 0) (.cons (.ix (.var 2) (.ix (.ix (.var 5) (.idx (.var 6) (.var 4))) (.int 0))) (.cons (.var 4) .nil)))) .nil)))) .nil))))))
/-- k15 -/
def b__law_middle_b : Ss := (.cons (.asg (.nm 2) (.lc false (.var 3) [("end", 3)] (.nm 3) (.seq (.var 1)) (.cmp .isnt (.var 3) .non))) (.cons (.ite (.cmp .eq (.bf .len (.cons (.var 2) .nil)) (.int 2)) (.cons (.ret (.call "_law_place" (.cons (.var 0) (.cons (.call "_law_in" (.cons (.var 0) (.cons (.call "_law_less" (.cons (.ix (.var 2) (.int 0)) (.cons (.ix (.var 2) (.int 1)) .nil))) .nil))) (.cons (.ix (.var 2) (.int 0)) .nil))))) .nil) .nil) (.cons (.asg (.nm 4) (.lc false (.call "_law_in" (.cons (.var 0) (.cons (.call "_law_less" (.cons (.ix (.var 2) (.var 5)) (.cons (.ix (.var 2) (.var 6)) .nil))) .nil))) [("k", 5), ("j", 6)] (.tp (.cons (.nm 5) (.cons (.nm 6) .nil))) (.seq (.tup (.cons (.tup (.cons (.int 0) (.cons (.int 1) .nil))) (.cons (.tup (.cons (.int 0) (.cons (.int 2) .nil))) (.cons (.tup (.cons (.int 1) (.cons (.int 2) .nil))) .nil))))) .tt)) (.cons (.asg (.nm 5) (.idx (.var 4) (.bf .max1 (.cons (.var 4) .nil)))) (.cons (.ret (.call "_law_place" (.cons (.var 0) (.cons (.ix (.var 4) (.var 5)) (.cons (.ix (.var 2) (.ix (.lst false (.cons (.int 0) (.cons (.int 0) (.cons (.int 1) .nil)))) (.var 5))) .nil))))) .nil)))))
/-- k13 -/
def b__law_picture_a : Ss := (.cons (.asg (.tp (.cons (.nm 3) (.cons (.nm 4) .nil))) (.var 2)) (.cons (.asg (.nm 5) (.lst false (.cons (.var 4) (.cons (.call "_law_plus" (.cons (.var 4) (.cons (.call "_law_power" (.cons (.var 0) (.cons (.var 3) .nil))) .nil))) (.cons .non .nil))))) (.cons (.ret (.call "_law_middle" (.cons (.var 0) (.cons (.lc false (.call "_law_led" (.cons (.var 1) (.cons (.var 6) .nil))) [("end", 6)] (.nm 6) (.seq (.var 5)) .tt) .nil)))) .nil)))
/-- k15 -/
def b__law_picture_b : Ss := (.cons (.par 3 4 (.call "_law_power" (.cons (.var 0) (.cons (.ix (.var 2) (.int 0)) .nil))) (.lst true .nil)) (.cons (.for_ (.nm 5) (.rng (.cons (.int 2) .nil)) (.cons (.asg (.nm 6) (.call "_law_plus" (.cons (.ix (.var 2) (.int 1)) (.cons (.call "_law_times" (.cons (.tup (.cons (.var 5) (.cons (.int 1) .nil))) (.cons (.var 3) .nil))) .nil)))) (.cons (.app 4 (.call "_law_put" (.cons (.var 1) (.cons (.var 6) .nil)))) .nil))) (.cons (.ret (.call "_law_middle" (.cons (.var 0) (.cons (.bop .add (.var 4) (.lst false (.cons (.call "_law_put_far" (.cons (.var 1) .nil)) .nil))) .nil)))) .nil)))
/-- k13 -/
def b__law_move : Ss := (.cons (.asg (.nm 1) (.int 0)) (.cons (.for_ (.nm 2) (.seq (.var 0)) (.cons (.asg (.nm 3) (.bf .abs (.cons (.var 2) .nil))) (.cons (.whl (.cmp .gt (.var 3) (.int 0)) (.cons (.asg (.tp (.cons (.nm 1) (.cons (.nm 3) .nil))) (.tup (.cons (.var 3) (.cons (.bop .mod (.bf .int (.cons (.var 1) .nil)) (.var 3)) .nil)))) .nil)) .nil))) (.cons (.asg (.nm 4) (.ix (.lc false (.var 2) [("number", 2)] (.nm 2) (.seq (.var 0)) (.cmp .ne (.var 2) (.int 0))) (.int 0))) (.cons (.asg (.nm 1) (.ife (.cmp .gt (.var 4) (.int 0)) (.var 1) (.bop .sub (.int 0) (.var 1)))) (.cons (.ret (.bf .tuple (.cons (.lc false (.bop .fdiv (.var 2) (.var 1)) [("number", 2)] (.nm 2) (.seq (.var 0)) .tt) .nil))) .nil)))))
/-- k13 -/
def b__law_has : Ss := (.cons (.asg (.nm 3) (.call "_law_often" (.cons (.var 0) (.cons (.call "_law_less" (.cons (.var 2) (.cons (.ix (.var 1) (.int 1)) .nil))) .nil)))) (.cons (.ret (.or (.cmp .is (.var 3) .non) (.cmp .ge (.var 3) (.ix (.var 1) (.int 0))))) .nil))
/-- k13 -/
def b__law_table : Ss := (.cons (.asg (.tp (.cons (.nm 2) (.cons (.nm 3) .nil))) (.tup (.cons (.call "_law_pick" (.cons (.var 0) (.cons (.int 5) .nil))) (.cons (.call "_law_of" (.cons (.var 0) (.cons (.lst false (.cons (.int 2) (.cons (.int 5) (.cons (.int 12) .nil)))) .nil))) .nil)))) (.cons (.asg (.nm 4) (.lc false (.bop .sub (.call "_law_pick" (.cons (.var 0) (.cons (.bop .add (.bop .mul (.int 2) (.var 3)) (.int 1)) .nil))) (.var 3)) [("k", 5)] (.nm 5) (.rng (.cons (.int 4) .nil)) .tt)) (.cons (.ite (.cmp .eq (.var 2) (.int 0)) (.cons (.asg (.nm 4) (.lst false (.cons (.bop .mul (.ix (.var 4) (.int 0)) (.var 1)) (.cons (.bop .mul (.ix (.var 4) (.int 1)) (.var 1)) (.cons (.ix (.var 4) (.int 2)) (.cons (.ix (.var 4) (.int 3)) .nil)))))) .nil) .nil) (.cons (.ite (.cmp .eq (.var 2) (.int 1)) (.cons (.asg (.nm 4) (.lst false (.cons (.ix (.var 4) (.int 0)) (.cons (.ix (.var 4) (.int 1)) (.cons (.bop .mul (.bop .mul (.ix (.var 4) (.int 2)) (.var 1)) (.var 1)) (.cons (.ix (.var 4) (.int 3)) .nil)))))) .nil) .nil) (.cons (.ite (.cmp .eq (.var 2) (.int 2)) (.cons (.par 7 8 (.ix (.var 4) (.int 0)) (.bop .add (.bop .add (.ix (.var 4) (.int 0)) (.int 1)) (.bf .abs (.cons (.ix (.var 4) (.int 1)) .nil)))) (.cons (.asg (.nm 6) (.ix (.call "_law_power" (.cons (.var 1) (.cons (.bop .add (.int 1) (.call "_law_pick" (.cons (.var 0) (.cons (.int 3) .nil)))) .nil))) (.int 0))) (.cons (.asg (.nm 4) (.lst false (.cons (.bop .sub (.bop .mul (.var 7) (.var 6)) (.var 8)) (.cons (.bop .mul (.bop .mul (.var 7) (.var 8)) (.bop .sub (.int 1) (.var 6))) (.cons (.bop .sub (.var 6) (.int 1)) (.cons (.bop .sub (.var 7) (.bop .mul (.var 8) (.var 6))) .nil)))))) .nil))) .nil) (.cons (.ite (.cmp .eq (.bop .mul (.ix (.var 4) (.int 0)) (.ix (.var 4) (.int 3))) (.bop .mul (.ix (.var 4) (.int 1)) (.ix (.var 4) (.int 2)))) (.cons (.ret (.call "_law_of" (.cons (.var 0) (.cons (.lst false (.cons (.tup (.cons (.var 1) (.cons (.int 0) (.cons (.int 0) (.cons (.int 1) .nil))))) (.cons (.tup (.cons (.int 0) (.cons (.var 1) (.cons (.int 1) (.cons (.int 0) .nil))))) (.cons (.tup (.cons (.int 1) (.cons (.int 1) (.cons (.int 0) (.cons (.int 1) .nil))))) (.cons (.tup (.cons (.var 1) (.cons (.int 1) (.cons (.int 0) (.cons (.int 1) .nil))))) .nil))))) .nil)))) .nil) .nil) (.cons (.ret (.call "_law_move" (.cons (.var 4) .nil))) .nil)))))))
/-- k13 k15 k36 -/
def b_move_of : Ss := (.cons (.asg (.nm 1) (.int 0)) (.cons (.for_ (.nm 2) (.seq (.var 0)) (.cons (.asg (.nm 1) (.call "gcd" (.cons (.var 1) (.cons (.var 2) .nil)))) .nil)) (.cons (.ite (.cmp .lt (.ix (.lc false (.var 2) [("number", 2)] (.nm 2) (.seq (.var 0)) (.cmp .ne (.var 2) (.int 0))) (.int 0)) (.int 0)) (.cons (.asg (.nm 1) (.neg (.var 1))) .nil) .nil) (.cons (.ret (.bf .tuple (.cons (.lc false (.bop .fdiv (.var 2) (.var 1)) [("number", 2)] (.nm 2) (.seq (.var 0)) .tt) .nil))) .nil))))
/-- k13 k15 -/
def b_determinant : Ss := (.cons (.ret (.bop .sub (.bop .mul (.ix (.var 0) (.int 0)) (.ix (.var 0) (.int 3))) (.bop .mul (.ix (.var 0) (.int 1)) (.ix (.var 0) (.int 2))))) .nil)
/-- k13 -/
def b_trace : Ss := (.cons (.ret (.bop .add (.ix (.var 0) (.int 0)) (.ix (.var 0) (.int 3)))) .nil)
/-- k13 -/
def b_is_move : Ss := (.cons (.ite (.or (.not (.val (.isi (.var 0) .tuple))) (.or (.cmp .ne (.bf .len (.cons (.var 0) .nil)) (.int 4)) (.not (.val (.bf .all (.cons (.lc false (.call "is_whole" (.cons (.var 1) .nil)) [("one", 1)] (.nm 1) (.seq (.var 0)) .tt) .nil)))))) (.cons (.ret (.bl false)) .nil) .nil) (.cons (.ret (.and (.cmp .ne (.call "determinant" (.cons (.var 0) .nil)) (.int 0)) (.cmp .eq (.call "move_of" (.cons (.var 0) .nil)) (.var 0)))) .nil))
/-- k13 k15 -/
def b_whole : Ss := (.cons (.ret (.tup (.cons (.var 0) (.cons (.int 1) .nil)))) .nil)
/-- k13 k15 -/
def b_bottoms_of : Ss := (.cons (.par 3 4 (.call "whole" (.cons (.ix (.var 1) (.int 2)) .nil)) (.call "whole" (.cons (.ix (.var 1) (.int 3)) .nil))) (.cons (.ret (.tup (.cons (.call "ratios_times" (.cons (.var 3) (.cons (.call "power_of" (.cons (.var 0) (.cons (.ix (.var 2) (.int 0)) .nil))) .nil))) (.cons (.call "ratios_added" (.cons (.call "ratios_times" (.cons (.var 3) (.cons (.ix (.var 2) (.int 1)) .nil))) (.cons (.var 4) .nil))) .nil)))) .nil))
/-- k13 k15 -/
def b_picture_of : Ss := (.cons (.asg (.tp (.cons (.nm 3) (.cons (.nm 4) (.cons (.nm 5) (.cons (.nm 6) .nil))))) (.var 1)) (.cons (.asg (.tp (.cons (.nm 7) (.cons (.nm 8) .nil))) (.call "bottoms_of" (.cons (.var 0) (.cons (.var 1) (.cons (.var 2) .nil))))) (.cons (.asg (.nm 9) (.call "power_in" (.cons (.var 0) (.cons (.call "whole" (.cons (.call "determinant" (.cons (.var 1) .nil)) .nil)) .nil)))) (.cons (.asg (.nm 10) (.or (.cmp .eq (.var 8) (.tup (.cons (.int 0) (.cons (.int 1) .nil)))) (.and (.cmp .ne (.var 7) (.tup (.cons (.int 0) (.cons (.int 1) .nil)))) (.cmp .lt (.call "power_in" (.cons (.var 0) (.cons (.var 7) .nil))) (.call "power_in" (.cons (.var 0) (.cons (.var 8) .nil))))))) (.cons (.ite (.val (.var 10)) (.cons (.ret (.call "place_named" (.cons (.var 0) (.cons (.bop .sub (.bop .sub (.var 9) (.bop .mul (.int 2) (.call "power_in" (.cons (.var 0) (.cons (.call "whole" (.cons (.var 5) .nil)) .nil))))) (.ix (.var 2) (.int 0))) (.cons (.call "ratio_low" (.cons (.var 3) (.cons (.var 5) .nil))) .nil))))) .nil) .nil) (.cons (.asg (.nm 11) (.call "ratios_added" (.cons (.call "ratios_times" (.cons (.call "whole" (.cons (.var 3) .nil)) (.cons (.ix (.var 2) (.int 1)) .nil))) (.cons (.call "whole" (.cons (.var 4) .nil)) .nil)))) (.cons (.ret (.call "place_named" (.cons (.var 0) (.cons (.bop .sub (.bop .add (.ix (.var 2) (.int 0)) (.var 9)) (.bop .mul (.int 2) (.call "power_in" (.cons (.var 0) (.cons (.var 8) .nil))))) (.cons (.call "ratios_over" (.cons (.var 11) (.cons (.var 8) .nil))) .nil))))) .nil)))))))
end Pd
end
section
set_option linter.all false
set_option autoImplicit false
namespace Pd
/-! ## primes -/
/-- every number is a multiple of p or has no part in common with it -/
structure Pr (p : Nat) : Prop where
  two : 2 ≤ p
  cop : ∀ a : Nat, p ∣ a ∨ Nat.Coprime p a
theorem Pr.of {p : Nat} (h : 2 ≤ p) (k : ∀ a < p, a = 0 ∨ Nat.gcd p a = 1) : Pr p := by
  refine ⟨h, fun a => ?_⟩
  rcases k (a % p) (Nat.mod_lt _ (by omega)) with h0 | h1
  · exact .inl (Nat.dvd_of_mod_eq_zero h0)
  · refine .inr ?_
    show Nat.gcd p a = 1
    rw [Nat.gcd_rec, Nat.gcd_comm]
    exact h1
theorem pr2 : Pr 2 := .of (by decide) (by decide)
theorem pr3 : Pr 3 := .of (by decide) (by decide)
theorem pr5 : Pr 5 := .of (by decide) (by decide)
theorem pr7 : Pr 7 := .of (by decide) (by decide)
/-- no multiple of p -/
def Un (p : Nat) (a : Int) : Prop := ¬ (p : Int) ∣ a
theorem Un.cop {p : Nat} (hp : Pr p) {a : Int} (h : Un p a) : Nat.Coprime p a.natAbs := by
  rcases hp.cop a.natAbs with h1 | h1
  · exact absurd (Int.ofNat_dvd_left.mpr h1) h
  · exact h1
theorem Un.of_cop {p : Nat} (hp : Pr p) {a : Int} (h : Nat.Coprime p a.natAbs) : Un p a := by
  intro d
  have d2 := Int.ofNat_dvd_left.mp d
  have : p ∣ Nat.gcd p a.natAbs := Nat.dvd_gcd (Nat.dvd_refl p) d2
  rw [h] at this
  have := Nat.le_of_dvd (by decide) this
  have := hp.two
  omega
theorem Un.mul {p : Nat} (hp : Pr p) {a b : Int} (h : Un p a) (k : Un p b) : Un p (a * b) := by
  refine .of_cop hp ?_
  rw [Int.natAbs_mul]
  exact Nat.Coprime.mul_right (h.cop hp) (k.cop hp)
theorem Un.one {p : Nat} (hp : Pr p) : Un p 1 := .of_cop hp (Nat.coprime_one_right p)
theorem Un.ne {p : Nat} {a : Int} (h : Un p a) : a ≠ 0 := fun z => h (z ▸ Int.dvd_zero _)
theorem Un.neg {p : Nat} {a : Int} (h : Un p a) : Un p (-a) := fun d => h (Int.dvd_neg.mp d)
theorem Un.ne' {p : Nat} {a : Int} (h : Un p a) : (a : Rat) ≠ 0 := fun z => h.ne (Rat.intCast_eq_zero_iff.mp z)
/-- of so many primes -/
theorem split {p : Nat} (hp : Pr p) : ∀ (m : Nat) (n : Int), n.natAbs ≤ m → n ≠ 0 → ∃ (e : Nat) (b : Int), n = b * (p : Int) ^ e ∧ Un p b
  | 0, n, h, h0 => absurd (Int.natAbs_eq_zero.mp (Nat.le_zero.mp h)) h0
  | m + 1, n, h, h0 => by
    by_cases hd : (p : Int) ∣ n
    · obtain ⟨c, rfl⟩ := hd
      have c0 : c ≠ 0 := fun z => h0 (by rw [z, Int.mul_zero])
      have h2 := hp.two
      rw [Int.natAbs_mul, Int.natAbs_natCast] at h
      have h3 : 2 * c.natAbs ≤ p * c.natAbs := Nat.mul_le_mul_right _ h2
      have c1 : 0 < c.natAbs := Int.natAbs_pos.mpr c0
      obtain ⟨e, b, h4, h5⟩ := split hp m c (by omega) c0
      exact ⟨e + 1, b, by rw [h4, Int.pow_succ, Int.mul_comm, Int.mul_assoc], h5⟩
    · exact ⟨0, n, by rw [Int.pow_zero, Int.mul_one], hd⟩
theorem bez (a b : Nat) : ∃ u v : Int, u * a + v * b = (Nat.gcd a b : Nat) := by
  refine Nat.gcd.induction a b (fun n => ⟨0, 1, by simp⟩) fun m n hm ih => ?_
  obtain ⟨u, v, h⟩ := ih
  refine ⟨v - u * ((n / m : Nat) : Int), u, ?_⟩
  have e : ((n % m : Nat) : Int) = (n : Int) - (m : Int) * ((n / m : Nat) : Int) := by
    have := Nat.mod_add_div n m
    have h2 : ((n % m + m * (n / m) : Nat) : Int) = (n : Int) := by rw [this]
    rw [Int.natCast_add, Int.natCast_mul] at h2
    omega
  rw [e] at h
  have g : Nat.gcd m n = Nat.gcd (n % m) m := Nat.gcd_rec m n
  rw [g, ← h]
  grind
theorem Un.pow_cop {p : Nat} (hp : Pr p) {b : Int} (h : Un p b) (e : Nat) : ∃ u v : Int, u * b + v * (p : Int) ^ e = 1 := by
  have c : Nat.Coprime (p ^ e) b.natAbs := Nat.Coprime.pow_left e (h.cop hp)
  obtain ⟨u, v, k⟩ := bez b.natAbs (p ^ e)
  have c2 : Nat.gcd b.natAbs (p ^ e) = 1 := by rw [Nat.gcd_comm]; exact c
  rw [c2, Int.natCast_pow] at k
  rcases Int.natAbs_eq b with hb | hb
  · exact ⟨u, v, by rw [hb]; exact k⟩
  · exact ⟨-u, v, by rw [hb, Int.neg_mul_neg]; exact k⟩
end Pd
end
section
set_option linter.all false
set_option autoImplicit false
namespace Pd
/-! ## powers of p, numbers without p below -/
/-- p to a whole power -/
noncomputable def P (p : Nat) (k : Int) : Rat := (p : Rat) ^ k
section
variable {p : Nat} (hp : Pr p)
theorem pq0 (hp : Pr p) : (p : Rat) ≠ 0 := fun z => by
  have := Rat.natCast_eq_zero_iff.mp z
  have := hp.two
  omega
theorem P_add (hp : Pr p) (j k : Int) : P p (j + k) = P p j * P p k := Rat.zpow_add (pq0 hp) j k
theorem P_0 : P p 0 = 1 := Rat.zpow_zero _
theorem P_1 : P p 1 = (p : Rat) := Rat.zpow_one _
theorem P_neg (hp : Pr p) (k : Int) : P p k * P p (-k) = 1 := by
  rw [← P_add hp, show k + -k = 0 by omega, P_0]
theorem P_ne (hp : Pr p) (k : Int) : P p k ≠ 0 := fun z => by
  have := P_neg hp k
  rw [z, Rat.zero_mul] at this
  exact absurd this (by decide)
theorem P_nat (e : Nat) : P p (e : Int) = (((p : Int) ^ e : Int) : Rat) := by
  unfold P
  rw [Rat.zpow_natCast, Rat.intCast_pow]
  rfl
theorem P_pos (hp : Pr p) (k : Int) : 0 < P p k := by
  refine Rat.zpow_pos ?_
  have := hp.two
  exact Rat.natCast_pos.mpr (by omega)
theorem P_inv (hp : Pr p) (k : Int) : (P p k)⁻¹ = P p (-k) := Rat.inv_eq_of_mul_eq_one (P_neg hp k)
end
/-- p is not in the bottom -/
def Zi (p : Nat) (x : Rat) : Prop := ∃ a b : Int, Un p b ∧ x * b = a
section
variable {p : Nat}
theorem Zi.int (hp : Pr p) (n : Int) : Zi p (n : Rat) := ⟨n, 1, .one hp, by simp⟩
theorem Zi.zero (hp : Pr p) : Zi p 0 := .int hp 0
theorem Zi.add (hp : Pr p) {x y : Rat} (h : Zi p x) (k : Zi p y) : Zi p (x + y) := by
  obtain ⟨a, b, h1, h2⟩ := h
  obtain ⟨c, d, k1, k2⟩ := k
  refine ⟨a * d + c * b, b * d, h1.mul hp k1, ?_⟩
  simp only [Rat.intCast_add, Rat.intCast_mul]
  grind
theorem Zi.mul (hp : Pr p) {x y : Rat} (h : Zi p x) (k : Zi p y) : Zi p (x * y) := by
  obtain ⟨a, b, h1, h2⟩ := h
  obtain ⟨c, d, k1, k2⟩ := k
  refine ⟨a * c, b * d, h1.mul hp k1, ?_⟩
  simp only [Rat.intCast_mul]
  grind
theorem Zi.neg {x : Rat} (h : Zi p x) : Zi p (-x) := by
  obtain ⟨a, b, h1, h2⟩ := h
  refine ⟨-a, b, h1, ?_⟩
  simp only [Rat.intCast_neg]
  grind
theorem Zi.sub (hp : Pr p) {x y : Rat} (h : Zi p x) (k : Zi p y) : Zi p (x - y) := by
  rw [Rat.sub_eq_add_neg]
  exact h.add hp k.neg
theorem Zi.P (hp : Pr p) {k : Int} (h : 0 ≤ k) : Zi p (Pd.P p k) := by
  obtain ⟨e, rfl⟩ := Int.eq_ofNat_of_zero_le h
  rw [show Pd.P p (e : Int) = (((p : Int) ^ e : Int) : Rat) from P_nat e]
  exact .int hp _
theorem Zi.mk {a b : Int} (h : Un p b) : Zi p ((a : Rat) / b) := ⟨a, b, h, Rat.div_mul_cancel h.ne'⟩
/-- alike to the power k -/
def Nr (p : Nat) (k : Int) (x y : Rat) : Prop := Zi p ((x - y) * P p (-k))
theorem Nr.rfl' (hp : Pr p) {k : Int} {x : Rat} : Nr p k x x := by
  unfold Nr
  rw [Rat.sub_self, Rat.zero_mul]
  exact .zero hp
theorem Nr.symm {k : Int} {x y : Rat} (h : Nr p k x y) : Nr p k y x := by
  have := Zi.neg h
  unfold Nr
  have e : (y - x) * P p (-k) = -((x - y) * P p (-k)) := by grind
  rw [e]
  exact this
theorem Nr.trans (hp : Pr p) {k : Int} {x y z : Rat} (h : Nr p k x y) (g : Nr p k y z) : Nr p k x z := by
  have := Zi.add hp h g
  unfold Nr
  have e : (x - z) * P p (-k) = (x - y) * P p (-k) + (y - z) * P p (-k) := by grind
  rw [e]
  exact this
theorem Nr.mono (hp : Pr p) {j k : Int} {x y : Rat} (h : Nr p k x y) (jk : j ≤ k) : Nr p j x y := by
  have := Zi.mul hp h (Zi.P hp (show 0 ≤ k - j by omega))
  unfold Nr
  have e : (x - y) * P p (-j) = (x - y) * P p (-k) * P p (k - j) := by
    rw [Rat.mul_assoc, ← P_add hp, show -k + (k - j) = -j by omega]
  rw [e]
  exact this
theorem Nr.add (hp : Pr p) {k : Int} {x y z w : Rat} (h : Nr p k x y) (g : Nr p k z w) : Nr p k (x + z) (y + w) := by
  have := Zi.add hp h g
  unfold Nr
  have e : (x + z - (y + w)) * P p (-k) = (x - y) * P p (-k) + (z - w) * P p (-k) := by grind
  rw [e]
  exact this
theorem Nr.sub (hp : Pr p) {k : Int} {x y z w : Rat} (h : Nr p k x y) (g : Nr p k z w) : Nr p k (x - z) (y - w) := by
  have := Zi.sub hp h g
  unfold Nr
  have e : (x - z - (y - w)) * P p (-k) = (x - y) * P p (-k) - (z - w) * P p (-k) := by grind
  rw [e]
  exact this
theorem Nr.shift (hp : Pr p) {k j : Int} {x y : Rat} : Nr p (k + j) (x * P p j) (y * P p j) ↔ Nr p k x y := by
  unfold Nr
  have e : (x * P p j - y * P p j) * P p (-(k + j)) = (x - y) * P p (-k) := by
    rw [show -(k + j) = -k + -j by omega, P_add hp]
    have := P_neg hp j
    grind
  rw [e]
theorem Nr.mulZ (hp : Pr p) {k : Int} {x y z : Rat} (h : Nr p k x y) (hz : Zi p z) : Nr p k (x * z) (y * z) := by
  have := Zi.mul hp h hz
  unfold Nr
  have e : (x * z - y * z) * P p (-k) = (x - y) * P p (-k) * z := by grind
  rw [e]
  exact this
theorem Nr.iff_sub {k : Int} {x y : Rat} : Nr p k x y ↔ Nr p k (x - y) 0 := by
  unfold Nr
  rw [show x - y - 0 = x - y by grind]
/-! ## numbers whose bottom is a power of p -/
def Fr (p : Nat) (x : Rat) : Prop := ∃ (m : Int) (e : Nat), x * P p e = m
theorem Fr.int (n : Int) : Fr p (n : Rat) := ⟨n, 0, by rw [show ((0 : Nat) : Int) = 0 from rfl, P_0, Rat.mul_one]⟩
theorem Fr.neg {x : Rat} (h : Fr p x) : Fr p (-x) := by
  obtain ⟨a, e, h⟩ := h
  exact ⟨-a, e, by rw [Rat.intCast_neg, ← h]; grind⟩
theorem Fr.add (hp : Pr p) {x y : Rat} (h : Fr p x) (k : Fr p y) : Fr p (x + y) := by
  obtain ⟨a, e, h⟩ := h
  obtain ⟨c, f, k⟩ := k
  refine ⟨a * (p : Int) ^ f + c * (p : Int) ^ e, e + f, ?_⟩
  rw [Rat.intCast_add, Rat.intCast_mul, Rat.intCast_mul, ← P_nat, ← P_nat, Int.natCast_add, P_add hp]
  grind
theorem Fr.mul (hp : Pr p) {x y : Rat} (h : Fr p x) (k : Fr p y) : Fr p (x * y) := by
  obtain ⟨a, e, h⟩ := h
  obtain ⟨c, f, k⟩ := k
  refine ⟨a * c, e + f, ?_⟩
  rw [Rat.intCast_mul, Int.natCast_add, P_add hp]
  grind
theorem Fr.sub (hp : Pr p) {x y : Rat} (h : Fr p x) (k : Fr p y) : Fr p (x - y) := by
  rw [Rat.sub_eq_add_neg]
  exact h.add hp k.neg
theorem Fr.P (hp : Pr p) (k : Int) : Fr p (Pd.P p k) := by
  rcases Int.le_total 0 k with h | h
  · obtain ⟨e, rfl⟩ := Int.eq_ofNat_of_zero_le h
    rw [show Pd.P p (e : Int) = (((p : Int) ^ e : Int) : Rat) from P_nat e]
    exact .int _
  · obtain ⟨e, he⟩ := Int.eq_ofNat_of_zero_le (show 0 ≤ -k by omega)
    refine ⟨1, e, ?_⟩
    rw [← he, P_neg hp]
    rfl
/-- both: a whole number -/
theorem whole {x : Rat} (hp : Pr p) (h : Zi p x) (k : Fr p x) : ∃ n : Int, x = n := by
  obtain ⟨a, b, hb, h⟩ := h
  obtain ⟨m, e, k⟩ := k
  obtain ⟨u, v, g⟩ := hb.pow_cop hp e
  refine ⟨u * a + v * m, ?_⟩
  have g2 : ((u * b + v * (p : Int) ^ e : Int) : Rat) = 1 := by rw [g]; rfl
  simp only [Rat.intCast_add, Rat.intCast_mul, ← P_nat] at g2 ⊢
  grind
/-! ## the rest by a power -/
structure IsRest (p : Nat) (k : Int) (x r : Rat) : Prop where
  fr : Fr p r
  nn : 0 ≤ r
  lt : r < P p k
  nr : Nr p k x r
theorem IsRest.unique (hp : Pr p) {k : Int} {x y r s : Rat} (h : IsRest p k x r) (g : IsRest p k y s) (xy : Nr p k x y) : r = s := by
  have n1 : Nr p k r s := (h.nr.symm.trans hp xy).trans hp g.nr
  have f1 : Fr p ((r - s) * P p (-k)) := (h.fr.sub hp g.fr).mul hp (.P hp _)
  obtain ⟨n, hn⟩ := whole hp n1 f1
  have e : r - s = n * P p k := by
    have := P_neg hp k
    grind
  have p0 := P_pos hp k
  have l1 := h.lt
  have l2 := g.lt
  have l3 := h.nn
  have l4 := g.nn
  have : n = 0 := by
    rcases Int.lt_trichotomy n 0 with c | c | c
    · have c2 : (n : Rat) ≤ -1 := by
        have := Rat.intCast_le_intCast.mpr (show n ≤ -1 by omega)
        exact this
      have c3 := Rat.mul_le_mul_of_nonneg_right c2 (Rat.le_of_lt p0)
      grind
    · exact c
    · have c2 : (1 : Rat) ≤ n := by
        have := Rat.intCast_le_intCast.mpr (show 1 ≤ n by omega)
        exact this
      have c3 := Rat.mul_le_mul_of_nonneg_right c2 (Rat.le_of_lt p0)
      grind
  rw [this] at e
  grind
theorem IsRest.near (hp : Pr p) {k : Int} {x y r : Rat} (h : IsRest p k x r) (g : IsRest p k y r) : Nr p k x y := h.nr.trans hp g.nr.symm
theorem IsRest.of_near (hp : Pr p) {k : Int} {x y r : Rat} (h : IsRest p k x r) (g : Nr p k y x) : IsRest p k y r := ⟨h.fr, h.nn, h.lt, g.trans hp h.nr⟩
/-- a fraction by tops and bottoms -/
theorem rest_mk (hp : Pr p) {k : Int} {out many : Nat} {num n b : Int} {x : Rat} (hx : x * (b * P p out) = num) (hb : Un p b) (hk : (many : Int) = k + out) (h0 : 0 ≤ n) (h1 : n < (p : Int) ^ many) (hd : (p : Int) ^ many ∣ num - n * b) : IsRest p k x (n * P p (-(out : Int))) := by
  refine ⟨(Fr.int n).mul hp (.P hp _), Rat.mul_nonneg (Rat.intCast_nonneg.mpr h0) (Rat.le_of_lt (P_pos hp _)), ?_, ?_⟩
  · have e : P p k = P p many * P p (-(out : Int)) := by rw [← P_add hp, hk]; congr 1; omega
    rw [e]
    refine Rat.mul_lt_mul_of_pos_right ?_ (P_pos hp _)
    rw [P_nat]
    exact Rat.intCast_lt_intCast.mpr h1
  · obtain ⟨c, hc⟩ := hd
    refine ⟨c, b, hb, ?_⟩
    have hc2 : ((num - n * b : Int) : Rat) = (((p : Int) ^ many * c : Int) : Rat) := by rw [hc]
    rw [Rat.intCast_mul, ← P_nat, hk, P_add hp] at hc2
    rw [Rat.intCast_sub, Rat.intCast_mul] at hc2
    have e1 := P_neg hp k
    have e2 := P_neg hp (out : Int)
    have e3 := P_ne hp (out : Int)
    grind
theorem rest_0 (hp : Pr p) {k : Int} {out : Nat} {num b : Int} {x : Rat} (hx : x * (b * P p out) = num) (hb : Un p b) (hk : k + out ≤ 0) : IsRest p k x 0 := by
  refine ⟨.int 0, Rat.le_refl, P_pos hp _, ?_⟩
  refine Nr.mono hp (k := -(out : Int)) ?_ (by omega)
  refine ⟨num, b, hb, ?_⟩
  rw [show -(-(out : Int)) = out by omega]
  grind
/-- top and bottom, the prime taken out of the bottom -/
theorem parts (hp : Pr p) (x : Rat) : ∃ (out : Nat) (b : Int), Un p b ∧ (x.den : Int) = b * (p : Int) ^ out ∧ x * (b * P p out) = x.num := by
  obtain ⟨e, b, h1, h2⟩ := split hp _ (x.den : Int) (Nat.le_refl _) (by have := x.den_pos; omega)
  refine ⟨e, b, h2, h1, ?_⟩
  rw [P_nat, ← Rat.intCast_mul, ← h1]
  have := Rat.num_divInt_den x
  rw [Rat.divInt_eq_div] at this
  have d0 : ((x.den : Int) : Rat) ≠ 0 := fun z => by
    have := Rat.intCast_eq_zero_iff.mp z
    have := x.den_pos
    omega
  have e2 := Rat.div_mul_cancel (a := (x.num : Rat)) d0
  rw [this] at e2
  exact e2
theorem rest_ex (hp : Pr p) (k : Int) (x : Rat) : ∃ r, IsRest p k x r := by
  obtain ⟨out, b, hb, _, hx⟩ := parts hp x
  rcases Int.le_total (k + out) 0 with h | h
  · exact ⟨0, rest_0 hp hx hb h⟩
  · obtain ⟨many, hm⟩ := Int.eq_ofNat_of_zero_le h
    obtain ⟨u, v, g⟩ := hb.pow_cop hp many
    have pp : 0 < (p : Int) ^ many := Int.pow_pos (by have := hp.two; omega)
    refine ⟨_, rest_mk (n := (x.num * u) % (p : Int) ^ many) hp hx hb hm.symm (Int.emod_nonneg _ (by omega)) (Int.emod_lt_of_pos _ pp) ?_⟩
    have e := Int.mul_ediv_add_emod (x.num * u) ((p : Int) ^ many)
    refine ⟨x.num * v + (x.num * u) / ((p : Int) ^ many) * b, ?_⟩
    generalize (x.num * u) % (p : Int) ^ many = r at e
    generalize (x.num * u) / (p : Int) ^ many = q at e
    generalize (p : Int) ^ many = m at e g
    grind
end
/-- the rest, for every prime -/
noncomputable def rest (p : Nat) (k : Int) (x : Rat) : Rat := open Classical in if h : ∃ r, IsRest p k x r then Classical.choose h else 0
section
variable {p : Nat}
theorem rest_ok (hp : Pr p) (k : Int) (x : Rat) : IsRest p k x (rest p k x) := by
  unfold rest
  rw [dif_pos (rest_ex hp k x)]
  exact Classical.choose_spec (rest_ex hp k x)
theorem rest_eq (hp : Pr p) {k : Int} {x r : Rat} (h : IsRest p k x r) : r = rest p k x := h.unique hp (rest_ok hp k x) (.rfl' hp)
theorem rest_iff (hp : Pr p) {k : Int} {x y : Rat} : rest p k x = rest p k y ↔ Nr p k x y := by
  refine ⟨fun h => ?_, fun h => (rest_ok hp k x).unique hp (rest_ok hp k y) h⟩
  have a := rest_ok hp k x
  rw [h] at a
  exact a.near hp (rest_ok hp k y)
theorem rest_near (hp : Pr p) (k : Int) (x : Rat) : Nr p k x (rest p k x) := (rest_ok hp k x).nr
theorem rest_up (hp : Pr p) {j k : Int} (h : j ≤ k) (x : Rat) : rest p j (rest p k x) = rest p j x := (rest_iff hp).mpr ((rest_near hp k x).symm.mono hp h)
theorem rest_self (hp : Pr p) {k : Int} {x : Rat} : rest p k (rest p k x) = rest p k x := rest_up hp (Int.le_refl k) x
end
end Pd
end
section
set_option linter.all false
set_option autoImplicit false
namespace Pd
/-! ## how often p is in a number -/
def Vl (p : Nat) (x : Rat) (j : Int) : Prop := ∃ a b : Int, Un p a ∧ Un p b ∧ x * b = a * P p j
section
variable {p : Nat}
theorem Vl.ne (hp : Pr p) {x : Rat} {j : Int} (h : Vl p x j) : x ≠ 0 := by
  obtain ⟨a, b, ha, hb, h⟩ := h
  intro z
  rw [z, Rat.zero_mul] at h
  rcases Rat.mul_eq_zero.mp h.symm with h | h
  · exact ha.ne' h
  · exact P_ne hp j h
theorem Vl.of_int {n m : Int} (hp : Pr p) {e : Nat} (h : n = m * (p : Int) ^ e) (hm : Un p m) : Vl p n e := ⟨m, 1, hm, .one hp, by rw [P_nat, h, Rat.intCast_mul]; simp⟩
theorem Vl.mul (hp : Pr p) {x y : Rat} {j k : Int} (h : Vl p x j) (g : Vl p y k) : Vl p (x * y) (j + k) := by
  obtain ⟨a, b, ha, hb, h⟩ := h
  obtain ⟨c, d, hc, hd, g⟩ := g
  refine ⟨a * c, b * d, ha.mul hp hc, hb.mul hp hd, ?_⟩
  rw [P_add hp, Rat.intCast_mul, Rat.intCast_mul]
  grind
theorem Vl.inv (hp : Pr p) {x : Rat} {j : Int} (h : Vl p x j) : Vl p x⁻¹ (-j) := by
  have h0 := h.ne hp
  obtain ⟨a, b, ha, hb, h⟩ := h
  refine ⟨b, a, hb, ha, ?_⟩
  have e1 := Rat.mul_inv_cancel x h0
  have e2 := P_neg hp j
  have e3 := hb.ne'
  grind
theorem Vl.P (hp : Pr p) (j : Int) : Vl p (Pd.P p j) j := ⟨1, 1, .one hp, .one hp, by simp⟩
theorem Vl.neg {x : Rat} {j : Int} (h : Vl p x j) : Vl p (-x) j := by
  obtain ⟨a, b, ha, hb, h⟩ := h
  exact ⟨-a, b, ha.neg, hb, by rw [Rat.intCast_neg]; grind⟩
theorem Vl.ex (hp : Pr p) {x : Rat} (h : x ≠ 0) : ∃ j, Vl p x j := by
  have n0 : x.num ≠ 0 := fun z => h (Rat.num_eq_zero.mp z)
  obtain ⟨e, m, h1, h2⟩ := split hp _ x.num (Nat.le_refl _) n0
  obtain ⟨out, b, hb, _, hx⟩ := parts hp x
  refine ⟨e - out, m, b, h2, hb, ?_⟩
  have e1 : ((x.num : Int) : Rat) = m * Pd.P p e := by rw [P_nat, ← Rat.intCast_mul, ← h1]
  rw [e1] at hx
  rw [show (e : Int) - out = e + -(out : Int) by omega, P_add hp]
  have := P_neg hp (out : Int)
  grind
/-- whole exactly if it is in so often -/
theorem Vl.zi (hp : Pr p) {x : Rat} {j : Int} (h : Vl p x j) (k : Int) : Zi p (x * Pd.P p (-k)) ↔ k ≤ j := by
  obtain ⟨a, b, ha, hb, h⟩ := h
  constructor
  · rintro ⟨c, d, hd, g⟩
    rcases Int.lt_or_le j k with l | l
    · exfalso
      obtain ⟨e, he⟩ := Int.eq_ofNat_of_zero_le (show 0 ≤ k - j - 1 by omega)
      -- c * b * p^(k-j) = a * d
      have q : ((c * b * ((p : Int) * (p : Int) ^ e) : Int) : Rat) = ((a * d : Int) : Rat) := by
        simp only [Rat.intCast_mul]
        rw [← P_nat, ← he]
        have e1 : ((p : Int) : Rat) = Pd.P p 1 := by rw [P_1]; rfl
        rw [e1, show k - j - 1 = k + (-j + -1) by omega, P_add hp, P_add hp]
        have e2 := P_neg hp k
        have e3 := P_neg hp j
        have e4 := P_neg hp 1
        grind
      have q2 := Rat.intCast_inj.mp q
      exact (ha.mul hp hd) ⟨c * b * (p : Int) ^ e, by rw [← q2]; grind⟩
    · exact l
  · intro l
    obtain ⟨e, he⟩ := Int.eq_ofNat_of_zero_le (show 0 ≤ j - k by omega)
    refine ⟨a * (p : Int) ^ e, b, hb, ?_⟩
    rw [Rat.intCast_mul, ← P_nat, ← he, show j - k = j + -k by omega, P_add hp]
    grind
theorem Vl.unique (hp : Pr p) {x : Rat} {j k : Int} (h : Vl p x j) (g : Vl p x k) : j = k := by
  have a := (h.zi hp k).mp ((g.zi hp k).mpr (Int.le_refl k))
  have b := (g.zi hp j).mp ((h.zi hp j).mpr (Int.le_refl j))
  omega
theorem Vl.of_zi (hp : Pr p) {x : Rat} {j : Int} (h : Zi p (x * Pd.P p (-j))) (k : ¬ Zi p (x * Pd.P p (-(j + 1)))) : Vl p x j := by
  have x0 : x ≠ 0 := fun z => k (by rw [z, Rat.zero_mul]; exact .zero hp)
  obtain ⟨i, hi⟩ := Vl.ex hp x0
  have a := (hi.zi hp j).mp h
  have b : ¬ j + 1 ≤ i := fun l => k ((hi.zi hp (j + 1)).mpr l)
  have : i = j := by omega
  exact this ▸ hi
end
/-- how often -/
noncomputable def vp (p : Nat) (x : Rat) : Int := open Classical in if h : ∃ j, Vl p x j then Classical.choose h else 0
section
variable {p : Nat}
theorem vp_ok (hp : Pr p) {x : Rat} (h : x ≠ 0) : Vl p x (vp p x) := by
  unfold vp
  rw [dif_pos (Vl.ex hp h)]
  exact Classical.choose_spec (Vl.ex hp h)
theorem vp_eq (hp : Pr p) {x : Rat} {j : Int} (h : Vl p x j) : vp p x = j := (vp_ok hp (h.ne hp)).unique hp h
theorem vp_mul (hp : Pr p) {x y : Rat} (h : x ≠ 0) (k : y ≠ 0) : vp p (x * y) = vp p x + vp p y := vp_eq hp ((vp_ok hp h).mul hp (vp_ok hp k))
theorem vp_inv (hp : Pr p) {x : Rat} (h : x ≠ 0) : vp p x⁻¹ = -vp p x := vp_eq hp ((vp_ok hp h).inv hp)
theorem vp_div (hp : Pr p) {x y : Rat} (h : x ≠ 0) (k : y ≠ 0) : vp p (x / y) = vp p x - vp p y := vp_eq hp ((vp_ok hp h).mul hp ((vp_ok hp k).inv hp))
theorem vp_P (hp : Pr p) (j : Int) : vp p (P p j) = j := vp_eq hp (.P hp j)
theorem vp_neg (hp : Pr p) {x : Rat} (h : x ≠ 0) : vp p (-x) = vp p x := vp_eq hp (vp_ok hp h).neg
theorem zi_iff (hp : Pr p) {x : Rat} (k : Int) : Zi p (x * P p (-k)) ↔ x = 0 ∨ k ≤ vp p x := by
  by_cases h : x = 0
  · rw [h, Rat.zero_mul]
    exact ⟨fun _ => .inl rfl, fun _ => .zero hp⟩
  · rw [(vp_ok hp h).zi hp k]
    exact ⟨fun g => .inr g, fun g => g.resolve_left h⟩
theorem near_iff (hp : Pr p) {k : Int} {x y : Rat} : Nr p k x y ↔ x = y ∨ k ≤ vp p (x - y) := by
  unfold Nr
  rw [zi_iff hp]
  constructor
  · rintro (h | h)
    · exact .inl (by grind)
    · exact .inr h
  · rintro (h | h)
    · exact .inl (by grind)
    · exact .inr h
theorem vp_sub_comm (hp : Pr p) (x y : Rat) : vp p (x - y) = vp p (y - x) := by
  by_cases h : x = y
  · subst h; rfl
  · rw [← vp_neg hp (x := y - x) (by grind)]
    congr 1
    grind
theorem vp_int (hp : Pr p) {n : Int} (h : n ≠ 0) : 0 ≤ vp p n := by
  obtain ⟨e, m, h1, h2⟩ := split hp _ n (Nat.le_refl _) h
  rw [vp_eq hp (Vl.of_int hp h1 h2)]
  omega
theorem num_over_den (x : Rat) : x = (x.num : Rat) / ((x.den : Int) : Rat) := by
  have := Rat.num_divInt_den x
  rw [Rat.divInt_eq_div] at this
  exact this.symm
theorem den_ne (x : Rat) : ((x.den : Int) : Rat) ≠ 0 := fun z => by
  have := Rat.intCast_eq_zero_iff.mp z
  have := x.den_pos
  omega
theorem num_ne {x : Rat} (h : x ≠ 0) : ((x.num : Int) : Rat) ≠ 0 := fun z => h (Rat.num_eq_zero.mp (Rat.intCast_eq_zero_iff.mp z))
theorem vp_num_den (hp : Pr p) {x : Rat} (h : x ≠ 0) : vp p x = vp p x.num - vp p (x.den : Int) := by
  conv => lhs; rw [num_over_den x]
  rw [vp_div hp (num_ne h) (den_ne x)]
/-! ## digits -/
theorem digit (hp : Pr p) {x : Rat} (h : Zi p x) : ∃ d : Nat, d < p ∧ Nr p 1 x ((d : Int) : Rat) := by
  obtain ⟨a, b, hb, h⟩ := h
  obtain ⟨u, v, g⟩ := hb.pow_cop hp 1
  have pp : 0 < (p : Int) := by have := hp.two; omega
  have m0 := Int.emod_nonneg (a * u) (show (p : Int) ≠ 0 by omega)
  have m1 := Int.emod_lt_of_pos (a * u) pp
  have e := Int.mul_ediv_add_emod (a * u) (p : Int)
  refine ⟨((a * u) % (p : Int)).toNat, by omega, ?_⟩
  rw [show ((((a * u) % (p : Int)).toNat : Nat) : Int) = (a * u) % (p : Int) by omega]
  generalize (a * u) % (p : Int) = r at e
  generalize (a * u) / (p : Int) = q at e
  refine ⟨a * v + q * b, b, hb, ?_⟩
  have e1 : ((p : Int) : Rat) = P p 1 := by rw [P_1]; rfl
  have g2 : ((u * b + v * (p : Int) ^ 1 : Int) : Rat) = 1 := by rw [g]; rfl
  have e2 : (((p : Int) * q + r : Int) : Rat) = ((a * u : Int) : Rat) := by rw [e]
  rw [Int.pow_one] at g2
  simp only [Rat.intCast_add, Rat.intCast_mul, e1] at g2 e2 ⊢
  have e3 := P_neg hp 1
  grind
theorem digit_unique (hp : Pr p) {x : Rat} {c d : Nat} (hc : c < p) (hd : d < p) (h : Nr p 1 x ((c : Int) : Rat)) (g : Nr p 1 x ((d : Int) : Rat)) : c = d := by
  obtain ⟨a, b, hb, k⟩ := h.symm.trans hp g
  have e1 : ((p : Int) : Rat) = P p 1 := by rw [P_1]; rfl
  have e3 := P_neg hp 1
  have q : ((((c : Int) - d) * b : Int) : Rat) = (((p : Int) * a : Int) : Rat) := by
    simp only [Rat.intCast_sub, Rat.intCast_mul, e1]
    grind
  have q2 := Rat.intCast_inj.mp q
  have dv : (p : Int) ∣ ((c : Int) - d) * b := ⟨a, q2⟩
  by_cases hcd : (p : Int) ∣ ((c : Int) - d)
  · obtain ⟨t, ht⟩ := hcd
    have : t = 0 := by
      rcases Int.lt_trichotomy t 0 with l | l | l
      · have := Int.mul_le_mul_of_nonneg_left (show t ≤ -1 by omega) (show (0 : Int) ≤ p by omega)
        omega
      · exact l
      · have := Int.mul_le_mul_of_nonneg_left (show 1 ≤ t by omega) (show (0 : Int) ≤ p by omega)
        omega
    rw [this, Int.mul_zero] at ht
    omega
  · exact absurd dv (Un.mul hp hcd hb)
/-- one more digit -/
theorem digit_at (hp : Pr p) {x f : Rat} {i : Int} (h : Nr p i x f) : ∃ d : Nat, d < p ∧ Nr p (i + 1) x (f + ((d : Int) : Rat) * P p i) := by
  obtain ⟨d, hd, g⟩ := digit hp h
  refine ⟨d, hd, ?_⟩
  have := (Nr.shift hp (j := i)).mpr g
  rw [show 1 + i = i + 1 by omega] at this
  rw [Nr.iff_sub] at this ⊢
  have e := P_neg hp i
  have e2 : x - (f + ((d : Int) : Rat) * P p i) = (x - f) * P p (-i) * P p i - ((d : Int) : Rat) * P p i := by grind
  rw [e2]
  exact this
theorem digit_at_unique (hp : Pr p) {x f : Rat} {i : Int} {c d : Nat} (hc : c < p) (hd : d < p) (h : Nr p (i + 1) x (f + ((c : Int) : Rat) * P p i)) (g : Nr p (i + 1) x (f + ((d : Int) : Rat) * P p i)) : c = d := by
  have e := P_neg hp i
  have key : ∀ d : Nat, Nr p (i + 1) x (f + ((d : Int) : Rat) * P p i) → Nr p 1 ((x - f) * P p (-i)) ((d : Int) : Rat) := by
    intro d h
    rw [← Nr.shift hp (j := i), show 1 + i = i + 1 by omega]
    rw [Nr.iff_sub] at h ⊢
    have e2 : (x - f) * P p (-i) * P p i - ((d : Int) : Rat) * P p i = x - (f + ((d : Int) : Rat) * P p i) := by grind
    rw [e2]
    exact h
  exact digit_unique hp hc hd (key c h) (key d g)
/-- a rest, one more digit -/
theorem rest_digit (hp : Pr p) {x r : Rat} {i : Int} (h : IsRest p i x r) {d : Nat} (hd : d < p) (g : Nr p (i + 1) x (r + ((d : Int) : Rat) * P p i)) : IsRest p (i + 1) x (r + ((d : Int) : Rat) * P p i) := by
  have pi := P_pos hp i
  have d0 : (0 : Rat) ≤ ((d : Int) : Rat) := Rat.intCast_nonneg.mpr (by omega)
  refine ⟨h.fr.add hp ((Fr.int _).mul hp (.P hp _)), Rat.add_nonneg h.nn (Rat.mul_nonneg d0 (Rat.le_of_lt pi)), ?_, g⟩
  rw [P_add hp, P_1]
  have l := h.lt
  have hd2 : ((d : Int) : Rat) + 1 ≤ (p : Rat) := by
    have := Rat.intCast_le_intCast.mpr (show (d : Int) + 1 ≤ (p : Int) by omega)
    rw [Rat.intCast_add] at this
    exact this
  have := Rat.mul_le_mul_of_nonneg_right hd2 (Rat.le_of_lt pi)
  grind
theorem rest_zero (hp : Pr p) {x : Rat} {k : Int} (h : Nr p k x 0) : IsRest p k x 0 := ⟨.int 0, Rat.le_refl, P_pos hp k, h⟩
end
end Pd
end
section
set_option Elab.async false
set_option linter.all false
set_option maxRecDepth 100000
set_option maxHeartbeats 4000000
set_option autoImplicit false
namespace Pd
open PySem PySem.Spec Dk
/-! ## sizes -/
/-- so many binary figures at most -/
structure Lg (n : Nat) (a : Int) : Prop where
  h : a.natAbs < 2 ^ n
def bl (a : Int) : Nat := a.natAbs.log2 + 1
theorem Lg.bl (a : Int) : Lg (bl a) a := by
  refine ⟨?_⟩
  unfold Pd.bl
  by_cases h : a.natAbs = 0
  · rw [h]; decide
  · exact Nat.lt_log2_self
theorem Lg.mono {n m : Nat} {a : Int} (h : Lg n a) (k : n ≤ m) : Lg m a := ⟨Nat.lt_of_lt_of_le h.h (Nat.pow_le_pow_right (by decide) k)⟩
theorem Lg.mul {n m : Nat} {a b : Int} (h : Lg n a) (k : Lg m b) : Lg (n + m) (a * b) := by
  refine ⟨?_⟩
  rw [Int.natAbs_mul, Nat.pow_add]
  exact Nat.mul_lt_mul'' h.h k.h
theorem Lg.add {n : Nat} {a b : Int} (h : Lg n a) (k : Lg n b) : Lg (n + 1) (a + b) := by
  refine ⟨?_⟩
  have h1 := h.h
  have k1 := k.h
  have := Int.natAbs_add_le a b
  rw [Nat.pow_succ]
  omega
theorem Lg.neg {n : Nat} {a : Int} (h : Lg n a) : Lg n (-a) := ⟨by rw [Int.natAbs_neg]; exact h.h⟩
theorem Lg.le {n : Nat} {a b : Int} (h : Lg n b) (k : a.natAbs ≤ b.natAbs) : Lg n a := ⟨Nat.lt_of_le_of_lt k h.h⟩
theorem Lg.log {n : Nat} {a : Int} (h : Lg n a) : a.natAbs.log2 ≤ n := by
  by_cases h0 : a.natAbs = 0
  · rw [h0]; exact Nat.zero_le _
  · exact Nat.le_of_lt ((Nat.log2_lt h0).mpr h.h)
theorem Lg.mulOk {n m : Nat} {a b : Int} (h : Lg n a) (k : Lg m b) (nm : n + m ≤ 900000) : opB .mul (.int a) (.int b) = some (.int (a * b)) := by
  refine opB_mul ?_
  have h1 := h.log
  have k1 := k.log
  unfold Dk.mulOk
  rw [decide_eq_true (p := a.natAbs.log2 + b.natAbs.log2 < 1000000) (by omega)]
  simp
theorem Lg.fdiv {n : Nat} {a b : Int} (h0 : b ≠ 0) (h : Lg n b) (hn : n ≤ 8000) : opB .fdiv (.int a) (.int b) = some (.int (a.fdiv b)) := opB_fdiv h0 (by have := h.log; omega)
theorem Lg.lit {a : Int} {n : Nat} (h : a.natAbs < 2 ^ n) : Lg n a := ⟨h⟩
/-! ## fractions as data -/
def fr (x : Rat) : PyData := .tuple [.int x.num, .int x.den]
def pl (k : Int) (x : Rat) : PyData := .tuple [.int k, fr x]
def sz (x : Rat) : Nat := bl x.num + bl (x.den : Int)
theorem sz_num (x : Rat) : Lg (sz x) x.num := (Lg.bl _).mono (Nat.le_add_right _ _)
theorem sz_den (x : Rat) : Lg (sz x) (x.den : Int) := (Lg.bl _).mono (Nat.le_add_left _ _)
@[simp] theorem ix_fr0 (x : Rat) : ixD (fr x) (.int 0) = some (.int x.num) := by simp [fr]
@[simp] theorem ix_fr1 (x : Rat) : ixD (fr x) (.int 1) = some (.int x.den) := by simp [fr]
@[simp] theorem ix_pl0 (k : Int) (x : Rat) : ixD (pl k x) (.int 0) = some (.int k) := by simp [pl]
@[simp] theorem ix_pl1 (k : Int) (x : Rat) : ixD (pl k x) (.int 1) = some (fr x) := by simp [pl]
theorem shp_fr {n : Nat} (x : Rat) : Shp (n + 1) (fr x) := Shp.tuple fun d hd => by
  simp at hd
  rcases hd with rfl | rfl <;> exact Shp.int
theorem shp_pl {n : Nat} (k : Int) (x : Rat) : Shp (n + 2) (pl k x) := Shp.tuple fun d hd => by
  simp at hd
  rcases hd with rfl | rfl
  · exact Shp.int
  · exact shp_fr x
theorem eqv_fr (x y : Rat) : PyData.eqv (fr x) (fr y) = decide (x = y) := by
  have e : PyData.eqv (fr x) (fr y) = (decide (x.num = y.num) && decide ((x.den : Int) = y.den)) := by
    simp only [fr, PyData.eqv, PyData.eqvAll, Bool.and_true]
    rfl
  rw [e]
  by_cases h : x = y
  · subst h; simp
  · rw [decide_eq_false h]
    by_cases h1 : x.num = y.num
    · have : ¬ (x.den : Int) = y.den := fun z => h (Rat.ext h1 (by omega))
      simp [h1, this]
    · simp [h1]
theorem eqv_pl (j k : Int) (x y : Rat) : PyData.eqv (pl j x) (pl k y) = decide (j = k ∧ x = y) := by
  have e : PyData.eqv (pl j x) (pl k y) = (decide (j = k) && PyData.eqv (fr x) (fr y)) := by
    simp only [pl, PyData.eqv, PyData.eqvAll, Bool.and_true]
    rfl
  rw [e, eqv_fr]
  by_cases h : j = k <;> simp [h]
theorem eqD_fr (x y : Rat) : eqD (fr x) (fr y) = some (decide (x = y)) := by
  unfold eqD
  rw [if_pos ⟨(shp_fr (n := 0) x).ok (by decide), (shp_fr (n := 0) y).ok (by decide)⟩, eqv_fr]
theorem eqD_pl (j k : Int) (x y : Rat) : eqD (pl j x) (pl k y) = some (decide (j = k ∧ x = y)) := by
  unfold eqD
  rw [if_pos ⟨(shp_pl (n := 0) j x).ok (by decide), (shp_pl (n := 0) k y).ok (by decide)⟩, eqv_pl]
@[simp] theorem eq_fr (x y : Rat) : opC .eq (fr x) (fr y) = some (decide (x = y)) := eqD_fr x y
@[simp] theorem eq_pl (j k : Int) (x y : Rat) : opC .eq (pl j x) (pl k y) = some (decide (j = k ∧ x = y)) := eqD_pl j k x y
@[simp] theorem ne_fr (x y : Rat) : opC .ne (fr x) (fr y) = some (!decide (x = y)) := by
  show (eqD (fr x) (fr y)).map (!·) = _
  rw [eqD_fr]
  rfl
@[simp] theorem ne_pl (j k : Int) (x y : Rat) : opC .ne (pl j x) (pl k y) = some (!decide (j = k ∧ x = y)) := by
  show (eqD (pl j x) (pl k y)).map (!·) = _
  rw [eqD_pl]
  rfl
theorem fr_0 : PyData.tuple [.int 0, .int 1] = fr 0 := rfl
theorem fr_int (n : Int) : PyData.tuple [.int n, .int 1] = fr (n : Rat) := rfl
theorem fr_inj {x y : Rat} (h : fr x = fr y) : x = y := by
  injection h with h
  injection h with h1 h2
  injection h2 with h2 h3
  injection h1 with h1
  injection h2 with h2
  exact Rat.ext h1 (by omega)
/-! ## least terms -/
theorem low_num {t b : Int} (hb : b ≠ 0) : (Rat.divInt t b).num = t.fdiv (if 0 < b then ((Nat.gcd t.natAbs b.natAbs : Nat) : Int) else -((Nat.gcd t.natAbs b.natAbs : Nat) : Int)) ∧ ((Rat.divInt t b).den : Int) = b.fdiv (if 0 < b then ((Nat.gcd t.natAbs b.natAbs : Nat) : Int) else -((Nat.gcd t.natAbs b.natAbs : Nat) : Int)) := by
  have g : b.gcd t = Nat.gcd t.natAbs b.natAbs := Nat.gcd_comm _ _
  have d1 : ((Nat.gcd t.natAbs b.natAbs : Nat) : Int) ∣ t := Int.ofNat_dvd_left.mpr (Nat.gcd_dvd_left _ _)
  have d2 : ((Nat.gcd t.natAbs b.natAbs : Nat) : Int) ∣ b := Int.ofNat_dvd_left.mpr (Nat.gcd_dvd_right _ _)
  have g0 : Nat.gcd t.natAbs b.natAbs ≠ 0 := fun z => by
    have := (Nat.gcd_eq_zero_iff.mp z).2
    omega
  rw [Rat.num_divInt, Rat.den_divInt, if_neg hb, g]
  have e2 : ((b.natAbs / Nat.gcd t.natAbs b.natAbs : Nat) : Int) = ((b.natAbs : Nat) : Int) / ((Nat.gcd t.natAbs b.natAbs : Nat) : Int) := Int.natCast_ediv _ _
  rw [e2]
  generalize Nat.gcd t.natAbs b.natAbs = m at d1 d2 g0
  have m0 : (m : Int) ≠ 0 := by omega
  obtain ⟨c, rfl⟩ := d1
  obtain ⟨d, rfl⟩ := d2
  by_cases h : 0 < (m : Int) * d
  · rw [if_pos h, Int.sign_eq_one_of_pos h, Int.one_mul, Int.mul_ediv_cancel_left _ m0, Int.mul_fdiv_cancel_left _ m0, Int.mul_fdiv_cancel_left _ m0]
    refine ⟨rfl, ?_⟩
    rw [show ((((m : Int) * d).natAbs : Nat) : Int) = (m : Int) * d by omega, Int.mul_ediv_cancel_left _ m0]
  · have h2 : (m : Int) * d < 0 := by omega
    rw [if_neg h, Int.sign_eq_neg_one_of_neg h2, show -1 * ((m : Int) * c) = m * -c by grind, Int.mul_ediv_cancel_left _ m0]
    rw [show (m : Int) * c = -m * -c by grind, Int.mul_fdiv_cancel_left _ (by omega)]
    refine ⟨rfl, ?_⟩
    rw [show ((((m : Int) * d).natAbs : Nat) : Int) = (m : Int) * -d by rw [show (m : Int) * -d = -((m : Int) * d) by grind]; omega, Int.mul_ediv_cancel_left _ m0]
    rw [show (m : Int) * d = -m * -d by grind, Int.mul_fdiv_cancel_left _ (by omega)]
theorem gcd_le_right {t b : Int} (hb : b ≠ 0) : (((Nat.gcd t.natAbs b.natAbs : Nat) : Int)).natAbs ≤ b.natAbs := by
  rw [Int.natAbs_natCast]
  exact Nat.le_of_dvd (by omega) (Nat.gcd_dvd_right _ _)
theorem gcd_ne {t b : Int} (hb : b ≠ 0) : ((Nat.gcd t.natAbs b.natAbs : Nat) : Int) ≠ 0 := fun z => by
  have := (Nat.gcd_eq_zero_iff.mp (Int.natCast_eq_zero.mp z)).2
  omega
theorem fdiv_abs {t g : Int} (hg : g ≠ 0) (d : g ∣ t) : (t.fdiv g).natAbs ≤ t.natAbs := by
  obtain ⟨c, rfl⟩ := d
  rw [Int.mul_fdiv_cancel_left _ hg, Int.natAbs_mul]
  exact Nat.le_mul_of_pos_left _ (by omega)
theorem low_le {t b : Int} (hb : b ≠ 0) : (Rat.divInt t b).num.natAbs ≤ t.natAbs ∧ ((Rat.divInt t b).den : Int).natAbs ≤ b.natAbs := by
  obtain ⟨h1, h2⟩ := low_num (t := t) hb
  rw [h1, h2]
  have g0 := gcd_ne (t := t) hb
  have d1 : ((Nat.gcd t.natAbs b.natAbs : Nat) : Int) ∣ t := Int.ofNat_dvd_left.mpr (Nat.gcd_dvd_left _ _)
  have d2 : ((Nat.gcd t.natAbs b.natAbs : Nat) : Int) ∣ b := Int.ofNat_dvd_left.mpr (Nat.gcd_dvd_right _ _)
  split
  · exact ⟨fdiv_abs g0 d1, fdiv_abs g0 d2⟩
  · exact ⟨fdiv_abs (by omega) (Int.neg_dvd.mpr d1), fdiv_abs (by omega) (Int.neg_dvd.mpr d2)⟩
theorem bl_mono {a b : Int} (h : a.natAbs ≤ b.natAbs) : bl a ≤ bl b := by
  unfold bl
  by_cases h0 : a.natAbs = 0
  · rw [h0]
    exact Nat.succ_le_succ (Nat.zero_le _)
  · refine Nat.succ_le_succ ?_
    exact (Nat.le_log2 (by omega)).mpr (Nat.le_trans (Nat.log2_self_le h0) h)
theorem bl_le {n : Nat} {a : Int} (h : Lg n a) (hn : 1 ≤ n) : bl a ≤ n := by
  unfold bl
  by_cases h0 : a.natAbs = 0
  · rw [h0]
    exact hn
  · exact (Nat.log2_lt h0).mpr h.h
theorem bl_mul (a b : Int) : bl (a * b) ≤ bl a + bl b := bl_le ((Lg.bl a).mul (Lg.bl b)) (by unfold bl; omega)
theorem bl_add (a b : Int) : bl (a + b) ≤ max (bl a) (bl b) + 1 := bl_le (((Lg.bl a).mono (Nat.le_max_left _ _)).add ((Lg.bl b).mono (Nat.le_max_right _ _))) (by omega)
theorem bl_neg (a : Int) : bl (-a) = bl a := by unfold bl; rw [Int.natAbs_neg]
theorem sz_low {t b : Int} (hb : b ≠ 0) : sz (Rat.divInt t b) ≤ bl t + bl b := by
  obtain ⟨h1, h2⟩ := low_le (t := t) hb
  exact Nat.add_le_add (bl_mono h1) (bl_mono h2)
theorem add_low (x y : Rat) : x + y = Rat.divInt (x.num * y.den + y.num * x.den) (x.den * y.den : Int) := by
  have h := Rat.divInt_add_divInt x.num y.num (d₁ := (x.den : Int)) (d₂ := (y.den : Int)) (by have := x.den_pos; omega) (by have := y.den_pos; omega)
  rw [Rat.num_divInt_den, Rat.num_divInt_den] at h
  exact h
theorem sub_low (x y : Rat) : x - y = Rat.divInt (x.num * y.den - y.num * x.den) (x.den * y.den : Int) := by
  have h := Rat.divInt_sub_divInt x.num y.num (d₁ := (x.den : Int)) (d₂ := (y.den : Int)) (by have := x.den_pos; omega) (by have := y.den_pos; omega)
  rw [Rat.num_divInt_den, Rat.num_divInt_den] at h
  exact h
theorem mul_low (x y : Rat) : x * y = Rat.divInt (x.num * y.num) (x.den * y.den : Int) := by
  have h := Rat.divInt_mul_divInt x.num y.num (d₁ := (x.den : Int)) (d₂ := (y.den : Int))
  rw [Rat.num_divInt_den, Rat.num_divInt_den] at h
  exact h
theorem div_low (x y : Rat) : x / y = Rat.divInt (x.num * y.den) (x.den * y.num : Int) := by
  rw [Rat.div_def]
  have e : y⁻¹ = Rat.divInt (y.den : Int) y.num := Rat.inv_def y
  rw [e]
  have h := Rat.divInt_mul_divInt x.num (y.den : Int) (d₁ := (x.den : Int)) (d₂ := y.num)
  rw [Rat.num_divInt_den] at h
  exact h
theorem den0 (x : Rat) : (x.den : Int) ≠ 0 := by have := x.den_pos; omega
theorem num0 {x : Rat} (h : x ≠ 0) : x.num ≠ 0 := fun z => h (Rat.num_eq_zero.mp z)
theorem dens0 (x y : Rat) : (x.den * y.den : Int) ≠ 0 := Int.mul_ne_zero (den0 x) (den0 y)
theorem sz_mul (x y : Rat) : sz (x * y) ≤ sz x + sz y := by
  rw [mul_low x y]
  have h := sz_low (t := x.num * y.num) (dens0 x y)
  have h1 := bl_mul x.num y.num
  have h2 := bl_mul (x.den : Int) y.den
  unfold sz at *
  omega
theorem sz_add (x y : Rat) : sz (x + y) ≤ 2 * (sz x + sz y) := by
  rw [add_low x y]
  have h := sz_low (t := x.num * y.den + y.num * x.den) (dens0 x y)
  have h1 := bl_mul x.num y.den
  have h2 := bl_mul y.num x.den
  have h3 := bl_add (x.num * y.den) (y.num * x.den)
  have h4 := bl_mul (x.den : Int) y.den
  have p : ∀ a, 1 ≤ bl a := fun a => Nat.succ_le_succ (Nat.zero_le _)
  have p1 := p x.num
  have p2 := p y.num
  unfold sz at *
  omega
theorem sz_neg (x : Rat) : sz (-x) = sz x := by
  unfold sz
  rw [Rat.neg_num, Rat.neg_den, bl_neg]
theorem sz_sub (x y : Rat) : sz (x - y) ≤ 2 * (sz x + sz y) := by
  rw [Rat.sub_eq_add_neg, ← sz_neg y]
  exact sz_add x (-y)
theorem sz_div {x y : Rat} (h : y ≠ 0) : sz (x / y) ≤ sz x + sz y := by
  rw [div_low x y]
  have h := sz_low (t := x.num * y.den) (b := (x.den * y.num : Int)) (Int.mul_ne_zero (den0 x) (num0 h))
  have h1 := bl_mul x.num y.den
  have h2 := bl_mul (x.den : Int) y.num
  unfold sz at *
  omega
theorem sz_int (n : Int) : sz (n : Rat) = bl n + 1 := rfl
end Pd
end
section
set_option Elab.async false
set_option linter.all false
set_option maxRecDepth 100000
set_option maxHeartbeats 4000000
set_option autoImplicit false
namespace Pd
open PySem PySem.Spec Dk
/-! ## what the defs do -/
abbrev dv (x : PyData) : W := .d x
def LowF (f : Fn) : Prop := ∀ (t b : Int) (S : Src), b ≠ 0 → bl t ≤ 8000 → bl b ≤ 8000 → f [.d (.int t), .d (.int b)] S = .ok (fr (Rat.divInt t b)) [] S
def BinF (g : Rat → Rat → Rat) (f : Fn) : Prop := ∀ (x y : Rat) (S : Src), sz x + sz y ≤ 7000 → f [.d (fr x), .d (fr y)] S = .ok (fr (g x y)) [] S
def OverF (f : Fn) : Prop := ∀ (x y : Rat) (S : Src), y ≠ 0 → sz x + sz y ≤ 7000 → f [.d (fr x), .d (fr y)] S = .ok (fr (x / y)) [] S
theorem low_of {Δ : Tb} (hg : Δ "gcd" = gcdF) : LowF (mean Δ 2 3 b_ratio_low) := by
  intro t b S hb ht hbl
  refine mean_eq (n := 0) ⟨rfl, rfl⟩ ?_
  unfold b_ratio_low
  obtain ⟨e1, e2⟩ := low_num (t := t) hb
  have g0 := gcd_ne (t := t) hb
  have gl : Lg 8000 ((Nat.gcd t.natAbs b.natAbs : Nat) : Int) := (((Lg.bl b).le (gcd_le_right hb))).mono hbl
  rw [Ws_cons, Ws_asg]
  simp [hg, gcdF, Wr_ite, Dk.Wr_ok]
  by_cases h : 0 < b
  · rw [if_pos h] at e1 e2
    rw [if_pos h]
    have d1 := gl.fdiv (a := t) g0 (Nat.le_refl _)
    have d2 := gl.fdiv (a := b) g0 (Nat.le_refl _)
    simp only [Ws_cons, Ws_nil, Ws_ret]
    simp [d1, d2, sizeLine, fr, e1, e2]
  · rw [if_neg h] at e1 e2
    rw [if_neg h]
    have d1 := gl.neg.fdiv (a := t) (by omega) (Nat.le_refl _)
    have d2 := gl.neg.fdiv (a := b) (by omega) (Nat.le_refl _)
    simp only [Ws_cons, Ws_nil, Ws_ret]
    simp [d1, d2, sizeLine, fr, e1, e2]
/-! ## sums, products -/
theorem Lg.mulS {x y : Rat} {a b : Int} (h : Lg (sz x) a) (k : Lg (sz y) b) (s : sz x + sz y ≤ 7000) : opB .mul (.int a) (.int b) = some (.int (a * b)) := h.mulOk k (by omega)
theorem bl_le8 {a : Int} {n : Nat} (h : Lg n a) (hn : 1 ≤ n ∧ n ≤ 8000) : bl a ≤ 8000 := Nat.le_trans (bl_le h hn.1) hn.2
theorem sz1 (x : Rat) : 1 ≤ sz x := by unfold sz bl; omega
def b_addG (g : Str) : Ss := (.cons (.ret (.call g (.cons (.bop .add (.bop .mul (.ix (.var 0) (.int 0)) (.ix (.var 1) (.int 1))) (.bop .mul (.ix (.var 1) (.int 0)) (.ix (.var 0) (.int 1)))) (.cons (.bop .mul (.ix (.var 0) (.int 1)) (.ix (.var 1) (.int 1))) .nil)))) .nil)
def b_subG (g : Str) : Ss := (.cons (.ret (.call g (.cons (.bop .sub (.bop .mul (.ix (.var 0) (.int 0)) (.ix (.var 1) (.int 1))) (.bop .mul (.ix (.var 1) (.int 0)) (.ix (.var 0) (.int 1)))) (.cons (.bop .mul (.ix (.var 0) (.int 1)) (.ix (.var 1) (.int 1))) .nil)))) .nil)
def b_mulG (g : Str) : Ss := (.cons (.ret (.call g (.cons (.bop .mul (.ix (.var 0) (.int 0)) (.ix (.var 1) (.int 0))) (.cons (.bop .mul (.ix (.var 0) (.int 1)) (.ix (.var 1) (.int 1))) .nil)))) .nil)
def b_divG (g : Str) : Ss := (.cons (.ret (.call g (.cons (.bop .mul (.ix (.var 0) (.int 0)) (.ix (.var 1) (.int 1))) (.cons (.bop .mul (.ix (.var 0) (.int 1)) (.ix (.var 1) (.int 0))) .nil)))) .nil)
theorem add_of {Δ : Tb} {g : Str} (hg : LowF (Δ g)) : BinF (fun x y => x + y) (mean Δ 2 2 (b_addG g)) := by
  intro x y S h
  refine mean_eq (n := 0) ⟨rfl, rfl⟩ ?_
  unfold b_addG
  have m1 := (sz_num x).mulS (sz_den y) h
  have m2 := (sz_num y).mulS (sz_den x) (by omega)
  have m3 := (sz_den x).mulS (sz_den y) h
  have l3 := bl_le8 ((sz_den x).mul (sz_den y)) (by have := sz1 x; omega)
  have l1 : bl (x.num * y.den + y.num * x.den) ≤ 8000 := bl_le8 (((sz_num x).mul (sz_den y)).add (by rw [Nat.add_comm]; exact (sz_num y).mul (sz_den x))) (by omega)
  have e := hg (x.num * y.den + y.num * x.den) (x.den * y.den) S (dens0 x y) l1 l3
  rw [← add_low] at e
  simp only [Ws_cons, Ws_nil, Ws_ret]
  simp [m1, m2, m3, e]
theorem sub_of {Δ : Tb} {g : Str} (hg : LowF (Δ g)) : BinF (fun x y => x - y) (mean Δ 2 2 (b_subG g)) := by
  intro x y S h
  refine mean_eq (n := 0) ⟨rfl, rfl⟩ ?_
  unfold b_subG
  have m1 := (sz_num x).mulS (sz_den y) h
  have m2 := (sz_num y).mulS (sz_den x) (by omega)
  have m3 := (sz_den x).mulS (sz_den y) h
  have l3 := bl_le8 ((sz_den x).mul (sz_den y)) (by have := sz1 x; omega)
  have l1 : bl (x.num * y.den - y.num * x.den) ≤ 8000 := by
    rw [Int.sub_eq_add_neg]
    exact bl_le8 (((sz_num x).mul (sz_den y)).add (by rw [Nat.add_comm]; exact ((sz_num y).mul (sz_den x)).neg)) (by omega)
  have e := hg (x.num * y.den - y.num * x.den) (x.den * y.den) S (dens0 x y) l1 l3
  rw [← sub_low] at e
  simp only [Ws_cons, Ws_nil, Ws_ret]
  simp [m1, m2, m3, e]
theorem mul_of {Δ : Tb} {g : Str} (hg : LowF (Δ g)) : BinF (fun x y => x * y) (mean Δ 2 2 (b_mulG g)) := by
  intro x y S h
  refine mean_eq (n := 0) ⟨rfl, rfl⟩ ?_
  unfold b_mulG
  have m1 := (sz_num x).mulS (sz_num y) h
  have m3 := (sz_den x).mulS (sz_den y) h
  have l3 := bl_le8 ((sz_den x).mul (sz_den y)) (by have := sz1 x; omega)
  have l1 := bl_le8 ((sz_num x).mul (sz_num y)) (by have := sz1 x; omega)
  have e := hg (x.num * y.num) (x.den * y.den) S (dens0 x y) l1 l3
  rw [← mul_low] at e
  simp only [Ws_cons, Ws_nil, Ws_ret]
  simp [m1, m3, e]
theorem div_of {Δ : Tb} {g : Str} (hg : LowF (Δ g)) : OverF (mean Δ 2 2 (b_divG g)) := by
  intro x y S y0 h
  refine mean_eq (n := 0) ⟨rfl, rfl⟩ ?_
  unfold b_divG
  have m1 := (sz_num x).mulS (sz_den y) h
  have m3 := (sz_den x).mulS (sz_num y) h
  have l3 := bl_le8 ((sz_den x).mul (sz_num y)) (by have := sz1 x; omega)
  have l1 := bl_le8 ((sz_num x).mul (sz_den y)) (by have := sz1 x; omega)
  have e := hg (x.num * y.den) (x.den * y.num) S (Int.mul_ne_zero (den0 x) (num0 y0)) l1 l3
  rw [← div_low] at e
  simp only [Ws_cons, Ws_nil, Ws_ret]
  simp [m1, m3, e]
/-! ## the laws' own least terms -/
theorem gt_zero {Δ : Tb} {w0 w1 w2 : W} {r : List W} {S : Src} (b : Nat) : evT Δ (.cmp .gt (.var 3) (.int 0)) (w0 :: w1 :: w2 :: .d (.int (b : Int)) :: r) [] S = .ok (decide (b ≠ 0)) [] S := by
  have e : decide ((0 : Int) < (b : Int)) = decide (b ≠ 0) := by
    by_cases h : b = 0
    · subst h; rfl
    · rw [decide_eq_true (show (0 : Int) < (b : Int) by omega), decide_eq_true h]
  rw [← e]
  rfl
theorem frac_of {Δ : Tb} : LowF (mean Δ 2 5 b__law_frac) := by
  intro t b S hb ht hbl
  obtain ⟨N, hN⟩ : ∃ N : Nat, t.natAbs < N := ⟨_, Nat.lt_succ_self _⟩
  refine mean_eq (n := N) ⟨rfl, rfl⟩ ?_
  unfold b__law_frac
  obtain ⟨e1, e2⟩ := low_num (t := t) hb
  have g0 := gcd_ne (t := t) hb
  have gl : Lg 8000 ((Nat.gcd t.natAbs b.natAbs : Nat) : Int) := (((Lg.bl b).le (gcd_le_right hb))).mono hbl
  rw [Ws_cons, Ws_par]
  simp [viewAll, abs_eq]
  have eb : absI b = ((b.natAbs : Nat) : Int) := by unfold absI; split <;> omega
  have et : absI t = ((t.natAbs : Nat) : Int) := by unfold absI; split <;> omega
  rw [eb, et]
  refine Ws_cut (fun σ L S' => σ = [.d (.int t), .d (.int b), .d (.int (Nat.gcd b.natAbs t.natAbs : Nat)), .d (.int (0 : Nat)), .un] ∧ L = [] ∧ S' = S) ?_ ?_
  · rw [Ws_whl]
    exact euclid_loop (Δ := Δ) (c := .cmp .gt (.var 3) (.int 0)) (i := 2) (j := 3) (σ0 := [.d (.int t), .d (.int b), .un, .un, .un]) (S := S) (by decide) (by simp) (by simp) (fun a b => gt_zero b) b.natAbs t.natAbs N N hN ⟨rfl, rfl, rfl⟩
  · rintro σ L S' ⟨rfl, rfl, rfl⟩
    rw [Nat.gcd_comm]
    rw [Ws_cons, Ws_asg]
    simp [Wr_ite]
    have d2 := gl.fdiv (a := ((b.natAbs : Nat) : Int)) g0 (Nat.le_refl _)
    by_cases h : 0 < b
    · rw [if_pos h] at e1 e2
      rw [if_pos h]
      have d1 := gl.fdiv (a := t) g0 (Nat.le_refl _)
      have hn : ((b.natAbs : Nat) : Int) = b := by omega
      rw [hn] at d2
      have m1 : opB .mul (.int 1) (.int t) = some (.int t) := by
        rw [opB_mul2 (by decide), Int.one_mul]
      simp only [Ws_cons, Ws_nil, Ws_ret]
      simp [viewAll, abs_eq, eb, hn, m1, d1, d2, sizeLine, fr, e1, e2]
    · rw [if_neg h] at e1 e2
      rw [if_neg h]
      have d1 := gl.fdiv (a := -t) g0 (Nat.le_refl _)
      have hn : ((b.natAbs : Nat) : Int) = -b := by omega
      rw [hn] at d2
      have m1 : opB .mul (.int (-1)) (.int t) = some (.int (-t)) := by
        rw [opB_mul2 (by decide), Int.neg_one_mul]
      have n1 : (-t).fdiv ((Nat.gcd t.natAbs b.natAbs : Nat) : Int) = t.fdiv (-((Nat.gcd t.natAbs b.natAbs : Nat) : Int)) := by
        rw [← Int.neg_fdiv_neg, Int.neg_neg]
      have n2 : (-b).fdiv ((Nat.gcd t.natAbs b.natAbs : Nat) : Int) = b.fdiv (-((Nat.gcd t.natAbs b.natAbs : Nat) : Int)) := by
        rw [← Int.neg_fdiv_neg, Int.neg_neg]
      simp only [Ws_cons, Ws_nil, Ws_ret]
      simp [viewAll, abs_eq, eb, hn, m1, d1, d2, sizeLine, fr, e1, e2, n1, n2]
def b_lowG (c : T) : Ss := (.cons (.par 2 3 (.bf .abs (.cons (.var 0) .nil)) (.bf .abs (.cons (.var 1) .nil))) (.cons (.whl c (.cons (.par 2 3 (.var 3) (.bop .mod (.bf .int (.cons (.var 2) .nil)) (.var 3))) .nil)) (.cons (.asg (.nm 2) (.ife (.cmp .gt (.var 1) (.int 0)) (.var 2) (.bop .sub (.int 0) (.var 2)))) (.cons (.ret (.tup (.cons (.bop .fdiv (.var 0) (.var 2)) (.cons (.bop .fdiv (.var 1) (.var 2)) .nil)))) .nil))))
theorem lowG_of {Δ : Tb} {c : T} (hc : ∀ (w0 w1 : W) (S : Src) (a b : Nat), evT Δ c [w0, w1, .d (.int a), .d (.int b)] [] S = .ok (decide (b ≠ 0)) [] S) : LowF (mean Δ 2 4 (b_lowG c)) := by
  intro t b S hb ht hbl
  obtain ⟨N, hN⟩ : ∃ N : Nat, b.natAbs < N := ⟨_, Nat.lt_succ_self _⟩
  refine mean_eq (n := N) ⟨rfl, rfl⟩ ?_
  unfold b_lowG
  obtain ⟨e1, e2⟩ := low_num (t := t) hb
  have g0 := gcd_ne (t := t) hb
  have gl : Lg 8000 ((Nat.gcd t.natAbs b.natAbs : Nat) : Int) := (((Lg.bl b).le (gcd_le_right hb))).mono hbl
  rw [Ws_cons, Ws_par]
  simp [viewAll, abs_eq]
  have eb : absI b = ((b.natAbs : Nat) : Int) := by unfold absI; split <;> omega
  have et : absI t = ((t.natAbs : Nat) : Int) := by unfold absI; split <;> omega
  rw [eb, et]
  refine Ws_cut (fun σ L S' => σ = [.d (.int t), .d (.int b), .d (.int (Nat.gcd t.natAbs b.natAbs : Nat)), .d (.int (0 : Nat))] ∧ L = [] ∧ S' = S) ?_ ?_
  · rw [Ws_whl]
    exact euclid_loop (Δ := Δ) (c := c) (i := 2) (j := 3) (σ0 := [.d (.int t), .d (.int b), .un, .un]) (S := S) (by decide) (by simp) (by simp) (fun a b => hc _ _ S a b) t.natAbs b.natAbs N N hN ⟨rfl, rfl, rfl⟩
  · rintro σ L S' ⟨rfl, rfl, rfl⟩
    rw [Ws_cons, Ws_asg]
    simp [Wr_ite]
    by_cases h : 0 < b
    · rw [if_pos h] at e1 e2
      rw [if_pos h]
      have d1 := gl.fdiv (a := t) g0 (Nat.le_refl _)
      have d2 := gl.fdiv (a := b) g0 (Nat.le_refl _)
      simp only [Ws_cons, Ws_nil, Ws_ret]
      simp [d1, d2, sizeLine, fr, e1, e2]
    · rw [if_neg h] at e1 e2
      rw [if_neg h]
      have d1 := gl.neg.fdiv (a := t) (by omega) (Nat.le_refl _)
      have d2 := gl.neg.fdiv (a := b) (by omega) (Nat.le_refl _)
      simp only [Ws_cons, Ws_nil, Ws_ret]
      simp [d1, d2, sizeLine, fr, e1, e2]
theorem lowA_of {Δ : Tb} : LowF (mean Δ 2 4 b__law_low_a) := lowG_of (c := .cmp .gt (.var 3) (.int 0)) fun w0 w1 S a b => gt_zero b
theorem lowB_of {Δ : Tb} : LowF (mean Δ 2 4 b__law_low_b) := lowG_of (c := .cmp .ne (.var 3) (.int 0)) fun w0 w1 S a b => by simp
end Pd
end
section
set_option Elab.async false
set_option linter.all false
set_option maxRecDepth 100000
set_option maxHeartbeats 4000000
set_option autoImplicit false
namespace Pd
open PySem PySem.Spec Dk
/-- the primes of the laws -/
structure Pp (p : Nat) : Prop where
  pr : Pr p
  le : p ≤ 7
theorem pp2 : Pp 2 := ⟨pr2, by decide⟩
theorem pp3 : Pp 3 := ⟨pr3, by decide⟩
theorem pp5 : Pp 5 := ⟨pr5, by decide⟩
theorem pp7 : Pp 7 := ⟨pr7, by decide⟩
theorem Pp.pos {p : Nat} (h : Pp p) : (0 : Int) < p := by have := h.pr.two; omega
theorem Lg.pow {p : Nat} (h : p ≤ 7) (e : Nat) : Lg (3 * e + 1) ((p : Int) ^ e) := by
  refine ⟨?_⟩
  rw [Int.natAbs_pow, Int.natAbs_natCast, Nat.pow_succ, Nat.pow_mul]
  have : p ^ e ≤ (2 ^ 3) ^ e := Nat.pow_le_pow_left (by omega) e
  have p2 : 0 < (2 ^ 3) ^ e := Nat.pow_pos (by decide)
  omega
theorem pow_pos' {p : Nat} (h : Pr p) (e : Nat) : 0 < (p : Int) ^ e := Int.pow_pos (by have := h.two; omega)
theorem P_low {p : Nat} (h : Pr p) (e : Nat) (n : Int) : Rat.divInt n ((p : Int) ^ e) = n * P p (-(e : Int)) := by
  rw [Rat.divInt_eq_div, Rat.div_def, ← P_inv h, P_nat]
theorem fr_low {t b : Int} (h : Nat.gcd t.natAbs b.natAbs = 1) (hb : 0 < b) : fr (Rat.divInt t b) = .tuple [.int t, .int b] := by
  obtain ⟨h1, h2⟩ := low_num (t := t) (b := b) (by omega)
  rw [if_pos hb, h] at h1 h2
  unfold fr
  rw [h1, h2]
  simp
theorem fr_P {p : Nat} (h : Pr p) (e : Nat) : fr (P p e) = .tuple [.int ((p : Int) ^ e), .int 1] := by rw [P_nat]; rfl
theorem fr_Pn {p : Nat} (h : Pr p) (e : Nat) : fr (P p (-(e : Int))) = .tuple [.int 1, .int ((p : Int) ^ e)] := by
  have := P_low h e 1
  rw [show ((1 : Int) : Rat) = 1 from rfl, Rat.one_mul] at this
  rw [← this]
  exact fr_low (Nat.gcd_one_left _) (pow_pos' h e)
theorem fr_num {x : Rat} {t b : Int} (h : fr x = .tuple [.int t, .int b]) : x.num = t ∧ (x.den : Int) = b := by
  injection h with h
  injection h with h1 h2
  injection h2 with h2 h3
  injection h1 with h1
  injection h2 with h2
  exact ⟨h1, h2⟩
theorem sz_P {p : Nat} (h : Pp p) (k : Int) : sz (P p k) ≤ 3 * k.natAbs + 3 := by
  rcases Int.le_total 0 k with c | c
  · obtain ⟨e, rfl⟩ := Int.eq_ofNat_of_zero_le c
    obtain ⟨h1, h2⟩ := fr_num (fr_P h.pr e)
    unfold sz
    rw [h1, h2]
    have := bl_le (Lg.pow h.le e) (by omega)
    have : bl 1 = 1 := by decide
    omega
  · obtain ⟨e, he⟩ := Int.eq_ofNat_of_zero_le (show 0 ≤ -k by omega)
    obtain rfl : k = -(e : Int) := by omega
    obtain ⟨h1, h2⟩ := fr_num (fr_Pn h.pr e)
    unfold sz
    rw [h1, h2]
    have := bl_le (Lg.pow h.le e) (by omega)
    have : bl 1 = 1 := by decide
    omega
/-! ## powers -/
theorem range_N {e : Nat} (h : e ≤ 4000000000000000000) : rangeD [.int (e : Int)] = some ((List.range e).map fun (k : Nat) => .int ((0 : Int) + k)) := by
  have : rangeD [.int (e : Int)] = some ((List.range ((e : Int)).toNat).map fun (k : Nat) => .int ((0 : Int) + k)) := if_pos (b62_iff.mpr (by omega))
  exact this
def WpF (f : Fn) : Prop := ∀ (p e : Nat) (S : Src), p ≤ 7 → e ≤ 100000 → f [.d (.int p), .d (.int e)] S = .ok (.int ((p : Int) ^ e)) [] S
def PowF (f : Fn) : Prop := ∀ (p : Nat) (k : Int) (S : Src), Pp p → k.natAbs ≤ 100000 → f [.d (.int p), .d (.int k)] S = .ok (fr (P p k)) [] S
theorem wp_of {Δ : Tb} : WpF (mean Δ 2 4 b_whole_power) := by
  intro p e S hp he
  refine mean_eq (n := 0) ⟨rfl, rfl⟩ ?_
  unfold b_whole_power
  rw [Ws_cons, Ws_asg]
  simp
  refine Ws_cut (fun σ L S' => ∃ w3, σ = [.d (.int p), .d (.int e), .d (.int ((p : Int) ^ e)), w3] ∧ L = [] ∧ S' = S) ?_ ?_
  · rw [Ws_for]
    have hr := range_N (e := e) (by omega)
    have hlen := len_0 e
    generalize ((List.range e).map fun (k : Nat) => PyData.int ((0 : Int) + k)) = xs at hr hlen
    simp [hr]
    refine forL_of (fun i σ L S' => ∃ w3, σ = [.d (.int p), .d (.int e), .d (.int ((p : Int) ^ i)), w3] ∧ L = [] ∧ S' = S) ⟨_, rfl, rfl, rfl⟩ ?_ ?_
    · rintro i x σ L S' hx ⟨w3, rfl, rfl, rfl⟩
      have m1 : opB .mul (.int ((p : Int) ^ i)) (.int p) = some (.int ((p : Int) ^ (i + 1))) := by
        rw [opB_mul (mul_r (by omega)), Int.pow_succ]
      simp only [bindT, Ws_cons, Ws_nil]
      simp [Dk.exec, m1]
    · rintro σ L S' ⟨w3, rfl, rfl, rfl⟩
      rw [hlen]
      exact ⟨⟨_, rfl⟩, rfl, rfl⟩
  · rintro σ L S' ⟨w3, rfl, rfl, rfl⟩
    simp only [Ws_nil, Ws_cons, Ws_ret]
    simp
theorem pow_of {Δ : Tb} (h : WpF (Δ "whole_power")) : PowF (mean Δ 2 2 b_power_of) := by
  intro p k S hp hk
  refine mean_eq (n := 0) ⟨rfl, rfl⟩ ?_
  unfold b_power_of
  simp only [Ws_nil, Ws_cons, Ws_ret]
  rcases Int.le_total 0 k with c | c
  · obtain ⟨e, rfl⟩ := Int.eq_ofNat_of_zero_le c
    have e1 := h p e S hp.le (by omega)
    have e2 := fr_P hp.pr e
    have c2 : (0 : Int) ≤ (e : Int) := c
    simp [Wr_ite, c2, e1, sizeLine, e2]
  · by_cases k0 : k = 0
    · subst k0
      have e1 := h p 0 S hp.le (by omega)
      have e2 := fr_P hp.pr 0
      simp [Wr_ite, sizeLine] at e1 e2 ⊢
      simp [e1, e2]
    · obtain ⟨e, he⟩ := Int.eq_ofNat_of_zero_le (show 0 ≤ -k by omega)
      obtain rfl : k = -(e : Int) := by omega
      have e1 := h p e S hp.le (by omega)
      have e2 := fr_Pn hp.pr e
      have c2 : ¬ (0 : Int) ≤ -(e : Int) := by omega
      have e0 : e ≠ 0 := by omega
      simp [Wr_ite, c2, e0, e1, sizeLine, e2]
theorem lpow_of {Δ : Tb} : PowF (mean Δ 2 4 b__law_power) := by
  intro p k S hp hk
  refine mean_eq (n := 0) ⟨rfl, rfl⟩ ?_
  unfold b__law_power
  rw [Ws_cons, Ws_asg]
  simp
  refine Ws_cut (fun σ L S' => ∃ w3, σ = [.d (.int p), .d (.int k), .d (.int ((p : Int) ^ k.natAbs)), w3] ∧ L = [] ∧ S' = S) ?_ ?_
  · rw [Ws_for]
    have hr := range_N (e := k.natAbs) (by omega)
    have hlen := len_0 k.natAbs
    generalize ((List.range k.natAbs).map fun (k : Nat) => PyData.int ((0 : Int) + k)) = xs at hr hlen
    have ea : absI k = ((k.natAbs : Nat) : Int) := by unfold absI; split <;> omega
    simp [viewAll, abs_eq, ea, hr]
    refine forL_of (fun i σ L S' => ∃ w3, σ = [.d (.int p), .d (.int k), .d (.int ((p : Int) ^ i)), w3] ∧ L = [] ∧ S' = S) ⟨_, rfl, rfl, rfl⟩ ?_ ?_
    · rintro i x σ L S' hx ⟨w3, rfl, rfl, rfl⟩
      have hp7 := hp.le
      have m1 : opB .mul (.int ((p : Int) ^ i)) (.int p) = some (.int ((p : Int) ^ (i + 1))) := by
        rw [opB_mul (mul_r (by omega)), Int.pow_succ]
      simp only [bindT, Ws_cons, Ws_nil, Ws_asg]
      simp [m1]
    · rintro σ L S' ⟨w3, rfl, rfl, rfl⟩
      rw [hlen]
      exact ⟨⟨_, rfl⟩, rfl, rfl⟩
  · rintro σ L S' ⟨w3, rfl, rfl, rfl⟩
    simp only [Ws_nil, Ws_cons, Ws_ret]
    rcases Int.le_total 0 k with c | c
    · obtain ⟨e, rfl⟩ := Int.eq_ofNat_of_zero_le c
      have e2 := fr_P hp.pr e
      have c2 : (0 : Int) ≤ (e : Int) := c
      simp [Wr_ite, c2, sizeLine, e2]
    · by_cases k0 : k = 0
      · subst k0
        have e2 := fr_P hp.pr 0
        simp [Wr_ite, sizeLine] at e2 ⊢
        simp [e2]
      · obtain ⟨e, he⟩ := Int.eq_ofNat_of_zero_le (show 0 ≤ -k by omega)
        obtain rfl : k = -(e : Int) := by omega
        have e2 := fr_Pn hp.pr e
        have c2 : ¬ (0 : Int) ≤ -(e : Int) := by omega
        have e0 : e ≠ 0 := by omega
        simp [Wr_ite, c2, e0, sizeLine, e2]
/-! ## how often -/
theorem fmod_dvd {n : Int} {p : Nat} (hp : (0 : Int) < p) : n.fmod p = 0 ↔ (p : Int) ∣ n := by
  rw [Int.fmod_eq_emod_of_nonneg _ (by omega)]
  exact ⟨Int.dvd_of_emod_eq_zero, Int.emod_eq_zero_of_dvd⟩
structure MlI (p i j : Nat) (s n m : Int) (σ0 : List W) (S0 : Src) (t : Nat) (σ : List W) (L : Lo) (S : Src) : Prop where
  ex : ∃ (n' : Int) (c : Nat), n = n' * (p : Int) ^ c ∧ n' ≠ 0 ∧ t = n'.natAbs ∧ σ = (σ0.set i (.d (.int n'))).set j (.d (.int (m + c * s))) ∧ L = [] ∧ S = S0
theorem many_loop {Δ : Tb} {c : T} {e : E} {i j p k : Nat} {s : Int} {σ0 : List W} {S : Src} {D : Fin4} (hp : Pp p) (hij : i ≠ j) (hi : i < σ0.length) (hj : j < σ0.length) (h0 : σ0[0]? = some (.d (.int p))) (hi0 : i ≠ 0) (hj0 : j ≠ 0)
    (hc : ∀ n m : Int, evT Δ c ((σ0.set i (.d (.int n))).set j (.d (.int m))) [] S = .ok (decide (n.fmod p = 0)) [] S)
    (he : ∀ n m : Int, ev Δ e ((σ0.set i (.d (.int n))).set j (.d (.int m))) [] S = .ok (.d (.int (m + s))) [] S)
    (n m : Int) (n0 : n ≠ 0) (N : Nat) (hN : n.natAbs < N) (hD : ∀ n' : Int, n' ≠ 0 → D.nx ((σ0.set i (.d (.int n'))).set j (.d (.int (m + vp p n * s)))) [] S) :
    Ws (whl (evT Δ c) (execs Δ k (.cons (.par i j (.bop .fdiv (.var i) (.var 0)) e) .nil)) N ((σ0.set i (.d (.int n))).set j (.d (.int m))) [] S) D := by
  refine whl_of (D := D) (MlI p i j s n m σ0 S) ?_ N n.natAbs _ _ _ hN ⟨n, 0, by simp, n0, rfl, by simp, rfl, rfl⟩
  rintro t σ L S' ⟨n', c', e1, n0', rfl, rfl, rfl, rfl⟩
  rw [hc, Wr_ok]
  by_cases hd : (p : Int) ∣ n'
  · rw [decide_eq_true ((fmod_dvd hp.pos).mpr hd), if_pos rfl]
    rw [Ws_cons, Ws_par]
    have gi : (((σ0.set i (W.d (.int n'))).set j (W.d (.int (m + c' * s)))))[i]? = some (.d (.int n')) := by
      rw [List.getElem?_set_ne hij.symm]
      exact List.getElem?_set_self hi
    have g0 : (((σ0.set i (W.d (.int n'))).set j (W.d (.int (m + c' * s)))))[0]? = some (.d (.int p)) := by
      rw [List.getElem?_set_ne hj0, List.getElem?_set_ne hi0]
      exact h0
    have pz : (p : Int) ≠ 0 := by have := hp.pos; omega
    have hd2 : opB .fdiv (.int n') (.int p) = some (.int (n'.fdiv p)) := opB_fdiv pz (log_64 (by have := hp.pos; omega) (by have := hp.le; omega))
    have hee := he n' (m + c' * s)
    simp only [Ws_nil]
    simp [gi, g0, hd2, hee]
    obtain ⟨q, rfl⟩ := hd
    have q0 : q ≠ 0 := fun z => n0' (by rw [z, Int.mul_zero])
    rw [Int.mul_fdiv_cancel_left _ pz]
    refine ⟨q.natAbs, ?_, q, c' + 1, ?_, q0, rfl, ?_, rfl, rfl⟩
    · rw [Int.natAbs_mul, Int.natAbs_natCast]
      have h1 := hp.pr.two
      have h2 : 2 * q.natAbs ≤ p * q.natAbs := Nat.mul_le_mul_right _ h1
      omega
    · rw [e1, Int.pow_succ]
      grind
    · have ea : m + (c' : Int) * s + s = m + ((c' + 1 : Nat) : Int) * s := by
        rw [Int.natCast_add, Int.add_mul]
        omega
      rw [ea, List.set_comm _ _ hij.symm, List.set_set, List.set_set]
  · rw [decide_eq_false (fun z => hd ((fmod_dvd hp.pos).mp z))]
    have hv : vp p n = c' := vp_eq hp.pr (Vl.of_int hp.pr e1 hd)
    have := hD n' n0'
    rw [hv] at this
    exact this
def ManyF (f : Fn) : Prop := ∀ (p : Nat) (n : Int) (S : Src), Pp p → n ≠ 0 → f [.d (.int p), .d (.int n)] S = .ok (.int (vp p n)) [] S
noncomputable def vD (p : Nat) (x : Rat) : PyData := open Classical in if x = 0 then .none else .int (vp p x)
theorem vD0 {p : Nat} : vD p 0 = .none := if_pos rfl
theorem vD1 {p : Nat} {x : Rat} (h : x ≠ 0) : vD p x = .int (vp p x) := if_neg h
def PiF (f : Fn) : Prop := ∀ (p : Nat) (x : Rat) (S : Src), Pp p → f [.d (.int p), .d (fr x)] S = .ok (vD p x) [] S
theorem many_of {Δ : Tb} : ManyF (mean Δ 2 3 b_many_in) := by
  intro p n S hp n0
  refine mean_eq (n := n.natAbs + 1) ⟨rfl, rfl⟩ ?_
  unfold b_many_in
  have pz : (p : Int) ≠ 0 := by have := hp.pos; omega
  rw [Ws_cons, Ws_asg]
  simp
  refine Ws_cut (fun σ L S' => ∃ w1, σ = [.d (.int p), w1, .d (.int (vp p n))] ∧ L = [] ∧ S' = S) ?_ ?_
  · rw [Ws_whl]
    have := many_loop (Δ := Δ) (c := .cmp .eq (.bop .mod (.var 1) (.var 0)) (.int 0)) (e := .bop .add (.var 2) (.int 1)) (i := 1) (j := 2) (k := n.natAbs + 1) (s := 1) (σ0 := [.d (.int p), .un, .un]) (S := S) (D := ⟨fun σ L S' => ∃ w1, σ = [.d (.int p), w1, .d (.int (vp p n))] ∧ L = [] ∧ S' = S, fun x S' => x = .int (vp p n) ∧ S' = S, fun _ _ _ => False, fun _ _ _ => False⟩) hp (by decide) (by simp) (by simp) rfl (by decide) (by decide) (fun n m => by simp [opB_mod pz]) (fun n m => by simp) n 0 n0 (n.natAbs + 1) (Nat.lt_succ_self _) (fun n' _ => ⟨_, by simp; rfl, rfl, rfl⟩)
    exact this
  · rintro σ L S' ⟨w1, rfl, rfl, rfl⟩
    simp only [Ws_nil, Ws_cons, Ws_ret]
    simp
theorem oftenA_of {Δ : Tb} : ManyF (mean Δ 2 3 b__law_often_a) := by
  intro p n S hp n0
  refine mean_eq (n := n.natAbs + 1) ⟨rfl, rfl⟩ ?_
  unfold b__law_often_a
  have pz : (p : Int) ≠ 0 := by have := hp.pos; omega
  rw [Ws_cons, Ws_asg]
  simp
  refine Ws_cut (fun σ L S' => ∃ w1, σ = [.d (.int p), w1, .d (.int (vp p n))] ∧ L = [] ∧ S' = S) ?_ ?_
  · rw [Ws_whl]
    have := many_loop (Δ := Δ) (c := .cmp .eq (.bop .mod (.bf .int (.cons (.var 1) .nil)) (.var 0)) (.int 0)) (e := .bop .add (.var 2) (.int 1)) (i := 1) (j := 2) (k := n.natAbs + 1) (s := 1) (σ0 := [.d (.int p), .un, .un]) (S := S) (D := ⟨fun σ L S' => ∃ w1, σ = [.d (.int p), w1, .d (.int (vp p n))] ∧ L = [] ∧ S' = S, fun x S' => x = .int (vp p n) ∧ S' = S, fun _ _ _ => False, fun _ _ _ => False⟩) hp (by decide) (by simp) (by simp) rfl (by decide) (by decide) (fun n m => by simp [viewAll, opF, opB_mod pz]) (fun n m => by simp) n 0 n0 (n.natAbs + 1) (Nat.lt_succ_self _) (fun n' _ => ⟨_, by simp; rfl, rfl, rfl⟩)
    exact this
  · rintro σ L S' ⟨w1, rfl, rfl, rfl⟩
    simp only [Ws_nil, Ws_cons, Ws_ret]
    simp
theorem pi_of {Δ : Tb} {g : Str} (hg : Δ g = conF (fr 0)) (h : ManyF (Δ "many_in")) : PiF (mean Δ 2 2 (b_power_in g)) := by
  intro p x S hp
  refine mean_eq (n := 0) ⟨rfl, rfl⟩ ?_
  unfold b_power_in
  rw [Ws_cons, Ws_if]
  simp [hg, conF]
  by_cases hx : x = 0
  · subst hx
    simp only [Ws_nil, Ws_cons, Ws_ret]
    simp [vD0]
  · simp [hx, Ws_nil]
    have e1 := h p x.num S hp (num0 hx)
    have e2 := h p x.den S hp (den0 x)
    have ev := vp_num_den hp.pr hx
    simp only [Ws_nil, Ws_cons, Ws_ret]
    simp [e1, e2, vD1 hx, ev]
end Pd
end
section
set_option Elab.async false
set_option linter.all false
set_option maxRecDepth 100000
set_option maxHeartbeats 4000000
set_option autoImplicit false
namespace Pd
open PySem PySem.Spec Dk
/-! ## what undoes a number -/
def UnF (f : Fn) : Prop := ∀ (a m : Int) (S : Src), 2 ≤ m → bl m ≤ 8000 → (∃ s t : Int, s * a + t * m = 1) → ∃ u : Int, f [.d (.int a), .d (.int m)] S = .ok (.int u) [] S ∧ 0 ≤ u ∧ u < m ∧ m ∣ u * a - 1
structure UnI (a m : Int) (w4 : W) (S0 : Src) (t : Nat) (σ : List W) (L : Lo) (S : Src) : Prop where
  ex : ∃ (x y c d s : Int) (w : W), σ = [.d (.int a), .d (.int m), .d (.tuple [.int x, .int c]), .d (.tuple [.int y, .int d]), w] ∧ L = [] ∧ S = S0 ∧ t = y.natAbs ∧ 0 ≤ y ∧ 1 < x ∧ x ≤ m ∧ y ≤ m ∧ (s = 1 ∨ s = -1) ∧ 0 ≤ s * d ∧ s * c ≤ 0 ∧ s * (d * x - c * y) = m ∧ m ∣ d * a - y ∧ m ∣ c * a - x ∧ (∃ u v : Int, u * x + v * y = 1)
structure UnE (a m : Int) (S0 : Src) (σ : List W) (L : Lo) (S : Src) : Prop where
  ex : ∃ (c w : W) (y : Int), σ = [.d (.int a), .d (.int m), c, .d (.tuple [.int 1, .int y]), w] ∧ L = [] ∧ S = S0 ∧ m ∣ y * a - 1
theorem fmod_pos {a m : Int} (h : 0 < m) : a.fmod m = a % m := Int.fmod_eq_emod_of_nonneg a (by omega)
theorem fdiv_pos {a m : Int} (h : 0 < m) : a.fdiv m = a / m := Int.fdiv_eq_ediv_of_nonneg a (by omega)
theorem bnd {s d x c y m : Int} (hs : s = 1 ∨ s = -1) (h1 : 0 ≤ s * d) (h2 : s * c ≤ 0) (h3 : s * (d * x - c * y) = m) (hx : 1 < x) (hy : 0 ≤ y) : d.natAbs ≤ m.natAbs ∧ (0 < y → c.natAbs ≤ m.natAbs) := by
  have e : s * d * x + (-(s * c)) * y = m := by rw [← h3]; grind
  have p1 : 0 ≤ (-(s * c)) * y := Int.mul_nonneg (by omega) hy
  have p2 : s * d * 1 ≤ s * d * x := Int.mul_le_mul_of_nonneg_left (by omega) h1
  have p3 : 0 ≤ s * d * x := Int.mul_nonneg h1 (by omega)
  refine ⟨?_, fun hy2 => ?_⟩
  · rcases hs with rfl | rfl <;> omega
  · have p4 : (-(s * c)) * 1 ≤ (-(s * c)) * y := Int.mul_le_mul_of_nonneg_left (by omega) (by omega)
    rcases hs with rfl | rfl <;> omega
theorem un_of {Δ : Tb} : UnF (mean Δ 2 5 b_undone_by) := by
  intro a m S hm hbl hcop
  suffices h : ∃ x S', mean Δ 2 5 b_undone_by [.d (.int a), .d (.int m)] S = .ok x [] S' ∧ (∃ u : Int, x = .int u ∧ 0 ≤ u ∧ u < m ∧ m ∣ u * a - 1) ∧ S' = S by
    obtain ⟨x, S', h1, ⟨u, rfl, h2⟩, rfl⟩ := h
    exact ⟨u, h1, h2⟩
  obtain ⟨N, hN⟩ : ∃ N : Nat, m.natAbs < N := ⟨_, Nat.lt_succ_self _⟩
  refine mean_of (n := N) ⟨rfl, rfl⟩ ?_
  unfold b_undone_by
  have m0 : m ≠ 0 := by omega
  have r0 := Int.emod_nonneg a m0
  have r1 := Int.emod_lt_of_pos a (show 0 < m by omega)
  have re := Int.mul_ediv_add_emod a m
  rw [Ws_cons, Ws_par]
  simp [opB_mod m0, fmod_pos (show 0 < m by omega), sizeLine]
  refine Ws_cut (UnE a m S) ?_ ?_
  · rw [Ws_whl]
    refine whl_of (D := _) (UnI a m .un S) ?_ N (a % m).natAbs _ _ _ (by omega) ⟨m, a % m, 0, 1, 1, .un, rfl, rfl, rfl, rfl, r0, by omega, Int.le_refl m, by omega, .inl rfl, by decide, by decide, by grind, ⟨a / m, by grind⟩, ⟨-1, by grind⟩, ?_⟩
    · rintro t σ L S' ⟨x, y, c, d, s, w, rfl, rfl, rfl, rfl, hy, hx, hxm, hyx, hs, q1, q2, q3, q4, q5, u, v, q6⟩
      simp
      by_cases hy1 : 1 < y
      · obtain ⟨b1, b2⟩ := bnd hs q1 q2 q3 hx hy
        have lm := Lg.bl m
        have ly : Lg (bl m) y := lm.le (by omega)
        have y0 : y ≠ 0 := by omega
        have d1 := ly.fdiv (a := x) y0 hbl
        rw [if_pos hy1]
        rw [Ws_cons, Ws_asg]
        simp [d1, fdiv_pos (show 0 < y by omega)]
        have dm := Int.mul_ediv_add_emod x y
        have e0 := Int.emod_nonneg x y0
        have e1 := Int.emod_lt_of_pos x (show 0 < y by omega)
        have b3 : 0 ≤ x / y := Int.ediv_nonneg (by omega) (by omega)
        have b4 : x / y ≤ x := Int.ediv_le_self _ (by omega)
        have lq : Lg (bl m) (x / y) := lm.le (by omega)
        have ld : Lg (bl m) d := lm.le b1
        have m1 := lq.mulOk ly (by omega)
        have m2 := lq.mulOk ld (by omega)
        rw [Ws_cons, Ws_par]
        simp [m1, m2, sizeLine, Ws_nil]
        have ey : x - x / y * y = x % y := by rw [Int.mul_comm]; omega
        rw [ey]
        generalize x / y = q at *
        generalize x % y = r at *
        refine ⟨r.natAbs, by omega, y, r, d, c - q * d, -s, _, rfl, rfl, rfl, rfl, e0, hy1, hyx, by omega, by omega, ?_, by grind, by grind, ?_, q4, u * q + v, u, by grind⟩
        · have : 0 ≤ q * (s * d) := Int.mul_nonneg b3 q1
          grind
        · obtain ⟨k1, h1⟩ := q4
          obtain ⟨k2, h2⟩ := q5
          exact ⟨k2 - q * k1, by grind⟩
      · rw [if_neg hy1]
        have : y = 1 := by
          by_cases h0 : y = 0
          · subst h0
            have h1 : u * x = 1 := by grind
            have h2 : x ≤ 1 := Int.le_of_dvd (by decide) ⟨u, by grind⟩
            omega
          · omega
        subst this
        exact ⟨_, _, d, rfl, rfl, rfl, q4⟩
    · obtain ⟨s, t, e⟩ := hcop
      refine ⟨t + s * (a / m), s, ?_⟩
      grind
  · rintro σ L S' ⟨c, w, y, rfl, rfl, rfl, k, hk⟩
    simp only [Ws_nil, Ws_cons, Ws_ret]
    simp [opB_mod m0, fmod_pos (show 0 < m by omega)]
    have f0 := Int.emod_nonneg y m0
    have f1 := Int.emod_lt_of_pos y (show 0 < m by omega)
    have f2 := Int.mul_ediv_add_emod y m
    exact ⟨f0, f1, k - y / m * a, by grind⟩
end Pd
end
section
set_option Elab.async false
set_option linter.all false
set_option maxRecDepth 100000
set_option maxHeartbeats 4000000
set_option autoImplicit false
namespace Pd
open PySem PySem.Spec Dk
/-! ## rests -/
def RestF (f : Fn) : Prop := ∀ (p : Nat) (x : Rat) (k : Int) (S : Src), Pp p → k.natAbs ≤ 1000 → sz x ≤ 1000 → f [.d (.int p), .d (fr x), .d (.int k)] S = .ok (fr (rest p k x)) [] S
/-- the bottom's part of p -/
structure Bot (p : Nat) (x : Rat) (out : Nat) (b : Int) : Prop where
  un : Un p b
  den : (x.den : Int) = b * (p : Int) ^ out
  eq : x * (b * P p out) = x.num
  v : vp p (x.den : Int) = out
  le : out ≤ sz x
  b0 : 0 < b
  bd : b.natAbs ≤ (x.den : Int).natAbs
theorem bot_ex {p : Nat} (hp : Pp p) (x : Rat) : ∃ out b, Bot p x out b := by
  obtain ⟨out, b, h1, h2, h3⟩ := parts hp.pr x
  have pp := pow_pos' hp.pr out
  have dp := x.den_pos
  have b0 : 0 < b := by
    rcases Int.lt_or_le 0 b with h | h
    · exact h
    · have := Int.mul_le_mul_of_nonneg_right h (Int.le_of_lt pp)
      omega
  refine ⟨out, b, h1, h2, h3, vp_eq hp.pr (Vl.of_int hp.pr h2 h1), ?_, b0, ?_⟩
  · have l := (sz_den x).h
    rw [Int.natAbs_natCast] at l
    have e1 : (2 : Nat) ^ out ≤ p ^ out := Nat.pow_le_pow_left hp.pr.two out
    have e2 : ((p ^ out : Nat) : Int) ≤ (x.den : Int) := by
      rw [h2, Int.natCast_pow]
      have := Int.mul_le_mul_of_nonneg_right (show 1 ≤ b by omega) (Int.le_of_lt pp)
      omega
    have e3 : (2 : Nat) ^ out < 2 ^ sz x := by omega
    exact Nat.le_of_lt ((Nat.pow_lt_pow_iff_right (by decide)).mp e3)
  · rw [h2, Int.natAbs_mul]
    exact Nat.le_mul_of_pos_right _ (by omega)
theorem sz_rest {p : Nat} (hp : Pp p) (k : Int) (x : Rat) : sz (rest p k x) ≤ 6 * sz x + 3 * k.natAbs + 8 := by
  obtain ⟨out, b, hb⟩ := bot_ex hp x
  rcases Int.le_total (k + out) 0 with h | h
  · rw [← rest_eq hp.pr (rest_0 hp.pr hb.eq hb.un h)]
    have : sz 0 ≤ 2 := by decide
    omega
  · obtain ⟨many, hm⟩ := Int.eq_ofNat_of_zero_le h
    obtain ⟨u, v, g⟩ := hb.un.pow_cop hp.pr many
    have pp := pow_pos' hp.pr many
    have n0 := Int.emod_nonneg (x.num * u) (show (p : Int) ^ many ≠ 0 by omega)
    have n1 := Int.emod_lt_of_pos (x.num * u) pp
    have e := Int.mul_ediv_add_emod (x.num * u) ((p : Int) ^ many)
    have r := rest_mk hp.pr (n := (x.num * u) % (p : Int) ^ many) hb.eq hb.un hm.symm n0 n1 (by
      refine ⟨x.num * v + (x.num * u) / ((p : Int) ^ many) * b, ?_⟩
      generalize (x.num * u) % (p : Int) ^ many = r at e
      generalize (x.num * u) / (p : Int) ^ many = q at e
      generalize (p : Int) ^ many = m at e g
      grind)
    rw [← rest_eq hp.pr r, ← P_low hp.pr]
    have l1 := bl_le ((Lg.pow hp.le many).le (a := (x.num * u) % (p : Int) ^ many) (by omega)) (by omega)
    have l2 := bl_le (Lg.pow hp.le out) (by omega)
    have l3 := sz_low (t := (x.num * u) % (p : Int) ^ many) (b := (p : Int) ^ out) (by have := pow_pos' hp.pr out; omega)
    have := hb.le
    omega
theorem vp_bl0 {p : Nat} (hp : Pr p) {n : Int} (h : n ≠ 0) : vp p n ≤ bl n := by
  obtain ⟨e, m, h1, h2⟩ := split hp _ n (Nat.le_refl _) h
  rw [vp_eq hp (Vl.of_int hp h1 h2)]
  have l := (Lg.bl n).h
  have e1 : (2 : Nat) ^ e ≤ p ^ e := Nat.pow_le_pow_left hp.two e
  have e2 : p ^ e ≤ n.natAbs := by
    rw [h1, Int.natAbs_mul, Int.natAbs_pow, Int.natAbs_natCast]
    refine Nat.le_mul_of_pos_left _ ?_
    have := h2.ne
    omega
  have e3 : (2 : Nat) ^ e < 2 ^ bl n := by omega
  have := Nat.le_of_lt ((Nat.pow_lt_pow_iff_right (by decide)).mp e3)
  omega
theorem sz_rest2 {p : Nat} (hp : Pp p) (k : Int) (x : Rat) : sz (rest p k x) ≤ 4 * bl (x.den : Int) + 3 * k.natAbs + 4 := by
  obtain ⟨out, b, hb⟩ := bot_ex hp x
  rcases Int.le_total (k + out) 0 with h | h
  · rw [← rest_eq hp.pr (rest_0 hp.pr hb.eq hb.un h)]
    have : sz 0 ≤ 2 := by decide
    omega
  · obtain ⟨many, hm⟩ := Int.eq_ofNat_of_zero_le h
    obtain ⟨u, v, g⟩ := hb.un.pow_cop hp.pr many
    have pp := pow_pos' hp.pr many
    have n0 := Int.emod_nonneg (x.num * u) (show (p : Int) ^ many ≠ 0 by omega)
    have n1 := Int.emod_lt_of_pos (x.num * u) pp
    have e := Int.mul_ediv_add_emod (x.num * u) ((p : Int) ^ many)
    have r := rest_mk hp.pr (n := (x.num * u) % (p : Int) ^ many) hb.eq hb.un hm.symm n0 n1 (by
      refine ⟨x.num * v + (x.num * u) / ((p : Int) ^ many) * b, ?_⟩
      generalize (x.num * u) % (p : Int) ^ many = r at e
      generalize (x.num * u) / (p : Int) ^ many = q at e
      generalize (p : Int) ^ many = m at e g
      grind)
    rw [← rest_eq hp.pr r, ← P_low hp.pr]
    have l1 := bl_le ((Lg.pow hp.le many).le (a := (x.num * u) % (p : Int) ^ many) (by omega)) (by omega)
    have l2 : bl ((p : Int) ^ out) ≤ bl (x.den : Int) := bl_mono (by
      rw [hb.den, Int.natAbs_mul]
      exact Nat.le_mul_of_pos_left _ (by have := hb.b0; omega))
    have l4 : out ≤ bl (x.den : Int) := by
      have := vp_bl0 hp.pr (den0 x)
      rw [hb.v] at this
      omega
    have l3 := sz_low (t := (x.num * u) % (p : Int) ^ many) (b := (p : Int) ^ out) (by have := pow_pos' hp.pr out; omega)
    omega
theorem rest_of {Δ : Tb} {g : Str} (hg : Δ g = conF (fr 0)) (hm : ManyF (Δ "many_in")) (hw : WpF (Δ "whole_power")) (hu : UnF (Δ "undone_by")) (hl : LowF (Δ "ratio_low")) : RestF (mean Δ 3 7 (b_rest_of g)) := by
  intro p x k S hp hk hx
  refine mean_eq (n := 0) ⟨rfl, rfl⟩ ?_
  unfold b_rest_of
  obtain ⟨out, b, hb⟩ := bot_ex hp x
  have e1 := hm p x.den S hp (den0 x)
  rw [hb.v] at e1
  have ol := hb.le
  rw [Ws_cons, Ws_asg]
  simp [e1]
  rw [Ws_cons, Ws_asg]
  simp
  rw [Ws_cons, Ws_if]
  simp [hg, conF]
  by_cases h : k + out ≤ 0
  · simp only [Ws_nil, Ws_cons, Ws_ret]
    have := rest_eq hp.pr (rest_0 hp.pr hb.eq hb.un h)
    simp [h, hg, conF, ← this]
  · obtain ⟨many, hmany⟩ := Int.eq_ofNat_of_zero_le (show 0 ≤ k + out by omega)
    rw [if_neg h, Ws_nil]
    dsimp only
    rw [Ws_cons, Ws_par]
    have w1 := hw p many S hp.le (by omega)
    have w2 := hw p out S hp.le (by omega)
    have pp := pow_pos' hp.pr out
    have pm := pow_pos' hp.pr many
    have lo := Lg.pow hp.le out
    have lm := Lg.pow hp.le many
    have d1 := lo.fdiv (a := (x.den : Int)) (by omega) (by omega)
    have db : (x.den : Int).fdiv ((p : Int) ^ out) = b := by rw [hb.den, Int.mul_fdiv_cancel _ (by omega)]
    rw [db] at d1
    rw [hmany]
    simp [w1, w2, d1]
    obtain ⟨u', v', g'⟩ := hb.un.pow_cop hp.pr many
    have m2 : 2 ≤ (p : Int) ^ many := by
      obtain ⟨q, rfl⟩ : ∃ q, many = q + 1 := ⟨many - 1, by omega⟩
      have p2 := hp.pr.two
      have pq := pow_pos' hp.pr q
      rw [Int.pow_succ]
      have := Int.mul_le_mul_of_nonneg_left (show (2 : Int) ≤ p by omega) (Int.le_of_lt pq)
      omega
    obtain ⟨u, e2, u0, u1, u2⟩ := hu b ((p : Int) ^ many) S m2 (bl_le8 lm (by omega)) ⟨u', v', g'⟩
    have lu : Lg (3 * many + 1) u := lm.le (by omega)
    have mm := (sz_num x).mulOk lu (by omega)
    have m0 : (p : Int) ^ many ≠ 0 := by omega
    have f1 := Int.emod_nonneg (x.num * u) m0
    have f2 := Int.emod_lt_of_pos (x.num * u) pm
    have f3 := Int.mul_ediv_add_emod (x.num * u) ((p : Int) ^ many)
    have lr : Lg (3 * many + 1) ((x.num * u) % (p : Int) ^ many) := lm.le (by omega)
    have e3 := hl ((x.num * u) % (p : Int) ^ many) ((p : Int) ^ out) S (by omega) (bl_le8 lr (by omega)) (bl_le8 lo (by omega))
    have hd : (p : Int) ^ many ∣ x.num - (x.num * u) % (p : Int) ^ many * b := by
      obtain ⟨c, hc⟩ := u2
      refine ⟨x.num * u / (p : Int) ^ many * b - x.num * c, ?_⟩
      grind
    have r := rest_mk hp.pr hb.eq hb.un (by omega : (many : Int) = k + out) f1 f2 hd
    have r2 := rest_eq hp.pr r
    rw [P_low hp.pr, r2] at e3
    simp only [Ws_nil, Ws_cons, Ws_ret]
    simp [e2, mm, opB_mod m0, fmod_pos pm, w2, e3]
end Pd
end
section
set_option Elab.async false
set_option linter.all false
set_option maxRecDepth 100000
set_option maxHeartbeats 4000000
set_option autoImplicit false
namespace Pd
open PySem PySem.Spec Dk
theorem ixD_head {xs : List PyData} {x : PyData} {t : List PyData} (h : xs = x :: t) : ixD (.list xs) (.int 0) = some x := by
  subst h
  simp
/-- a digit that brings a multiple one power further -/
theorem dig {p : Nat} (hp : Pr p) {b c : Int} (hb : Un p b) : ∃ d : Nat, d < p ∧ (p : Int) ∣ c + d * b := by
  obtain ⟨u, v, g⟩ := hb.pow_cop hp 1
  rw [Int.pow_one] at g
  have pp : 0 < (p : Int) := by have := hp.two; omega
  have m0 := Int.emod_nonneg (-c * u) (show (p : Int) ≠ 0 by omega)
  have m1 := Int.emod_lt_of_pos (-c * u) pp
  have e := Int.mul_ediv_add_emod (-c * u) (p : Int)
  refine ⟨((-c * u) % (p : Int)).toNat, by omega, ?_⟩
  rw [show ((((-c * u) % (p : Int)).toNat : Nat) : Int) = (-c * u) % (p : Int) by omega]
  generalize (-c * u) % (p : Int) = r at e
  generalize (-c * u) / (p : Int) = q at e
  exact ⟨c * v - q * b, by grind⟩
structure LrI (p out : Nat) (x : Rat) (k b : Int) (S0 : Src) (i : Nat) (σ : List W) (L : Lo) (S : Src) : Prop where
  ex : ∃ (f : Int) (w7 w8 : W), σ = [.d (.int p), .d (fr x), .d (.int k), .d (.int out), .d (.int f), .d (.int ((p : Int) ^ i)), .d (.int b), w7, w8] ∧ L = [] ∧ S = S0 ∧ 0 ≤ f ∧ f < (p : Int) ^ i ∧ (p : Int) ^ i ∣ f * b - x.num
structure LrE (p out lim : Nat) (x : Rat) (k b : Int) (S0 : Src) (σ : List W) (L : Lo) (S : Src) : Prop where
  ex : ∃ (f : Int) (w5 w7 w8 : W), σ = [.d (.int p), .d (fr x), .d (.int k), .d (.int out), .d (.int f), w5, .d (.int b), w7, w8] ∧ L = [] ∧ S = S0 ∧ 0 ≤ f ∧ f < (p : Int) ^ lim ∧ (p : Int) ^ lim ∣ f * b - x.num
theorem lrestA_of {Δ : Tb} (hm : ManyF (Δ "_law_often")) (hw : PowF (Δ "_law_power")) (hl : LowF (Δ "_law_frac")) : RestF (mean Δ 3 9 b__law_rest_a) := by
  intro p x k S hp hk hx
  refine mean_eq (n := 0) ⟨rfl, rfl⟩ ?_
  unfold b__law_rest_a
  obtain ⟨out, b, hb⟩ := bot_ex hp x
  have e1 := hm p x.den S hp (den0 x)
  rw [hb.v] at e1
  have ol := hb.le
  have w2 := hw p out S hp (by omega)
  rw [fr_P hp.pr] at w2
  have pp := pow_pos' hp.pr out
  have lo := Lg.pow hp.le out
  have d1 := lo.fdiv (a := (x.den : Int)) (by omega) (by omega)
  have db : (x.den : Int).fdiv ((p : Int) ^ out) = b := by rw [hb.den, Int.mul_fdiv_cancel _ (by omega)]
  rw [db] at d1
  have lb : Lg (sz x) b := (sz_den x).le hb.bd
  rw [Ws_cons, Ws_asgT]
  have ev1 : ev Δ (.tup (.cons (.call "_law_often" (.cons (.var 0) (.cons (.ix (.var 1) (.int 1)) .nil))) (.cons (.int 0) (.cons (.int 1) .nil)))) [.d (.int p), .d (fr x), .d (.int k), .un, .un, .un, .un, .un, .un] [] S = .ok (.d (.tuple [.int out, .int 0, .int 1])) [] S := by
    simp [e1, sizeLine]
  refine (show Wr (ev Δ _ [.d (.int p), .d (fr x), .d (.int k), .un, .un, .un, .un, .un, .un] [] S) _ from ?_)
  rw [ev1]
  refine Wr_ok.mpr ⟨_, _, rfl, rfl, ?_⟩
  dsimp only
  rw [Ws_cons, Ws_asg]
  simp [w2, d1]
  obtain ⟨lim, hlim⟩ : ∃ lim : Nat, (lim : Int) = max 0 (k + out) := ⟨(max 0 (k + out)).toNat, by omega⟩
  refine Ws_cut (LrE p out lim x k b S) ?_ ?_
  · rw [Ws_for]
    have hr := range_N (e := lim) (by omega)
    have hlen := len_0 lim
    generalize ((List.range lim).map fun (k : Nat) => PyData.int ((0 : Int) + k)) = xs at hr hlen
    have em : (if 0 < k + (out : Int) then k + (out : Int) else 0) = (lim : Int) := by split <;> omega
    simp [viewAll, opF, em, hr]
    refine forL_of (LrI p out x k b S) ⟨0, _, _, by rw [Int.pow_zero], rfl, rfl, Int.le_refl 0, by rw [Int.pow_zero]; decide, by rw [Int.pow_zero]; exact Int.one_dvd _⟩ ?_ ?_
    · rintro i y σ L S' hxi ⟨f, w7, w8, rfl, rfl, rfl, f0, f1, f2⟩
      have hi := (List.getElem?_eq_some_iff.mp hxi).1
      simp only [bindT]
      rw [Ws_cons, Ws_asg]
      have pi := pow_pos' hp.pr i
      have li := Lg.pow hp.le i
      have lf : Lg (3 * i + 1) f := li.le (by omega)
      have hp7 := hp.le
      have p2 := hp.pr.two
      have mu : opB .mul (.int ((p : Int) ^ i)) (.int p) = some (.int ((p : Int) ^ (i + 1))) := by
        rw [opB_mul (mul_r (by omega)), Int.pow_succ]
      have pz : (p : Int) ^ (i + 1) ≠ 0 := by have := pow_pos' hp.pr (i + 1); omega
      have pq := pow_pos' hp.pr (i + 1)
      have md : ∀ a : Nat, a < p → opB .mul (.int (a : Int)) (.int ((p : Int) ^ i)) = some (.int (a * (p : Int) ^ i)) := fun a ha => opB_mul2 (by omega)
      have mb : ∀ a : Nat, a < p → opB .mul (.int (f + a * (p : Int) ^ i)) (.int b) = some (.int ((f + a * (p : Int) ^ i) * b)) := fun a ha => by
        have la : Lg 3 (a : Int) := ⟨by omega⟩
        exact ((lf.mono (show 3 * i + 1 ≤ 3 + (3 * i + 1) by omega)).add (la.mul li)).mulOk lb (by omega)
      rw [Wr_ix]
      have hrp := range_N (e := p) (by omega)
      refine Wr_lcF (fun (a : Nat) => .int ((0 : Int) + a)) (fun (a : Nat) => decide ((p : Int) ^ (i + 1) ∣ (f + a * (p : Int) ^ i) * b - x.num)) (fun (a : Nat) => .int (f + a * (p : Int) ^ i)) (l := List.range p) ?_ ?_ ?_ ?_ ?_
      · simp [hrp]
      · rw [List.length_range]; unfold sizeLine; omega
      · intro a ha
        have ha := List.mem_range.mp ha
        have hdv : (((f + a * (p : Int) ^ i) * b - x.num).fmod ((p : Int) ^ (i + 1)) = 0) ↔ (p : Int) ^ (i + 1) ∣ (f + a * (p : Int) ^ i) * b - x.num := by
          rw [fmod_pos pq]
          exact ⟨Int.dvd_of_emod_eq_zero, Int.emod_eq_zero_of_dvd⟩
        simp [md a ha, mb a ha, mu, viewAll, opF, opB_mod pz, hdv]
      · intro a ha _
        have ha := List.mem_range.mp ha
        simp [md a ha]
      · obtain ⟨c, hc⟩ := f2
        obtain ⟨d, hd, hd2⟩ := dig hp.pr (c := c) hb.un
        have good : (p : Int) ^ (i + 1) ∣ (f + d * (p : Int) ^ i) * b - x.num := by
          obtain ⟨q, hq⟩ := hd2
          refine ⟨q, ?_⟩
          rw [Int.pow_succ]
          grind
        have mem : d ∈ (List.range p).filter fun (a : Nat) => decide ((p : Int) ^ (i + 1) ∣ (f + a * (p : Int) ^ i) * b - x.num) := List.mem_filter.mpr ⟨List.mem_range.mpr hd, decide_eq_true good⟩
        cases hfl : (List.range p).filter fun (a : Nat) => decide ((p : Int) ^ (i + 1) ∣ (f + a * (p : Int) ^ i) * b - x.num) with
        | nil => rw [hfl] at mem; cases mem
        | cons a t =>
          have hma : a ∈ (List.range p).filter fun (a : Nat) => decide ((p : Int) ^ (i + 1) ∣ (f + a * (p : Int) ^ i) * b - x.num) := by rw [hfl]; exact List.mem_cons_self
          obtain ⟨h1, h2⟩ := List.mem_filter.mp hma
          have ha := List.mem_range.mp h1
          have h3 := of_decide_eq_true h2
          refine Wr_ok.mpr ⟨_, _, _, rfl, rfl, ixD_head (List.map_cons ..), ?_⟩
          dsimp only
          rw [Ws_cons, Ws_asg]
          simp [mu, Ws_nil]
          have nn : 0 ≤ (a : Int) * (p : Int) ^ i := Int.mul_nonneg (by omega) (by omega)
          refine ⟨f + a * (p : Int) ^ i, _, _, rfl, rfl, rfl, by omega, ?_, h3⟩
          rw [Int.pow_succ]
          have : ((a : Int) + 1) * (p : Int) ^ i ≤ (p : Int) * (p : Int) ^ i := Int.mul_le_mul_of_nonneg_right (by omega) (by omega)
          grind
    · rintro σ L S' ⟨f, w7, w8, rfl, rfl, rfl, h⟩
      rw [hlen] at h
      exact ⟨f, _, _, _, rfl, rfl, rfl, h⟩
  · rintro σ L S' ⟨f, w5, w7, w8, rfl, rfl, rfl, f0, f1, f2⟩
    have ll := Lg.pow hp.le lim
    have e3 := hl f ((p : Int) ^ out) S' (by omega) (bl_le8 (ll.le (by omega)) (by omega)) (bl_le8 lo (by omega))
    have r : IsRest p k x (f * P p (-(out : Int))) := by
      rcases Int.le_total 0 (k + out) with h | h
      · refine rest_mk hp.pr hb.eq hb.un (by omega : (lim : Int) = k + out) f0 f1 ?_
        obtain ⟨c, hc⟩ := f2
        exact ⟨-c, by grind⟩
      · have l0 : lim = 0 := by omega
        subst l0
        rw [Int.pow_zero] at f1
        have : f = 0 := by omega
        subst this
        rw [show ((0 : Int) : Rat) = 0 from rfl, Rat.zero_mul]
        exact rest_0 hp.pr hb.eq hb.un h
    rw [P_low hp.pr, rest_eq hp.pr r] at e3
    simp only [Ws_nil, Ws_cons, Ws_ret]
    simp [w2, e3]
end Pd
end
section
set_option Elab.async false
set_option linter.all false
set_option maxRecDepth 100000
set_option maxHeartbeats 4000000
set_option autoImplicit false
namespace Pd
open PySem PySem.Spec Dk
theorem vp_bl {p : Nat} (hp : Pr p) {n : Int} (h : n ≠ 0) : vp p n ≤ bl n := by
  obtain ⟨e, m, h1, h2⟩ := split hp _ n (Nat.le_refl _) h
  rw [vp_eq hp (Vl.of_int hp h1 h2)]
  have l := (Lg.bl n).h
  have e1 : (2 : Nat) ^ e ≤ p ^ e := Nat.pow_le_pow_left hp.two e
  have e2 : p ^ e ≤ n.natAbs := by
    rw [h1, Int.natAbs_mul, Int.natAbs_pow, Int.natAbs_natCast]
    refine Nat.le_mul_of_pos_left _ ?_
    have := h2.ne
    omega
  have e3 : (2 : Nat) ^ e < 2 ^ bl n := by omega
  have := Nat.le_of_lt ((Nat.pow_lt_pow_iff_right (by decide)).mp e3)
  omega
theorem vp_sz {p : Nat} (hp : Pr p) {x : Rat} (h : x ≠ 0) : (vp p x).natAbs ≤ sz x := by
  have h1 := vp_bl hp (num0 h)
  have h2 := vp_bl hp (den0 x)
  have h3 := vp_int hp (num0 h)
  have h4 := vp_int hp (den0 x)
  have e := vp_num_den hp h
  rw [e]
  unfold sz
  omega
def UnitF (f : Fn) : Prop := ∀ (p : Nat) (x : Rat) (S : Src), Pp p → x ≠ 0 → sz x ≤ 500 → f [.d (.int p), .d (fr x)] S = .ok (fr (x / P p (vp p x))) [] S
theorem unit_of {Δ : Tb} (ho : OverF (Δ "ratios_over")) (hw : PowF (Δ "power_of")) (hi : PiF (Δ "power_in")) : UnitF (mean Δ 2 2 b_unit_of) := by
  intro p x S hp hx hs
  refine mean_eq (n := 0) ⟨rfl, rfl⟩ ?_
  unfold b_unit_of
  have e1 := hi p x S hp
  rw [vD1 hx] at e1
  have v := vp_sz hp.pr hx
  have e2 := hw p (vp p x) S hp (by omega)
  have s2 := sz_P hp (vp p x)
  have e3 := ho x (P p (vp p x)) S (P_ne hp.pr _) (by omega)
  simp only [Ws_nil, Ws_cons, Ws_ret]
  simp [e1, e2, e3]
theorem lawin_of {Δ : Tb} (h : ManyF (Δ "_law_often")) : PiF (mean Δ 2 2 b__law_in) := by
  intro p x S hp
  refine mean_eq (n := 0) ⟨rfl, rfl⟩ ?_
  unfold b__law_in
  simp only [Ws_nil, Ws_cons, Ws_ret]
  by_cases hx : x = 0
  · subst hx
    simp [Wr_ite, vD0]
  · have e1 := h p x.num S hp (num0 hx)
    have e2 := h p x.den S hp (den0 x)
    have ev := vp_num_den hp.pr hx
    have n0 := num0 hx
    simp [Wr_ite, n0, hx, e1, e2, vD1 hx, ev]
/-! ## what is a fraction -/
def whl_ : PyData → Bool
  | .int _ => true
  | _ => false
def WhoF (f : Fn) : Prop := ∀ (v : PyData) (S : Src), f [.d v] S = .ok (.bool (whl_ v)) [] S
theorem whole_of {Δ : Tb} : WhoF (mean Δ 1 1 b_is_whole) := by
  intro v S
  refine mean_eq (n := 0) ⟨rfl, rfl⟩ ?_
  unfold b_is_whole
  simp only [Ws_cons, Ws_nil, Ws_ret]
  cases v <;> simp [isTy, whl_, Wr_ite]
def isr : PyData → Bool
  | .tuple [.int t, .int b] => decide (0 < b) && decide (Nat.gcd t.natAbs b.natAbs = 1)
  | _ => false
theorem isr_fr (x : Rat) : isr (fr x) = true := by
  unfold fr isr
  have := x.den_pos
  have r := x.reduced
  have r2 : Nat.gcd x.num.natAbs x.den = 1 := r
  simp [r2]
  omega
def IsrF (f : Fn) : Prop := ∀ (v : PyData) (S : Src), (∀ xs, v = .tuple xs → xs.length ≤ 1000) → (∀ t b, v = .tuple [.int t, .int b] → bl t ≤ 8000 ∧ bl b ≤ 8000) → f [.d v] S = .ok (.bool (isr v)) [] S
theorem whl_int {x : PyData} (h : whl_ x = true) : ∃ i : Int, x = .int i := by
  cases x <;> first | exact ⟨_, rfl⟩ | cases h
theorem isr_no {xs : List PyData} (h : ¬ ∃ t b : Int, xs = [.int t, .int b]) : isr (.tuple xs) = false := by
  unfold isr
  split
  · rename_i e
    injection e with e
    exact absurd ⟨_, _, e⟩ h
  · rfl
theorem shp_2 {t b : Int} : SeqAt.shaped (.tuple [.int t, .int b]) = true := (Shp.tuple (n := 0) fun d hd => by
  simp at hd
  rcases hd with rfl | rfl <;> exact Shp.int).ok (by decide)
theorem eqD_fr2 {x : Rat} {t b : Int} : opC .eq (fr x) (.tuple [.int t, .int b]) = some (decide (x.num = t) && decide ((x.den : Int) = b)) := by
  show eqD (fr x) (.tuple [.int t, .int b]) = _
  unfold eqD
  rw [if_pos ⟨(shp_fr (n := 0) x).ok (by decide), shp_2⟩]
  simp only [fr, PyData.eqv, PyData.eqvAll, Bool.and_true]
  rfl
theorem isr_of {Δ : Tb} (hw : WhoF (Δ "is_whole")) (hl : LowF (Δ "ratio_low")) : IsrF (mean Δ 1 2 b_is_ratio) := by
  intro v S hlen hsz
  refine mean_eq (n := 0) ⟨rfl, rfl⟩ ?_
  unfold b_is_ratio
  by_cases ht : ∃ xs, v = .tuple xs
  · obtain ⟨xs, rfl⟩ := ht
    rw [Ws_cons, Ws_if]
    by_cases h2 : xs.length = 2
    · obtain ⟨a, b, rfl⟩ : ∃ a b, xs = [a, b] := by
        match xs, h2 with
        | [a, b], _ => exact ⟨a, b, rfl⟩
      simp [isTy, viewAll, opF, turns, bindT, wipeW, hw _ S, sizeLine, blsOf]
      by_cases hab : whl_ a = true ∧ whl_ b = true
      · obtain ⟨k1, k2⟩ := hab
        obtain ⟨t, rfl⟩ := whl_int k1
        obtain ⟨b, rfl⟩ := whl_int k2
        obtain ⟨l1, l2⟩ := hsz t b rfl
        simp [whl_, Ws_nil]
        simp only [Ws_cons, Ws_ret]
        simp
        by_cases hb : 0 < b
        · have e := hl t b S (by omega) l1 l2
          simp [hb, e, eqD_fr2]
          obtain ⟨n1, n2⟩ := low_num (t := t) (b := b) (by omega)
          rw [if_pos hb] at n1 n2
          have g0 := gcd_ne (t := t) (b := b) (by omega)
          unfold isr
          dsimp only
          rw [n1, n2, decide_eq_true hb, Bool.true_and]
          by_cases hg : Nat.gcd t.natAbs b.natAbs = 1
          · rw [decide_eq_true hg, show ((Nat.gcd t.natAbs b.natAbs : Nat) : Int) = 1 by omega]
            simp
          · rw [decide_eq_false hg]
            have d2 : ((Nat.gcd t.natAbs b.natAbs : Nat) : Int) ∣ b := Int.ofNat_dvd_left.mpr (Nat.gcd_dvd_right _ _)
            have gp : 1 < ((Nat.gcd t.natAbs b.natAbs : Nat) : Int) := by omega
            generalize ((Nat.gcd t.natAbs b.natAbs : Nat) : Int) = g at *
            obtain ⟨c, rfl⟩ := d2
            rw [Int.mul_fdiv_cancel_left _ g0]
            have c0 : 0 < c := by
              rcases Int.lt_or_le 0 c with l | l
              · exact l
              · have := Int.mul_le_mul_of_nonneg_left l (show 0 ≤ g by omega)
                omega
            have c1 : ¬ c = g * c := by
              have := Int.mul_le_mul_of_nonneg_right (show 2 ≤ g by omega) (show 0 ≤ c by omega)
              omega
            rw [decide_eq_false c1, Bool.and_false]
        · simp [hb, isr]
      · have h3 : (whl_ a && whl_ b) = false := by
          cases ha : whl_ a <;> cases hb : whl_ b <;> simp_all
        have hn : isr (.tuple [a, b]) = false := isr_no fun ⟨t, b', e⟩ => hab (by
          injection e with e1 e2
          injection e2 with e2 _
          subst e1 e2
          exact ⟨rfl, rfl⟩)
        cases ha : whl_ a <;> cases hb : whl_ b <;> simp_all [Ws_nil, Ws_cons, Ws_ret]
    · have hn : isr (.tuple xs) = false := isr_no fun ⟨t, b, e⟩ => h2 (by rw [e]; rfl)
      have h3 : ¬ ((xs.length : Int) = 2) := by omega
      simp [isTy, viewAll, opF, h3, Ws_nil]
      simp only [Ws_nil, Ws_cons, Ws_ret]
      simp [hn]
  · have e1 : isTy .tuple v = false ∧ isr v = false := by
      cases v <;> first | exact ⟨rfl, rfl⟩ | exact absurd ⟨_, rfl⟩ ht
    rw [Ws_cons, Ws_if]
    simp [e1.1]
    simp only [Ws_nil, Ws_cons, Ws_ret]
    simp [e1.2]
end Pd
end
section
set_option Elab.async false
set_option linter.all false
set_option maxRecDepth 100000
set_option maxHeartbeats 4000000
set_option autoImplicit false
namespace Pd
open PySem PySem.Spec Dk
/-! ## texts -/
structure Rk (n m : Nat) (d : PyData) : Prop where
  sh : Shn n d
  w : wt d ≤ m
theorem Rk.ok {n m : Nat} {d : PyData} (h : Rk n m d) (hn : n ≤ 64 ∧ m ≤ 16777216) : reprOk d = true := h.sh.ok hn.1 (Nat.le_trans h.w (by unfold sizeLine; exact hn.2))
theorem Lg.rep {n : Nat} {i : Int} (h : Lg n i) (hn : n ≤ 1900) : i.natAbs < 2 ^ 1920 := Nat.lt_of_lt_of_le h.h (Nat.pow_le_pow_right (by decide) (by omega))
theorem rk_int {n : Nat} {i : Int} (h : bl i ≤ 1900) : Rk n 2000 (.int i) := ⟨Shn.int ((Lg.bl i).rep h), by show 1921 ≤ 2000; decide⟩
theorem Shn.up {n m : Nat} {d : PyData} (h : Shn n d) (hm : n ≤ m) : Shn m d := ⟨h.sh, h.nd, Nat.le_trans h.dp hm⟩
theorem Rk.up {n m a b : Nat} {d : PyData} (h : Rk n a d) (hn : n ≤ m) (ab : a ≤ b) : Rk m b d := ⟨Shn.up h.sh hn, Nat.le_trans h.w ab⟩
theorem rk_list {n m l : Nat} {ds : List PyData} (h : ∀ d ∈ ds, Rk n m d) (hl : ds.length ≤ l) : Rk (n + 1) (l * (m + 2) + 3) (.list ds) := by
  refine ⟨Shn.list (ShnA.of fun d hd => (h d hd).sh), ?_⟩
  have := wtAll_le (m := m) fun d hd => (h d hd).w
  have h2 : ds.length * (m + 2) ≤ l * (m + 2) := Nat.mul_le_mul_right _ hl
  show 2 + wtAll ds ≤ _
  omega
theorem rk_tup {n m l : Nat} {ds : List PyData} (h : ∀ d ∈ ds, Rk n m d) (hl : ds.length ≤ l) : Rk (n + 1) (l * (m + 2) + 3) (.tuple ds) := by
  refine ⟨Shn.tuple (ShnA.of fun d hd => (h d hd).sh), ?_⟩
  have := wtAll_le (m := m) fun d hd => (h d hd).w
  have h2 : ds.length * (m + 2) ≤ l * (m + 2) := Nat.mul_le_mul_right _ hl
  show 3 + wtAll ds ≤ _
  omega
theorem rk_bool {n : Nat} (b : Bool) : Rk n 2000 (.bool b) := ⟨⟨rfl, rfl, Nat.zero_le _⟩, by show 5 ≤ 2000; decide⟩
theorem rk_none {n : Nat} : Rk n 2000 .none := ⟨⟨rfl, rfl, Nat.zero_le _⟩, by show 4 ≤ 2000; decide⟩
theorem bl_num (x : Rat) : bl x.num ≤ sz x := Nat.le_add_right _ _
theorem bl_den (x : Rat) : bl (x.den : Int) ≤ sz x := Nat.le_add_left _ _
theorem rk_fr {x : Rat} (h : sz x ≤ 1900) : Rk 1 5000 (fr x) := (rk_tup (n := 0) (m := 2000) (l := 2) (ds := [.int x.num, .int x.den]) (fun d hd => by
  simp at hd
  rcases hd with rfl | rfl
  · exact rk_int (Nat.le_trans (bl_num x) h)
  · exact rk_int (Nat.le_trans (bl_den x) h)) (Nat.le_refl 2)).up (Nat.le_refl 1) (by decide)
theorem rk_pl {k : Int} {x : Rat} (hk : bl k ≤ 1900) (h : sz x ≤ 1900) : Rk 2 11000 (pl k x) := (rk_tup (n := 1) (m := 5000) (l := 2) (ds := [.int k, fr x]) (fun d hd => by
  simp at hd
  rcases hd with rfl | rfl
  · exact (rk_int (n := 0) hk).up (by decide) (by decide)
  · exact rk_fr h) (Nat.le_refl 2)).up (Nat.le_refl 2) (by decide)
theorem rk_vD {p : Nat} (hp : Pr p) {x : Rat} (h : sz x ≤ 1000) : Rk 0 2000 (vD p x) := by
  by_cases hx : x = 0
  · subst hx
    rw [vD0]
    exact rk_none
  · rw [vD1 hx]
    have := vp_sz hp hx
    refine rk_int ?_
    have : bl (vp p x) ≤ 1001 := by
      refine bl_le ⟨?_⟩ (by decide)
      exact Nat.lt_of_le_of_lt this (Nat.lt_of_lt_of_le (by omega : sz x < 1001) (Nat.le_of_lt Nat.lt_two_pow_self))
    omega
theorem bl_small {i : Int} (h : i.natAbs < 2 ^ 60) : bl i ≤ 60 := bl_le ⟨h⟩ (by decide)
theorem opB_pow {a e : Int} (h : 0 ≤ e ∧ e.natAbs ≤ 1000000 ∧ a.natAbs < 2 ^ 64) : opB .pow (.int a) (.int e) = some (.int (a ^ e.toNat)) := if_pos h
theorem opC_neb (a b : Bool) : opC .ne (.bool a) (.bool b) = some (a != b) := by cases a <;> cases b <;> decide
theorem opC_eqb (a b : Bool) : opC .eq (.bool a) (.bool b) = some (a == b) := by cases a <;> cases b <;> decide
end Pd
end
section
set_option Elab.async false
set_option linter.all false
set_option maxRecDepth 100000
set_option maxHeartbeats 4000000
set_option autoImplicit false
namespace Pd
open PySem PySem.Spec Dk
/-! ## places -/
def NameF (f : Fn) : Prop := ∀ (p : Nat) (k : Int) (x : Rat) (S : Src), Pp p → k.natAbs ≤ 1000 → sz x ≤ 1000 → f [.d (.int p), .d (.int k), .d (fr x)] S = .ok (pl k (rest p k x)) [] S
def UpF (f : Fn) : Prop := ∀ (p : Nat) (k : Int) (x : Rat) (j : Int) (S : Src), Pp p → j.natAbs ≤ 1000 → sz x ≤ 1000 → f [.d (.int p), .d (pl k x), .d (.int j)] S = .ok (pl j (rest p j x)) [] S
theorem name_of {Δ : Tb} (h : RestF (Δ "rest_of")) : NameF (mean Δ 3 3 b_place_named) := by
  intro p k x S hp hk hx
  refine mean_eq (n := 0) ⟨rfl, rfl⟩ ?_
  unfold b_place_named
  have e := h p x k S hp hk hx
  simp only [Ws_nil, Ws_cons, Ws_ret]
  simp [e, sizeLine, pl]
theorem up_of {Δ : Tb} (h : NameF (Δ "place_named")) : UpF (mean Δ 3 3 b_upward) := by
  intro p k x j S hp hk hx
  refine mean_eq (n := 0) ⟨rfl, rfl⟩ ?_
  unfold b_upward
  have e := h p j x S hp hk hx
  simp only [Ws_nil, Ws_cons, Ws_ret]
  simp [e]
/-! ## how often, the law's way -/
structure ObI (p : Nat) (x : Rat) (S0 : Src) (i : Nat) (σ : List W) (L : Lo) (S : Src) : Prop where
  ex : ∃ (w3 w4 w5 : W) (m : Int), σ = [.d (.int p), .d (fr x), .d (.int m), w3, w4, w5] ∧ L = [] ∧ S = S0 ∧ (i = 0 → m = 0) ∧ (i = 1 → m = vp p x.num) ∧ (i = 2 → m = vp p x)
theorem vp_abs {p : Nat} (hp : Pr p) {n : Int} (h : n ≠ 0) : vp p (absI n : Int) = vp p n := by
  unfold absI
  split
  · rw [Rat.intCast_neg, vp_neg hp]
    exact fun z => h (Rat.intCast_eq_zero_iff.mp z)
  · rfl
theorem oftenB_of {Δ : Tb} : PiF (mean Δ 2 6 b__law_often_b) := by
  intro p x S hp
  have pz : (p : Int) ≠ 0 := by have := hp.pos; omega
  obtain ⟨N, hN⟩ : ∃ N : Nat, x.num.natAbs + x.den < N := ⟨_, Nat.lt_succ_self _⟩
  refine mean_eq (n := N) ⟨rfl, rfl⟩ ?_
  unfold b__law_often_b
  rw [Ws_cons, Ws_if]
  simp
  by_cases hx : x = 0
  · subst hx
    simp only [Ws_nil, Ws_cons, Ws_ret]
    simp [vD0]
  · have n0 := num0 hx
    simp [n0, hx, Ws_nil]
    rw [Ws_cons, Ws_asg]
    simp
    refine Ws_cut (ObI p x S 2) ?_ ?_
    · rw [Ws_for]
      have s2 : (2 : Nat) ≤ sizeLine := by decide
      simp [s2]
      refine forL_of (ObI p x S) ⟨_, _, _, 0, rfl, rfl, rfl, (fun _ => rfl), (fun h => absurd h (by decide)), (fun h => absurd h (by decide))⟩ ?_ (fun _ _ _ h => h)
      rintro i y σ L S' hi ⟨w3, w4, w5, m, rfl, rfl, rfl, h0, h1, h2⟩
      have body : ∀ (n by_ : Int), n ≠ 0 → n.natAbs < N → ∀ D : Fin4, (∀ w3 w4 w5, D.nx [.d (.int p), .d (fr x), .d (.int (m + vp p n * by_)), w3, w4, w5] [] S') → Ws (execs Δ N (.cons (.asg (.nm 5) (.bf .abs (.cons (.var 3) .nil))) (.cons (.whl (.cmp .eq (.bop .mod (.bf .int (.cons (.var 5) .nil)) (.var 0)) (.int 0)) (.cons (.par 5 2 (.bop .fdiv (.var 5) (.var 0)) (.bop .add (.var 2) (.var 4))) .nil)) .nil)) [.d (.int p), .d (fr x), .d (.int m), .d (.int n), .d (.int by_), w5] [] S') D := by
        intro n b n1 nN D hD
        rw [Ws_cons, Ws_asg]
        simp [viewAll, abs_eq]
        rw [Ws_cons, Ws_whl]
        have ha0 : absI n ≠ 0 := by unfold absI; split <;> omega
        have hab : (absI n).natAbs = n.natAbs := by unfold absI; split <;> omega
        have := many_loop (Δ := Δ) (c := .cmp .eq (.bop .mod (.bf .int (.cons (.var 5) .nil)) (.var 0)) (.int 0)) (e := .bop .add (.var 2) (.var 4)) (i := 5) (j := 2) (k := N) (s := b) (σ0 := [.d (.int p), .d (fr x), .un, .d (.int n), .d (.int b), .un]) (S := S') (D := ⟨fun σ L S => Ws (execs Δ N .nil σ L S) D, D.rt, D.bk, D.ct⟩) hp (by decide) (by simp) (by simp) rfl (by decide) (by decide) (fun n m => by simp [viewAll, opF, opB_mod pz]) (fun n m => by simp) (absI n) m ha0 N (by omega) (fun n' _ => by rw [vp_abs hp.pr n1]; exact hD _ _ _)
        exact this
      match i, hi with
      | 0, hi =>
        have : y = .tuple [.int x.num, .int 1] := by simpa using hi.symm
        subst this
        simp only [bindT, bindTs, Option.bind_some]
        refine body x.num 1 n0 (by omega) _ fun w3 w4 w5 => ⟨_, _, _, _, rfl, rfl, rfl, (fun h => absurd h (by decide)), fun _ => ?_, (fun h => absurd h (by decide))⟩
        rw [h0 rfl]
        omega
      | 1, hi =>
        have : y = .tuple [.int x.den, .int (-1)] := by simpa using hi.symm
        subst this
        simp only [bindT, bindTs, Option.bind_some]
        refine body x.den (-1) (den0 x) (by omega) _ fun w3 w4 w5 => ⟨_, _, _, _, rfl, rfl, rfl, (fun h => absurd h (by decide)), (fun h => absurd h (by decide)), fun _ => ?_⟩
        rw [h1 rfl, vp_num_den hp.pr hx]
        omega
      | i + 2, hi => simp at hi
    · rintro σ L S' ⟨w3, w4, w5, m, rfl, rfl, rfl, h0, h1, h2⟩
      rw [h2 rfl]
      simp only [Ws_nil, Ws_cons, Ws_ret]
      simp [vD1 hx]
end Pd
end
section
set_option Elab.async false
set_option linter.all false
set_option maxRecDepth 100000
set_option maxHeartbeats 4000000
set_option autoImplicit false
namespace Pd
open PySem PySem.Spec Dk
def RestB (f : Fn) : Prop := ∀ (p : Nat) (x : Rat) (k : Int) (S : Src), Pp p → (k.natAbs ≤ 100 ∨ x = 0) → sz x ≤ 200 → f [.d (.int p), .d (fr x), .d (.int k)] S = .ok (fr (rest p k x)) [] S
theorem rest_of0 {p : Nat} (hp : Pr p) (k : Int) : rest p k 0 = 0 := (rest_eq hp (rest_zero hp (.rfl' hp))).symm
theorem vp_rest {p : Nat} (hp : Pr p) {x : Rat} (h : x ≠ 0) {k : Int} (hk : k ≤ vp p x) : IsRest p k x 0 := rest_zero hp ((near_iff hp).mpr (.inr (by rw [show x - 0 = x by grind]; exact hk)))
theorem bl_dig {p d : Nat} (hp : Pp p) (hd : d < p) : sz ((d : Int) : Rat) ≤ 5 := by
  rw [sz_int]
  have : bl (d : Int) ≤ 3 := bl_le ⟨by have := hp.le; omega⟩ (by decide)
  omega
theorem range_at {n : Nat} {v : Int} {i : Nat} {y : PyData} (h : ((List.range n).map fun (a : Nat) => PyData.int (v + (a : Int)))[i]? = some y) : y = .int (v + (i : Int)) := by
  have hl := (List.getElem?_eq_some_iff.mp h).1
  rw [List.length_map, List.length_range] at hl
  rw [List.getElem?_map, List.getElem?_range hl] at h
  exact (Option.some.inj h).symm
theorem range_at0 {n : Nat} {i : Nat} {y : PyData} (h : ((List.range n).map fun (a : Nat) => PyData.int ((0 : Int) + (a : Int)))[i]? = some y) : y = .int (i : Int) := by
  rw [range_at h, Int.zero_add]
structure RbI (p : Nat) (x : Rat) (k v : Int) (S0 : Src) (i : Nat) (σ : List W) (L : Lo) (S : Src) : Prop where
  ex : ∃ (f : Rat) (w5 w6 w7 w8 : W), σ = [.d (.int p), .d (fr x), .d (.int k), .d (.int v), .d (fr f), w5, w6, w7, w8] ∧ L = [] ∧ S = S0 ∧ IsRest p (v + i) x f
structure RbJ (p : Nat) (x : Rat) (k v i : Int) (f : Rat) (S0 : Src) (t : Nat) (σ : List W) (L : Lo) (S : Src) : Prop where
  ex : ∃ (w6 w7 w8 : W), σ = [.d (.int p), .d (fr x), .d (.int k), .d (.int v), .d (fr f), .d (.int i), w6, w7, w8] ∧ L = [] ∧ S = S0 ∧ ∀ d : Nat, d < t → ¬ Nr p (i + 1) x (f + ((d : Int) : Rat) * P p i)
structure RbK (p : Nat) (x : Rat) (k v i : Int) (f : Rat) (S0 : Src) (σ : List W) (L : Lo) (S : Src) : Prop where
  ex : ∃ (w6 w8 : W) (g : Rat), σ = [.d (.int p), .d (fr x), .d (.int k), .d (.int v), .d (fr f), .d (.int i), w6, .d (fr g), w8] ∧ L = [] ∧ S = S0 ∧ IsRest p (i + 1) x g
theorem range_ij {i j : Int} (h : i.natAbs ≤ 10000000 ∧ j.natAbs ≤ 10000000) : rangeD [.int i, .int j] = some ((List.range (j - i).toNat).map fun (k : Nat) => .int (i + (k : Int))) := range_2 ⟨b62_iff.mpr (by omega), b62_iff.mpr (by omega)⟩
theorem restB_of {Δ : Tb} (ho : PiF (Δ "_law_often")) (ht : BinF (fun x y => x * y) (Δ "_law_times")) (hw : PowF (Δ "_law_power")) (ha : BinF (fun x y => x + y) (Δ "_law_plus")) (hs : BinF (fun x y => x - y) (Δ "_law_less")) : RestB (mean Δ 3 9 b__law_rest_b) := by
  intro p x k S hp hk hx
  refine mean_eq (n := 0) ⟨rfl, rfl⟩ ?_
  unfold b__law_rest_b
  have s2 : (2 : Nat) ≤ sizeLine := by decide
  have e1 := ho p x S hp
  rw [Ws_cons, Ws_par]
  simp [e1, s2]
  rw [fr_0, Ws_cons, Ws_if]
  simp
  by_cases x0 : x = 0
  · subst x0
    simp [vD0, isNone]
    simp only [Ws_nil, Ws_cons, Ws_ret]
    simp [rest_of0 hp.pr]
  · replace hk := hk.resolve_right x0
    rw [vD1 x0]
    simp [isNone, Ws_nil]
    have hv := vp_sz hp.pr x0
    generalize hvv : vp p x = v at *
    have r0 : IsRest p v x 0 := vp_rest hp.pr x0 (by omega)
    refine Ws_cut (RbI p x k v S (k - v).toNat) ?_ ?_
    · rw [Ws_for]
      have hr := range_ij (i := v) (j := k) (by omega)
      have hlen : ((List.range (k - v).toNat).map fun (a : Nat) => PyData.int (v + (a : Int))).length = (k - v).toNat := by rw [List.length_map, List.length_range]
      have hat := fun (i : Nat) (y : PyData) => range_at (n := (k - v).toNat) (v := v) (i := i) (y := y)
      generalize ((List.range (k - v).toNat).map fun (a : Nat) => PyData.int (v + (a : Int))) = xs at hr hlen hat
      simp [hr]
      refine forL_of (RbI p x k v S) ⟨0, _, _, _, _, rfl, rfl, rfl, by rw [show v + ((0 : Nat) : Int) = v by omega]; exact r0⟩ ?_ (fun σ L S h => by rw [hlen] at h; exact h)
      rintro i y σ L S' hy ⟨f, w5, w6, w7, w8, rfl, rfl, rfl, hf⟩
      have hi := (List.getElem?_eq_some_iff.mp hy).1
      rw [hat i y hy]
      simp only [bindT]
      have hfe := rest_eq hp.pr hf
      have zf := sz_rest hp (v + i) x
      rw [← hfe] at zf
      generalize hj : v + (i : Int) = j at *
      refine Ws_cut (RbK p x k v j f S') ?_ ?_
      · rw [Ws_for]
        have hrp := range_N (e := p) (by have := hp.le; omega)
        have hlp := len_0 p
        have hap := fun (i : Nat) (y : PyData) => range_at0 (n := p) (i := i) (y := y)
        generalize ((List.range p).map fun (a : Nat) => PyData.int ((0 : Int) + (a : Int))) = ys at hrp hlp hap
        simp [hrp]
        refine forL_of (RbJ p x k v j f S') ⟨_, _, _, rfl, rfl, rfl, fun d hd => absurd hd (Nat.not_lt_zero d)⟩ ?_ ?_
        · rintro t z σ L S2 hz ⟨w6, w7, w8, rfl, rfl, rfl, hno⟩
          have htp := (List.getElem?_eq_some_iff.mp hz).1
          rw [hap t z hz]
          simp only [bindT]
          rw [hlp] at htp
          have sd := bl_dig hp htp
          have sP := sz_P hp j
          have sm := sz_mul ((t : Int) : Rat) (P p j)
          have sa := sz_add f ((t : Int) * P p j)
          have g1 := hw p j S2 hp (by omega)
          have g2 := ht ((t : Int) : Rat) (P p j) S2 (by omega)
          have g3 := ha f ((t : Int) * P p j) S2 (by omega)
          have g4 := hs x (f + (t : Int) * P p j) S2 (by omega)
          have g5 := ho p (x - (f + (t : Int) * P p j)) S2 hp
          rw [Ws_cons, Ws_asg]
          simp [g1, s2, fr_int, g2, g3]
          rw [Ws_cons, Ws_asg]
          simp [g4, g5]
          rw [Ws_cons, Ws_if]
          have ni := near_iff hp.pr (k := j + 1) (x := x) (y := f + (t : Int) * P p j)
          by_cases hg : Nr p (j + 1) x (f + (t : Int) * P p j)
          · have good := rest_digit hp.pr hf htp hg
            by_cases hz0 : x = f + (t : Int) * P p j
            · have e0 : vD p (x - (f + (t : Int) * P p j)) = .none := by rw [show x - (f + (t : Int) * P p j) = 0 by grind]; exact vD0
              simp [e0, isNone]
              exact ⟨_, _, _, rfl, rfl, rfl, good⟩
            · have e0 : vD p (x - (f + (t : Int) * P p j)) = .int (vp p (x - (f + (t : Int) * P p j))) := vD1 (by grind)
              have e9 := (ni.mp hg).resolve_left hz0
              have e8 : j < vp p (x - (f + (t : Int) * P p j)) := by omega
              simp [e0, isNone, e8]
              exact ⟨_, _, _, rfl, rfl, rfl, good⟩
          · have hz0 : x ≠ f + (t : Int) * P p j := fun z => hg (ni.mpr (.inl z))
            have e0 : vD p (x - (f + (t : Int) * P p j)) = .int (vp p (x - (f + (t : Int) * P p j))) := vD1 (by grind)
            have e8 : ¬ j < vp p (x - (f + (t : Int) * P p j)) := fun z => hg (ni.mpr (.inr (by omega)))
            simp [e0, isNone, e8, Ws_nil]
            refine ⟨_, _, _, rfl, rfl, rfl, fun d hd => ?_⟩
            rcases Nat.lt_succ_iff_lt_or_eq.mp hd with h | h
            · exact hno d h
            · rw [h]
              exact hg
        · rintro σ L S2 ⟨w6, w7, w8, rfl, rfl, rfl, hno⟩
          rw [hlp] at hno
          obtain ⟨d, hd, hg⟩ := digit_at hp.pr hf.nr
          exact absurd hg (hno d hd)
      · rintro σ L S2 ⟨w6, w8, g, rfl, rfl, rfl, hg⟩
        rw [Ws_cons, Ws_asg]
        simp [Ws_nil]
        exact ⟨g, _, _, _, _, rfl, rfl, rfl, by rw [show v + ((i + 1 : Nat) : Int) = j + 1 by omega]; exact hg⟩
    · rintro σ L S' ⟨f, w5, w6, w7, w8, rfl, rfl, rfl, hf⟩
      simp only [Ws_nil, Ws_cons, Ws_ret]
      have : f = rest p k x := by
        rcases Int.le_total v k with h | h
        · rw [show v + ((k - v).toNat : Int) = k by omega] at hf
          exact rest_eq hp.pr hf
        · rw [show v + ((k - v).toNat : Int) = v by omega] at hf
          have a := hf.unique hp.pr r0 (.rfl' hp.pr)
          rw [a]
          exact rest_eq hp.pr (vp_rest hp.pr x0 (by omega))
      simp [this]
end Pd
end
section
set_option Elab.async false
set_option linter.all false
set_option maxRecDepth 100000
set_option maxHeartbeats 4000000
set_option autoImplicit false
namespace Pd
open PySem PySem.Spec Dk
def BelF (f : Fn) : Prop := ∀ (p : Nat) (n m : Int) (S : Src), Pp p → 1 ≤ n → m.natAbs ≤ 3000 → f [.d (.int p), .d (.int n), .d (.int m)] S = .ok (.bool (decide (0 ≤ m ∧ n < (p : Int) ^ m.toNat))) [] S
theorem bel_of {Δ : Tb} (hw : WpF (Δ "whole_power")) : BelF (mean Δ 3 3 b_is_below_power) := by
  intro p n m S hp hn hm
  refine mean_eq (n := 0) ⟨rfl, rfl⟩ ?_
  unfold b_is_below_power
  have hbb : Builtin.Int.intBits n = n.natAbs.log2 + 1 := by
    unfold Builtin.Int.intBits
    rw [if_neg (by simp; omega)]
  have hb : n < 2 ^ (Builtin.Int.intBits n : Nat) := by
    rw [hbb]
    have := Nat.lt_log2_self (n := n.natAbs)
    have e : ((2 ^ (n.natAbs.log2 + 1) : Nat) : Int) = 2 ^ (n.natAbs.log2 + 1) := Int.natCast_pow 2 _
    omega
  have hb1 : 1 ≤ (Builtin.Int.intBits n : Nat) := by rw [hbb]; omega
  rw [Ws_cons, Ws_if]
  simp
  generalize (Builtin.Int.intBits n : Nat) = q at *
  by_cases h : (q : Int) ≤ m
  · obtain ⟨e, rfl⟩ := Int.eq_ofNat_of_zero_le (show 0 ≤ m by omega)
    have h1 : ((2 : Nat) : Int) ^ q ≤ (p : Int) ^ e := by
      rw [← Int.natCast_pow, ← Int.natCast_pow]
      have a := Nat.pow_le_pow_left hp.pr.two q
      have b := Nat.pow_le_pow_right (show 0 < p by have := hp.pr.two; omega) (show q ≤ e by omega)
      omega
    have h2 : n < (p : Int) ^ e := by
      have : ((2 : Nat) : Int) ^ q = 2 ^ q := rfl
      omega
    simp only [Ws_nil, Ws_cons, Ws_ret]
    simp [h, h2]
  · simp [h, Ws_nil]
    by_cases h0 : 0 ≤ m
    · obtain ⟨e, rfl⟩ := Int.eq_ofNat_of_zero_le h0
      have e1 := hw p e S hp.le (by omega)
      simp only [Ws_nil, Ws_cons, Ws_ret]
      simp [e1]
    · simp only [Ws_nil, Ws_cons, Ws_ret]
      simp [h0]
noncomputable def cdec (q : Prop) : Bool := @decide q (Classical.propDecidable q)
theorem cdec_t {q : Prop} (h : q) : cdec q = true := @decide_eq_true q (Classical.propDecidable q) h
theorem cdec_f {q : Prop} (h : ¬ q) : cdec q = false := @decide_eq_false q (Classical.propDecidable q) h
/-- what is a place -/
noncomputable def isp (p : Nat) (v : PyData) : Bool := cdec (∃ k x, v = pl k x ∧ rest p k x = x)
theorem pl_inj {j k : Int} {x y : Rat} (h : pl j x = pl k y) : j = k ∧ x = y := by
  injection h with h
  injection h with h1 h2
  injection h2 with h2 _
  injection h1 with h1
  exact ⟨h1, fr_inj h2⟩
theorem isp_pl {p : Nat} {k : Int} {x : Rat} : isp p (pl k x) = decide (rest p k x = x) := by
  unfold isp
  by_cases h : rest p k x = x
  · rw [decide_eq_true h]
    exact cdec_t ⟨k, x, rfl, h⟩
  · rw [decide_eq_false h]
    refine cdec_f fun ⟨j, y, h1, h2⟩ => h ?_
    obtain ⟨rfl, rfl⟩ := pl_inj h1
    exact h2
theorem isp_no {p : Nat} {v : PyData} (h : ∀ k x, v ≠ pl k x) : isp p v = false := by
  unfold isp
  exact cdec_f fun ⟨k, x, e, _⟩ => h k x e
theorem isr_iff {b : PyData} (h : isr b = true) : ∃ x : Rat, b = fr x := by
  unfold isr at h
  split at h
  · rename_i t c
    simp at h
    exact ⟨Rat.divInt t c, (fr_low h.2 h.1).symm⟩
  · cases h
structure Gv (v : PyData) : Prop where
  l1 : ∀ xs, v = .tuple xs → xs.length ≤ 1000
  l2 : ∀ a xs, v = .tuple [a, .tuple xs] → xs.length ≤ 1000
  s : ∀ a t c, v = .tuple [a, .tuple [.int t, .int c]] → bl t + bl c ≤ 200
  k : ∀ k t c, v = .tuple [.int k, .tuple [.int t, .int c]] → k.natAbs ≤ 100 ∨ t = 0
  sh : ∀ a b c, v = .tuple [a, .tuple [b, c]] → Shp 3 a ∧ Shp 3 b ∧ Shp 3 c
def IspF (f : Fn) : Prop := ∀ (p : Nat) (v : PyData) (S : Src), Pp p → Gv v → f [.d (.int p), .d v] S = .ok (.bool (isp p v)) [] S
theorem Bot.fr1 {p : Nat} (hp : Pp p) {x : Rat} {out : Nat} {b : Int} (h : Bot p x out b) : (x.den : Int) = (p : Int) ^ out ↔ Fr p x := by
  have pp := pow_pos' hp.pr out
  constructor
  · intro e
    have b1 : b = 1 := by
      have h1 := h.den
      rw [e] at h1
      have : (1 : Int) * (p : Int) ^ out = b * (p : Int) ^ out := by rw [Int.one_mul]; exact h1
      exact (Int.eq_of_mul_eq_mul_right (by omega) this).symm
    refine ⟨x.num, out, ?_⟩
    have := h.eq
    rw [b1, show ((1 : Int) : Rat) = 1 from rfl, Rat.one_mul] at this
    exact this
  · rintro ⟨m, e, hm⟩
    have hq := h.eq
    -- num * p^e = m * (b * p^out)
    have q : ((x.num * (p : Int) ^ e : Int) : Rat) = ((m * (b * (p : Int) ^ out) : Int) : Rat) := by
      simp only [Rat.intCast_mul, ← P_nat]
      grind
    have q2 := Rat.intCast_inj.mp q
    have cop : Nat.Coprime x.num.natAbs x.den := x.reduced
    have d1 : b ∣ x.num * (p : Int) ^ e := ⟨m * (p : Int) ^ out, by rw [q2]; grind⟩
    have c1 : Nat.Coprime b.natAbs x.num.natAbs := by
      have : b.natAbs ∣ x.den := by
        have : b ∣ (x.den : Int) := ⟨(p : Int) ^ out, h.den⟩
        exact Int.natAbs_dvd_natAbs.mpr this
      exact Nat.Coprime.coprime_dvd_left this cop.symm
    have c2 : Nat.Coprime b.natAbs (p ^ e) := Nat.Coprime.pow_right e (h.un.cop hp.pr).symm
    have d2 : b.natAbs ∣ x.num.natAbs * p ^ e := by
      have := Int.natAbs_dvd_natAbs.mpr d1
      rw [Int.natAbs_mul, Int.natAbs_pow, Int.natAbs_natCast] at this
      exact this
    have d3 := Nat.Coprime.dvd_of_dvd_mul_left c1 d2
    have d4 := Nat.Coprime.eq_one_of_dvd c2 d3
    have b1 : b = 1 := by have := h.b0; omega
    rw [h.den, b1, Int.one_mul]
theorem isp_num {p : Nat} (hp : Pp p) {k : Int} {x : Rat} (h0 : x ≠ 0) {out : Nat} {b : Int} (h : Bot p x out b) : (rest p k x = x) ↔ 0 < x.num ∧ (x.den : Int) = (p : Int) ^ out ∧ (0 ≤ k + out ∧ x.num < (p : Int) ^ (k + out).toNat) := by
  have n0 := num0 h0
  have key : Fr p x → (x < P p k ↔ ((x.num : Int) : Rat) < P p (k + out)) := fun hf => by
    have e := (h.fr1 hp).mpr hf
    have b1 : b = 1 := by
      have h1 := h.den
      rw [e] at h1
      have pp := pow_pos' hp.pr out
      have : (1 : Int) * (p : Int) ^ out = b * (p : Int) ^ out := by rw [Int.one_mul]; exact h1
      exact (Int.eq_of_mul_eq_mul_right (by omega) this).symm
    have hq := h.eq
    rw [b1, show ((1 : Int) : Rat) = 1 from rfl, Rat.one_mul] at hq
    rw [← hq, P_add hp.pr]
    exact (Rat.mul_lt_mul_right (P_pos hp.pr _)).symm
  constructor
  · intro e
    have r := rest_ok hp.pr k x
    rw [e] at r
    have np : 0 < x.num := by
      have := Rat.num_nonneg.mpr r.nn
      omega
    refine ⟨np, (h.fr1 hp).mpr r.fr, ?_⟩
    have l := (key r.fr).mp r.lt
    rcases Int.lt_or_le (k + out) 0 with c | c
    · exfalso
      have : P p (k + out) ≤ 1 := by
        obtain ⟨m, hm⟩ := Int.eq_ofNat_of_zero_le (show 0 ≤ -(k + out) by omega)
        have pn := P_neg hp.pr (k + out)
        rw [hm, P_nat] at pn
        have p1 : ((1 : Int) : Rat) ≤ (((p : Int) ^ m : Int) : Rat) := Rat.intCast_le_intCast.mpr (by have := pow_pos' hp.pr m; omega)
        have p2 := Rat.mul_le_mul_of_nonneg_left p1 (Rat.le_of_lt (P_pos hp.pr (k + out)))
        rw [pn, show ((1 : Int) : Rat) = 1 from rfl, Rat.mul_one] at p2
        exact p2
      have l2 : ((x.num : Int) : Rat) < ((1 : Int) : Rat) := by
        rw [show ((1 : Int) : Rat) = 1 from rfl]
        grind
      have := Rat.intCast_lt_intCast.mp l2
      omega
    · refine ⟨c, ?_⟩
      obtain ⟨m, hm⟩ := Int.eq_ofNat_of_zero_le c
      rw [hm, P_nat] at l
      rw [hm]
      exact Rat.intCast_lt_intCast.mp l
  · rintro ⟨h1, h2, h3, h4⟩
    have hf := (h.fr1 hp).mp h2
    refine (rest_eq hp.pr ⟨hf, Rat.num_nonneg.mp (by omega), (key hf).mpr ?_, .rfl' hp.pr⟩).symm
    obtain ⟨m, hm⟩ := Int.eq_ofNat_of_zero_le h3
    rw [hm] at h4 ⊢
    rw [P_nat]
    exact Rat.intCast_lt_intCast.mpr h4
theorem isp_of {Δ : Tb} (hw : WhoF (Δ "is_whole")) (hr : IsrF (Δ "is_ratio")) (hm : ManyF (Δ "many_in")) (hpw : WpF (Δ "whole_power")) (hb : BelF (Δ "is_below_power")) : IspF (mean Δ 2 6 b_is_place) := by
  intro p v S hp gv
  refine mean_eq (n := 0) ⟨rfl, rfl⟩ ?_
  unfold b_is_place
  rw [Ws_cons, Ws_if]
  by_cases ht : ∃ xs, v = .tuple xs
  · obtain ⟨xs, rfl⟩ := ht
    by_cases h2 : xs.length = 2
    · obtain ⟨a, b, rfl⟩ : ∃ a b, xs = [a, b] := by
        match xs, h2 with
        | [a, b], _ => exact ⟨a, b, rfl⟩
      have e2 := hr b S (fun ys e => gv.l2 a ys (by rw [e])) (fun t c e => by
        have := gv.s a t c (by rw [e])
        omega)
      simp [isTy, viewAll, opF, hw _ S, e2]
      by_cases hab : whl_ a = true ∧ isr b = true
      · obtain ⟨k1, k2⟩ := hab
        obtain ⟨k, rfl⟩ := whl_int k1
        obtain ⟨x, rfl⟩ := isr_iff k2
        have gs := gv.s _ x.num x.den rfl
        have gk := gv.k k x.num x.den rfl
        simp [k1, k2, Ws_nil]
        rw [Ws_cons, Ws_asgT]
        refine Wr_ok.mpr ⟨_, _, rfl, rfl, ?_⟩
        dsimp only
        rw [Ws_cons, Ws_if]
        rw [show PyData.tuple [.int k, fr x] = pl k x from rfl, isp_pl]
        simp
        by_cases x0 : x = 0
        · subst x0
          simp only [Ws_nil, Ws_cons, Ws_ret]
          simp [rest_of0 hp.pr]
        · have n0 := num0 x0
          simp [n0, x0, Ws_nil]
          obtain ⟨out, c, hbt⟩ := bot_ex hp x
          have e3 := hm p x.den S hp (den0 x)
          rw [hbt.v] at e3
          have ol := hbt.le
          have szx : sz x ≤ 200 := gs
          have kk := gk.resolve_right n0
          have e4 := hpw p out S hp.le (by omega)
          have inum := isp_num hp (k := k) x0 hbt
          rw [Ws_cons, Ws_asg]
          simp [e3]
          simp only [Ws_nil, Ws_cons, Ws_ret]
          by_cases c1 : 0 < x.num
          · have e5 := hb p x.num (k + out) S hp (by omega) (by omega)
            by_cases c2 : (x.den : Int) = (p : Int) ^ out
            · simp [c1, c2, e4, e5, inum]
            · simp [c1, c2, e4, inum]
          · simp [c1, inum]
      · have hn : isp p (.tuple [a, b]) = false := isp_no fun k x e => hab (by
          injection e with e
          injection e with e1 e2
          injection e2 with e2 _
          subst e1 e2
          exact ⟨rfl, isr_fr x⟩)
        have hno : whl_ a = false ∨ isr b = false := by
          cases ha : whl_ a with
          | false => exact .inl rfl
          | true =>
            cases hbb : isr b with
            | false => exact .inr rfl
            | true => exact absurd ⟨ha, hbb⟩ hab
        rcases hno with h | h
        · simp [h]
          simp only [Ws_nil, Ws_cons, Ws_ret]
          simp [hn]
        · simp [h]
          simp only [Ws_nil, Ws_cons, Ws_ret]
          simp [hn]
    · have hn : isp p (.tuple xs) = false := isp_no fun k x e => h2 (by
        injection e with e
        rw [e]
        rfl)
      have h3 : ¬ ((xs.length : Int) = 2) := by omega
      simp [isTy, viewAll, opF, h3, Ws_nil]
      simp only [Ws_nil, Ws_cons, Ws_ret]
      simp [hn]
  · have e1 : isTy .tuple v = false := by
      cases v <;> first | rfl | exact absurd ⟨_, rfl⟩ ht
    have e2 : isp p v = false := isp_no fun k x e => ht ⟨_, e⟩
    simp [e1]
    simp only [Ws_nil, Ws_cons, Ws_ret]
    simp [e2]
end Pd
end
section
set_option Elab.async false
set_option linter.all false
set_option maxRecDepth 100000
set_option maxHeartbeats 4000000
set_option autoImplicit false
namespace Pd
open PySem PySem.Spec Dk
/-! ## drawing -/
def PickF (f : Fn) : Prop := ∀ (S : Src) (m : Int), SrcOk S → 1 ≤ m → m < 18446744073709551616 → ∃ v S', f [.src, .d (.int m)] S = .ok (.int v) [] S' ∧ 0 ≤ v ∧ v < m ∧ SrcOk S'
def OfF (f : Fn) : Prop := ∀ (S : Src) (xs : List PyData), SrcOk S → xs ≠ [] → xs.length ≤ 1000 → ∃ x S', f [.src, .d (.list xs)] S = .ok x [] S' ∧ x ∈ xs ∧ SrcOk S'
theorem pickF_of {Δ : Tb} : PickF (mean Δ 2 4 b_pick) := fun S m h h1 h2 => by
  obtain ⟨x, S', e, ⟨v, rfl, h3, h4⟩, ok⟩ := pick_ok (Δ := Δ) h h1 h2
  exact ⟨v, S', e, h3, h4, ok⟩
theorem ofF_of {Δ Δ' : Tb} (hp : Δ "_law_pick" = mean Δ' 2 4 b_pick) : OfF (mean Δ 2 2 b_of) := fun S xs h h1 h2 => of_ok (Δ := Δ) (Δ' := Δ') hp h h1 (by omega)
def FracF (f : Fn) : Prop := ∀ (p : Nat) (far : Int) (S : Src), Pp p → 0 ≤ far → far ≤ 1000 → SrcOk S → ∃ x S', f [.src, .d (.int p), .d (.int far)] S = .ok (fr x) [] S' ∧ (sz x ≤ 22 ∧ bl (x.den : Int) ≤ 6) ∧ SrcOk S'
theorem fracB_of {Δ : Tb} (hp : PickF (Δ "_law_pick")) (ho : OfF (Δ "_law_of")) (hl : LowF (Δ "_law_low")) : FracF (mean Δ 3 5 b__law_fraction_b) := by
  intro p far S pp f0 f1 hS
  suffices h : ∃ d S', mean Δ 3 5 b__law_fraction_b [.src, .d (.int p), .d (.int far)] S = .ok d [] S' ∧ ((∃ x, d = fr x ∧ sz x ≤ 22 ∧ bl (x.den : Int) ≤ 6) ∧ SrcOk S') by
    obtain ⟨d, S', h1, ⟨x, rfl, h2⟩, h3⟩ := h
    exact ⟨x, S', h1, h2, h3⟩
  refine mean_of (n := 0) ⟨rfl, rfl⟩ ?_
  unfold b__law_fraction_b
  have p7 := pp.le
  have p2 := pp.pr.two
  have m1 : opB .mul (.int 2) (.int far) = some (.int (2 * far)) := opB_mul2 (by decide)
  have m2 : opB .mul (.int p) (.int p) = some (.int (p * p : Int)) := opB_mul2 (by omega)
  have m3 : opB .mul (.int 2) (.int p) = some (.int (2 * p : Int)) := opB_mul2 (by decide)
  have pq : (p * p : Int) ≤ 49 := by
    have := Int.mul_le_mul (show (p : Int) ≤ 7 by omega) (show (p : Int) ≤ 7 by omega) (by omega) (by decide)
    omega
  have pq2 : 4 ≤ (p * p : Int) := by
    have := Int.mul_le_mul (show (2 : Int) ≤ p by omega) (show (2 : Int) ≤ p by omega) (by omega) (by omega)
    omega
  obtain ⟨a, S1, e1, a0, a1, ok1⟩ := hp S (2 * far + 1) hS (by omega) (by omega)
  have s9 : (9 : Nat) ≤ sizeLine := by decide
  have s4 : (4 : Nat) ≤ sizeLine := by decide
  rw [Ws_cons, Ws_asg]
  simp [m1, e1]
  obtain ⟨b, S2, e2, hb, ok2⟩ := ho S1 [.int 1, .int 1, .int 2, .int 3, .int 5, .int 7, .int p, .int (p * p : Int), .int (2 * p : Int)] ok1 (by simp) (show (9 : Nat) ≤ 1000 by decide)
  obtain ⟨c, S3, e3, hc, ok3⟩ := ho S2 [.int 1, .int 1, .int p, .int (p * p : Int)] ok2 (by simp) (show (4 : Nat) ≤ 1000 by decide)
  rw [Ws_cons, Ws_asg]
  simp [m2, m3, s9, e2]
  simp only [Ws_cons, Ws_nil, Ws_ret]
  obtain ⟨b', rfl, b0, b1⟩ : ∃ b' : Int, b = .int b' ∧ 1 ≤ b' ∧ b' ≤ 49 := by
    simp at hb
    rcases hb with rfl | rfl | rfl | rfl | rfl | rfl | rfl | rfl <;> exact ⟨_, rfl, by omega, by omega⟩
  obtain ⟨c', rfl, c0, c1⟩ : ∃ c' : Int, c = .int c' ∧ 1 ≤ c' ∧ c' ≤ 49 := by
    simp at hc
    rcases hc with rfl | rfl | rfl <;> exact ⟨_, rfl, by omega, by omega⟩
  have m4 : opB .mul (.int (a - far)) (.int c') = some (.int ((a - far) * c')) := opB_mul2 (by omega)
  have la : Lg 10 (a - far) := ⟨by omega⟩
  have lc : Lg 6 c' := ⟨by omega⟩
  have lb : Lg 6 b' := ⟨by omega⟩
  have bt := bl_le (la.mul lc) (by decide)
  have bb := bl_le lb (by decide)
  have e4 := hl ((a - far) * c') b' S3 (by omega) (by omega) (by omega)
  have hs := sz_low (t := (a - far) * c') (b := b') (by omega)
  have hd := bl_mono (low_le (t := (a - far) * c') (b := b') (by omega)).2
  simp [m2, s4, e3, m4, e4]
  exact ⟨⟨_, rfl, by omega, by omega⟩, ok3⟩
theorem whl_case (x : PyData) : (!isTy .int x || isTy .bool x) = !whl_ x := by cases x <;> rfl
theorem lisp_of {Δ : Tb} (hl : LowF (Δ "_law_low")) (hr : RestB (Δ "_law_rest")) : IspF (mean Δ 2 4 b__law_is_place) := by
  intro p v S hp gv
  refine mean_eq (n := 0) ⟨rfl, rfl⟩ ?_
  unfold b__law_is_place
  rw [Ws_cons, Ws_if]
  by_cases ht : ∃ a b c, v = .tuple [a, .tuple [b, c]]
  · obtain ⟨a, b, c, rfl⟩ := ht
    obtain ⟨sa, sb, sc⟩ := gv.sh a b c rfl
    simp [isTy, viewAll, opF, Ws_nil]
    have ad : opB .add (.tuple [a]) (.tuple [b, c]) = some (.tuple [a, b, c]) := add_tups (xs := [a]) (ys := [b, c]) (show 1 + 2 ≤ sizeLine by decide)
    have s1 : (1 : Nat) ≤ sizeLine := by decide
    rw [Ws_cons, Ws_asg]
    simp [s1, ad]
    rw [Ws_cons, Ws_if]
    simp only [evT, Wr_bind]
    refine Wr_lcF (l := [a, b, c]) id (fun x => !whl_ x) id rfl (show (3 : Nat) ≤ sizeLine by decide) (fun x _ => ?_) (fun x _ _ => rfl) ?_
    · have := whl_case x
      simp
      cases hi : isTy .int x <;> simp_all
    · have so : SeqAt.shaped (.list (([a, b, c].filter fun x => !whl_ x).map id)) = true := (Shp.list (n := 3) fun d hd => by
        rw [List.map_id] at hd
        have := (List.mem_filter.mp hd).1
        simp at this
        rcases this with rfl | rfl | rfl <;> assumption).ok (by decide)
      have hA : whl_ a = true ∧ whl_ b = true ∧ whl_ c = true → (([a, b, c].filter fun x => !whl_ x).map id).isEmpty = true := fun ⟨h1, h2, h3⟩ => by
        rw [List.map_id]
        simp [h1, h2, h3]
      have hB : ¬ (whl_ a = true ∧ whl_ b = true ∧ whl_ c = true) → (([a, b, c].filter fun x => !whl_ x).map id).isEmpty = false := fun h => by
        rw [List.map_id]
        cases ha : whl_ a <;> cases hb : whl_ b <;> cases hc : whl_ c <;> simp_all
      generalize (([a, b, c].filter fun x => !whl_ x).map id) = O at so hA hB
      have e0 : opC .ne (.list O) (.list []) = some (!O.isEmpty) := by
        show (eqD _ _).map (!·) = _
        rw [eqD_nil so]
        rfl
      have s0 : (0 : Nat) ≤ sizeLine := by decide
      by_cases hw : whl_ a = true ∧ whl_ b = true ∧ whl_ c = true
      · obtain ⟨k1, k2, k3⟩ := hw
        obtain ⟨k, rfl⟩ := whl_int k1
        obtain ⟨t, rfl⟩ := whl_int k2
        obtain ⟨d, rfl⟩ := whl_int k3
        have gs := gv.s _ t d rfl
        have gk := gv.k k t d rfl
        have hE := hA ⟨rfl, rfl, rfl⟩
        simp [e0, hE, s0]
        by_cases hd : d < 1
        · have hn : isp p (.tuple [.int k, .tuple [.int t, .int d]]) = false := isp_no fun k' x e => by
            injection e with e
            injection e with e1 e2
            injection e2 with e2 _
            have := (fr_num e2.symm).2
            have := x.den_pos
            omega
          simp [hd]
          simp only [Ws_cons, Ws_nil, Ws_ret]
          simp [hn]
        · have e1 := hl t d S (by omega) (by omega) (by omega)
          simp [hd, Ws_nil]
          simp only [Ws_cons, Ws_nil, Ws_ret]
          simp [e1, eqD_fr2]
          by_cases hx : (Rat.divInt t d).num = t ∧ ((Rat.divInt t d).den : Int) = d
          · have ef : PyData.tuple [.int t, .int d] = fr (Rat.divInt t d) := by
              unfold fr
              rw [hx.1, hx.2]
            have zx : sz (Rat.divInt t d) ≤ 200 := by
              unfold sz
              rw [hx.1, hx.2]
              exact gs
            obtain ⟨h1, h2⟩ := hx
            generalize Rat.divInt t d = x at *
            have e2 := hr p x k S hp (by
              rcases gk with h | h
              · exact .inl h
              · refine .inr ?_
                rw [h] at h1
                exact Rat.num_eq_zero.mp h1) zx
            simp [h1, h2]
            rw [ef]
            have : PyData.tuple [.int k, fr x] = pl k x := rfl
            rw [this, isp_pl]
            simp [e2]
          · have hn : isp p (.tuple [.int k, .tuple [.int t, .int d]]) = false := isp_no fun k' x e => hx (by
              injection e with e
              injection e with e1 e2
              injection e2 with e2 _
              obtain ⟨q1, q2⟩ := fr_num e2.symm
              have := Rat.num_divInt_den x
              rw [q1, q2] at this
              rw [this]
              exact ⟨q1, q2⟩)
            have hx2 : (decide ((Rat.divInt t d).num = t) && decide (((Rat.divInt t d).den : Int) = d)) = false := by
              by_cases h1 : (Rat.divInt t d).num = t
              · have h2 : ¬ ((Rat.divInt t d).den : Int) = d := fun z => hx ⟨h1, z⟩
                simp [h1, h2]
              · simp [h1]
            by_cases h1 : (Rat.divInt t d).num = t
            · have h2 : ¬ ((Rat.divInt t d).den : Int) = d := fun z => hx ⟨h1, z⟩
              simp [h1, h2, hn]
            · simp [h1, hn]
      · have hn : isp p (.tuple [a, .tuple [b, c]]) = false := isp_no fun k' x e => hw (by
          injection e with e
          injection e with e1 e2
          injection e2 with e2 _
          injection e2 with e2
          injection e2 with e2 e3
          injection e3 with e3 _
          subst e1 e2 e3
          exact ⟨rfl, rfl, rfl⟩)
        have hE := hB hw
        simp [e0, hE, s0]
        simp only [Ws_cons, Ws_nil, Ws_ret]
        simp [hn]
  · have hn : isp p v = false := isp_no fun k x e => ht ⟨_, _, _, e⟩
    have fin : ∀ (σ : List W) (N : List W → Lo → Src → Prop), Ws (execs Δ 0 (.cons (.ret (.bl false)) .nil) σ [] S) ⟨N, fun x S' => x = .bool (isp p v) ∧ S' = S, fun _ _ _ => False, fun _ _ _ => False⟩ := by
      intro σ N
      simp only [Ws_cons, Ws_nil, Ws_ret]
      simp [hn]
    by_cases h1 : ∃ xs, v = .tuple xs
    · obtain ⟨xs, rfl⟩ := h1
      by_cases h2 : xs.length = 2
      · obtain ⟨a, y, rfl⟩ : ∃ a b, xs = [a, b] := by
          match xs, h2 with
          | [a, b], _ => exact ⟨a, b, rfl⟩
        by_cases h3 : ∃ ys, y = .tuple ys
        · obtain ⟨ys, rfl⟩ := h3
          have h4 : ¬ ((ys.length : Int) = 2) := by
            intro z
            have : ys.length = 2 := by omega
            match ys, this with
            | [b, c], _ => exact ht ⟨a, b, c, rfl⟩
          simp [isTy, viewAll, opF, h4]
          exact fin _ _
        · cases y with
          | tuple ys => exact absurd ⟨_, rfl⟩ h3
          | none => simp [isTy, viewAll, opF]; exact fin _ _
          | bool _ => simp [isTy, viewAll, opF]; exact fin _ _
          | int _ => simp [isTy, viewAll, opF]; exact fin _ _
          | str _ => simp [isTy, viewAll, opF]; exact fin _ _
          | list _ => simp [isTy, viewAll, opF]; exact fin _ _
          | dict _ => simp [isTy, viewAll, opF]; exact fin _ _
      · have h3 : ¬ ((xs.length : Int) = 2) := by omega
        simp [isTy, viewAll, opF, h3]
        exact fin _ _
    · have e1 : isTy .tuple v = false := by
        cases v <;> first | rfl | exact absurd ⟨_, rfl⟩ h1
      simp [e1]
      exact fin _ _
end Pd
end
section
set_option Elab.async false
set_option linter.all false
set_option maxRecDepth 100000
set_option maxHeartbeats 4000000
set_option autoImplicit false
namespace Pd
open PySem PySem.Spec Dk
/-! ## ways -/
theorem min_i (i j : Int) : opF .min2 [.int i, .int j] = some (.int (min i j)) := by
  show some (PyData.int (if j < i then j else i)) = _
  congr 2
  split <;> omega
theorem max_i (i j : Int) : opF .max2 [.int i, .int j] = some (.int (max i j)) := by
  show some (PyData.int (if j > i then j else i)) = _
  congr 2
  split <;> omega
theorem max_2 (i j : Int) : opF .max1 [.tuple [.int i, .int j]] = some (.int (max i j)) := by
  show some (PyData.int (if j > i then j else i)) = _
  congr 2
  split <;> omega
/-- where two places meet -/
noncomputable def mt (p : Nat) (j : Int) (x : Rat) (k : Int) (y : Rat) : Int := if x = y then min j k else min (min j k) (vp p (x - y))
def MeetF (f : Fn) : Prop := ∀ (p : Nat) (j : Int) (x : Rat) (k : Int) (y : Rat) (S : Src), Pp p → sz x + sz y ≤ 3000 → f [.d (.int p), .d (pl j x), .d (pl k y)] S = .ok (.int (mt p j x k y)) [] S
theorem meet_of {Δ : Tb} (hi : PiF (Δ "power_in")) (hl : BinF (fun x y => x - y) (Δ "ratios_less")) : MeetF (mean Δ 3 5 b_meeting) := by
  intro p j x k y S hp hs
  refine mean_eq (n := 0) ⟨rfl, rfl⟩ ?_
  unfold b_meeting
  have e1 := hl x y S (by omega)
  have e2 := hi p (x - y) S hp
  rw [Ws_cons, Ws_asg]
  simp [viewAll, min_i]
  rw [Ws_cons, Ws_asg]
  simp [e1, e2]
  simp only [Ws_cons, Ws_nil, Ws_ret]
  unfold mt
  by_cases h : x = y
  · subst h
    rw [Rat.sub_self, vD0]
    simp [isNone]
  · rw [vD1 (by grind), if_neg h]
    simp [isNone, viewAll, min_i]
theorem mt_iff {p : Nat} (hp : Pr p) {i j k : Int} {x y : Rat} : i ≤ mt p j x k y ↔ i ≤ j ∧ i ≤ k ∧ Nr p i x y := by
  unfold mt
  rw [near_iff hp]
  by_cases h : x = y
  · rw [if_pos h]
    simp only [h, true_or, and_true]
    omega
  · rw [if_neg h]
    simp only [h, false_or]
    omega
theorem mt_comm {p : Nat} (hp : Pr p) {j k : Int} {x y : Rat} : mt p j x k y = mt p k y j x := by
  have h : ∀ i, i ≤ mt p j x k y ↔ i ≤ mt p k y j x := fun i => by
    rw [mt_iff hp, mt_iff hp]
    exact ⟨fun ⟨a, b, c⟩ => ⟨b, a, c.symm⟩, fun ⟨a, b, c⟩ => ⟨b, a, c.symm⟩⟩
  have a := (h _).mp (Int.le_refl _)
  have b := (h _).mpr (Int.le_refl _)
  omega
def StepF (f : Fn) : Prop := ∀ (p : Nat) (j : Int) (x : Rat) (k : Int) (y : Rat) (S : Src), Pp p → sz x + sz y ≤ 3000 → f [.d (.int p), .d (pl j x), .d (pl k y)] S = .ok (.int (j + k - 2 * mt p j x k y)) [] S
theorem step_of {Δ : Tb} (h : MeetF (Δ "meeting")) : StepF (mean Δ 3 3 b_steps_between) := by
  intro p j x k y S hp hs
  refine mean_eq (n := 0) ⟨rfl, rfl⟩ ?_
  unfold b_steps_between
  have e1 := h p j x k y S hp hs
  have m1 : opB .mul (.int 2) (.int (mt p j x k y)) = some (.int (2 * mt p j x k y)) := opB_mul2 (by decide)
  simp only [Ws_cons, Ws_nil, Ws_ret]
  simp [e1, m1]
/-- the middle of three places -/
noncomputable def mid (p : Nat) (j : Int) (x : Rat) (k : Int) (y : Rat) (l : Int) (z : Rat) : Int × Rat :=
  if mt p j x k y ≠ mt p j x l z then (max (mt p j x k y) (mt p j x l z), rest p (max (mt p j x k y) (mt p j x l z)) x) else (mt p k y l z, rest p (mt p k y l z) y)
def MidF (f : Fn) : Prop := ∀ (p : Nat) (j : Int) (x : Rat) (k : Int) (y : Rat) (l : Int) (z : Rat) (S : Src), Pp p → sz x ≤ 1000 → sz y ≤ 1000 → sz z ≤ 1000 → (mt p j x k y).natAbs ≤ 1000 → (mt p j x l z).natAbs ≤ 1000 → (mt p k y l z).natAbs ≤ 1000 → f [.d (.int p), .d (pl j x), .d (pl k y), .d (pl l z)] S = .ok (pl (mid p j x k y l z).1 (mid p j x k y l z).2) [] S
theorem mid_of {Δ : Tb} (h : MeetF (Δ "meeting")) (hu : UpF (Δ "upward")) : MidF (mean Δ 4 6 b_middle_of) := by
  intro p j x k y l z S hp hx hy hz h1 h2 h3
  refine mean_eq (n := 0) ⟨rfl, rfl⟩ ?_
  unfold b_middle_of
  have e1 := h p j x k y S hp (by omega)
  have e2 := h p j x l z S hp (by omega)
  have e3 := h p k y l z S hp (by omega)
  rw [Ws_cons, Ws_par]
  simp [e1, e2]
  rw [Ws_cons, Ws_if]
  simp
  unfold mid
  by_cases hh : mt p j x k y = mt p j x l z
  · have e4 := hu p k y (mt p k y l z) S hp h3 hy
    simp [hh, Ws_nil]
    simp only [Ws_cons, Ws_nil, Ws_ret]
    simp [e3, e4]
  · have e4 := hu p j x (max (mt p j x k y) (mt p j x l z)) S hp (by omega) hx
    simp [hh]
    simp only [Ws_cons, Ws_nil, Ws_ret]
    simp [viewAll, max_i, e4]
/-! ## ends -/
def eD : Option Rat → PyData
  | none => .none
  | some x => fr x
theorem ne_none_fr (x : Rat) : isNone (fr x) = false := rfl
def AtF (f : Fn) : Prop := ∀ (p : Nat) (e : Option Rat) (k : Int) (S : Src), Pp p → k.natAbs ≤ 1000 → (∀ x, e = some x → sz x ≤ 1000) → f [.d (.int p), .d (eD e), .d (.int k)] S = .ok (match e with
  | none => pl (-k) 0
  | some x => pl k (rest p k x)) [] S
theorem at_of {Δ : Tb} {g : Str} (hg : Δ g = conF (fr 0)) (h : NameF (Δ "place_named")) : AtF (mean Δ 3 3 (b_place_at g)) := by
  intro p e k S hp hk hx
  refine mean_eq (n := 0) ⟨rfl, rfl⟩ ?_
  unfold b_place_at
  simp only [Ws_cons, Ws_nil, Ws_ret]
  cases e with
  | none =>
    simp [eD, isNone, hg, conF, sizeLine]
    rfl
  | some x =>
    have e1 := h p k x S hp hk (hx x rfl)
    simp [eD, ne_none_fr, Wr_ite, e1]
/-- where the way to an end turns -/
noncomputable def tn (p : Nat) (x : Rat) : Int := if x = 0 then 0 else min 0 (vp p x)
def TurnF (f : Fn) : Prop := ∀ (p : Nat) (x : Rat) (S : Src), Pp p → f [.d (.int p), .d (fr x)] S = .ok (.int (tn p x)) [] S
theorem turn_of {Δ : Tb} (hi : PiF (Δ "power_in")) : TurnF (mean Δ 2 3 b_turn_of) := by
  intro p x S hp
  refine mean_eq (n := 0) ⟨rfl, rfl⟩ ?_
  unfold b_turn_of
  have e1 := hi p x S hp
  rw [Ws_cons, Ws_asg]
  simp [e1]
  simp only [Ws_cons, Ws_nil, Ws_ret]
  unfold tn
  by_cases h : x = 0
  · subst h
    rw [vD0]
    simp [isNone, Wr_ite]
  · rw [vD1 h, if_neg h]
    simp [isNone, Wr_ite, viewAll, min_i]
/-- the fork of two ends -/
noncomputable def fk (p : Nat) : Option Rat → Option Rat → Option (Int × Rat)
  | none, none => none
  | none, some x => some (tn p x, 0)
  | some x, none => some (tn p x, 0)
  | some x, some y => if x = y then none else if tn p x ≠ tn p y then some (max (tn p x) (tn p y), 0) else some (vp p (x - y), rest p (vp p (x - y)) x)
def pD : Option (Int × Rat) → PyData
  | none => .none
  | some a => pl a.1 a.2
def ForkF (f : Fn) : Prop := ∀ (p : Nat) (d e : Option Rat) (S : Src), Pp p → (∀ x, d = some x → sz x ≤ 200) → (∀ x, e = some x → sz x ≤ 200) → f [.d (.int p), .d (eD d), .d (eD e)] S = .ok (pD (fk p d e)) [] S
theorem eqD_nf (x : Rat) : opC .eq .none (fr x) = some false := by
  show eqD .none (fr x) = _
  unfold eqD
  rw [if_pos ⟨by decide, (shp_fr (n := 0) x).ok (by decide)⟩]
  rfl
theorem eqD_fn (x : Rat) : opC .eq (fr x) .none = some false := by
  show eqD (fr x) .none = _
  unfold eqD
  rw [if_pos ⟨(shp_fr (n := 0) x).ok (by decide), by decide⟩]
  rfl
theorem eqD_nn' : opC .eq .none .none = some true := by
  show eqD .none .none = _
  unfold eqD
  rw [if_pos ⟨by decide, by decide⟩]
  rfl
theorem fork_of {Δ : Tb} {g : Str} (hg : Δ g = conF (fr 0)) (ht : TurnF (Δ "turn_of")) (hn : NameF (Δ "place_named")) (hi : PiF (Δ "power_in")) (hl : BinF (fun x y => x - y) (Δ "ratios_less")) : ForkF (mean Δ 3 4 (b_fork_told g)) := by
  intro p d e S hp hd he
  refine mean_eq (n := 0) ⟨rfl, rfl⟩ ?_
  unfold b_fork_told
  have s2 : (2 : Nat) ≤ sizeLine := by decide
  rw [Ws_cons, Ws_if]
  match d, e, hd, he with
  | none, none, _, _ =>
    simp [eD, eqD_nn']
    simp only [Ws_cons, Ws_nil, Ws_ret]
    simp [fk, pD]
  | none, some x, hd, he =>
    have e1 := ht p x S hp
    simp [eD, eqD_nf, Ws_nil]
    rw [Ws_cons, Ws_if]
    simp [isNone]
    simp only [Ws_cons, Ws_nil, Ws_ret]
    simp [isNone, e1, hg, conF, s2, fk, pD]
    rfl
  | some x, none, hd, he =>
    have e1 := ht p x S hp
    simp [eD, eqD_fn, Ws_nil]
    rw [Ws_cons, Ws_if]
    simp [isNone, ne_none_fr]
    simp only [Ws_cons, Ws_nil, Ws_ret]
    simp [ne_none_fr, e1, hg, conF, s2, fk, pD]
    rfl
  | some x, some y, hd, he =>
    have hx := hd x rfl
    have hy := he y rfl
    by_cases hxy : x = y
    · subst hxy
      simp [eD]
      simp only [Ws_cons, Ws_nil, Ws_ret]
      simp [fk, pD]
    · have e1 := ht p x S hp
      have e2 := ht p y S hp
      simp [eD, hxy, Ws_nil]
      rw [Ws_cons, Ws_if]
      simp [ne_none_fr, Ws_nil]
      rw [Ws_cons, Ws_asg]
      simp [e1, e2, s2]
      rw [Ws_cons, Ws_if]
      simp
      by_cases htt : tn p x = tn p y
      · have e3 := hl x y S (by omega)
        have e4 := hi p (x - y) S hp
        have sne : x - y ≠ 0 := by grind
        rw [vD1 sne] at e4
        have sv := vp_sz hp.pr sne
        have ss := sz_sub x y
        have e5 := hn p (vp p (x - y)) x S hp (by omega) (by omega)
        simp [htt, Ws_nil]
        simp only [Ws_cons, Ws_nil, Ws_ret]
        simp [e3, e4, e5, fk, pD, hxy, htt]
      · have em : opF .max1 [.tuple [.int (tn p x), .int (tn p y)]] = some (.int (max (tn p x) (tn p y))) := max_2 _ _
        simp [htt]
        simp only [Ws_cons, Ws_nil, Ws_ret]
        simp [viewAll, em, hg, conF, s2, fk, pD, hxy, htt]
        rfl
end Pd
end
section
set_option Elab.async false
set_option linter.all false
set_option maxRecDepth 100000
set_option maxHeartbeats 4000000
set_option autoImplicit false
namespace Pd
open PySem PySem.Spec Dk
def OfnF (f : Fn) : Prop := ∀ (p : Nat) (x : Rat) (S : Src), Pp p → x ≠ 0 → f [.d (.int p), .d (fr x)] S = .ok (.int (vp p x)) [] S
theorem oftenD_of {Δ : Tb} : OfnF (mean Δ 2 5 b__law_often_d) := by
  intro p x S hp hx
  have pz : (p : Int) ≠ 0 := by have := hp.pos; omega
  obtain ⟨N, hN⟩ : ∃ N : Nat, x.num.natAbs + x.den < N := ⟨_, Nat.lt_succ_self _⟩
  refine mean_eq (n := N) ⟨rfl, rfl⟩ ?_
  unfold b__law_often_d
  have n0 := num0 hx
  have a0 : absI x.num ≠ 0 := by unfold absI; split <;> omega
  have aa : (absI x.num).natAbs = x.num.natAbs := by unfold absI; split <;> omega
  rw [Ws_cons, Ws_par3]
  simp [viewAll, abs_eq]
  refine Ws_cut (fun σ L S' => ∃ w2, σ = [.d (.int p), .d (fr x), w2, .d (.int x.den), .d (.int (vp p x.num))] ∧ L = [] ∧ S' = S) ?_ ?_
  · rw [Ws_whl]
    have := many_loop (Δ := Δ) (c := .cmp .eq (.bop .mod (.bf .int (.cons (.var 2) .nil)) (.var 0)) (.int 0)) (e := .bop .add (.var 4) (.int 1)) (i := 2) (j := 4) (k := N) (s := 1) (σ0 := [.d (.int p), .d (fr x), .un, .d (.int x.den), .un]) (S := S) (D := ⟨fun σ L S' => ∃ w2, σ = [.d (.int p), .d (fr x), w2, .d (.int x.den), .d (.int (vp p x.num))] ∧ L = [] ∧ S' = S, fun x_1 S' => x_1 = .int (vp p x) ∧ S' = S, fun _ _ _ => False, fun _ _ _ => False⟩) hp (by decide) (by simp) (by simp) rfl (by decide) (by decide) (fun n m => by simp [viewAll, opF, opB_mod pz]) (fun n m => by simp) (absI x.num) 0 a0 N (by omega) (fun n' _ => ⟨_, by rw [vp_abs hp.pr n0]; simp; rfl, rfl, rfl⟩)
    exact this
  · rintro σ L S' ⟨w2, rfl, rfl, rfl⟩
    refine Ws_cut (fun σ L S2 => ∃ w3, σ = [.d (.int p), .d (fr x), w2, w3, .d (.int (vp p x))] ∧ L = [] ∧ S2 = S') ?_ ?_
    · rw [Ws_whl]
      have := many_loop (Δ := Δ) (c := .cmp .eq (.bop .mod (.bf .int (.cons (.var 3) .nil)) (.var 0)) (.int 0)) (e := .bop .sub (.var 4) (.int 1)) (i := 3) (j := 4) (k := N) (s := -1) (σ0 := [.d (.int p), .d (fr x), w2, .un, .un]) (S := S') (D := ⟨fun σ L S2 => ∃ w3, σ = [.d (.int p), .d (fr x), w2, w3, .d (.int (vp p x))] ∧ L = [] ∧ S2 = S', fun x_1 S2 => x_1 = .int (vp p x) ∧ S2 = S', fun _ _ _ => False, fun _ _ _ => False⟩) hp (by decide) (by simp) (by simp) rfl (by decide) (by decide) (fun n m => by simp [viewAll, opF, opB_mod pz]) (fun n m => by simp; omega) (x.den : Int) (vp p x.num) (den0 x) N (by omega) (fun n' _ => ⟨_, by
          have ev := vp_num_den hp.pr hx
          simp
          refine ⟨rfl, ?_⟩
          omega, rfl, rfl⟩)
      exact this
    · rintro σ L S2 ⟨w3, rfl, rfl, rfl⟩
      simp only [Ws_nil, Ws_cons, Ws_ret]
      simp
theorem zi_den {p : Nat} (hp : Pr p) {x : Rat} (h : Zi p x) : Un p (x.den : Int) := by
  obtain ⟨a, b, hb, h⟩ := h
  intro hd
  apply hb
  have e : ((x.num * b : Int) : Rat) = ((a * x.den : Int) : Rat) := by
    have := num_over_den x
    have d0 := den_ne x
    simp only [Rat.intCast_mul]
    have e2 := Rat.div_mul_cancel (a := (x.num : Rat)) d0
    rw [← this] at e2
    grind
  have e2 := Rat.intCast_inj.mp e
  have d1 : (x.den : Int) ∣ x.num * b := ⟨a, by rw [e2]; grind⟩
  have d2 : x.den ∣ x.num.natAbs * b.natAbs := by
    have := Int.natAbs_dvd_natAbs.mpr d1
    rw [Int.natAbs_mul, Int.natAbs_natCast] at this
    exact this
  have d3 : x.den ∣ b.natAbs := Nat.Coprime.dvd_of_dvd_mul_left (Nat.Coprime.symm x.reduced) d2
  have d4 : (x.den : Int) ∣ b := Int.ofNat_dvd_left.mpr d3
  exact Int.dvd_trans hd d4
def RestE (f : Fn) : Prop := ∀ (p : Nat) (x : Rat) (k : Int) (S : Src), Pp p → k.natAbs ≤ 100 → sz x ≤ 100 → f [.d (.int p), .d (fr x), .d (.int k)] S = .ok (fr (rest p k x)) [] S
structure ReI (p : Nat) (x u : Rat) (k v : Int) (S0 : Src) (i : Nat) (σ : List W) (L : Lo) (S : Src) : Prop where
  ex : ∃ (f : Rat) (t : Int) (w8 w9 w10 : W), σ = [.d (.int p), .d (fr x), .d (.int k), .d (.int v), .d (fr u), .d (fr f), .d (.int t), .d (.int u.den), w8, w9, w10] ∧ L = [] ∧ S = S0 ∧ IsRest p (v + i) x f ∧ (x - f) * (u.den : Int) = t * P p (v + i)
theorem restE_of {Δ : Tb} (ho : OfnF (Δ "_law_often")) (ht : BinF (fun x y => x * y) (Δ "_law_by")) (hw : PowF (Δ "_law_power")) (hpl : BinF (fun x y => x + y) (Δ "_law_plus")) : RestE (mean Δ 3 11 b__law_rest_e) := by
  intro p x k S hp hk hx
  refine mean_eq (n := 0) ⟨rfl, rfl⟩ ?_
  unfold b__law_rest_e
  have s2 : (2 : Nat) ≤ sizeLine := by decide
  rw [Ws_cons, Ws_if]
  by_cases x0 : x = 0
  · subst x0
    simp
    simp only [Ws_nil, Ws_cons, Ws_ret]
    simp [s2, rest_of0 hp.pr]
    rfl
  · have n0 := num0 x0
    have e1 := ho p x S hp x0
    have hv := vp_sz hp.pr x0
    have hunit : Vl p (x * P p (-vp p x)) 0 := by
      have := (vp_ok hp.pr x0).mul hp.pr (Vl.P hp.pr (-vp p x))
      rw [show vp p x + -vp p x = 0 by omega] at this
      exact this
    have hr0 : ∀ j, j ≤ vp p x → IsRest p j x 0 := fun j h => vp_rest hp.pr x0 h
    have w1 := hw p (-vp p x) S hp (by omega)
    have sP := sz_P hp (-vp p x)
    have w2 := ht x (P p (-vp p x)) S (by omega)
    have hxu : x * P p (-vp p x) * P p (vp p x) = x := by
      have := P_neg hp.pr (vp p x)
      grind
    dsimp only at w2
    generalize vp p x = v at *
    generalize x * P p (-v) = u at *
    by_cases hkv : k ≤ v
    · simp [n0, x0, e1, hkv]
      simp only [Ws_nil, Ws_cons, Ws_ret]
      simp [s2, ← rest_eq hp.pr (hr0 k hkv)]
      rfl
    · simp [n0, x0, e1, hkv, Ws_nil]
      have ud : Un p (u.den : Int) := zi_den hp.pr (by
        have := (hunit.zi hp.pr 0).mpr (Int.le_refl 0)
        rw [show (-(0 : Int)) = 0 by omega, P_0, Rat.mul_one] at this
        exact this)
      rw [Ws_cons, Ws_asg]
      simp [e1]
      rw [Ws_cons, Ws_par]
      simp [w1, w2, s2]
      rw [Ws_cons, Ws_asgT]
      refine Wr_ok.mpr ⟨.tuple [.int u.num, .int u.den], _, rfl, rfl, ?_⟩
      dsimp only
      refine Ws_cut (ReI p x u k v S (k - v).toNat) ?_ ?_
      · rw [Ws_for]
        have hr := range_ij (i := v) (j := k) (by omega)
        have hlen : ((List.range (k - v).toNat).map fun (a : Nat) => PyData.int (v + (a : Int))).length = (k - v).toNat := by rw [List.length_map, List.length_range]
        have hat := fun (i : Nat) (y : PyData) => range_at (n := (k - v).toNat) (v := v) (i := i) (y := y)
        generalize ((List.range (k - v).toNat).map fun (a : Nat) => PyData.int (v + (a : Int))) = xs at hr hlen hat
        simp [hr]
        refine forL_of (ReI p x u k v S) ⟨0, u.num, _, _, _, rfl, rfl, rfl, by rw [show v + ((0 : Nat) : Int) = v by omega]; exact hr0 v (Int.le_refl v), ?_⟩ ?_ (fun σ L S h => by rw [hlen] at h; exact h)
        · rw [show v + ((0 : Nat) : Int) = v by omega]
          have d0 := den_ne u
          have e2 := Rat.div_mul_cancel (a := (u.num : Rat)) d0
          rw [← num_over_den u] at e2
          grind
        · rintro i y σ L S' hy ⟨f, t, w8, w9, w10, rfl, rfl, rfl, hf, heq⟩
          have hi := (List.getElem?_eq_some_iff.mp hy).1
          rw [hat i y hy]
          simp only [bindT]
          have hfe := rest_eq hp.pr hf
          have zf := sz_rest hp (v + i) x
          rw [← hfe] at zf
          have hv1 : v + ((i + 1 : Nat) : Int) = v + i + 1 := by omega
          rw [Ws_cons, Ws_asg, Wr_ix]
          have md : ∀ a : Nat, a < p → opB .mul (.int (a : Int)) (.int u.den) = some (.int (a * u.den)) := fun a ha => opB_mul2 (by have := hp.le; omega)
          have pz : (p : Int) ≠ 0 := by have := hp.pos; omega
          have hrp := range_N (e := p) (by have := hp.le; omega)
          refine Wr_lcF (fun (a : Nat) => .int ((0 : Int) + a)) (fun (a : Nat) => decide ((p : Int) ∣ t - a * u.den)) (fun (a : Nat) => .int ((0 : Int) + a)) (l := List.range p) ?_ ?_ ?_ ?_ ?_
          · simp [hrp]
          · rw [List.length_range]; have := hp.le; unfold sizeLine; omega
          · intro a ha
            have ha := List.mem_range.mp ha
            have hdv := fmod_dvd (n := t - a * u.den) hp.pos
            simp [md a ha, viewAll, opF, opB_mod pz, hdv]
          · intro a ha _
            simp
          · obtain ⟨d, hd, hd2⟩ := dig hp.pr (c := t) ud.neg
            have mem : d ∈ (List.range p).filter fun (a : Nat) => decide ((p : Int) ∣ t - a * u.den) := List.mem_filter.mpr ⟨List.mem_range.mpr hd, decide_eq_true (by
              have : t - (d : Int) * u.den = t + d * -(u.den : Int) := by grind
              rw [this]
              exact hd2)⟩
            cases hfl : (List.range p).filter fun (a : Nat) => decide ((p : Int) ∣ t - a * u.den) with
            | nil => rw [hfl] at mem; cases mem
            | cons a tl =>
              have hma : a ∈ (List.range p).filter fun (a : Nat) => decide ((p : Int) ∣ t - a * u.den) := by rw [hfl]; exact List.mem_cons_self
              obtain ⟨h1, h2⟩ := List.mem_filter.mp hma
              have ha := List.mem_range.mp h1
              obtain ⟨t', ht'⟩ := of_decide_eq_true h2
              refine Wr_ok.mpr ⟨_, _, _, rfl, rfl, ixD_head (List.map_cons ..), ?_⟩
              dsimp only
              have fd : opB .fdiv (.int (t - a * u.den)) (.int p) = some (.int t') := by
                rw [opB_fdiv pz (log_64 (by have := hp.pos; omega) (by have := hp.le; omega)), ht', Int.mul_fdiv_cancel_left _ pz]
              have sd := bl_dig hp ha
              have sPi := sz_P hp (v + i)
              have g1 := hw p (v + i) S' hp (by omega)
              have g2 := ht ((a : Int) : Rat) (P p (v + i)) S' (by omega)
              have sm := sz_mul ((a : Int) : Rat) (P p (v + i))
              have g3 := hpl f ((a : Int) * P p (v + i)) S' (by omega)
              rw [Ws_cons, Ws_asg]
              simp [md a ha, fd]
              rw [Ws_cons, Ws_asg]
              simp [s2, fr_int, g1, g2, g3, Ws_nil]
              have heq2 : (x - (f + ((a : Int) : Rat) * P p (v + i))) * (u.den : Int) = t' * P p (v + i + 1) := by
                have q : ((t - a * u.den : Int) : Rat) = ((p * t' : Int) : Rat) := by rw [ht']
                simp only [Rat.intCast_sub, Rat.intCast_mul] at q
                have hP : P p (v + i + 1) = P p (v + i) * (p : Rat) := by rw [P_add hp.pr (v + i) 1, P_1]
                rw [hP]
                have : ((p : Int) : Rat) = (p : Rat) := rfl
                rw [this] at q
                grind
              refine ⟨_, t', _, _, _, rfl, rfl, rfl, ?_, ?_⟩
              · rw [hv1]
                refine rest_digit hp.pr hf ha ⟨t', u.den, ud, ?_⟩
                have := P_neg hp.pr (v + i + 1)
                grind
              · rw [hv1]
                exact heq2
      · rintro σ L S' ⟨f, t, w8, w9, w10, rfl, rfl, rfl, hf, _⟩
        rw [show v + ((k - v).toNat : Int) = k by omega] at hf
        have := rest_eq hp.pr hf
        simp only [Ws_nil, Ws_cons, Ws_ret]
        simp [this]
end Pd
end
section
set_option Elab.async false
set_option linter.all false
set_option maxRecDepth 100000
set_option maxHeartbeats 4000000
set_option autoImplicit false
namespace Pd
open PySem PySem.Spec Dk
/-! ## the way from home to an end -/
noncomputable def wy (p : Nat) : Option Rat → Nat → Int × Rat
  | none, i => (-(i : Int), 0)
  | some x, i => if (i : Int) ≤ -tn p x then (-(i : Int), 0) else (i + 2 * tn p x, rest p (i + 2 * tn p x) x)
theorem tn_le {p : Nat} (x : Rat) : tn p x ≤ 0 := by
  unfold tn
  split <;> omega
theorem tn_near {p : Nat} (hp : Pr p) (x : Rat) : Nr p (tn p x) x 0 := by
  rw [near_iff hp, show x - 0 = x by grind]
  unfold tn
  by_cases h : x = 0
  · exact .inl h
  · rw [if_neg h]
    exact .inr (by omega)
theorem tn_lt {p : Nat} (hp : Pr p) {x : Rat} {j : Int} (h : Nr p j x 0) (h0 : j ≤ 0) : j ≤ tn p x := by
  rw [near_iff hp, show x - 0 = x by grind] at h
  unfold tn
  by_cases h1 : x = 0
  · rw [if_pos h1]
    exact h0
  · rw [if_neg h1]
    have := h.resolve_left h1
    omega
theorem wy_lo {p : Nat} {x : Rat} {i : Nat} (h : (i : Int) ≤ -tn p x) : wy p (some x) i = (-(i : Int), 0) := if_pos h
theorem wy_hi {p : Nat} (hp : Pr p) {x : Rat} {i : Nat} (h : -tn p x ≤ (i : Int)) : wy p (some x) i = (i + 2 * tn p x, rest p (i + 2 * tn p x) x) := by
  show (if (i : Int) ≤ -tn p x then (-(i : Int), (0 : Rat)) else _) = _
  by_cases hh : (i : Int) ≤ -tn p x
  · have e : (i : Int) = -tn p x := by omega
    rw [if_pos hh]
    have e2 : (i : Int) + 2 * tn p x = tn p x := by omega
    rw [e2, ← rest_eq hp (rest_zero hp (tn_near hp x))]
    congr 1
    omega
  · rw [if_neg hh]
theorem pair_ne {a b : Int} {x y : Rat} (h : a ≠ b) : ¬ ((a, x) = (b, y)) := fun z => h (Prod.mk.inj z).1
/-- ways agree up to a place and no farther -/
theorem fork_way {p : Nat} (hp : Pr p) {d e : Option Rat} (hde : d ≠ e) : ∃ M : Nat, (∀ i, wy p d i = wy p e i ↔ i ≤ M) ∧ fk p d e = some (wy p d M) := by
  have ns : ∀ x : Rat, ∀ i : Nat, wy p none i = wy p (some x) i ↔ (i : Int) ≤ -tn p x := fun x i => by
    by_cases h : (i : Int) ≤ -tn p x
    · rw [wy_lo h]
      exact ⟨fun _ => h, fun _ => rfl⟩
    · rw [wy_hi hp (by omega)]
      exact ⟨fun z => absurd z (pair_ne (by have := tn_le (p := p) x; omega)), fun z => absurd z h⟩
  match d, e, hde with
  | none, none, h => exact absurd rfl h
  | none, some x, _ =>
    have t0 := tn_le (p := p) x
    refine ⟨(-tn p x).toNat, fun i => (ns x i).trans ⟨fun h => by omega, fun h => by omega⟩, ?_⟩
    show some (tn p x, (0 : Rat)) = some (-(((-tn p x).toNat : Nat) : Int), 0)
    congr 2
    omega
  | some x, none, _ =>
    have t0 := tn_le (p := p) x
    refine ⟨(-tn p x).toNat, fun i => (eq_comm.trans (ns x i)).trans ⟨fun h => by omega, fun h => by omega⟩, ?_⟩
    show some (tn p x, (0 : Rat)) = some (wy p (some x) _)
    rw [wy_lo (by omega)]
    congr 2
    omega
  | some x, some y, h =>
    have hxy : x ≠ y := fun z => h (by rw [z])
    have t0 := tn_le (p := p) x
    have t1 := tn_le (p := p) y
    have fe : fk p (some x) (some y) = if x = y then none else if tn p x ≠ tn p y then some (max (tn p x) (tn p y), 0) else some (vp p (x - y), rest p (vp p (x - y)) x) := rfl
    rw [fe, if_neg hxy]
    by_cases ht : tn p x = tn p y
    · rw [if_neg (fun z => z ht)]
      have vt : tn p x ≤ vp p (x - y) := by
        have n1 := tn_near hp x
        have n2 := tn_near hp y
        rw [← ht] at n2
        have := (near_iff hp).mp (n1.trans hp n2.symm)
        exact this.resolve_left hxy
      refine ⟨(vp p (x - y) - 2 * tn p x).toNat, fun i => ?_, ?_⟩
      · by_cases hi : (i : Int) ≤ -tn p x
        · rw [wy_lo hi, wy_lo (by omega)]
          exact ⟨fun _ => by omega, fun _ => rfl⟩
        · rw [wy_hi hp (by omega), wy_hi hp (by omega), ← ht]
          constructor
          · intro z
            have := (near_iff hp).mp ((rest_iff hp).mp (Prod.mk.inj z).2)
            have := this.resolve_left hxy
            omega
          · intro z
            have nn : Nr p (i + 2 * tn p x) x y := (near_iff hp).mpr (.inr (by omega))
            rw [(rest_iff hp).mpr nn]
      · rw [wy_hi hp (by omega)]
        have : (((vp p (x - y) - 2 * tn p x).toNat : Nat) : Int) + 2 * tn p x = vp p (x - y) := by omega
        rw [this]
    · rw [if_pos ht]
      have key : ∀ a b : Rat, tn p a < tn p b → ∀ i : Nat, wy p (some a) i = wy p (some b) i ↔ (i : Int) ≤ -tn p b := fun a b hab i => by
        have s0 := tn_le (p := p) a
        have s1 := tn_le (p := p) b
        by_cases h1 : (i : Int) ≤ -tn p b
        · rw [wy_lo h1, wy_lo (by omega)]
          exact ⟨fun _ => h1, fun _ => rfl⟩
        · rw [wy_hi (x := b) hp (by omega)]
          by_cases h2 : (i : Int) ≤ -tn p a
          · rw [wy_lo h2]
            exact ⟨fun z => absurd z (pair_ne (by omega)), fun z => absurd z h1⟩
          · rw [wy_hi hp (by omega)]
            exact ⟨fun z => absurd z (pair_ne (by omega)), fun z => absurd z h1⟩
      rcases Int.lt_or_gt_of_ne ht with hlt | hgt
      · refine ⟨(-tn p y).toNat, fun i => (key x y hlt i).trans ⟨fun h => by omega, fun h => by omega⟩, ?_⟩
        rw [wy_lo (by omega)]
        congr 2
        omega
      · refine ⟨(-tn p x).toNat, fun i => (eq_comm.trans (key y x hgt i)).trans ⟨fun h => by omega, fun h => by omega⟩, ?_⟩
        rw [wy_lo (by omega)]
        congr 2
        omega
theorem fk_comm {p : Nat} (hp : Pr p) (d e : Option Rat) : fk p d e = fk p e d := by
  match d, e with
  | none, none => rfl
  | none, some x => rfl
  | some x, none => rfl
  | some x, some y =>
    have f1 : fk p (some x) (some y) = if x = y then none else if tn p x ≠ tn p y then some (max (tn p x) (tn p y), 0) else some (vp p (x - y), rest p (vp p (x - y)) x) := rfl
    have f2 : fk p (some y) (some x) = if y = x then none else if tn p y ≠ tn p x then some (max (tn p y) (tn p x), 0) else some (vp p (y - x), rest p (vp p (y - x)) y) := rfl
    rw [f1, f2]
    by_cases h : x = y
    · rw [if_pos h, if_pos h.symm]
    · have h' : ¬ y = x := fun z => h z.symm
      by_cases ht : tn p x = tn p y
      · have nn : rest p (vp p (x - y)) x = rest p (vp p (x - y)) y := (rest_iff hp).mpr ((near_iff hp).mpr (.inr (Int.le_refl _)))
        simp only [h, h', ht, ne_eq, not_true_eq_false, if_false]
        rw [vp_sub_comm hp y x, nn]
      · have ht' : ¬ tn p y = tn p x := fun z => ht z.symm
        simp only [h, h', ht, ht', ne_eq, not_false_eq_true, if_true, if_false]
        congr 2
        omega
/-- from home, where it meets the way to an end -/
theorem mt_home {p : Nat} (hp : Pr p) {d : Option Rat} {i : Nat} (h : ∀ x, d = some x → -tn p x ≤ (i : Int)) : mt p 0 0 (wy p d i).1 (wy p d i).2 = match d with
    | none => -(i : Int)
    | some x => tn p x := by
  have uq : ∀ {a b : Int}, (∀ j, j ≤ a ↔ j ≤ b) → a = b := fun {a b} h => by
    have := (h a).mp (Int.le_refl a)
    have := (h b).mpr (Int.le_refl b)
    omega
  match d, h with
  | none, _ =>
    refine uq fun j => ?_
    rw [mt_iff hp]
    show (j ≤ 0 ∧ j ≤ -(i : Int) ∧ Nr p j 0 0) ↔ j ≤ -(i : Int)
    exact ⟨fun z => z.2.1, fun z => ⟨by omega, z, .rfl' hp⟩⟩
  | some x, h =>
    have hi := h x rfl
    have t0 := tn_le (p := p) x
    rw [wy_hi hp hi]
    dsimp only
    refine uq fun j => ?_
    rw [mt_iff hp]
    have rn := rest_near hp (i + 2 * tn p x) x
    constructor
    · rintro ⟨h1, h2, h3⟩
      exact tn_lt hp (((rn.mono hp h2).trans hp h3.symm)) h1
    · intro z
      have z2 : j ≤ i + 2 * tn p x := by omega
      exact ⟨by omega, z2, (((rn.mono hp z2).symm).trans hp ((tn_near hp x).mono hp z)).symm⟩
theorem mid_way {p : Nat} (hp : Pr p) {d e : Option Rat} (hde : d ≠ e) {M i : Nat} (hM : ∀ j, wy p d j = wy p e j ↔ j ≤ M) (hi : M < i) (hd : ∀ x, d = some x → -tn p x < (i : Int)) (he : ∀ x, e = some x → -tn p x < (i : Int)) :
    mid p 0 0 (wy p d i).1 (wy p d i).2 (wy p e i).1 (wy p e i).2 = wy p d M := by
  have m1 := mt_home hp (d := d) (i := i) fun x h => by have := hd x h; omega
  have m2 := mt_home hp (d := e) (i := i) fun x h => by have := he x h; omega
  have r0 : ∀ j, rest p j 0 = 0 := fun j => rest_of0 hp j
  obtain ⟨M', hM', hf⟩ := fork_way hp hde
  have eM : M' = M := by
    have a := (hM' M).mp ((hM M).mpr (Nat.le_refl M))
    have b := (hM M').mp ((hM' M').mpr (Nat.le_refl M'))
    omega
  subst eM
  unfold mid
  rw [m1, m2, r0]
  match d, e, hde, hf, hM, hd, he with
  | none, none, h, _, _, _, _ => exact absurd rfl h
  | none, some x, _, hf, _, hd, he =>
    have hx := he x rfl
    have t0 := tn_le (p := p) x
    have f1 : fk p none (some x) = some (tn p x, 0) := rfl
    rw [f1] at hf
    rw [← Option.some.inj hf]
    dsimp only
    rw [if_pos (by omega)]
    congr 1
    omega
  | some x, none, _, hf, _, hd, he =>
    have hx := hd x rfl
    have t0 := tn_le (p := p) x
    have f1 : fk p (some x) none = some (tn p x, 0) := rfl
    rw [f1] at hf
    rw [← Option.some.inj hf]
    dsimp only
    rw [if_pos (by omega)]
    congr 1
    omega
  | some x, some y, h, hf, hM, hd, he =>
    have hxy : x ≠ y := fun z => h (by rw [z])
    have hx := hd x rfl
    have hy := he y rfl
    have f1 : fk p (some x) (some y) = if x = y then none else if tn p x ≠ tn p y then some (max (tn p x) (tn p y), 0) else some (vp p (x - y), rest p (vp p (x - y)) x) := rfl
    rw [f1, if_neg hxy] at hf
    dsimp only
    by_cases ht : tn p x = tn p y
    · rw [if_neg (fun z => z ht)] at hf ⊢
      rw [← Option.some.inj hf]
      rw [wy_hi hp (by omega), wy_hi hp (by omega)]
      dsimp only
      have vi : vp p (x - y) < i + 2 * tn p x := by
        rcases Int.lt_or_le (vp p (x - y)) (i + 2 * tn p x) with c | c
        · exact c
        · exfalso
          have : wy p (some x) i = wy p (some y) i := by
            rw [wy_hi hp (by omega), wy_hi hp (by omega), ← ht]
            have nn : Nr p (i + 2 * tn p x) x y := (near_iff hp).mpr (.inr c)
            rw [(rest_iff hp).mpr nn]
          have := (hM i).mp this
          omega
      have em : mt p (i + 2 * tn p x) (rest p (i + 2 * tn p x) x) (i + 2 * tn p y) (rest p (i + 2 * tn p y) y) = vp p (x - y) := by
        rw [← ht]
        have rx := rest_near hp (i + 2 * tn p x) x
        have ry := rest_near hp (i + 2 * tn p x) y
        have h1 : ∀ j, j ≤ mt p (i + 2 * tn p x) (rest p (i + 2 * tn p x) x) (i + 2 * tn p x) (rest p (i + 2 * tn p x) y) ↔ j ≤ vp p (x - y) := fun j => by
          rw [mt_iff hp]
          constructor
          · rintro ⟨a, _, c⟩
            have := (near_iff hp).mp (((rx.mono hp a).trans hp c).trans hp (ry.mono hp a).symm)
            exact this.resolve_left hxy
          · intro c
            have a : j ≤ i + 2 * tn p x := by omega
            exact ⟨a, a, ((rx.mono hp a).symm.trans hp ((near_iff hp).mpr (.inr c))).trans hp (ry.mono hp a)⟩
        have a := (h1 _).mp (Int.le_refl _)
        have b := (h1 _).mpr (Int.le_refl _)
        omega
      rw [em, rest_up hp (by omega)]
    · rw [if_pos ht] at hf ⊢
      rw [← Option.some.inj hf]
end Pd
end
section
set_option Elab.async false
set_option linter.all false
set_option maxRecDepth 100000
set_option maxHeartbeats 4000000
set_option autoImplicit false
namespace Pd
open PySem PySem.Spec Dk
/-! ## pictures of places -/
theorem vp_add {p : Nat} (hp : Pr p) {x y : Rat} {k : Int} (hx : x = 0 ∨ k ≤ vp p x) (hy : y = 0 ∨ k ≤ vp p y) : x + y = 0 ∨ k ≤ vp p (x + y) := by
  rw [← zi_iff hp] at hx hy ⊢
  rw [Rat.add_mul]
  exact hx.add hp hy
/-- of three numbers, one the sum of the others, two are least alike -/
theorem vp_three {p : Nat} (hp : Pr p) {x y z : Rat} (h : z = x + y) (x0 : x ≠ 0) (y0 : y ≠ 0) (z0 : z ≠ 0) : (vp p x = vp p y ∧ vp p x ≤ vp p z) ∨ (vp p x = vp p z ∧ vp p x ≤ vp p y) ∨ (vp p y = vp p z ∧ vp p y ≤ vp p x) := by
  have a : min (vp p x) (vp p y) ≤ vp p z := by
    have := vp_add hp (x := x) (y := y) (k := min (vp p x) (vp p y)) (.inr (by omega)) (.inr (by omega))
    rw [← h] at this
    exact this.resolve_left z0
  have b : min (vp p z) (vp p y) ≤ vp p x := by
    have := vp_add hp (x := z) (y := -y) (k := min (vp p z) (vp p y)) (.inr (by omega)) (.inr (by rw [vp_neg hp y0]; omega))
    rw [show z + -y = x by rw [h]; grind] at this
    exact this.resolve_left x0
  have c : min (vp p z) (vp p x) ≤ vp p y := by
    have := vp_add hp (x := z) (y := -x) (k := min (vp p z) (vp p x)) (.inr (by omega)) (.inr (by rw [vp_neg hp x0]; omega))
    rw [show z + -x = y by rw [h]; grind] at this
    exact this.resolve_left y0
  omega
section
variable {p : Nat} {a b c d : Int} {k : Int} {r : Rat}
/-- where a number is led -/
noncomputable def ld (a b c d : Int) : Option Rat → Option Rat
  | none => if (c : Rat) ≠ 0 then some ((a : Rat) / c) else none
  | some x => if (c : Rat) * x + d ≠ 0 then some (((a : Rat) * x + b) / (c * x + d)) else none
theorem ld_diff {x y : Rat} (hx : (c : Rat) * x + d ≠ 0) (hy : (c : Rat) * y + d ≠ 0) : ((a : Rat) * x + b) / (c * x + d) - ((a : Rat) * y + b) / (c * y + d) = ((a * d - b * c : Int) : Rat) * (x - y) / ((c * x + d) * (c * y + d)) := by
  rw [Rat.intCast_sub, Rat.intCast_mul, Rat.intCast_mul]
  have h1 := Rat.div_mul_cancel (a := (a : Rat) * x + b) hx
  have h2 := Rat.div_mul_cancel (a := (a : Rat) * y + b) hy
  have hxy : ((c : Rat) * x + d) * (c * y + d) ≠ 0 := fun z => (Rat.mul_eq_zero.mp z).elim hx hy
  have h3 := Rat.div_mul_cancel (a := ((a : Rat) * d - b * c) * (x - y)) hxy
  grind
theorem ld_inf {x : Rat} (hx : (c : Rat) * x + d ≠ 0) (hc : (c : Rat) ≠ 0) : ((a : Rat) * x + b) / (c * x + d) - (a : Rat) / c = -(((a * d - b * c : Int) : Rat) / ((c * x + d) * c)) := by
  rw [Rat.intCast_sub, Rat.intCast_mul, Rat.intCast_mul]
  have h1 := Rat.div_mul_cancel (a := (a : Rat) * x + b) hx
  have h2 := Rat.div_mul_cancel (a := (a : Rat)) hc
  have hxy : ((c : Rat) * x + d) * c ≠ 0 := fun z => (Rat.mul_eq_zero.mp z).elim hx hc
  have h3 := Rat.div_mul_cancel (a := ((a : Rat) * d - b * c)) hxy
  grind
theorem v_diff (hp : Pr p) {x y : Rat} (hx : (c : Rat) * x + d ≠ 0) (hy : (c : Rat) * y + d ≠ 0) (hD : ((a * d - b * c : Int) : Rat) ≠ 0) (xy : x - y ≠ 0) : vp p (((a : Rat) * x + b) / (c * x + d) - ((a : Rat) * y + b) / (c * y + d)) = vp p ((a * d - b * c : Int) : Rat) + vp p (x - y) - vp p (c * x + d) - vp p (c * y + d) := by
  rw [ld_diff hx hy, vp_div hp (fun z => (Rat.mul_eq_zero.mp z).elim hD xy) (fun z => (Rat.mul_eq_zero.mp z).elim hx hy), vp_mul hp hD xy, vp_mul hp hx hy]
  omega
theorem v_inf (hp : Pr p) {x : Rat} (hx : (c : Rat) * x + d ≠ 0) (hc : (c : Rat) ≠ 0) (hD : ((a * d - b * c : Int) : Rat) ≠ 0) : vp p (((a : Rat) * x + b) / (c * x + d) - (a : Rat) / c) = vp p ((a * d - b * c : Int) : Rat) - vp p (c * x + d) - vp p c := by
  have hm : ((c : Rat) * x + d) * c ≠ 0 := fun z => (Rat.mul_eq_zero.mp z).elim hx hc
  have hq : ((a * d - b * c : Int) : Rat) / ((c * x + d) * c) ≠ 0 := fun z => by
    have := Rat.div_mul_cancel (a := ((a * d - b * c : Int) : Rat)) hm
    rw [z, Rat.zero_mul] at this
    exact hD this.symm
  rw [ld_inf hx hc, vp_neg hp hq, vp_div hp hD hm, vp_mul hp hx hc]
  omega
theorem diff_ne {x y : Rat} (hx : (c : Rat) * x + d ≠ 0) (hy : (c : Rat) * y + d ≠ 0) (hD : ((a * d - b * c : Int) : Rat) ≠ 0) (xy : x - y ≠ 0) : ((a : Rat) * x + b) / (c * x + d) - ((a : Rat) * y + b) / (c * y + d) ≠ 0 := by
  rw [ld_diff hx hy]
  have hxy : ((c : Rat) * x + d) * (c * y + d) ≠ 0 := fun z => (Rat.mul_eq_zero.mp z).elim hx hy
  intro z
  have := Rat.div_mul_cancel (a := ((a * d - b * c : Int) : Rat) * (x - y)) hxy
  rw [z, Rat.zero_mul] at this
  exact (Rat.mul_eq_zero.mp this.symm).elim hD xy
theorem inf_ne {x : Rat} (hx : (c : Rat) * x + d ≠ 0) (hc : (c : Rat) ≠ 0) (hD : ((a * d - b * c : Int) : Rat) ≠ 0) : ((a : Rat) * x + b) / (c * x + d) - (a : Rat) / c ≠ 0 := by
  rw [ld_inf hx hc]
  have hm : ((c : Rat) * x + d) * c ≠ 0 := fun z => (Rat.mul_eq_zero.mp z).elim hx hc
  intro z
  have := Rat.div_mul_cancel (a := ((a * d - b * c : Int) : Rat)) hm
  have z2 : ((a * d - b * c : Int) : Rat) / ((c * x + d) * c) = 0 := by grind
  rw [z2, Rat.zero_mul] at this
  exact hD this.symm
/-- the picture's depth and a number in it -/
noncomputable def pic (p : Nat) (a b c d k : Int) (r : Rat) : Int × Rat :=
  if (c : Rat) * r + d = 0 ∨ ((c : Rat) * P p k ≠ 0 ∧ vp p (c * P p k) < vp p (c * r + d)) then (vp p ((a * d - b * c : Int) : Rat) - 2 * vp p c - k, (a : Rat) / c)
  else (k + vp p ((a * d - b * c : Int) : Rat) - 2 * vp p (c * r + d), ((a : Rat) * r + b) / (c * r + d))
/-- the picture as a place -/
noncomputable def pcp (p : Nat) (a b c d k : Int) (r : Rat) : Int × Rat := ((pic p a b c d k r).1, rest p (pic p a b c d k r).1 (pic p a b c d k r).2)
theorem sum_s (p : Nat) : (c : Rat) * (r + P p k) + d = (c * r + d) + c * P p k := by grind
theorem r_ne (hp : Pr p) : r - (r + P p k) ≠ 0 := fun z => P_ne hp k (by grind)
theorem v_r (hp : Pr p) : vp p (r - (r + P p k)) = k := by
  rw [show r - (r + P p k) = -(P p k) by grind, vp_neg hp (P_ne hp k), vp_P hp]
/-- no end led beyond: three numbers -/
theorem pic3 (hp : Pr p) (hD : ((a * d - b * c : Int) : Rat) ≠ 0) (hc : (c : Rat) ≠ 0) (hs : (c : Rat) * r + d ≠ 0) (ht : (c : Rat) * (r + P p k) + d ≠ 0) {v01 v02 v12 : Int}
    (e01 : v01 = vp p (((a : Rat) * r + b) / (c * r + d) - ((a : Rat) * (r + P p k) + b) / (c * (r + P p k) + d))) (e02 : v02 = vp p (((a : Rat) * r + b) / (c * r + d) - (a : Rat) / c)) (e12 : v12 = vp p (((a : Rat) * (r + P p k) + b) / (c * (r + P p k) + d) - (a : Rat) / c)) :
    (pic p a b c d k r).1 = max v01 (max v02 v12) ∧ (v01 = max v01 (max v02 v12) ∨ v02 = max v01 (max v02 v12) → pcp p a b c d k r = (max v01 (max v02 v12), rest p (max v01 (max v02 v12)) (((a : Rat) * r + b) / (c * r + d)))) ∧ (v01 ≠ max v01 (max v02 v12) → v02 ≠ max v01 (max v02 v12) → pcp p a b c d k r = (max v01 (max v02 v12), rest p (max v01 (max v02 v12)) (((a : Rat) * (r + P p k) + b) / (c * (r + P p k) + d)))) := by
  have f0 : (c : Rat) * P p k ≠ 0 := fun z => (Rat.mul_eq_zero.mp z).elim hc (P_ne hp k)
  have h3 := vp_three hp (sum_s (c := c) (d := d) (k := k) (r := r) p) hs f0 ht
  have vf : vp p ((c : Rat) * P p k) = vp p c + k := by rw [vp_mul hp hc (P_ne hp k), vp_P hp]
  rw [v_diff hp hs ht hD (r_ne hp), v_r hp] at e01
  rw [v_inf hp hs hc hD] at e02
  have e12' := e12
  rw [v_inf hp ht hc hD] at e12
  unfold pcp pic
  generalize vp p ((c : Rat) * P p k) = γ at *
  generalize hα : vp p ((c : Rat) * r + d) = α at *
  generalize hβ : vp p ((c : Rat) * (r + P p k) + d) = β at *
  generalize vp p ((a * d - b * c : Int) : Rat) = D at *
  by_cases hh : γ < α
  · rw [if_pos (.inr ⟨f0, hh⟩)]
    dsimp only
    refine ⟨by omega, fun z => by omega, fun z1 z2 => ?_⟩
    have e : D - 2 * vp p c - k = max v01 (max v02 v12) := by omega
    rw [e]
    congr 1
    refine ((rest_iff hp).mpr ?_).symm
    rw [near_iff hp, ← e12']
    exact .inr (by omega)
  · rw [if_neg (fun z => z.elim hs fun z => hh z.2)]
    dsimp only
    have e : k + D - 2 * α = max v01 (max v02 v12) := by omega
    rw [e]
    exact ⟨rfl, fun _ => rfl, fun z1 z2 => by omega⟩
/-- the end beyond is kept -/
theorem pic_c (hp : Pr p) (hD : ((a * d - b * c : Int) : Rat) ≠ 0) (hc : (c : Rat) = 0) : (c : Rat) * r + d ≠ 0 ∧ (c : Rat) * (r + P p k) + d ≠ 0 ∧ pcp p a b c d k r = (vp p (((a : Rat) * r + b) / (c * r + d) - ((a : Rat) * (r + P p k) + b) / (c * (r + P p k) + d)), rest p (vp p (((a : Rat) * r + b) / (c * r + d) - ((a : Rat) * (r + P p k) + b) / (c * (r + P p k) + d))) (((a : Rat) * r + b) / (c * r + d))) := by
  have d0 : (d : Rat) ≠ 0 := fun z => hD (by
    rw [Rat.intCast_sub, Rat.intCast_mul, Rat.intCast_mul, z, hc]
    grind)
  have hs : (c : Rat) * r + d ≠ 0 := by rw [hc]; grind
  have ht : (c : Rat) * (r + P p k) + d ≠ 0 := by rw [hc]; grind
  refine ⟨hs, ht, ?_⟩
  have e1 := v_diff hp hs ht hD (r_ne (k := k) hp)
  rw [v_r hp] at e1
  have e2 : (c : Rat) * (r + P p k) + d = c * r + d := by rw [hc]; grind
  rw [e2] at e1
  have e3 : vp p (((a : Rat) * r + b) / (c * r + d) - ((a : Rat) * (r + P p k) + b) / (c * (r + P p k) + d)) = k + vp p ((a * d - b * c : Int) : Rat) - 2 * vp p (c * r + d) := by
    rw [e2, e1]
    omega
  rw [e3]
  unfold pcp pic
  rw [if_neg (fun z => z.elim hs fun z => z.1 (by rw [hc]; grind))]
/-- the first end is led beyond -/
theorem pic_s (hp : Pr p) (hD : ((a * d - b * c : Int) : Rat) ≠ 0) (hs : (c : Rat) * r + d = 0) : (c : Rat) ≠ 0 ∧ (c : Rat) * (r + P p k) + d ≠ 0 ∧ pcp p a b c d k r = (vp p (((a : Rat) * (r + P p k) + b) / (c * (r + P p k) + d) - (a : Rat) / c), rest p (vp p (((a : Rat) * (r + P p k) + b) / (c * (r + P p k) + d) - (a : Rat) / c)) (((a : Rat) * (r + P p k) + b) / (c * (r + P p k) + d))) := by
  have hc : (c : Rat) ≠ 0 := fun z => hD (by
    rw [Rat.intCast_sub, Rat.intCast_mul, Rat.intCast_mul]
    rw [z] at hs
    have : (d : Rat) = 0 := by grind
    rw [this, z]
    grind)
  have f0 : (c : Rat) * P p k ≠ 0 := fun z => (Rat.mul_eq_zero.mp z).elim hc (P_ne hp k)
  have e2 : (c : Rat) * (r + P p k) + d = c * P p k := by grind
  have ht : (c : Rat) * (r + P p k) + d ≠ 0 := by rw [e2]; exact f0
  refine ⟨hc, ht, ?_⟩
  have e1 := v_inf hp ht hc hD
  have vf : vp p ((c : Rat) * P p k) = vp p c + k := by rw [vp_mul hp hc (P_ne hp k), vp_P hp]
  have e3 : vp p (((a : Rat) * (r + P p k) + b) / (c * (r + P p k) + d) - (a : Rat) / c) = vp p ((a * d - b * c : Int) : Rat) - 2 * vp p c - k := by
    rw [e1, e2, vf]
    omega
  have nn : rest p (vp p (((a : Rat) * (r + P p k) + b) / (c * (r + P p k) + d) - (a : Rat) / c)) (((a : Rat) * (r + P p k) + b) / (c * (r + P p k) + d)) = rest p (vp p (((a : Rat) * (r + P p k) + b) / (c * (r + P p k) + d) - (a : Rat) / c)) ((a : Rat) / c) := (rest_iff hp).mpr ((near_iff hp).mpr (.inr (Int.le_refl _)))
  rw [nn, e3]
  unfold pcp pic
  rw [if_pos (.inl hs)]
/-- the second end is led beyond -/
theorem pic_t (hp : Pr p) (hD : ((a * d - b * c : Int) : Rat) ≠ 0) (ht : (c : Rat) * (r + P p k) + d = 0) : (c : Rat) ≠ 0 ∧ (c : Rat) * r + d ≠ 0 ∧ pcp p a b c d k r = (vp p (((a : Rat) * r + b) / (c * r + d) - (a : Rat) / c), rest p (vp p (((a : Rat) * r + b) / (c * r + d) - (a : Rat) / c)) (((a : Rat) * r + b) / (c * r + d))) := by
  have hc : (c : Rat) ≠ 0 := fun z => hD (by
    rw [Rat.intCast_sub, Rat.intCast_mul, Rat.intCast_mul]
    rw [z] at ht
    have : (d : Rat) = 0 := by grind
    rw [this, z]
    grind)
  have f0 : (c : Rat) * P p k ≠ 0 := fun z => (Rat.mul_eq_zero.mp z).elim hc (P_ne hp k)
  have e2 : (c : Rat) * r + d = -(c * P p k) := by grind
  have hs : (c : Rat) * r + d ≠ 0 := by rw [e2]; grind
  refine ⟨hc, hs, ?_⟩
  have e1 := v_inf hp hs hc hD
  have vf : vp p ((c : Rat) * P p k) = vp p c + k := by rw [vp_mul hp hc (P_ne hp k), vp_P hp]
  have vs : vp p ((c : Rat) * r + d) = vp p c + k := by rw [e2, vp_neg hp f0, vf]
  have e3 : vp p (((a : Rat) * r + b) / (c * r + d) - (a : Rat) / c) = k + vp p ((a * d - b * c : Int) : Rat) - 2 * vp p (c * r + d) := by
    rw [e1, vs]
    omega
  rw [e3]
  unfold pcp pic
  rw [if_neg (fun z => z.elim hs fun z => by have := z.2; omega)]
end
end Pd
end
section
set_option Elab.async false
set_option linter.all false
set_option maxRecDepth 100000
set_option maxHeartbeats 4000000
set_option autoImplicit false
namespace Pd
open PySem PySem.Spec Dk
section
variable {p : Nat} {a b c d : Int} {k : Int} {r : Rat}
theorem not_lost (hp : Pr p) (hD : ((a * d - b * c : Int) : Rat) ≠ 0) (nl : (c : Rat) = 0 ∨ ¬ Nr p k (-(d : Rat) / c) r) : (c : Rat) * r + d ≠ 0 ∧ ((c : Rat) = 0 ∨ vp p (c * r + d) < vp p c + k) := by
  rcases nl with hc | hn
  · have d0 : (d : Rat) ≠ 0 := fun z => hD (by
      rw [Rat.intCast_sub, Rat.intCast_mul, Rat.intCast_mul, z, hc]
      grind)
    exact ⟨by rw [hc]; grind, .inl hc⟩
  · by_cases hc : (c : Rat) = 0
    · have d0 : (d : Rat) ≠ 0 := fun z => hD (by
        rw [Rat.intCast_sub, Rat.intCast_mul, Rat.intCast_mul, z, hc]
        grind)
      exact ⟨by rw [hc]; grind, .inl hc⟩
    · have e : -(d : Rat) / c - r = -((c * r + d) / c) := by
        have h1 := Rat.div_mul_cancel (a := -(d : Rat)) hc
        have h2 := Rat.div_mul_cancel (a := (c : Rat) * r + d) hc
        grind
      have hs : (c : Rat) * r + d ≠ 0 := fun z => hn ((near_iff hp).mpr (.inl (by
        have : -(d : Rat) / c - r = 0 := by rw [e, z, Rat.div_def]; grind
        grind)))
      refine ⟨hs, .inr ?_⟩
      rcases Int.lt_or_le (vp p ((c : Rat) * r + d)) (vp p c + k) with l | l
      · exact l
      · exfalso
        apply hn
        rw [near_iff hp, e]
        have q0 : ((c : Rat) * r + d) / c ≠ 0 := fun z => by
          have := Rat.div_mul_cancel (a := (c : Rat) * r + d) hc
          rw [z, Rat.zero_mul] at this
          exact hs this.symm
        rw [vp_neg hp q0, vp_div hp hs hc]
        exact .inr (by omega)
theorem pic_nl (hp : Pr p) (hs : (c : Rat) * r + d ≠ 0) (h : (c : Rat) = 0 ∨ vp p (c * r + d) < vp p c + k) : pic p a b c d k r = (k + vp p ((a * d - b * c : Int) : Rat) - 2 * vp p (c * r + d), ((a : Rat) * r + b) / (c * r + d)) := by
  unfold pic
  rw [if_neg]
  rintro (z | ⟨z1, z2⟩)
  · exact hs z
  · have hc : (c : Rat) ≠ 0 := fun z => z1 (by rw [z]; grind)
    rw [vp_mul hp hc (P_ne hp k), vp_P hp] at z2
    have := h.resolve_left hc
    omega
theorem told_in (hp : Pr p) (hD : ((a * d - b * c : Int) : Rat) ≠ 0) {x : Rat} (hx : (c : Rat) * x + d ≠ 0) (nl : (c : Rat) = 0 ∨ ¬ Nr p k (-(d : Rat) / c) r) (h : Nr p k x r) : Nr p (pic p a b c d k r).1 (((a : Rat) * x + b) / (c * x + d)) (pic p a b c d k r).2 := by
  obtain ⟨hs, hv⟩ := not_lost hp hD nl
  rw [pic_nl hp hs hv]
  dsimp only
  rw [near_iff hp] at h ⊢
  by_cases xr : x = r
  · subst xr
    exact .inl rfl
  · have xr0 : x - r ≠ 0 := by grind
    have h2 := h.resolve_left xr
    rw [v_diff hp hx hs hD xr0]
    refine .inr ?_
    rcases hv with hc | hv
    · rw [hc, Rat.zero_mul, Rat.zero_mul]
      omega
    · by_cases hc : (c : Rat) = 0
      · rw [hc, Rat.zero_mul, Rat.zero_mul]
        omega
      · have c0 : (c : Rat) * (x - r) ≠ 0 := fun z => (Rat.mul_eq_zero.mp z).elim hc xr0
        have t := vp_three hp (x := (c : Rat) * r + d) (y := c * (x - r)) (z := c * x + d) (by grind) hs c0 hx
        rw [vp_mul hp hc xr0] at t
        omega
theorem told_out (hp : Pr p) (hD : ((a * d - b * c : Int) : Rat) ≠ 0) {x : Rat} (hx : (c : Rat) * x + d ≠ 0) (nl : (c : Rat) = 0 ∨ ¬ Nr p k (-(d : Rat) / c) r) (xr : x ≠ r) (h : vp p (x - r) = k - 1) : ¬ Nr p (pic p a b c d k r).1 (((a : Rat) * x + b) / (c * x + d)) (pic p a b c d k r).2 := by
  obtain ⟨hs, hv⟩ := not_lost hp hD nl
  rw [pic_nl hp hs hv]
  dsimp only
  have xr0 : x - r ≠ 0 := by grind
  rw [near_iff hp]
  rintro (z | z)
  · exact diff_ne hx hs hD xr0 (by rw [z]; grind)
  · rw [v_diff hp hx hs hD xr0, h] at z
    rcases hv with hc | hv
    · rw [hc, Rat.zero_mul, Rat.zero_mul] at z
      omega
    · by_cases hc : (c : Rat) = 0
      · rw [hc, Rat.zero_mul, Rat.zero_mul] at z
        omega
      · have c0 : (c : Rat) * (x - r) ≠ 0 := fun z => (Rat.mul_eq_zero.mp z).elim hc xr0
        have t := vp_three hp (x := (c : Rat) * r + d) (y := c * (x - r)) (z := c * x + d) (by grind) hs c0 hx
        rw [vp_mul hp hc xr0, h] at t
        omega
end
/-! ## what undoes a number, the law's way -/
structure UdI (a m : Int) (S0 : Src) (t : Nat) (σ : List W) (L : Lo) (S : Src) : Prop where
  ex : ∃ (x y c d s : Int) (w : W), σ = [.d (.int a), .d (.int m), .d (.int x), .d (.int y), .d (.int c), .d (.int d), w] ∧ L = [] ∧ S = S0 ∧ t = y.natAbs ∧ 0 ≤ y ∧ 0 ≤ x ∧ x ≤ m ∧ y ≤ m ∧ (s = 1 ∨ s = -1) ∧ 0 ≤ s * c ∧ s * d ≤ 0 ∧ s * (c * y - d * x) = m ∧ m ∣ d * a - y ∧ m ∣ c * a - x ∧ (∃ u v : Int, u * x + v * y = 1)
structure UdE (a m : Int) (S0 : Src) (σ : List W) (L : Lo) (S : Src) : Prop where
  ex : ∃ (w2 w3 w5 w6 : W) (c : Int), σ = [.d (.int a), .d (.int m), w2, w3, .d (.int c), w5, w6] ∧ L = [] ∧ S = S0 ∧ m ∣ c * a - 1
theorem bnd2 {s d x c y m : Int} (hs : s = 1 ∨ s = -1) (h1 : 0 ≤ s * c) (h2 : s * d ≤ 0) (h3 : s * (c * y - d * x) = m) (hx : 0 ≤ x) (hy : 0 ≤ y) : (0 < x → d.natAbs ≤ m.natAbs) := by
  have e : s * c * y + (-(s * d)) * x = m := by rw [← h3]; grind
  have p1 : 0 ≤ (-(s * d)) * x := Int.mul_nonneg (by omega) hx
  have p3 : 0 ≤ s * c * y := Int.mul_nonneg h1 hy
  intro hx2
  have p4 : (-(s * d)) * 1 ≤ (-(s * d)) * x := Int.mul_le_mul_of_nonneg_left (by omega) (by omega)
  rcases hs with rfl | rfl <;> omega
theorem unD_of {Δ : Tb} : UnF (mean Δ 2 7 b__law_undone_by) := by
  intro a m S hm hbl hcop
  suffices h : ∃ x S', mean Δ 2 7 b__law_undone_by [.d (.int a), .d (.int m)] S = .ok x [] S' ∧ (∃ u : Int, x = .int u ∧ 0 ≤ u ∧ u < m ∧ m ∣ u * a - 1) ∧ S' = S by
    obtain ⟨x, S', h1, ⟨u, rfl, h2⟩, rfl⟩ := h
    exact ⟨u, h1, h2⟩
  obtain ⟨N, hN⟩ : ∃ N : Nat, m.natAbs < N := ⟨_, Nat.lt_succ_self _⟩
  refine mean_of (n := N) ⟨rfl, rfl⟩ ?_
  unfold b__law_undone_by
  have m0 : m ≠ 0 := by omega
  have r0 := Int.emod_nonneg a m0
  have r1 := Int.emod_lt_of_pos a (show 0 < m by omega)
  have re := Int.mul_ediv_add_emod a m
  have s4 : (4 : Nat) ≤ sizeLine := by decide
  rw [Ws_cons, Ws_asgT]
  have ev1 : ev Δ (.tup (.cons (.bop .mod (.bf .int (.cons (.var 0) .nil)) (.var 1)) (.cons (.var 1) (.cons (.int 1) (.cons (.int 0) .nil))))) [.d (.int a), .d (.int m), .un, .un, .un, .un, .un] [] S = .ok (.d (.tuple [.int (a % m), .int m, .int 1, .int 0])) [] S := by
    simp [viewAll, opF, opB_mod m0, fmod_pos (show 0 < m by omega), s4]
  refine (show Wr (ev Δ _ [.d (.int a), .d (.int m), .un, .un, .un, .un, .un] [] S) _ from ?_)
  rw [ev1]
  refine Wr_ok.mpr ⟨_, _, rfl, rfl, ?_⟩
  dsimp only
  refine Ws_cut (UdE a m S) ?_ ?_
  · rw [Ws_whl]
    refine whl_of (D := _) (UdI a m S) ?_ N m.natAbs _ _ _ hN ⟨a % m, m, 1, 0, 1, _, rfl, rfl, rfl, rfl, by omega, r0, by omega, Int.le_refl m, .inl rfl, by decide, by decide, by grind, ⟨-1, by grind⟩, ⟨a / m, by grind⟩, ?_⟩
    · rintro t σ L S' ⟨x, y, c, d, s, w, rfl, rfl, rfl, rfl, hy, hx, hxm, hym, hs, q1, q2, q3, q4, q5, u, v, q6⟩
      simp
      by_cases hy1 : 0 < y
      · have b2 := bnd2 hs q1 q2 q3 hx hy
        have lm := Lg.bl m
        have ly : Lg (bl m) y := lm.le (by omega)
        have y0 : y ≠ 0 := by omega
        have d1 := ly.fdiv (a := x) y0 hbl
        rw [if_pos hy1]
        rw [Ws_cons, Ws_asg]
        simp [d1, fdiv_pos hy1]
        have dm := Int.mul_ediv_add_emod x y
        have e0 := Int.emod_nonneg x y0
        have e1 := Int.emod_lt_of_pos x hy1
        have b3 : 0 ≤ x / y := Int.ediv_nonneg (by omega) (by omega)
        have b4 : x / y ≤ x := Int.ediv_le_self _ (by omega)
        have lq : Lg (bl m) (x / y) := lm.le (by omega)
        have m1 := lq.mulOk ly (by omega)
        have m2 : opB .mul (.int (x / y)) (.int d) = some (.int (x / y * d)) := by
          by_cases hx0 : 0 < x
          · exact lq.mulOk (lm.le (b2 hx0)) (by omega)
          · have : x / y = 0 := by have : x = 0 := by omega
                                   rw [this]; simp
            rw [this]
            exact opB_mul2 (by decide)
        rw [Ws_cons, Ws_asgT]
        have ev2 : ev Δ (.tup (.cons (.var 3) (.cons (.bop .sub (.var 2) (.bop .mul (.var 6) (.var 3))) (.cons (.var 5) (.cons (.bop .sub (.var 4) (.bop .mul (.var 6) (.var 5))) .nil))))) [.d (.int a), .d (.int m), .d (.int x), .d (.int y), .d (.int c), .d (.int d), .d (.int (x / y))] [] S' = .ok (.d (.tuple [.int y, .int (x % y), .int d, .int (c - x / y * d)])) [] S' := by
          have ey : x - x / y * y = x % y := by rw [Int.mul_comm]; omega
          simp [m1, m2, s4, ey]
        rw [ev2]
        refine Wr_ok.mpr ⟨_, _, rfl, rfl, ?_⟩
        dsimp only
        rw [Ws_nil]
        dsimp only
        generalize x / y = q at *
        generalize x % y = r at *
        refine ⟨r.natAbs, by omega, y, r, d, c - q * d, -s, _, rfl, rfl, rfl, rfl, e0, hy, hym, by omega, by omega, by grind, ?_, by grind, ?_, q4, u * q + v, u, by grind⟩
        · have : 0 ≤ q * (-(s * d)) := Int.mul_nonneg b3 (by omega)
          grind
        · obtain ⟨k1, h1⟩ := q4
          obtain ⟨k2, h2⟩ := q5
          exact ⟨k2 - q * k1, by grind⟩
      · rw [if_neg hy1]
        have y0 : y = 0 := by omega
        subst y0
        have x1 : x = 1 := by
          have h1 : u * x = 1 := by grind
          have h2 : x ≤ 1 := Int.le_of_dvd (by decide) ⟨u, by grind⟩
          have h3 : x ≠ 0 := fun z => by rw [z] at h1; simp at h1
          omega
        subst x1
        exact ⟨_, _, _, _, c, rfl, rfl, rfl, q5⟩
    · obtain ⟨s, t, e⟩ := hcop
      refine ⟨s, t + s * (a / m), ?_⟩
      grind
  · rintro σ L S' ⟨w2, w3, w5, w6, y, rfl, rfl, rfl, k, hk⟩
    simp only [Ws_nil, Ws_cons, Ws_ret]
    simp [viewAll, opF, opB_mod m0, fmod_pos (show 0 < m by omega)]
    have f0 := Int.emod_nonneg y m0
    have f1 := Int.emod_lt_of_pos y (show 0 < m by omega)
    have f2 := Int.mul_ediv_add_emod y m
    exact ⟨f0, f1, k - y / m * a, by grind⟩
end Pd
end
section
set_option Elab.async false
set_option linter.all false
set_option maxRecDepth 100000
set_option maxHeartbeats 4000000
set_option autoImplicit false
namespace Pd
open PySem PySem.Spec Dk
def RestD (f : Fn) : Prop := ∀ (p : Nat) (x : Rat) (k : Int) (S : Src), Pp p → k.natAbs ≤ 1000 → sz x ≤ 400 → f [.d (.int p), .d (fr x), .d (.int k)] S = .ok (fr (rest p k x)) [] S
theorem restD_of {Δ : Tb} (ho : PiF (Δ "_law_often")) (ht : BinF (fun x y => x * y) (Δ "_law_times")) (hw : PowF (Δ "_law_power")) (hu : UnF (Δ "_law_undone_by")) : RestD (mean Δ 3 7 b__law_rest_d) := by
  intro p x k S hp hk hx
  refine mean_eq (n := 0) ⟨rfl, rfl⟩ ?_
  unfold b__law_rest_d
  have s2 : (2 : Nat) ≤ sizeLine := by decide
  have e1 := ho p x S hp
  rw [Ws_cons, Ws_asg]
  simp [e1]
  rw [Ws_cons, Ws_if]
  by_cases x0 : x = 0
  · subst x0
    rw [vD0]
    simp [isNone]
    simp only [Ws_nil, Ws_cons, Ws_ret]
    simp [s2, rest_of0 hp.pr]
    rfl
  · rw [vD1 x0]
    have hv := vp_sz hp.pr x0
    have hunit : Vl p (x * P p (-vp p x)) 0 := by
      have := (vp_ok hp.pr x0).mul hp.pr (Vl.P hp.pr (-vp p x))
      rw [show vp p x + -vp p x = 0 by omega] at this
      exact this
    have hr0 : ∀ j, j ≤ vp p x → IsRest p j x 0 := fun j h => vp_rest hp.pr x0 h
    have w1 := hw p (-vp p x) S hp (by omega)
    have sP := sz_P hp (-vp p x)
    have w2 := ht x (P p (-vp p x)) S (by omega)
    have su := sz_mul x (P p (-vp p x))
    have hxu : x * P p (-vp p x) * P p (vp p x) = x := by
      have := P_neg hp.pr (vp p x)
      grind
    dsimp only at w2
    generalize vp p x = v at *
    generalize x * P p (-v) = u at *
    by_cases hkv : k ≤ v
    · simp [isNone, hkv]
      simp only [Ws_nil, Ws_cons, Ws_ret]
      simp [s2, ← rest_eq hp.pr (hr0 k hkv)]
      rfl
    · simp [isNone, hkv, Ws_nil]
      obtain ⟨m, hm⟩ := Int.eq_ofNat_of_zero_le (show 0 ≤ k - v by omega)
      have w3 := hw p m S hp (by omega)
      rw [fr_P hp.pr] at w3
      rw [Ws_cons, Ws_par]
      simp [w1, w2]
      rw [hm]
      simp [w3]
      have ud : Un p (u.den : Int) := zi_den hp.pr (by
        have := (hunit.zi hp.pr 0).mpr (Int.le_refl 0)
        rw [show (-(0 : Int)) = 0 by omega, P_0, Rat.mul_one] at this
        exact this)
      have lm := Lg.pow hp.le m
      have pm := pow_pos' hp.pr m
      have m2 : 2 ≤ (p : Int) ^ m := by
        obtain ⟨q, rfl⟩ : ∃ q, m = q + 1 := ⟨m - 1, by omega⟩
        have p2 := hp.pr.two
        have pq := pow_pos' hp.pr q
        rw [Int.pow_succ]
        have := Int.mul_le_mul_of_nonneg_left (show (2 : Int) ≤ p by omega) (Int.le_of_lt pq)
        omega
      obtain ⟨u', v', g'⟩ := ud.pow_cop hp.pr m
      obtain ⟨w, e2, w0, w11, wd⟩ := hu u.den ((p : Int) ^ m) S m2 (bl_le8 lm (by omega)) ⟨u', v', g'⟩
      have lw : Lg (3 * m + 1) w := lm.le (by omega)
      have mm := (sz_num u).mulOk lw (by omega)
      have m0 : (p : Int) ^ m ≠ 0 := by omega
      have f1 := Int.emod_nonneg (u.num * w) m0
      have f2 := Int.emod_lt_of_pos (u.num * w) pm
      have f3 := Int.mul_ediv_add_emod (u.num * w) ((p : Int) ^ m)
      rw [Ws_cons, Ws_asg]
      simp [e2, mm, viewAll, opF, opB_mod m0, fmod_pos pm]
      generalize hL : (u.num * w) % (p : Int) ^ m = l at *
      have ll : Lg (3 * m + 1) l := lm.le (by omega)
      have sl := sz_int l
      have bl1 := bl_le ll (by omega)
      have sPv := sz_P hp v
      have w4 := hw p v S hp (by omega)
      have w5 := ht (l : Rat) (P p v) S (by omega)
      have hr : IsRest p k x (l * P p v) := by
        refine ⟨(Fr.int l).mul hp.pr (.P hp.pr v), Rat.mul_nonneg (Rat.intCast_nonneg.mpr f1) (Rat.le_of_lt (P_pos hp.pr v)), ?_, ?_⟩
        · have e : P p k = P p m * P p v := by rw [← P_add hp.pr]; congr 1; omega
          rw [e]
          refine Rat.mul_lt_mul_of_pos_right ?_ (P_pos hp.pr v)
          rw [P_nat]
          exact Rat.intCast_lt_intCast.mpr f2
        · obtain ⟨c, hc⟩ := wd
          refine ⟨(u.num * w / (p : Int) ^ m) * u.den - u.num * c, u.den, ud, ?_⟩
          have d0 := den_ne u
          have q1 := Rat.div_mul_cancel (a := (u.num : Rat)) d0
          rw [← num_over_den u] at q1
          have q2 : ((u.num - l * u.den : Int) : Rat) = (((p : Int) ^ m * ((u.num * w / (p : Int) ^ m) * u.den - u.num * c) : Int) : Rat) := by
            congr 1
            grind
          rw [Rat.intCast_mul, ← P_nat, Rat.intCast_sub, Rat.intCast_mul] at q2
          have q3 : P p (-k) = P p (-(m : Int)) * P p (-v) := by rw [← P_add hp.pr]; congr 1; omega
          have q4 := P_neg hp.pr (m : Int)
          have q5 := P_neg hp.pr v
          rw [q3]
          generalize (((u.num * w / (p : Int) ^ m) * u.den - u.num * c : Int) : Rat) = z at q2 ⊢
          grind
      simp only [Ws_nil, Ws_cons, Ws_ret]
      simp [s2, fr_int, w4, w5, ← rest_eq hp.pr hr]
/-! ## pictures by the program -/
def mvD (a b c d : Int) : PyData := .tuple [.int a, .int b, .int c, .int d]
def DetF (f : Fn) : Prop := ∀ (a b c d : Int) (S : Src), bl a ≤ 500 → bl b ≤ 500 → bl c ≤ 500 → bl d ≤ 500 → f [.d (mvD a b c d)] S = .ok (.int (a * d - b * c)) [] S
theorem det_of {Δ : Tb} : DetF (mean Δ 1 1 b_determinant) := by
  intro a b c d S ha hb hc hd
  refine mean_eq (n := 0) ⟨rfl, rfl⟩ ?_
  unfold b_determinant
  have m1 := (Lg.bl a).mulOk (Lg.bl d) (by omega)
  have m2 := (Lg.bl b).mulOk (Lg.bl c) (by omega)
  simp only [Ws_nil, Ws_cons, Ws_ret]
  simp [mvD, m1, m2]
def WhF (f : Fn) : Prop := ∀ (n : Int) (S : Src), f [.d (.int n)] S = .ok (fr (n : Rat)) [] S
theorem wh_of {Δ : Tb} : WhF (mean Δ 1 1 b_whole) := by
  intro n S
  refine mean_eq (n := 0) ⟨rfl, rfl⟩ ?_
  unfold b_whole
  simp only [Ws_nil, Ws_cons, Ws_ret]
  simp [sizeLine, fr_int]
def BotF (f : Fn) : Prop := ∀ (p : Nat) (a b c d k : Int) (r : Rat) (S : Src), Pp p → bl a ≤ 100 → bl b ≤ 100 → bl c ≤ 100 → bl d ≤ 100 → k.natAbs ≤ 100 → sz r ≤ 400 → f [.d (.int p), .d (mvD a b c d), .d (pl k r)] S = .ok (.tuple [fr ((c : Rat) * P p k), fr ((c : Rat) * r + d)]) [] S
theorem bots_of {Δ : Tb} (hwh : WhF (Δ "whole")) (ht : BinF (fun x y => x * y) (Δ "ratios_times")) (ha : BinF (fun x y => x + y) (Δ "ratios_added")) (hw : PowF (Δ "power_of")) : BotF (mean Δ 3 5 b_bottoms_of) := by
  intro p a b c d k r S hp ba bb bc bd hk hr
  refine mean_eq (n := 0) ⟨rfl, rfl⟩ ?_
  unfold b_bottoms_of
  have s2 : (2 : Nat) ≤ sizeLine := by decide
  have e1 := hwh c S
  have e2 := hwh d S
  have sc := sz_int c
  have sd := sz_int d
  have sP := sz_P hp k
  have w1 := hw p k S hp (by omega)
  have w2 := ht (c : Rat) (P p k) S (by omega)
  have w3 := ht (c : Rat) r S (by omega)
  have sm := sz_mul (c : Rat) r
  have w4 := ha ((c : Rat) * r) (d : Rat) S (by omega)
  rw [Ws_cons, Ws_par]
  simp [mvD, e1, e2]
  simp only [Ws_nil, Ws_cons, Ws_ret]
  simp [w1, w2, w3, w4, s2]
def PicF (f : Fn) : Prop := ∀ (p : Nat) (a b c d k : Int) (r : Rat) (S : Src), Pp p → bl a ≤ 40 → bl b ≤ 40 → bl c ≤ 40 → bl d ≤ 40 → k.natAbs ≤ 20 → sz r ≤ 60 → ((a * d - b * c : Int) : Rat) ≠ 0 → f [.d (.int p), .d (mvD a b c d), .d (pl k r)] S = .ok (pl (pcp p a b c d k r).1 (pcp p a b c d k r).2) [] S
end Pd
end
section
set_option Elab.async false
set_option linter.all false
set_option maxRecDepth 100000
set_option maxHeartbeats 4000000
set_option autoImplicit false
namespace Pd
open PySem PySem.Spec Dk
theorem bl_det {a b c d : Int} {n : Nat} (ha : bl a ≤ n) (hb : bl b ≤ n) (hc : bl c ≤ n) (hd : bl d ≤ n) : bl (a * d - b * c) ≤ 2 * n + 1 := by
  have h1 := bl_mul a d
  have h2 := bl_mul b c
  have h3 := bl_add (a * d) (-(b * c))
  rw [bl_neg] at h3
  rw [Int.sub_eq_add_neg]
  omega
theorem pic_of {Δ : Tb} (hb : BotF (Δ "bottoms_of")) (hd : DetF (Δ "determinant")) (hwh : WhF (Δ "whole")) (hi : PiF (Δ "power_in")) (hn : NameF (Δ "place_named")) (hl : LowF (Δ "ratio_low")) (ht : BinF (fun x y => x * y) (Δ "ratios_times")) (ha : BinF (fun x y => x + y) (Δ "ratios_added")) (ho : OverF (Δ "ratios_over")) : PicF (mean Δ 3 12 b_picture_of) := by
  intro p a b c d k r S hp ba bb bc bd hk hr hD
  refine mean_eq (n := 0) ⟨rfl, rfl⟩ ?_
  unfold b_picture_of
  have s2 : (2 : Nat) ≤ sizeLine := by decide
  have e1 := hb p a b c d k r S hp (by omega) (by omega) (by omega) (by omega) (by omega) (by omega)
  rw [Ws_cons, Ws_asgT]
  refine Wr_ok.mpr ⟨_, _, rfl, rfl, ?_⟩
  dsimp only
  rw [Ws_cons, Ws_asgT]
  have ev1 : ev Δ (.call "bottoms_of" (.cons (.var 0) (.cons (.var 1) (.cons (.var 2) .nil)))) [.d (.int p), .d (mvD a b c d), .d (pl k r), .d (.int a), .d (.int b), .d (.int c), .d (.int d), .un, .un, .un, .un, .un] [] S = .ok (.d (.tuple [fr ((c : Rat) * P p k), fr ((c : Rat) * r + d)])) [] S := by
    simp [e1]
  refine (show Wr (ev Δ _ [.d (.int p), .d (mvD a b c d), .d (pl k r), .d (.int a), .d (.int b), .d (.int c), .d (.int d), .un, .un, .un, .un, .un] [] S) _ from ?_)
  rw [ev1]
  refine Wr_ok.mpr ⟨_, _, rfl, rfl, ?_⟩
  dsimp only
  have bD := bl_det ba bb bc bd
  have e2 := hd a b c d S (by omega) (by omega) (by omega) (by omega)
  have e3 := hwh (a * d - b * c) S
  have e4 := hi p ((a * d - b * c : Int) : Rat) S hp
  rw [vD1 hD] at e4
  have vDs := vp_sz hp.pr hD
  have sD := sz_int (a * d - b * c)
  have sa := sz_int a
  have sb := sz_int b
  have sc := sz_int c
  have sd := sz_int d
  have sP := sz_P hp k
  have sf := sz_mul (c : Rat) (P p k)
  have scr := sz_mul (c : Rat) r
  have ss := sz_add ((c : Rat) * r) (d : Rat)
  have e5 := hi p ((c : Rat) * P p k) S hp
  have e6 := hi p ((c : Rat) * r + d) S hp
  generalize hDd : ((a * d - b * c : Int) : Rat) = D at *
  rw [Ws_cons, Ws_asg]
  simp [e2, e3, e4]
  have hpc : pcp p a b c d k r = ((pic p a b c d k r).1, rest p (pic p a b c d k r).1 (pic p a b c d k r).2) := rfl
  rw [hpc]
  unfold pic
  rw [hDd]
  by_cases hf : (c : Rat) * r + d = 0 ∨ ((c : Rat) * P p k ≠ 0 ∧ vp p (c * P p k) < vp p (c * r + d))
  · have hc : (c : Rat) ≠ 0 := by
      rcases hf with z | z
      · intro z2
        apply hD
        rw [← hDd, Rat.intCast_sub, Rat.intCast_mul, Rat.intCast_mul]
        rw [z2] at z
        have : (d : Rat) = 0 := by grind
        rw [this, z2]
        grind
      · exact fun z2 => z.1 (by rw [z2]; grind)
    have hci : c ≠ 0 := fun z => hc (by rw [z]; rfl)
    have e7 := hwh c S
    have e8 := hi p (c : Rat) S hp
    rw [vD1 hc] at e8
    have vcs := vp_sz hp.pr hc
    have e9 := hl a c S hci (by omega) (by omega)
    rw [Rat.divInt_eq_div] at e9
    have sq := sz_div (x := (a : Rat)) hc
    have e10 := hn p (vp p D - 2 * vp p c - k) ((a : Rat) / c) S hp (by omega) (by omega)
    have m2 : opB .mul (.int 2) (.int (vp p (c : Rat))) = some (.int (2 * vp p (c : Rat))) := opB_mul2 (by decide)
    rw [if_pos hf]
    have ev10 : ∀ σ : List W, σ[0]? = some (.d (.int p)) → σ[7]? = some (.d (fr ((c : Rat) * P p k))) → σ[8]? = some (.d (fr ((c : Rat) * r + d))) → ev Δ (.or (.cmp .eq (.var 8) (.tup (.cons (.int 0) (.cons (.int 1) .nil)))) (.and (.cmp .ne (.var 7) (.tup (.cons (.int 0) (.cons (.int 1) .nil)))) (.cmp .lt (.call "power_in" (.cons (.var 0) (.cons (.var 7) .nil))) (.call "power_in" (.cons (.var 0) (.cons (.var 8) .nil)))))) σ [] S = .ok (.d (.bool true)) [] S := fun σ h0 h7 h8 => by
      by_cases hz : (c : Rat) * r + d = 0
      · simp [h8, s2, fr_0, hz]
      · have hf2 := hf.resolve_left hz
        rw [vD1 hf2.1] at e5
        rw [vD1 hz] at e6
        simp [h0, h7, h8, s2, fr_0, hz, hf2.1, hf2.2, e5, e6]
    rw [Ws_cons, Ws_asg, ev10 _ rfl rfl rfl, Wr_ok]
    dsimp only
    simp
    rw [Ws_cons, Ws_if]
    simp
    simp only [Ws_nil, Ws_cons, Ws_ret]
    simp [e7, e8, m2, e9, e10]
  · rw [if_neg hf]
    have hs : (c : Rat) * r + d ≠ 0 := fun z => hf (.inl z)
    rw [vD1 hs] at e6
    have vss := vp_sz hp.pr hs
    have e7 := hwh a S
    have e8 := hwh b S
    have e9 := ht (a : Rat) r S (by omega)
    have sar := sz_mul (a : Rat) r
    have e10 := ha ((a : Rat) * r) (b : Rat) S (by omega)
    have st := sz_add ((a : Rat) * r) (b : Rat)
    have e11 := ho ((a : Rat) * r + b) ((c : Rat) * r + d) S hs (by omega)
    have sq := sz_div (x := (a : Rat) * r + b) hs
    have e12 := hn p (k + vp p D - 2 * vp p ((c : Rat) * r + d)) (((a : Rat) * r + b) / (c * r + d)) S hp (by omega) (by omega)
    have m2 : opB .mul (.int 2) (.int (vp p ((c : Rat) * r + d))) = some (.int (2 * vp p ((c : Rat) * r + d))) := opB_mul2 (by decide)
    have ev10 : ∀ σ : List W, σ[0]? = some (.d (.int p)) → σ[7]? = some (.d (fr ((c : Rat) * P p k))) → σ[8]? = some (.d (fr ((c : Rat) * r + d))) → ev Δ (.or (.cmp .eq (.var 8) (.tup (.cons (.int 0) (.cons (.int 1) .nil)))) (.and (.cmp .ne (.var 7) (.tup (.cons (.int 0) (.cons (.int 1) .nil)))) (.cmp .lt (.call "power_in" (.cons (.var 0) (.cons (.var 7) .nil))) (.call "power_in" (.cons (.var 0) (.cons (.var 8) .nil)))))) σ [] S = .ok (.d (.bool false)) [] S := fun σ h0 h7 h8 => by
      by_cases hz : (c : Rat) * P p k = 0
      · simp [h7, h8, s2, fr_0, hz, hs]
      · have h2 : ¬ vp p ((c : Rat) * P p k) < vp p ((c : Rat) * r + d) := fun z => hf (.inr ⟨hz, z⟩)
        rw [vD1 hz] at e5
        simp [h0, h7, h8, s2, fr_0, hz, hs, h2, e5, e6]
    rw [Ws_cons, Ws_asg, ev10 _ rfl rfl rfl, Wr_ok]
    dsimp only
    simp
    rw [Ws_cons, Ws_if]
    simp [Ws_nil]
    rw [Ws_cons, Ws_asg]
    simp [e7, e8, e9, e10]
    simp only [Ws_nil, Ws_cons, Ws_ret]
    simp [e6, m2, e11, e12]
end Pd
end
section
set_option Elab.async false
set_option linter.all false
set_option maxRecDepth 100000
set_option maxHeartbeats 4000000
set_option autoImplicit false
namespace Pd
open PySem PySem.Spec Dk
/-! ## ends led, the law's way -/
theorem led_low {a b c d : Int} {x : Rat} : ((c * x.num + d * x.den : Int) ≠ 0 ↔ (c : Rat) * x + d ≠ 0) ∧ ((c : Rat) * x + d ≠ 0 → Rat.divInt (a * x.num + b * x.den) (c * x.num + d * x.den) = ((a : Rat) * x + b) / (c * x + d)) := by
  have d0 := den_ne x
  have q1 := Rat.div_mul_cancel (a := (x.num : Rat)) d0
  rw [← num_over_den x] at q1
  have hc : ((c * x.num + d * x.den : Int) : Rat) = ((c : Rat) * x + d) * (x.den : Int) := by
    rw [Rat.intCast_add, Rat.intCast_mul, Rat.intCast_mul]
    grind
  have ha : ((a * x.num + b * x.den : Int) : Rat) = ((a : Rat) * x + b) * (x.den : Int) := by
    rw [Rat.intCast_add, Rat.intCast_mul, Rat.intCast_mul]
    grind
  refine ⟨⟨fun h z => h ?_, fun h z => h ?_⟩, fun h => ?_⟩
  · rw [z, Rat.zero_mul] at hc
    exact Rat.intCast_eq_zero_iff.mp hc
  · rw [z] at hc
    exact (Rat.mul_eq_zero.mp hc.symm).resolve_right d0
  · rw [Rat.divInt_eq_div, ha, hc]
    have h2 : ((c : Rat) * x + d) * (x.den : Int) ≠ 0 := fun z => (Rat.mul_eq_zero.mp z).elim h d0
    have e1 := Rat.div_mul_cancel (a := ((a : Rat) * x + b) * (x.den : Int)) h2
    have e2 := Rat.div_mul_cancel (a := (a : Rat) * x + b) h
    grind
def LedF (f : Fn) : Prop := ∀ (a b c d : Int) (e : Option Rat) (S : Src), bl a ≤ 40 → bl b ≤ 40 → bl c ≤ 40 → bl d ≤ 40 → (∀ x, e = some x → sz x ≤ 1000) → f [.d (mvD a b c d), .d (eD e)] S = .ok (eD (ld a b c d e)) [] S
theorem led_of {Δ : Tb} (hl : LowF (Δ "_law_low")) : LedF (mean Δ 2 8 b__law_led) := by
  intro a b c d e S ba bb bc bd he
  refine mean_eq (n := 0) ⟨rfl, rfl⟩ ?_
  unfold b__law_led
  rw [Ws_cons, Ws_asgT]
  refine Wr_ok.mpr ⟨_, _, rfl, rfl, ?_⟩
  dsimp only
  rw [Ws_cons, Ws_if]
  match e, he with
  | none, _ =>
    simp [eD, isNone]
    simp only [Ws_nil, Ws_cons, Ws_ret]
    by_cases hc : c = 0
    · have : ld a b c d none = none := if_neg (fun z => z (by rw [hc]; rfl))
      simp [hc, Wr_ite]
      rw [← hc, this]
    · have hcr : (c : Rat) ≠ 0 := fun z => hc (Rat.intCast_eq_zero_iff.mp z)
      have : ld a b c d none = some ((a : Rat) / c) := if_pos hcr
      have e1 := hl a c S hc (by omega) (by omega)
      rw [Rat.divInt_eq_div] at e1
      simp [hc, Wr_ite, e1]
      rw [this]
  | some x, he =>
    have hx := he x rfl
    simp [eD, ne_none_fr, Ws_nil]
    have m1 := (Lg.bl a).mulOk (sz_num x) (by omega)
    have m2 := (Lg.bl b).mulOk (sz_den x) (by omega)
    have m3 := (Lg.bl c).mulOk (sz_num x) (by omega)
    have m4 := (Lg.bl d).mulOk (sz_den x) (by omega)
    rw [Ws_cons, Ws_par]
    simp [m1, m2, m3, m4]
    simp only [Ws_nil, Ws_cons, Ws_ret]
    obtain ⟨l1, l2⟩ := led_low (a := a) (b := b) (c := c) (d := d) (x := x)
    by_cases hz : (c : Rat) * x + d = 0
    · have hz2 : c * x.num + d * x.den = 0 := by
        rcases Classical.em (c * x.num + d * x.den = 0) with h | h
        · exact h
        · exact absurd hz (l1.mp h)
      have : ld a b c d (some x) = none := if_neg (fun z => z hz)
      simp [hz2, Wr_ite]
      rw [this]
    · have hz2 := l1.mpr hz
      have b1 := bl_mul a x.num
      have b2 := bl_mul b x.den
      have b3 := bl_add (a * x.num) (b * x.den)
      have b4 := bl_mul c x.num
      have b5 := bl_mul d x.den
      have b6 := bl_add (c * x.num) (d * x.den)
      have n1 := bl_num x
      have n2 := bl_den x
      have e1 := hl (a * x.num + b * x.den) (c * x.num + d * x.den) S hz2 (by omega) (by omega)
      rw [l2 hz] at e1
      have : ld a b c d (some x) = some (((a : Rat) * x + b) / (c * x + d)) := if_pos hz
      simp [hz2, Wr_ite, e1]
      rw [this]
theorem sz_ld {a b c d : Int} {x : Rat} (ba : bl a ≤ 40) (bb : bl b ≤ 40) (bc : bl c ≤ 40) (bd : bl d ≤ 40) (hz : (c : Rat) * x + d ≠ 0) : sz (((a : Rat) * x + b) / (c * x + d)) ≤ 84 + 2 * sz x := by
  obtain ⟨l1, l2⟩ := led_low (a := a) (b := b) (c := c) (d := d) (x := x)
  rw [← l2 hz]
  have h := sz_low (t := a * x.num + b * x.den) (l1.mpr hz)
  have b1 := bl_mul a x.num
  have b2 := bl_mul b x.den
  have b3 := bl_add (a * x.num) (b * x.den)
  have b4 := bl_mul c x.num
  have b5 := bl_mul d x.den
  have b6 := bl_add (c * x.num) (d * x.den)
  have n : sz x = bl x.num + bl (x.den : Int) := rfl
  omega
/-! ## the middle of three ends -/
theorem max_3 (i j l : Int) : opF .max1 [.list [.int i, .int j, .int l]] = some (.int (max i (max j l))) := by
  show some (PyData.int (let u := if j > i then j else i; if l > u then l else u)) = _
  dsimp only
  congr 2
  split <;> split <;> omega
theorem idx_3 (i j l m : Int) (h : m = i ∨ m = j ∨ m = l) : idxD (.list [.int i, .int j, .int l]) (.int m) = some (.int (if i = m then 0 else if j = m then 1 else 2)) := by
  have so : SeqAt.shaped (.list [.int i, .int j, .int l]) = true := shp_ints [i, j, l]
  have sm : SeqAt.shaped (.int m) = true := rfl
  unfold idxD
  dsimp only
  rw [if_pos ⟨sm, so⟩]
  have ev : ∀ a b : Int, PyData.eqv (.int a) (.int b) = decide (a = b) := fun _ _ => rfl
  unfold idxOf idxOf idxOf
  rw [ev, ev, ev]
  by_cases h1 : i = m
  · simp [h1]
  · by_cases h2 : j = m
    · simp [h1, h2]
    · have h3 : l = m := by omega
      simp [h1, h2, h3]
def Mid2F (f : Fn) : Prop := ∀ (p : Nat) (es : List (Option Rat)) (y z : Rat) (S : Src), Pp p → es.length ≤ 10 → es.filterMap id = [y, z] → y ≠ z → sz y ≤ 400 → sz z ≤ 400 → (vp p (y - z)).natAbs ≤ 1000 → f [.d (.int p), .d (.list (es.map eD))] S = .ok (pl (vp p (y - z)) (rest p (vp p (y - z)) y)) [] S
def Mid3F (f : Fn) : Prop := ∀ (p : Nat) (es : List (Option Rat)) (x y z : Rat) (S : Src) (v01 v02 v12 : Int), Pp p → es.length ≤ 10 → es.filterMap id = [x, y, z] → x ≠ y → x ≠ z → y ≠ z → sz x ≤ 400 → sz y ≤ 400 → sz z ≤ 400 → v01 = vp p (x - y) → v02 = vp p (x - z) → v12 = vp p (y - z) → (max v01 (max v02 v12)).natAbs ≤ 1000 → f [.d (.int p), .d (.list (es.map eD))] S = .ok (pl (max v01 (max v02 v12)) (rest p (max v01 (max v02 v12)) (if v01 = max v01 (max v02 v12) then x else if v02 = max v01 (max v02 v12) then x else y))) [] S
theorem fm_some_ : ∀ es : List (Option Rat), (es.filter Option.isSome).map eD = (es.filterMap id).map fr
  | [] => rfl
  | none :: es => by
    have := fm_some_ es
    simpa using this
  | some x :: es => by
    have := fm_some_ es
    simp [eD]
    simpa using this
theorem mid_some {Δ : Tb} {σ : List W} {es : List (Option Rat)} {S : Src} (h1 : σ[1]? = some (.d (.list (es.map eD)))) (hl : 3 < σ.length) (hlen : es.length ≤ 10) : ev Δ (.lc false (.var 3) [("end", 3)] (.nm 3) (.seq (.var 1)) (.cmp .isnt (.var 3) .non)) σ [] S = .ok (.d (.list ((es.filterMap id).map fr))) [] S := by
  rw [← fm_some_]
  refine ev_lcF eD Option.isSome eD (by simp [h1]) (Nat.le_trans hlen (by decide)) (fun a _ => ?_) (fun a _ _ => ?_)
  · cases a with
    | none => simp [List.getElem?_set, hl, eD, isNone]
    | some x => simp [List.getElem?_set, hl, eD, ne_none_fr]
  · simp [List.getElem?_set, hl]
theorem mid2_of {Δ : Tb} (ho : PiF (Δ "_law_often")) (hs : BinF (fun x y => x - y) (Δ "_law_less")) (hr : RestD (Δ "_law_rest")) : Mid2F (mean Δ 2 9 b__law_middle_a) := by
  intro p es y z S hp hlen hes yz sy sz_ hv
  refine mean_eq (n := 0) ⟨rfl, rfl⟩ ?_
  unfold b__law_middle_a
  have s2 : (2 : Nat) ≤ sizeLine := by decide
  have e1 := mid_some (Δ := Δ) (σ := [.d (.int p), .d (.list (es.map eD)), .un, .un, .un, .un, .un, .un, .un]) (es := es) (S := S) rfl (by simp) hlen
  rw [hes] at e1
  rw [Ws_cons, Ws_asg]
  refine (show Wr (ev Δ _ [.d (.int p), .d (.list (es.map eD)), .un, .un, .un, .un, .un, .un, .un] [] S) _ from ?_)
  rw [e1, Wr_ok]
  dsimp only
  have yz0 : y - z ≠ 0 := by grind
  have e2 := hs y z S (by omega)
  have e3 := ho p (y - z) S hp
  rw [vD1 yz0] at e3
  have e4 := hr p y (vp p (y - z)) S hp hv sy
  rw [Ws_cons, Ws_if]
  simp [viewAll, opF]
  rw [Ws_cons, Ws_asg]
  simp [e2, e3]
  simp only [Ws_nil, Ws_cons, Ws_ret]
  simp [e4, s2]
  rfl
theorem mid3_of {Δ : Tb} (ho : PiF (Δ "_law_often")) (hs : BinF (fun x y => x - y) (Δ "_law_less")) (hr : RestD (Δ "_law_rest")) : Mid3F (mean Δ 2 9 b__law_middle_a) := by
  intro p es x y z S v01 v02 v12 hp hlen hes xy xz yz sx sy sz_ h01 h02 h12 hm
  refine mean_eq (n := 0) ⟨rfl, rfl⟩ ?_
  unfold b__law_middle_a
  have s2 : (2 : Nat) ≤ sizeLine := by decide
  have s3 : (3 : Nat) ≤ sizeLine := by decide
  have e1 := mid_some (Δ := Δ) (σ := [.d (.int p), .d (.list (es.map eD)), .un, .un, .un, .un, .un, .un, .un]) (es := es) (S := S) rfl (by simp) hlen
  rw [hes] at e1
  rw [Ws_cons, Ws_asg]
  refine (show Wr (ev Δ _ [.d (.int p), .d (.list (es.map eD)), .un, .un, .un, .un, .un, .un, .un] [] S) _ from ?_)
  rw [e1, Wr_ok]
  dsimp only
  have a1 := hs x y S (by omega)
  have a2 := hs x z S (by omega)
  have a3 := hs y z S (by omega)
  have b1 := ho p (x - y) S hp
  have b2 := ho p (x - z) S hp
  have b3 := ho p (y - z) S hp
  rw [vD1 (by grind), ← h01] at b1
  rw [vD1 (by grind), ← h02] at b2
  rw [vD1 (by grind), ← h12] at b3
  rw [Ws_cons, Ws_if]
  simp [viewAll, opF, Ws_nil]
  rw [Ws_cons, Ws_asg]
  simp [s2, s3]
  rw [Ws_cons, Ws_asg]
  have eL := ev_lcT (Δ := Δ) (elt := .call "_law_often" (.cons (.var 0) (.cons (.call "_law_less" (.cons (.ix (.var 2) (.var 7)) (.cons (.ix (.var 2) (.var 8)) .nil))) .nil))) (nm1 := "i") (nm2 := "j") (q1 := 7) (q2 := 8) (it := .seq (.var 5)) (σ := [.d (.int p), .d (.list (es.map eD)), .d (.list [fr x, fr y, fr z]), .un, .un, .d (.list [.tuple [.int 0, .int 1], .tuple [.int 0, .int 2], .tuple [.int 1, .int 2]]), .un, .un, .un]) (L := []) (S := S) (l := [((0 : Int), (1 : Int), v01), (0, 2, v02), (1, 2, v12)]) (fun a => .int a.1) (fun a => .int a.2.1) (fun a => .int a.2.2) (by simp) (show (3 : Nat) ≤ sizeLine by decide) (fun a ha => by
    simp at ha
    rcases ha with rfl | rfl | rfl
    · simp [a1, b1]
    · simp [a2, b2]
    · simp [a3, b3])
  rw [eL, Wr_ok]
  dsimp only [List.map_cons, List.map_nil]
  rw [Ws_cons, Ws_asg]
  have e5 := max_3 v01 v02 v12
  have hmm : max v01 (max v02 v12) = v01 ∨ max v01 (max v02 v12) = v02 ∨ max v01 (max v02 v12) = v12 := by omega
  have e6 := idx_3 v01 v02 v12 _ hmm
  generalize max v01 (max v02 v12) = m at *
  simp [viewAll, e5]
  simp only [Ws_nil, Ws_cons, Ws_ret]
  have r1 := hr p x m S hp hm sx
  have r2 := hr p y m S hp hm sy
  by_cases h1 : v01 = m
  · rw [if_pos h1] at e6 ⊢
    simp [e6, r1, s2]
    rfl
  · rw [if_neg h1] at e6 ⊢
    by_cases h2 : v02 = m
    · rw [if_pos h2] at e6 ⊢
      simp [e6, r1, s2]
      rfl
    · rw [if_neg h2] at e6 ⊢
      simp [e6, r2, s2]
      rfl
end Pd
end
section
set_option Elab.async false
set_option linter.all false
set_option maxRecDepth 100000
set_option maxHeartbeats 4000000
set_option autoImplicit false
namespace Pd
open PySem PySem.Spec Dk
theorem pic_bound {p : Nat} (hp : Pp p) {a b c d k : Int} {r : Rat} (ba : bl a ≤ 40) (bb : bl b ≤ 40) (bc : bl c ≤ 40) (bd : bl d ≤ 40) (hk : k.natAbs ≤ 6) (hr : sz r ≤ 60) (hD : ((a * d - b * c : Int) : Rat) ≠ 0) : (pcp p a b c d k r).1.natAbs ≤ 800 := by
  show (pic p a b c d k r).1.natAbs ≤ 800
  have bD := bl_det ba bb bc bd
  have vD := vp_sz hp.pr hD
  have sD := sz_int (a * d - b * c)
  have sc := sz_int c
  have sd := sz_int d
  have scr := sz_mul (c : Rat) r
  have ss := sz_add ((c : Rat) * r) (d : Rat)
  have vz : vp p 0 = 0 := by
    unfold vp
    rw [dif_neg]
    rintro ⟨j, h⟩
    exact h.ne hp.pr rfl
  have vc : (vp p (c : Rat)).natAbs ≤ sz (c : Rat) := by
    by_cases h : (c : Rat) = 0
    · rw [h, vz]
      exact Nat.zero_le _
    · exact vp_sz hp.pr h
  have vs : (vp p ((c : Rat) * r + d)).natAbs ≤ sz ((c : Rat) * r + d) := by
    by_cases h : (c : Rat) * r + d = 0
    · rw [h, vz]
      exact Nat.zero_le _
    · exact vp_sz hp.pr h
  unfold pic
  split
  · show (vp p ((a * d - b * c : Int) : Rat) - 2 * vp p c - k).natAbs ≤ 800
    omega
  · show (k + vp p ((a * d - b * c : Int) : Rat) - 2 * vp p (c * r + d)).natAbs ≤ 800
    omega
def PicG (f : Fn) : Prop := ∀ (p : Nat) (a b c d k : Int) (r : Rat) (S : Src), Pp p → bl a ≤ 40 → bl b ≤ 40 → bl c ≤ 40 → bl d ≤ 40 → k.natAbs ≤ 6 → sz r ≤ 45 → ((a * d - b * c : Int) : Rat) ≠ 0 → f [.d (.int p), .d (mvD a b c d), .d (pl k r)] S = .ok (pl (pcp p a b c d k r).1 (pcp p a b c d k r).2) [] S
theorem lpic_of {Δ : Tb} (hle : LedF (Δ "_law_led")) (hpl : BinF (fun x y => x + y) (Δ "_law_plus")) (hw : PowF (Δ "_law_power")) (h2 : Mid2F (Δ "_law_middle")) (h3 : Mid3F (Δ "_law_middle")) : PicG (mean Δ 3 7 b__law_picture_a) := by
  intro p a b c d k r S hp ba bb bc bd hk hr hD
  refine mean_eq (n := 0) ⟨rfl, rfl⟩ ?_
  unfold b__law_picture_a
  have s3 : (3 : Nat) ≤ sizeLine := by decide
  have sP := sz_P hp k
  have w1 := hw p k S hp (by omega)
  have w2 := hpl r (P p k) S (by omega)
  have sr := sz_add r (P p k)
  have pb := pic_bound (r := r) hp ba bb bc bd hk (by omega) hD
  dsimp only at w2
  rw [Ws_cons, Ws_asgT]
  refine Wr_ok.mpr ⟨.tuple [.int k, fr r], _, rfl, rfl, ?_⟩
  dsimp only
  rw [Ws_cons, Ws_asg]
  simp [w1, w2, s3]
  have l1 := hle a b c d (some r) S ba bb bc bd (fun x h => by cases h; omega)
  have l2 := hle a b c d (some (r + P p k)) S ba bb bc bd (fun x h => by cases h; omega)
  have l3 := hle a b c d none S ba bb bc bd (fun x h => by cases h)
  have eL := ev_lcP (Δ := Δ) (elt := .call "_law_led" (.cons (.var 1) (.cons (.var 6) .nil))) (nm := "end") (q := 6) (it := .seq (.var 5)) (σ := [.d (.int p), .d (mvD a b c d), .d (pl k r), .d (.int k), .d (fr r), .d (.list [fr r, fr (r + P p k), .none]), .un]) (L := []) (S := S) (l := [some r, some (r + P p k), none]) eD (fun e => eD (ld a b c d e)) (by simp [eD]) (show (3 : Nat) ≤ sizeLine by decide) (fun e he => by
    simp only [List.mem_cons, List.not_mem_nil, or_false] at he
    rcases he with rfl | rfl | rfl
    · simp [l1]
    · simp [l2]
    · simp [l3])
  have ees : ([some r, some (r + P p k), none].map fun e => eD (ld a b c d e)) = ([some r, some (r + P p k), none].map (ld a b c d)).map eD := by rw [List.map_map]; rfl
  rw [ees] at eL
  generalize hes : [some r, some (r + P p k), none].map (ld a b c d) = es at eL
  have hlen : es.length ≤ 10 := by rw [← hes]; show (3 : Nat) ≤ 10; decide
  rw [Ws_cons, Ws_ret]
  have key : Δ "_law_middle" [.d (.int p), .d (.list (es.map eD))] S = .ok (pl (pcp p a b c d k r).1 (pcp p a b c d k r).2) [] S := by
    have y0 : ∀ x : Rat, (c : Rat) * x + d ≠ 0 → ld a b c d (some x) = some (((a : Rat) * x + b) / (c * x + d)) := fun x h => if_pos h
    have y1 : ∀ x : Rat, (c : Rat) * x + d = 0 → ld a b c d (some x) = none := fun x h => if_neg (fun z => z h)
    have szs : ∀ x : Rat, sz x ≤ 132 → (c : Rat) * x + d ≠ 0 → sz (((a : Rat) * x + b) / (c * x + d)) ≤ 400 := fun x hx h => by
      have := sz_ld ba bb bc bd h
      omega
    have sac : (c : Rat) ≠ 0 → sz ((a : Rat) / c) ≤ 400 := fun h => by
      have q1 := sz_div (x := (a : Rat)) h
      have q2 := sz_int a
      have q3 := sz_int c
      omega
    have sr' : sz (r + P p k) ≤ 132 := by omega
    by_cases hc : (c : Rat) = 0
    · obtain ⟨hs, ht, e⟩ := pic_c (k := k) (r := r) hp.pr hD hc
      rw [e] at pb ⊢
      have hf : es.filterMap id = [((a : Rat) * r + b) / (c * r + d), ((a : Rat) * (r + P p k) + b) / (c * (r + P p k) + d)] := by
        rw [← hes, List.map_cons, List.map_cons, List.map_cons, List.map_nil, y0 r hs, y0 _ ht, show ld a b c d none = none from if_neg (fun z => z hc)]
        rfl
      exact h2 p es _ _ S hp hlen hf (fun z => diff_ne hs ht hD (r_ne hp.pr) (by rw [z]; grind)) (szs r (by omega) hs) (szs _ sr' ht) (by dsimp only at pb; omega)
    · have yn : ld a b c d none = some ((a : Rat) / c) := if_pos hc
      by_cases hs : (c : Rat) * r + d = 0
      · obtain ⟨_, ht, e⟩ := pic_s (k := k) (r := r) hp.pr hD hs
        rw [e] at pb ⊢
        have hf : es.filterMap id = [((a : Rat) * (r + P p k) + b) / (c * (r + P p k) + d), (a : Rat) / c] := by
          rw [← hes, List.map_cons, List.map_cons, List.map_cons, List.map_nil, y1 r hs, y0 _ ht, yn]
          rfl
        exact h2 p es _ _ S hp hlen hf (fun z => inf_ne ht hc hD (by rw [z]; grind)) (szs _ sr' ht) (sac hc) (by dsimp only at pb; omega)
      · by_cases ht : (c : Rat) * (r + P p k) + d = 0
        · obtain ⟨_, _, e⟩ := pic_t (k := k) (r := r) hp.pr hD ht
          rw [e] at pb ⊢
          have hf : es.filterMap id = [((a : Rat) * r + b) / (c * r + d), (a : Rat) / c] := by
            rw [← hes, List.map_cons, List.map_cons, List.map_cons, List.map_nil, y0 r hs, y1 _ ht, yn]
            rfl
          exact h2 p es _ _ S hp hlen hf (fun z => inf_ne hs hc hD (by rw [z]; grind)) (szs r (by omega) hs) (sac hc) (by dsimp only at pb; omega)
        · obtain ⟨q1, q2, q3⟩ := pic3 (k := k) (r := r) hp.pr hD hc hs ht rfl rfl rfl
          have hf : es.filterMap id = [((a : Rat) * r + b) / (c * r + d), ((a : Rat) * (r + P p k) + b) / (c * (r + P p k) + d), (a : Rat) / c] := by
            rw [← hes, List.map_cons, List.map_cons, List.map_cons, List.map_nil, y0 r hs, y0 _ ht, yn]
            rfl
          have pb' : (pic p a b c d k r).1.natAbs ≤ 800 := pb
          rw [q1] at pb'
          have e := h3 p es _ _ _ S _ _ _ hp hlen hf (fun z => diff_ne hs ht hD (r_ne hp.pr) (by rw [z]; grind)) (fun z => inf_ne hs hc hD (by rw [z]; grind)) (fun z => inf_ne ht hc hD (by rw [z]; grind)) (szs r (by omega) hs) (szs _ sr' ht) (sac hc) rfl rfl rfl (by omega)
          rw [e]
          split
          · rename_i h1
            rw [q2 (.inl h1)]
          · rename_i h1
            split
            · rename_i h2
              rw [q2 (.inr h2)]
            · rename_i h2
              rw [q3 h1 h2]
  generalize E.lc _ _ _ _ _ _ = el at eL ⊢
  simp [eL, key]
end Pd
end
section
set_option Elab.async false
set_option linter.all false
set_option maxRecDepth 100000
set_option maxHeartbeats 4000000
set_option autoImplicit false
namespace Pd
open PySem PySem.Spec Dk
/-! ## tables in least form -/
def ti (w : List Int) : PyData := .tuple (w.map .int)
def gl (w : List Int) : Nat := w.foldl (fun g x => Nat.gcd g x.natAbs) 0
def nz (w : List Int) : List Int := w.filter fun x => decide (x ≠ 0)
def sg (w : List Int) : Int := match nz w with
  | [] => gl w
  | x :: _ => if x < 0 then -(gl w : Int) else gl w
def norm (w : List Int) : List Int := w.map fun x => x.fdiv (sg w)
theorem gl_snoc (w : List Int) (x : Int) : gl (w ++ [x]) = Nat.gcd (gl w) x.natAbs := by
  unfold gl
  rw [List.foldl_append]
  rfl
theorem fold_dvd : ∀ (w : List Int) (g : Nat), (w.foldl (fun g x => Nat.gcd g x.natAbs) g) ∣ g ∧ ∀ x ∈ w, (w.foldl (fun g x => Nat.gcd g x.natAbs) g) ∣ x.natAbs
  | [], g => ⟨Nat.dvd_refl g, fun _ h => nomatch h⟩
  | y :: w, g => by
    obtain ⟨h1, h2⟩ := fold_dvd w (Nat.gcd g y.natAbs)
    refine ⟨Nat.dvd_trans h1 (Nat.gcd_dvd_left _ _), fun x hx => ?_⟩
    rcases List.mem_cons.mp hx with rfl | hx
    · exact Nat.dvd_trans h1 (Nat.gcd_dvd_right _ _)
    · exact h2 x hx
theorem gl_dvd {w : List Int} {x : Int} (h : x ∈ w) : gl w ∣ x.natAbs := (fold_dvd w 0).2 x h
theorem gl_pos {w : List Int} {x : Int} (h : x ∈ w) (h0 : x ≠ 0) : 0 < gl w ∧ gl w ≤ x.natAbs := by
  have d := gl_dvd h
  have p : 0 < x.natAbs := by omega
  exact ⟨Nat.pos_of_dvd_of_pos d p, Nat.le_of_dvd p d⟩
theorem nz_ne {w : List Int} {x : Int} (h : x ∈ w) (h0 : x ≠ 0) : nz w ≠ [] := by
  intro z
  have : x ∈ nz w := List.mem_filter.mpr ⟨h, decide_eq_true h0⟩
  rw [z] at this
  cases this
theorem sg_abs (w : List Int) : (sg w).natAbs = gl w := by
  unfold sg
  split
  · omega
  · split <;> omega
/-- a table that may be brought to lowest terms -/
structure Tbl (w : List Int) : Prop where
  some_ : ∃ x ∈ w, x ≠ 0
  small : ∀ x ∈ w, x.natAbs < 18446744073709551616
  len : w.length ≤ 100
theorem Tbl.sg_ok {w : List Int} (h : Tbl w) : sg w ≠ 0 ∧ (sg w).natAbs.log2 < 9000 := by
  obtain ⟨x, h1, h2⟩ := h.some_
  obtain ⟨p, q⟩ := gl_pos h1 h2
  have r := h.small x h1
  have e := sg_abs w
  refine ⟨by omega, ?_⟩
  have : (sg w).natAbs.log2 < 64 := (Nat.log2_lt (by omega)).mpr (by
    have : (2 : Nat) ^ 64 = 18446744073709551616 := by decide
    omega)
  omega
theorem fm_nz {w : List Int} : w.filterMap (fun x => if x = 0 then none else some (PyData.int x)) = (nz w).map .int := by
  unfold nz
  induction w with
  | nil => rfl
  | cons x w ih =>
    rw [List.filterMap_cons, List.filter_cons]
    by_cases h : x = 0
    · simp [h]
      simpa using ih
    · simp [h]
      simpa using ih
def MvF (f : Fn) : Prop := ∀ (w : List Int) (S : Src), Tbl w → f [.d (ti w)] S = .ok (ti (norm w)) [] S
theorem mv_of {Δ : Tb} (hg : Δ "gcd" = gcdF) : MvF (mean Δ 1 3 b_move_of) := by
  intro w S h
  refine mean_eq (n := 0) ⟨rfl, rfl⟩ ?_
  unfold b_move_of
  rw [Ws_cons, Ws_asg]
  simp
  refine Ws_cut (fun σ L S' => ∃ w2, σ = [.d (ti w), .d (.int (gl w)), w2] ∧ L = [] ∧ S' = S) ?_ ?_
  · rw [Ws_for]
    simp [ti]
    refine forL_of (fun i σ L S' => ∃ w2, σ = [.d (ti w), .d (.int (gl (w.take i))), w2] ∧ L = [] ∧ S' = S) ⟨_, rfl, rfl, rfl⟩ ?_ ?_
    · rintro i x σ L S' hx ⟨w2, rfl, rfl, rfl⟩
      rw [List.getElem?_map] at hx
      obtain ⟨c, hc, rfl⟩ := Option.map_eq_some_iff.mp hx
      simp only [bindT]
      rw [Ws_cons, Ws_asg]
      simp [hg, gcdF, Ws_nil]
      rw [Dk.take_snoc hc, gl_snoc]
    · rintro σ L S' ⟨w2, rfl, rfl, rfl⟩
      rw [List.length_map, List.take_of_length_le (Nat.le_refl _)]
      exact ⟨⟨_, rfl⟩, rfl, rfl⟩
  · rintro σ L S' ⟨w2, rfl, rfl, rfl⟩
    obtain ⟨x0, hx0, hz0⟩ := h.some_
    obtain ⟨p, q⟩ := h.sg_ok
    cases hn : nz w with
    | nil => exact absurd hn (nz_ne hx0 hz0)
    | cons y ys =>
      rw [Ws_cons, Ws_if]
      simp [ti]
      refine Wr_turnsI (fun x => if x = 0 then none else some (.int x)) (fun i _ => ?_) (Nat.le_trans h.len (by decide)) ?_
      · simp [bindT, wipeW]
        by_cases hi : i = 0
        · simp [hi]
        · simp [hi]
      · rw [fm_nz, hn]
        simp
        have hsg : (if y < 0 then -(gl w : Int) else (gl w : Int)) = sg w := by
          unfold sg
          rw [hn]
        have last : ∀ w2, Ws (execs Δ 0 (.cons (.ret (.bf .tuple (.cons (.lc false (.bop .fdiv (.var 2) (.var 1)) [("number", 2)] (.nm 2) (.seq (.var 0)) .tt) .nil))) .nil) [.d (ti w), .d (.int (sg w)), w2] [] S')
            ⟨fun _ _ _ => False, fun x S'' => x = ti (norm w) ∧ S'' = S', fun _ _ _ => False, fun _ _ _ => False⟩ := by
          intro w2
          simp only [Ws_cons, Ws_nil, Ws_ret]
          simp [ti]
          refine Wr_turnsI (fun x => some (.int (x.fdiv (sg w)))) (fun i _ => ?_) (Nat.le_trans h.len (by decide)) ?_
          · simp [bindT, wipeW, opB_fdiv p q]
          · rw [fm_some]
            simp [viewAll, opF, norm]
        by_cases hy : y < 0
        · refine .inr ⟨hy, ?_⟩
          rw [if_pos hy] at hsg
          rw [Ws_cons, Ws_asg]
          simp [Ws_nil]
          rw [hsg]
          have := last w2
          simp [ti] at this
          exact this
        · refine .inl ⟨by omega, ?_⟩
          rw [if_neg hy] at hsg
          rw [Ws_nil]
          dsimp only
          rw [hsg]
          exact last w2
def sc (k : Int) (w : List Int) : List Int := w.map fun x => k * x
theorem nz_sc {k : Int} (hk : k ≠ 0) (w : List Int) : nz (sc k w) = sc k (nz w) := by
  unfold nz sc
  induction w with
  | nil => rfl
  | cons x w ih =>
    rw [List.map_cons, List.filter_cons, List.filter_cons]
    by_cases h : x = 0
    · simp [h]
      simpa using ih
    · have : k * x ≠ 0 := Int.mul_ne_zero hk h
      simp [h, this]
      simpa using ih
theorem gl_sc (k : Int) (w : List Int) : gl (sc k w) = k.natAbs * gl w := by
  have key : ∀ (w : List Int) (g : Nat), (sc k w).foldl (fun g x => Nat.gcd g x.natAbs) (k.natAbs * g) = k.natAbs * w.foldl (fun g x => Nat.gcd g x.natAbs) g := by
    intro w
    induction w with
    | nil => intro g; rfl
    | cons x w ih =>
      intro g
      show (sc k w).foldl _ (Nat.gcd (k.natAbs * g) (k * x).natAbs) = _
      rw [Int.natAbs_mul, Nat.gcd_mul_left, ih]
      rfl
  have := key w 0
  rw [Nat.mul_zero] at this
  exact this
theorem sg_sc {k : Int} (hk : k ≠ 0) {w : List Int} (h : nz w ≠ []) : sg (sc k w) = k * sg w := by
  unfold sg
  rw [nz_sc hk, gl_sc]
  cases hn : nz w with
  | nil => exact absurd hn h
  | cons x xs =>
    have hx : x ≠ 0 := by
      have : x ∈ nz w := by rw [hn]; exact List.mem_cons_self
      exact of_decide_eq_true (List.mem_filter.mp this).2
    show (if k * x < 0 then -((k.natAbs * gl w : Nat) : Int) else ((k.natAbs * gl w : Nat) : Int)) = k * (if x < 0 then -(gl w : Int) else gl w)
    rw [Int.natCast_mul]
    rcases Int.lt_or_gt_of_ne hk with k1 | k1
    · have ek : ((k.natAbs : Nat) : Int) = -k := by omega
      rw [ek]
      rcases Int.lt_or_gt_of_ne hx with x1 | x1
      · have : ¬ k * x < 0 := by have := Int.mul_pos_of_neg_of_neg k1 x1; omega
        rw [if_neg this, if_pos x1, Int.neg_mul, Int.mul_neg]
      · have : k * x < 0 := Int.mul_neg_of_neg_of_pos k1 x1
        rw [if_pos this, if_neg (by omega), Int.neg_mul, Int.neg_neg]
    · have ek : ((k.natAbs : Nat) : Int) = k := by omega
      rw [ek]
      rcases Int.lt_or_gt_of_ne hx with x1 | x1
      · have : k * x < 0 := Int.mul_neg_of_pos_of_neg k1 x1
        rw [if_pos this, if_pos x1, Int.mul_neg]
      · have : ¬ k * x < 0 := by have := Int.mul_pos k1 x1; omega
        rw [if_neg this, if_neg (by omega)]
theorem norm_sc {k : Int} (hk : k ≠ 0) {w : List Int} (h : nz w ≠ []) : norm (sc k w) = norm w := by
  unfold norm
  rw [sg_sc hk h]
  unfold sc
  rw [List.map_map]
  refine List.map_congr_left fun x _ => ?_
  show (k * x).fdiv (k * sg w) = x.fdiv (sg w)
  rcases Int.lt_or_gt_of_ne hk with k1 | k1
  · have e1 : k * x = (-k) * (-x) := by rw [Int.neg_mul_neg]
    have e2 : k * sg w = (-k) * (-(sg w)) := by rw [Int.neg_mul_neg]
    rw [e1, e2, Int.mul_fdiv_mul_of_pos _ _ (by omega), Int.neg_fdiv_neg]
  · exact Int.mul_fdiv_mul_of_pos _ _ k1
end Pd
end
section
set_option Elab.async false
set_option linter.all false
set_option maxRecDepth 100000
set_option maxHeartbeats 4000000
set_option autoImplicit false
namespace Pd
open PySem PySem.Spec Dk
structure MvI (w : List Int) (i : Nat) (c : Int) (w4 : W) (g : Nat) (S0 : Src) (t : Nat) (σ : List W) (L : Lo) (S : Src) : Prop where
  ex : ∃ a : Nat, σ = [.d (.list (w.map .int)), .d (.int a), .d (.int c), .d (.int t), w4] ∧ L = [] ∧ S = S0 ∧ Nat.gcd a t = g
structure MvJ (w : List Int) (S0 : Src) (i : Nat) (σ : List W) (L : Lo) (S : Src) : Prop where
  ex : ∃ w2 w3 : W, σ = [.d (.list (w.map .int)), .d (.int (gl (w.take i))), w2, w3, .un] ∧ L = [] ∧ S = S0
def LmvF (f : Fn) : Prop := ∀ (w : List Int) (S : Src), Tbl w → f [.d (.list (w.map .int))] S = .ok (ti (norm w)) [] S
theorem lmv_of {Δ : Tb} : LmvF (mean Δ 1 5 b__law_move) := by
  intro w S h
  obtain ⟨N, hN⟩ : ∃ N : Nat, 18446744073709551616 ≤ N := ⟨_, Nat.le_refl _⟩
  refine mean_eq (n := N) ⟨rfl, rfl⟩ ?_
  unfold b__law_move
  have s2 : (2 : Nat) ≤ sizeLine := by decide
  rw [Ws_cons, Ws_asg]
  simp
  refine Ws_cut (MvJ w S w.length) ?_ ?_
  · rw [Ws_for]
    simp
    refine forL_of (MvJ w S) ⟨_, _, rfl, rfl, rfl⟩ ?_ (fun σ L S h => by rw [List.length_map] at h; exact h)
    rintro i x σ L S' hx ⟨w2, w3, rfl, rfl, rfl⟩
    rw [List.getElem?_map] at hx
    obtain ⟨c, hc, rfl⟩ := Option.map_eq_some_iff.mp hx
    have hcs := h.small c (List.mem_of_getElem? hc)
    have ec : absI c = ((c.natAbs : Nat) : Int) := by unfold absI; split <;> omega
    simp only [bindT]
    rw [Ws_cons, Ws_asg]
    simp [viewAll, abs_eq, ec]
    rw [Ws_cons, Ws_whl]
    refine whl_of (D := _) (MvI w i c .un (gl (w.take (i + 1))) S') ?_ N c.natAbs _ _ _ (by omega) ⟨gl (w.take i), rfl, rfl, rfl, by rw [List.take_succ, hc]; exact (gl_snoc _ _).symm⟩
    rintro t σ L S2 ⟨a, rfl, rfl, rfl, e⟩
    have gz : decide ((0 : Int) < (t : Int)) = decide (t ≠ 0) := by
      by_cases h0 : t = 0
      · subst h0; rfl
      · rw [decide_eq_true (show (0 : Int) < (t : Int) by omega), decide_eq_true h0]
    by_cases ht : t = 0
    · subst ht
      rw [Nat.gcd_zero_right] at e
      simp [Ws_nil]
      exact ⟨_, _, by rw [e], rfl, rfl⟩
    · have tz : (t : Int) ≠ 0 := by omega
      have tp : (0 : Int) < (t : Int) := by omega
      simp [tp, ht]
      have t0 : 0 < t := by omega
      try rw [if_pos t0]
      rw [Ws_cons, Ws_asgT]
      have ev1 : ev Δ (.tup (.cons (.var 3) (.cons (.bop .mod (.bf .int (.cons (.var 1) .nil)) (.var 3)) .nil))) [.d (.list (w.map .int)), .d (.int a), .d (.int c), .d (.int t), .un] [] S2 = .ok (.d (.tuple [.int t, .int ((a % t : Nat) : Int)])) [] S2 := by
        simp [viewAll, opF, opB_mod tz, fmod_nat, s2]
      rw [ev1]
      refine Wr_ok.mpr ⟨_, _, rfl, rfl, ?_⟩
      dsimp only
      rw [Ws_nil]
      exact ⟨a % t, Nat.mod_lt _ t0, t, rfl, rfl, rfl, by rw [gcd_step ht, e]⟩
  · rintro σ L S' ⟨w2, w3, rfl, rfl, rfl⟩
    rw [List.take_of_length_le (Nat.le_refl _)]
    obtain ⟨x0, hx0, hz0⟩ := h.some_
    obtain ⟨p, q⟩ := h.sg_ok
    cases hn : nz w with
    | nil => exact absurd hn (nz_ne hx0 hz0)
    | cons y ys =>
      have hsg : (if 0 < y then (gl w : Int) else 0 - (gl w : Int)) = sg w := by
        have y0 : y ≠ 0 := by
          have : y ∈ nz w := by rw [hn]; exact List.mem_cons_self
          exact of_decide_eq_true (List.mem_filter.mp this).2
        unfold sg
        rw [hn]
        dsimp only
        split <;> split <;> omega
      rw [Ws_cons, Ws_asg, Wr_ix]
      simp
      refine Wr_turnsI (fun x => if x = 0 then none else some (.int x)) (fun i _ => ?_) (Nat.le_trans h.len (by decide)) ?_
      · simp [bindT, wipeW]
        by_cases hi : i = 0
        · simp [hi]
        · simp [hi]
      · rw [fm_nz, hn]
        simp
        have last : Ws (execs Δ N (.cons (.ret (.bf .tuple (.cons (.lc false (.bop .fdiv (.var 2) (.var 1)) [("number", 2)] (.nm 2) (.seq (.var 0)) .tt) .nil))) .nil) [.d (.list (w.map .int)), .d (.int (sg w)), w2, w3, .d (.int y)] [] S')
            ⟨fun _ _ S2 => PyData.none = ti (norm w) ∧ S2 = S', fun x S'' => x = ti (norm w) ∧ S'' = S', fun _ _ _ => False, fun _ _ _ => False⟩ := by
          simp only [Ws_cons, Ws_nil, Ws_ret]
          simp
          refine Wr_turnsI (fun x => some (.int (x.fdiv (sg w)))) (fun i _ => ?_) (Nat.le_trans h.len (by decide)) ?_
          · simp [bindT, wipeW, opB_fdiv p q]
          · rw [fm_some]
            simp [viewAll, opF, norm, ti]
        rw [Ws_cons, Ws_asg]
        simp [Wr_ite]
        by_cases hy : 0 < y
        · rw [if_pos hy] at hsg ⊢
          rw [hsg]
          exact last
        · rw [if_neg hy] at hsg ⊢
          rw [show -(gl w : Int) = sg w by omega]
          exact last
/-! ## what is a move -/
structure Mv (a b c d : Int) : Prop where
  det : a * d - b * c ≠ 0
  nm : norm [a, b, c, d] = [a, b, c, d]
  sm : bl a ≤ 18 ∧ bl b ≤ 18 ∧ bl c ≤ 18 ∧ bl d ≤ 18
noncomputable def ismv (v : PyData) : Bool := cdec (∃ a b c d : Int, v = mvD a b c d ∧ a * d - b * c ≠ 0 ∧ norm [a, b, c, d] = [a, b, c, d])
theorem mvD_inj {a b c d a' b' c' d' : Int} (h : mvD a b c d = mvD a' b' c' d') : a = a' ∧ b = b' ∧ c = c' ∧ d = d' := by
  injection h with h
  injection h with h1 h
  injection h with h2 h
  injection h with h3 h
  injection h with h4 h
  injection h1 with h1
  injection h2 with h2
  injection h3 with h3
  injection h4 with h4
  exact ⟨h1, h2, h3, h4⟩
theorem bl_lt {a : Int} {n : Nat} (h : bl a ≤ n) (hn : n ≤ 60) : a.natAbs < 18446744073709551616 := by
  have l := ((Lg.bl a).mono (Nat.le_trans h hn)).h
  have e : (2 : Nat) ^ 60 ≤ 18446744073709551616 := by decide
  omega
theorem eqD_t4 {w v : List Int} : opC .eq (ti w) (ti v) = some (decide (w = v)) := by
  have sh : ∀ w : List Int, SeqAt.shaped (ti w) = true := fun w => (Shp.tuple (n := 0) fun d hd => by
    obtain ⟨i, _, rfl⟩ := List.mem_map.mp hd
    exact Shp.int).ok (by decide)
  have key : ∀ w v : List Int, PyData.eqvAll (w.map .int) (v.map .int) = decide (w = v) := by
    intro w
    induction w with
    | nil =>
      intro v
      cases v with
      | nil => rfl
      | cons y v => rfl
    | cons x w ih =>
      intro v
      cases v with
      | nil => rfl
      | cons y v =>
        show (PyData.eqv (.int x) (.int y) && PyData.eqvAll (w.map .int) (v.map .int)) = _
        rw [ih v]
        show (decide (x = y) && decide (w = v)) = _
        by_cases h1 : x = y
        · by_cases h2 : w = v
          · simp [h1, h2]
          · simp [h1, h2]
        · simp [h1]
  show eqD (ti w) (ti v) = _
  unfold eqD
  rw [if_pos ⟨sh w, sh v⟩]
  exact congrArg some (key w v)
def IsmF (f : Fn) : Prop := ∀ (v : PyData) (S : Src), (∀ xs, v = .tuple xs → xs.length ≤ 1000) → (∀ a b c d, v = mvD a b c d → bl a ≤ 50 ∧ bl b ≤ 50 ∧ bl c ≤ 50 ∧ bl d ≤ 50) → f [.d v] S = .ok (.bool (ismv v)) [] S
theorem ism_of {Δ : Tb} (hw : WhoF (Δ "is_whole")) (hd : DetF (Δ "determinant")) (hm : MvF (Δ "move_of")) : IsmF (mean Δ 1 2 b_is_move) := by
  intro v S hl hs
  refine mean_eq (n := 0) ⟨rfl, rfl⟩ ?_
  unfold b_is_move
  have fin : ismv v = false → ∀ (σ : List W) (N : List W → Lo → Src → Prop), Ws (execs Δ 0 (.cons (.ret (.bl false)) .nil) σ [] S) ⟨N, fun x S' => x = .bool (ismv v) ∧ S' = S, fun _ _ _ => False, fun _ _ _ => False⟩ := by
    intro hn σ N
    simp only [Ws_cons, Ws_nil, Ws_ret]
    simp [hn]
  rw [Ws_cons, Ws_if]
  by_cases ht : ∃ xs, v = .tuple xs
  · obtain ⟨xs, rfl⟩ := ht
    by_cases h4 : xs.length = 4
    · obtain ⟨a, b, c, d, rfl⟩ : ∃ a b c d, xs = [a, b, c, d] := by
        match xs, h4 with
        | [a, b, c, d], _ => exact ⟨a, b, c, d, rfl⟩
      simp [isTy, viewAll, opF, turns, bindT, wipeW, hw _ S, sizeLine, blsOf]
      by_cases hab : whl_ a = true ∧ whl_ b = true ∧ whl_ c = true ∧ whl_ d = true
      · obtain ⟨k1, k2, k3, k4⟩ := hab
        obtain ⟨a, rfl⟩ := whl_int k1
        obtain ⟨b, rfl⟩ := whl_int k2
        obtain ⟨c, rfl⟩ := whl_int k3
        obtain ⟨d, rfl⟩ := whl_int k4
        obtain ⟨l1, l2, l3, l4⟩ := hs a b c d rfl
        have e1 := hd a b c d S (by omega) (by omega) (by omega) (by omega)
        have e1' : Δ "determinant" [.d (.tuple [.int a, .int b, .int c, .int d])] S = .ok (.int (a * d - b * c)) [] S := e1
        simp [whl_, Ws_nil]
        simp only [Ws_cons, Ws_ret]
        by_cases hz : a * d - b * c = 0
        · have hn : ismv (.tuple [.int a, .int b, .int c, .int d]) = false := cdec_f fun ⟨a', b', c', d', e, h1, _⟩ => h1 (by
            obtain ⟨rfl, rfl, rfl, rfl⟩ := mvD_inj (show mvD a b c d = mvD a' b' c' d' from e)
            exact hz)
          simp [e1', hz, hn]
        · have T : Tbl [a, b, c, d] := by
            refine ⟨?_, ?_, show (4 : Nat) ≤ 100 by decide⟩
            · by_cases ha : a = 0
              · refine ⟨b, by simp, fun z => hz ?_⟩
                rw [ha, z]
                simp
              · exact ⟨a, by simp, ha⟩
            · intro x hx
              simp at hx
              rcases hx with rfl | rfl | rfl | rfl
              · exact bl_lt l1 (by decide)
              · exact bl_lt l2 (by decide)
              · exact bl_lt l3 (by decide)
              · exact bl_lt l4 (by decide)
          have e2 := hm [a, b, c, d] S T
          have e2' : Δ "move_of" [.d (.tuple [.int a, .int b, .int c, .int d])] S = .ok (ti (norm [a, b, c, d])) [] S := e2
          have e3 : opC .eq (ti (norm [a, b, c, d])) (.tuple [.int a, .int b, .int c, .int d]) = some (decide (norm [a, b, c, d] = [a, b, c, d])) := eqD_t4 (w := norm [a, b, c, d]) (v := [a, b, c, d])
          have hi : ismv (.tuple [.int a, .int b, .int c, .int d]) = decide (norm [a, b, c, d] = [a, b, c, d]) := by
            by_cases hq : norm [a, b, c, d] = [a, b, c, d]
            · rw [decide_eq_true hq]
              exact cdec_t ⟨a, b, c, d, rfl, hz, hq⟩
            · rw [decide_eq_false hq]
              refine cdec_f fun ⟨a', b', c', d', e, _, h2⟩ => hq ?_
              obtain ⟨rfl, rfl, rfl, rfl⟩ := mvD_inj (show mvD a b c d = mvD a' b' c' d' from e)
              exact h2
          simp [e1', hz, e2', e3, hi]
      · have hn : ismv (.tuple [a, b, c, d]) = false := cdec_f fun ⟨a', b', c', d', e, _, _⟩ => hab (by
          injection e with e
          injection e with e1 e
          injection e with e2 e
          injection e with e3 e
          injection e with e4 e
          subst e1 e2 e3 e4
          exact ⟨rfl, rfl, rfl, rfl⟩)
        have hno : whl_ a = false ∨ whl_ b = false ∨ whl_ c = false ∨ whl_ d = false := by
          cases ha : whl_ a with
          | false => exact .inl rfl
          | true =>
            cases hb : whl_ b with
            | false => exact .inr (.inl rfl)
            | true =>
              cases hc : whl_ c with
              | false => exact .inr (.inr (.inl rfl))
              | true =>
                cases hdd : whl_ d with
                | false => exact .inr (.inr (.inr rfl))
                | true => exact absurd ⟨ha, hb, hc, hdd⟩ hab
        rcases hno with h | h | h | h
        · simp [h]
          exact fin hn _ _
        · simp [h]
          exact fin hn _ _
        · simp [h]
          exact fin hn _ _
        · simp [h]
          exact fin hn _ _
    · have h3 : ¬ ((xs.length : Int) = 4) := by omega
      have hn : ismv (.tuple xs) = false := cdec_f fun ⟨a', b', c', d', e, _, _⟩ => h4 (by
        injection e with e
        rw [e]
        rfl)
      simp [isTy, viewAll, opF, h3]
      exact fin hn _ _
  · have e1 : isTy .tuple v = false := by
      cases v <;> first | rfl | exact absurd ⟨_, rfl⟩ ht
    have hn : ismv v = false := cdec_f fun ⟨a', b', c', d', e, _, _⟩ => ht ⟨_, e⟩
    simp [e1]
    exact fin hn _ _
def MidsF (f : Fn) : Prop := Mid2F f ∧ Mid3F f
theorem mids_of {Δ : Tb} (ho : PiF (Δ "_law_often")) (hs : BinF (fun x y => x - y) (Δ "_law_less")) (hr : RestD (Δ "_law_rest")) : MidsF (mean Δ 2 9 b__law_middle_a) := ⟨mid2_of ho hs hr, mid3_of ho hs hr⟩
theorem lpicM_of {Δ : Tb} (hle : LedF (Δ "_law_led")) (hpl : BinF (fun x y => x + y) (Δ "_law_plus")) (hw : PowF (Δ "_law_power")) (hm : MidsF (Δ "_law_middle")) : PicG (mean Δ 3 7 b__law_picture_a) := lpic_of hle hpl hw hm.1 hm.2
def HasF (f : Fn) : Prop := ∀ (p : Nat) (k : Int) (x y : Rat) (S : Src), Pp p → sz x + sz y ≤ 7000 → f [.d (.int p), .d (pl k x), .d (fr y)] S = .ok (.bool (cdec (Nr p k y x))) [] S
theorem has_of {Δ : Tb} (ho : PiF (Δ "_law_often")) (hs : BinF (fun x y => x - y) (Δ "_law_less")) : HasF (mean Δ 3 4 b__law_has) := by
  intro p k x y S hp hz
  refine mean_eq (n := 0) ⟨rfl, rfl⟩ ?_
  unfold b__law_has
  have e1 := hs y x S (by omega)
  have e2 := ho p (y - x) S hp
  rw [Ws_cons, Ws_asg]
  simp [e1, e2]
  simp only [Ws_cons, Ws_nil, Ws_ret]
  by_cases h : y = x
  · subst h
    have e0 : vD p (y - y) = .none := by rw [Rat.sub_self]; exact vD0
    have e3 : cdec (Nr p k y y) = true := cdec_t (.rfl' hp.pr)
    simp [e0, isNone, e3]
  · have e0 : vD p (y - x) = .int (vp p (y - x)) := vD1 (by grind)
    have e3 : cdec (Nr p k y x) = decide (k ≤ vp p (y - x)) := by
      by_cases hk : k ≤ vp p (y - x)
      · rw [decide_eq_true hk]
        exact cdec_t ((near_iff hp.pr).mpr (.inr hk))
      · rw [decide_eq_false hk]
        exact cdec_f fun z => hk (((near_iff hp.pr).mp z).resolve_left h)
    simp [e0, isNone, e3]
def PlcF (f : Fn) : Prop := ∀ (p : Nat) (S : Src), Pp p → SrcOk S → ∃ (k : Int) (r : Rat) (S' : Src), f [.src, .d (.int p)] S = .ok (pl k r) [] S' ∧ (k.natAbs ≤ 4 ∧ sz r ≤ 45 ∧ rest p k r = r) ∧ SrcOk S'
theorem plc_of {Δ : Tb} (hpk : PickF (Δ "_law_pick")) (hf : FracF (Δ "_law_fraction")) (hr : RestD (Δ "_law_rest")) : PlcF (mean Δ 2 3 b__law_place_c) := by
  intro p S hp hS
  suffices h : ∃ d S', mean Δ 2 3 b__law_place_c [.src, .d (.int p)] S = .ok d [] S' ∧ ((∃ (k : Int) (r : Rat), d = pl k r ∧ k.natAbs ≤ 4 ∧ sz r ≤ 45 ∧ rest p k r = r) ∧ SrcOk S') by
    obtain ⟨d, S', h1, ⟨k, r, rfl, h2⟩, h3⟩ := h
    exact ⟨k, r, S', h1, h2, h3⟩
  refine mean_of (n := 0) ⟨rfl, rfl⟩ ?_
  unfold b__law_place_c
  have s2 : (2 : Nat) ≤ sizeLine := by decide
  obtain ⟨v, S1, e1, v0, v1, ok1⟩ := hpk S 9 hS (by decide) (by decide)
  obtain ⟨x, S2, e2, hx, ok2⟩ := hf p 30 S1 hp (by decide) (by decide) ok1
  obtain ⟨k, hk⟩ : ∃ k : Int, k = v - 4 := ⟨_, rfl⟩
  have e3 := hr p x k S2 hp (by omega) (by omega)
  have z := sz_rest2 hp k x
  rw [Ws_cons, Ws_asg]
  simp [e1]
  rw [← hk]
  simp only [Ws_cons, Ws_nil, Ws_ret]
  simp [e2, e3, s2]
  exact ⟨⟨k, rest p k x, rfl, by omega, by omega, rest_self hp.pr⟩, ok2⟩
end Pd
end
section
set_option Elab.async false
set_option linter.all false
set_option maxRecDepth 100000
set_option maxHeartbeats 4000000
set_option autoImplicit false
namespace Pd
open PySem PySem.Spec Dk
theorem sg_dvd {w : List Int} {x : Int} (h : x ∈ w) : sg w ∣ x := by
  have d := gl_dvd h
  rw [← sg_abs w] at d
  exact Int.natAbs_dvd_natAbs.mp d
theorem sc_norm (w : List Int) : sc (sg w) (norm w) = w := by
  unfold sc norm
  rw [List.map_map]
  have : ∀ x ∈ w, ((fun x => sg w * x) ∘ fun x => x.fdiv (sg w)) x = x := fun x hx => by
    show sg w * x.fdiv (sg w) = x
    rw [Int.mul_comm]
    exact Int.fdiv_mul_cancel (sg_dvd hx)
  conv => rhs; rw [← List.map_id w]
  exact List.map_congr_left fun x hx => this x hx
structure Mat (B : Nat) (w : List Int) : Prop where
  ex : ∃ a b c d : Int, w = [a, b, c, d] ∧ a * d - b * c ≠ 0 ∧ a.natAbs ≤ B ∧ b.natAbs ≤ B ∧ c.natAbs ≤ B ∧ d.natAbs ≤ B
theorem Mat.mono {A B : Nat} {w : List Int} (h : Mat A w) (ab : A ≤ B) : Mat B w := by
  obtain ⟨a, b, c, d, e, h0, h1, h2, h3, h4⟩ := h
  exact ⟨a, b, c, d, e, h0, Nat.le_trans h1 ab, Nat.le_trans h2 ab, Nat.le_trans h3 ab, Nat.le_trans h4 ab⟩
theorem Mat.some {B : Nat} {w : List Int} (h : Mat B w) : ∃ x ∈ w, x ≠ 0 := by
  obtain ⟨a, b, c, d, rfl, h0, _⟩ := h
  by_cases ha : a = 0
  · refine ⟨b, by simp, fun z => h0 ?_⟩
    rw [ha, z]
    simp
  · exact ⟨a, by simp, ha⟩
theorem Mat.nz {B : Nat} {w : List Int} (h : Mat B w) : nz w ≠ [] := by
  obtain ⟨x, h1, h2⟩ := h.some
  exact nz_ne h1 h2
theorem Mat.sg0 {B : Nat} {w : List Int} (h : Mat B w) : sg w ≠ 0 := by
  obtain ⟨x, h1, h2⟩ := h.some
  have := (gl_pos h1 h2).1
  have := sg_abs w
  omega
theorem Mat.tbl {B : Nat} {w : List Int} (h : Mat B w) (hB : B < 18446744073709551616) : Tbl w := by
  refine ⟨h.some, ?_, ?_⟩
  · obtain ⟨a, b, c, d, rfl, h0, h1, h2, h3, h4⟩ := h
    intro x hx
    simp at hx
    rcases hx with rfl | rfl | rfl | rfl <;> omega
  · obtain ⟨a, b, c, d, rfl, _⟩ := h
    show (4 : Nat) ≤ 100
    decide
theorem norm4 (a b c d : Int) : ∃ a' b' c' d', norm [a, b, c, d] = [a', b', c', d'] := ⟨_, _, _, _, rfl⟩
theorem le_of_mul {k x : Int} {B : Nat} (hk : k ≠ 0) (h : (k * x).natAbs ≤ B) : x.natAbs ≤ B := by
  rw [Int.natAbs_mul] at h
  have : 1 ≤ k.natAbs := by omega
  have := Nat.mul_le_mul_right x.natAbs this
  omega
theorem Mat.norm {B : Nat} {w : List Int} (h : Mat B w) : Mat B (norm w) := by
  have hs := h.sg0
  have e := sc_norm w
  generalize sg w = k at hs e
  obtain ⟨a, b, c, d, rfl, h0, h1, h2, h3, h4⟩ := h
  obtain ⟨a', b', c', d', e2⟩ := norm4 a b c d
  rw [e2] at e ⊢
  simp [sc] at e
  obtain ⟨rfl, rfl, rfl, rfl⟩ := e
  refine ⟨a', b', c', d', rfl, ?_, le_of_mul hs h1, le_of_mul hs h2, le_of_mul hs h3, le_of_mul hs h4⟩
  intro z
  apply h0
  have : k * a' * (k * d') - k * b' * (k * c') = (k * k) * (a' * d' - b' * c') := by
    rw [Int.mul_sub]
    congr 1 <;> simp only [Int.mul_assoc, Int.mul_left_comm]
  rw [this, z, Int.mul_zero]
theorem norm_norm {B : Nat} {w : List Int} (h : Mat B w) : Pd.norm (Pd.norm w) = Pd.norm w := by
  have e := sc_norm w
  conv => rhs; rw [← e]
  rw [norm_sc h.sg0 h.norm.nz]
theorem mulb {a b : Int} {A B : Nat} (h : a.natAbs ≤ A) (k : b.natAbs ≤ B) : (a * b).natAbs ≤ A * B := by
  rw [Int.natAbs_mul]
  exact Nat.mul_le_mul h k
theorem mv_mat {B : Nat} {w : List Int} (h : Mat B w) (hB : B < 262144) : ∃ a b c d : Int, norm w = [a, b, c, d] ∧ Mv a b c d := by
  have hn := h.norm
  obtain ⟨a, b, c, d, e, h0, h1, h2, h3, h4⟩ := hn.ex
  have key : ∀ x : Int, x.natAbs ≤ B → bl x ≤ 18 := fun x hx => bl_le (n := 18) ⟨Nat.lt_of_le_of_lt hx (Nat.lt_of_lt_of_le hB (by decide))⟩ (by decide)
  refine ⟨a, b, c, d, e, h0, ?_, key a h1, key b h2, key c h3, key d h4⟩
  rw [← e]
  exact norm_norm h
theorem Mv.of {a b c d : Int} (hd : a * d - b * c ≠ 0) (h1 : (1 : Int) ∈ [a, b, c, d]) (hp : ∀ y ys, nz [a, b, c, d] = y :: ys → 0 < y) (sm : a.natAbs ≤ 10 ∧ b.natAbs ≤ 10 ∧ c.natAbs ≤ 10 ∧ d.natAbs ≤ 10) : Mv a b c d := by
  have g1 : gl [a, b, c, d] = 1 := by
    have d1 := gl_dvd h1
    exact Nat.dvd_one.mp d1
  have s1 : sg [a, b, c, d] = 1 := by
    unfold sg
    cases hn : nz [a, b, c, d] with
    | nil => exact absurd hn (nz_ne h1 (by decide))
    | cons y ys =>
      have := hp y ys hn
      show (if y < 0 then -(gl [a, b, c, d] : Int) else gl [a, b, c, d]) = 1
      rw [if_neg (by omega), g1]
      rfl
  have key : ∀ x : Int, x.natAbs ≤ 10 → bl x ≤ 18 := fun x hx => by
    have := bl_le (n := 4) (a := x) ⟨by omega⟩ (by decide)
    omega
  refine ⟨hd, ?_, key a sm.1, key b sm.2.1, key c sm.2.2.1, key d sm.2.2.2⟩
  unfold norm
  rw [s1]
  simp
end Pd
end
section
set_option Elab.async false
set_option linter.all false
set_option maxRecDepth 100000
set_option maxHeartbeats 4000000
set_option autoImplicit false
namespace Pd
open PySem PySem.Spec Dk
theorem pcb {p : Nat} (hp : Pp p) {a b c d k : Int} {r : Rat} (m : Mv a b c d) (hk : k.natAbs ≤ 4) (hr : sz r ≤ 45) (hD : ((a * d - b * c : Int) : Rat) ≠ 0) : (pcp p a b c d k r).1.natAbs ≤ 400 ∧ sz (pcp p a b c d k r).2 ≤ 1800 := by
  obtain ⟨ba, bb, bc, bd⟩ := m.sm
  have bD := bl_det ba bb bc bd
  have vD := vp_sz hp.pr hD
  have sD := sz_int (a * d - b * c)
  have sa := sz_int a
  have sc := sz_int c
  have sd := sz_int d
  have scr := sz_mul (c : Rat) r
  have ss := sz_add ((c : Rat) * r) (d : Rat)
  have vz : vp p 0 = 0 := by
    unfold vp
    rw [dif_neg]
    rintro ⟨j, h⟩
    exact h.ne hp.pr rfl
  have vc : (vp p (c : Rat)).natAbs ≤ sz (c : Rat) := by
    by_cases h : (c : Rat) = 0
    · rw [h, vz]
      exact Nat.zero_le _
    · exact vp_sz hp.pr h
  have vs : (vp p ((c : Rat) * r + d)).natAbs ≤ sz ((c : Rat) * r + d) := by
    by_cases h : (c : Rat) * r + d = 0
    · rw [h, vz]
      exact Nat.zero_le _
    · exact vp_sz hp.pr h
  have key : ∀ (j : Int) (y : Rat), j.natAbs ≤ 400 → sz y ≤ 130 → j.natAbs ≤ 400 ∧ sz (rest p j y) ≤ 1800 := fun j y h1 h2 => by
    have z := sz_rest2 hp j y
    have n2 := bl_den y
    exact ⟨h1, by omega⟩
  unfold pcp pic
  split
  · rename_i h
    refine key _ _ (by dsimp only; omega) ?_
    dsimp only
    by_cases hc : (c : Rat) = 0
    · rw [hc, Rat.div_def, Rat.inv_zero, Rat.mul_zero]
      decide
    · have := sz_div (x := (a : Rat)) hc
      omega
  · rename_i h
    have hs : (c : Rat) * r + d ≠ 0 := fun z => h (.inl z)
    refine key _ _ (by dsimp only; omega) ?_
    dsimp only
    obtain ⟨l1, l2⟩ := led_low (a := a) (b := b) (c := c) (d := d) (x := r)
    rw [← l2 hs]
    have h := sz_low (t := a * r.num + b * r.den) (l1.mpr hs)
    have b1 := bl_mul a r.num
    have b2 := bl_mul b r.den
    have b3 := bl_add (a * r.num) (b * r.den)
    have b4 := bl_mul c r.num
    have b5 := bl_mul d r.den
    have b6 := bl_add (c * r.num) (d * r.den)
    have n : sz r = bl r.num + bl (r.den : Int) := rfl
    omega
end Pd
end
section
set_option Elab.async false
set_option linter.all false
set_option maxRecDepth 100000
set_option maxHeartbeats 4000000
set_option autoImplicit false
namespace Pd
open PySem PySem.Spec Dk
/-! ## tables of fractions, how far apart two are -/
structure Mx where
  a : Rat
  b : Rat
  c : Rat
  d : Rat
def Mx.mul (x y : Mx) : Mx := ⟨x.a * y.a + x.b * y.c, x.a * y.b + x.b * y.d, x.c * y.a + x.d * y.c, x.c * y.b + x.d * y.d⟩
def Mx.adj (x : Mx) : Mx := ⟨x.d, -x.b, -x.c, x.a⟩
def Mx.det (x : Mx) : Rat := x.a * x.d - x.b * x.c
def Mx.sm (k : Rat) (x : Mx) : Mx := ⟨k * x.a, k * x.b, k * x.c, k * x.d⟩
section
variable {p : Nat}
/-- p is at least so often in a number -/
def Vg (p : Nat) (j : Int) (x : Rat) : Prop := Zi p (x * P p (-j))
theorem Vg.add (hp : Pr p) {j : Int} {x y : Rat} (h : Vg p j x) (k : Vg p j y) : Vg p j (x + y) := by
  unfold Vg
  rw [Rat.add_mul]
  exact Zi.add hp h k
theorem Vg.neg {j : Int} {x : Rat} (h : Vg p j x) : Vg p j (-x) := by
  unfold Vg
  rw [Rat.neg_mul]
  exact Zi.neg h
theorem Vg.sub (hp : Pr p) {j : Int} {x y : Rat} (h : Vg p j x) (k : Vg p j y) : Vg p j (x - y) := by
  rw [Rat.sub_eq_add_neg]
  exact h.add hp k.neg
theorem Vg.mul (hp : Pr p) {i j : Int} {x y : Rat} (h : Vg p i x) (k : Vg p j y) : Vg p (i + j) (x * y) := by
  unfold Vg
  have e : x * y * P p (-(i + j)) = (x * P p (-i)) * (y * P p (-j)) := by
    rw [show -(i + j) = -i + -j by omega, P_add hp]
    grind
  rw [e]
  exact Zi.mul hp h k
theorem Vg.iff (hp : Pr p) {j : Int} {x : Rat} : Vg p j x ↔ x = 0 ∨ j ≤ vp p x := zi_iff hp j
theorem Vg.mono (hp : Pr p) {i j : Int} {x : Rat} (h : Vg p j x) (ij : i ≤ j) : Vg p i x := by
  rw [Vg.iff hp] at h ⊢
  exact h.imp id fun h => Int.le_trans ij h
theorem Vg.zero (hp : Pr p) {j : Int} : Vg p j 0 := (Vg.iff hp).mpr (.inl rfl)
theorem Vg.cut (hp : Pr p) {i : Int} {e x : Rat} (he : e ≠ 0) : Vg p (i + vp p e) (e * x) ↔ Vg p i x := by
  rw [Vg.iff hp, Vg.iff hp]
  by_cases hx : x = 0
  · subst hx
    simp
  · have h0 : e * x ≠ 0 := fun z => (Rat.mul_eq_zero.mp z).elim he hx
    rw [vp_mul hp he hx]
    simp only [hx, h0, false_or]
    omega
theorem Vg.nr {j : Int} {x y : Rat} : Vg p j (x - y) ↔ Nr p j x y := Iff.rfl
structure Wt (p : Nat) (j : Int) (x : Mx) : Prop where
  a : Vg p j x.a
  b : Vg p j x.b
  c : Vg p j x.c
  d : Vg p j x.d
theorem Wt.mul (hp : Pr p) {i j : Int} {x y : Mx} (h : Wt p i x) (k : Wt p j y) : Wt p (i + j) (x.mul y) :=
  ⟨(h.a.mul hp k.a).add hp (h.b.mul hp k.c), (h.a.mul hp k.b).add hp (h.b.mul hp k.d), (h.c.mul hp k.a).add hp (h.d.mul hp k.c), (h.c.mul hp k.b).add hp (h.d.mul hp k.d)⟩
theorem Wt.adj {j : Int} {x : Mx} (h : Wt p j x) : Wt p j x.adj := ⟨h.d, h.b.neg, h.c.neg, h.a⟩
theorem Wt.cut (hp : Pr p) {i : Int} {e : Rat} {x : Mx} (he : e ≠ 0) : Wt p (i + vp p e) (x.sm e) ↔ Wt p i x :=
  ⟨fun h => ⟨(Vg.cut hp he).mp h.a, (Vg.cut hp he).mp h.b, (Vg.cut hp he).mp h.c, (Vg.cut hp he).mp h.d⟩, fun h => ⟨(Vg.cut hp he).mpr h.a, (Vg.cut hp he).mpr h.b, (Vg.cut hp he).mpr h.c, (Vg.cut hp he).mpr h.d⟩⟩
theorem Mx.ext' {x y : Mx} (h1 : x.a = y.a) (h2 : x.b = y.b) (h3 : x.c = y.c) (h4 : x.d = y.d) : x = y := by
  cases x
  cases y
  simp at h1 h2 h3 h4
  subst h1 h2 h3 h4
  rfl
theorem Mx.det_mul (x y : Mx) : (x.mul y).det = x.det * y.det := by
  simp only [Mx.det, Mx.mul]
  grind
theorem Mx.det_sm (k : Rat) (x : Mx) : (x.sm k).det = k * k * x.det := by
  simp only [Mx.det, Mx.sm]
  grind
theorem Mx.tri (x y z : Mx) : (x.adj.mul y).mul (y.adj.mul z) = (x.adj.mul z).sm y.det := by
  apply Mx.ext' <;> simp only [Mx.mul, Mx.adj, Mx.sm, Mx.det] <;> grind
theorem Mx.inv (g x y : Mx) : (g.mul x).adj.mul (g.mul y) = (x.adj.mul y).sm g.det := by
  apply Mx.ext' <;> simp only [Mx.mul, Mx.adj, Mx.sm, Mx.det] <;> grind
theorem Mx.swap (x y : Mx) : (x.adj.mul y).adj = y.adj.mul x := by
  apply Mx.ext' <;> simp only [Mx.mul, Mx.adj] <;> grind
theorem Mx.sm_l (k : Rat) (x y : Mx) : (x.sm k).adj.mul y = (x.adj.mul y).sm k := by
  apply Mx.ext' <;> simp only [Mx.mul, Mx.adj, Mx.sm] <;> grind
theorem Mx.sm_r (k : Rat) (x y : Mx) : x.mul (y.sm k) = (x.mul y).sm k := by
  apply Mx.ext' <;> simp only [Mx.mul, Mx.sm] <;> grind
theorem Mx.sm_m (k : Rat) (x y : Mx) : (x.sm k).mul y = (x.mul y).sm k := by
  apply Mx.ext' <;> simp only [Mx.mul, Mx.sm] <;> grind
theorem Mx.asc (x y z : Mx) : (x.mul y).mul z = x.mul (y.mul z) := by
  apply Mx.ext' <;> simp only [Mx.mul] <;> grind
theorem Mx.adj_l (x : Mx) (y : Mx) : x.adj.mul (x.mul y) = y.sm x.det := by
  apply Mx.ext' <;> simp only [Mx.mul, Mx.adj, Mx.sm, Mx.det] <;> grind
/-- at most so far apart -/
structure Dl (p : Nat) (x y : Mx) (n : Int) : Prop where
  ex : ∃ i, Wt p i (x.adj.mul y) ∧ vp p x.det + vp p y.det ≤ n + 2 * i
theorem Dl.symm {x y : Mx} {n : Int} (h : Dl p x y n) : Dl p y x n := by
  obtain ⟨i, h1, h2⟩ := h
  refine ⟨i, ?_, by omega⟩
  rw [← Mx.swap]
  exact h1.adj
theorem Dl.mono {x y : Mx} {m n : Int} (h : Dl p x y m) (mn : m ≤ n) : Dl p x y n := by
  obtain ⟨i, h1, h2⟩ := h
  exact ⟨i, h1, by omega⟩
theorem Dl.trans (hp : Pr p) {x y z : Mx} {m n : Int} (hy : y.det ≠ 0) (h : Dl p x y m) (k : Dl p y z n) : Dl p x z (m + n) := by
  obtain ⟨i, h1, h2⟩ := h
  obtain ⟨j, k1, k2⟩ := k
  have w := h1.mul hp k1
  rw [Mx.tri, show i + j = (i + j - vp p y.det) + vp p y.det by omega, Wt.cut hp hy] at w
  exact ⟨_, w, by omega⟩
theorem Dl.led (hp : Pr p) {g x y : Mx} {n : Int} (hg : g.det ≠ 0) (hx : x.det ≠ 0) (hy : y.det ≠ 0) : Dl p (g.mul x) (g.mul y) n ↔ Dl p x y n := by
  have e1 : vp p (g.mul x).det = vp p g.det + vp p x.det := by rw [Mx.det_mul, vp_mul hp hg hx]
  have e2 : vp p (g.mul y).det = vp p g.det + vp p y.det := by rw [Mx.det_mul, vp_mul hp hg hy]
  constructor
  · rintro ⟨i, h1, h2⟩
    rw [Mx.inv, show i = (i - vp p g.det) + vp p g.det by omega, Wt.cut hp hg] at h1
    exact ⟨_, h1, by omega⟩
  · rintro ⟨i, h1, h2⟩
    refine ⟨i + vp p g.det, ?_, by omega⟩
    rw [Mx.inv, Wt.cut hp hg]
    exact h1
theorem Dl.smL (hp : Pr p) {k : Rat} {x y : Mx} {n : Int} (hk : k ≠ 0) (hx : x.det ≠ 0) : Dl p (x.sm k) y n ↔ Dl p x y n := by
  have kk : k * k ≠ 0 := fun z => (Rat.mul_eq_zero.mp z).elim hk hk
  have e1 : vp p (x.sm k).det = 2 * vp p k + vp p x.det := by
    rw [Mx.det_sm, vp_mul hp kk hx, vp_mul hp hk hk]
    omega
  constructor
  · rintro ⟨i, h1, h2⟩
    rw [Mx.sm_l, show i = (i - vp p k) + vp p k by omega, Wt.cut hp hk] at h1
    exact ⟨_, h1, by omega⟩
  · rintro ⟨i, h1, h2⟩
    refine ⟨i + vp p k, ?_, by omega⟩
    rw [Mx.sm_l, Wt.cut hp hk]
    exact h1
/-- a place as a table -/
noncomputable def Mp (p : Nat) (k : Int) (r : Rat) : Mx := ⟨P p k, r, 0, 1⟩
theorem Mp.det (k : Int) (r : Rat) : (Mp p k r).det = P p k := by
  unfold Mp Mx.det
  grind
theorem Mp.det0 (hp : Pr p) (k : Int) (r : Rat) : (Mp p k r).det ≠ 0 := by
  rw [Mp.det]
  exact P_ne hp k
theorem vg_P (hp : Pr p) {i k : Int} : Vg p i (P p k) ↔ i ≤ k := by
  rw [Vg.iff hp, vp_P hp]
  have := P_ne hp k
  simp only [this, false_or]
theorem Mp.wt (hp : Pr p) {i k l : Int} {r s : Rat} : Wt p i ((Mp p k r).adj.mul (Mp p l s)) ↔ i ≤ mt p k r l s := by
  have e : (Mp p k r).adj.mul (Mp p l s) = ⟨P p l, s - r, 0, P p k⟩ := by
    apply Mx.ext' <;> simp only [Mx.mul, Mx.adj, Mp] <;> grind
  rw [e, mt_iff hp]
  constructor
  · rintro ⟨h1, h2, h3, h4⟩
    exact ⟨(vg_P hp).mp h4, (vg_P hp).mp h1, Nr.symm h2⟩
  · rintro ⟨h1, h2, h3⟩
    exact ⟨(vg_P hp).mpr h2, Nr.symm h3, .zero hp, (vg_P hp).mpr h1⟩
theorem Mp.dl (hp : Pr p) {n k l : Int} {r s : Rat} : Dl p (Mp p k r) (Mp p l s) n ↔ k + l - 2 * mt p k r l s ≤ n := by
  constructor
  · rintro ⟨i, h1, h2⟩
    have := (Mp.wt hp).mp h1
    rw [Mp.det, Mp.det, vp_P hp, vp_P hp] at h2
    omega
  · intro h
    refine ⟨_, (Mp.wt hp).mpr (Int.le_refl _), ?_⟩
    rw [Mp.det, Mp.det, vp_P hp, vp_P hp]
    omega
/-- a move as a table -/
def Mm (a b c d : Int) : Mx := ⟨a, b, c, d⟩
theorem Mm.det (a b c d : Int) : (Mm a b c d).det = ((a * d - b * c : Int) : Rat) := by
  rw [Rat.intCast_sub, Rat.intCast_mul, Rat.intCast_mul]
  rfl
end
end Pd
end
section
set_option Elab.async false
set_option linter.all false
set_option maxRecDepth 100000
set_option maxHeartbeats 4000000
set_option autoImplicit false
namespace Pd
open PySem PySem.Spec Dk
section
variable {p : Nat} {a b c d : Int} {k : Int} {r : Rat}
theorem Vg.self (hp : Pr p) (x : Rat) : Vg p (vp p x) x := (Vg.iff hp).mpr (.inr (Int.le_refl _))
theorem Vg.at (hp : Pr p) {i j : Int} {x : Rat} (h : Vg p i x) (e : i = j) : Vg p j x := e ▸ h
theorem Vg.congr {i : Int} {x y : Rat} (h : Vg p i x) (e : x = y) : Vg p i y := e ▸ h
theorem MM_det0 (hD : ((a * d - b * c : Int) : Rat) ≠ 0) : (Mm a b c d).det ≠ 0 := by
  rw [Mm.det]
  exact hD
theorem pic_dl (hp : Pr p) (hD : ((a * d - b * c : Int) : Rat) ≠ 0) : Dl p ((Mm a b c d).mul (Mp p k r)) (Mp p (pcp p a b c d k r).1 (pcp p a b c d k r).2) 0 := by
  have eD : ((a * d - b * c : Int) : Rat) = (a : Rat) * d - b * c := by rw [Rat.intCast_sub, Rat.intCast_mul, Rat.intCast_mul]
  have nr := rest_near hp (pic p a b c d k r).1 (pic p a b c d k r).2
  show Dl p _ (Mp p (pic p a b c d k r).1 (rest p (pic p a b c d k r).1 (pic p a b c d k r).2)) 0
  have dA : ((Mm a b c d).mul (Mp p k r)).det = ((a * d - b * c : Int) : Rat) * P p k := by rw [Mx.det_mul, Mm.det, Mp.det]
  have vA : vp p ((Mm a b c d).mul (Mp p k r)).det = vp p ((a * d - b * c : Int) : Rat) + k := by rw [dA, vp_mul hp hD (P_ne hp k), vp_P hp]
  have eA : (Mm a b c d).mul (Mp p k r) = ⟨a * P p k, a * r + b, c * P p k, c * r + d⟩ := by
    apply Mx.ext' <;> simp only [Mx.mul, Mm, Mp] <;> grind
  revert nr
  unfold pic
  split
  · rename_i hf
    dsimp only
    generalize hR : rest p _ ((a : Rat) / c) = R
    intro nr
    have hc : (c : Rat) ≠ 0 := by
      rcases hf with z | z
      · intro z2
        apply hD
        rw [eD]
        rw [z2] at z
        have : (d : Rat) = 0 := by grind
        rw [this, z2]
        grind
      · exact fun z2 => z.1 (by rw [z2]; grind)
    generalize hK : vp p ((a * d - b * c : Int) : Rat) - 2 * vp p c - k = K at *
    have h1 : Vg p K ((a : Rat) / c - R) := nr
    have hu : Vg p (vp p (c : Rat) + k) ((c : Rat) * P p k) := (Vg.self hp _).mul hp ((vg_P hp).mpr (Int.le_refl k))
    have hv : Vg p (vp p (c : Rat) + k) ((c : Rat) * r + d) := by
      rcases hf with z | ⟨z1, z2⟩
      · rw [z]
        exact .zero hp
      · refine (Vg.self hp _).mono hp ?_
        rw [vp_mul hp hc (P_ne hp k), vp_P hp] at z2
        omega
    have hq : Vg p (vp p ((a * d - b * c : Int) : Rat) - vp p (c : Rat)) (((a * d - b * c : Int) : Rat) / c) := by
      rw [← vp_div hp hD hc]
      exact Vg.self hp _
    have q1 := Rat.div_mul_cancel (a := (a : Rat)) hc
    have q2 := Rat.div_mul_cancel (a := ((a * d - b * c : Int) : Rat)) hc
    have hP : Vg p K (P p K) := (vg_P hp).mpr (Int.le_refl _)
    refine ⟨vp p ((a * d - b * c : Int) : Rat) - vp p (c : Rat), ?_, ?_⟩
    · rw [eA]
      refine ⟨?_, ?_, ?_, ?_⟩
      · exact ((hv.mul hp hP).at hp (by omega)).congr (by simp only [Mx.mul, Mx.adj, Mp]; grind)
      · refine Vg.congr ((hq.sub hp ((hv.mul hp h1).at hp (by omega)))) ?_
        simp only [Mx.mul, Mx.adj, Mp]
        grind
      · exact ((hu.mul hp hP).neg.at hp (by omega)).congr (by simp only [Mx.mul, Mx.adj, Mp]; grind)
      · refine ((hu.mul hp h1).at hp (by omega)).congr ?_
        simp only [Mx.mul, Mx.adj, Mp]
        grind
    · rw [vA, Mp.det, vp_P hp]
      omega
  · rename_i hf
    dsimp only
    generalize hR : rest p _ (((a : Rat) * r + b) / (c * r + d)) = R
    intro nr
    have hs : (c : Rat) * r + d ≠ 0 := fun z => hf (.inl z)
    generalize hK : k + vp p ((a * d - b * c : Int) : Rat) - 2 * vp p (c * r + d) = K at *
    have h1 : Vg p K (((a : Rat) * r + b) / (c * r + d) - R) := nr
    have hv : Vg p (vp p ((c : Rat) * r + d)) ((c : Rat) * r + d) := Vg.self hp _
    have hu : Vg p (vp p ((c : Rat) * r + d)) ((c : Rat) * P p k) := by
      rw [Vg.iff hp]
      by_cases z : (c : Rat) * P p k = 0
      · exact .inl z
      · exact .inr (Int.not_lt.mp fun l => hf (.inr ⟨z, l⟩))
    have hq : Vg p (vp p ((a * d - b * c : Int) : Rat) + k - vp p ((c : Rat) * r + d)) (((a * d - b * c : Int) : Rat) * P p k / (c * r + d)) := by
      have h0 : ((a * d - b * c : Int) : Rat) * P p k ≠ 0 := fun z => (Rat.mul_eq_zero.mp z).elim hD (P_ne hp k)
      have e : vp p ((a * d - b * c : Int) : Rat) + k = vp p (((a * d - b * c : Int) : Rat) * P p k) := by rw [vp_mul hp hD (P_ne hp k), vp_P hp]
      rw [e, ← vp_div hp h0 hs]
      exact Vg.self hp _
    have q1 := Rat.div_mul_cancel (a := (a : Rat) * r + b) hs
    have q2 := Rat.div_mul_cancel (a := ((a * d - b * c : Int) : Rat) * P p k) hs
    have hP : Vg p K (P p K) := (vg_P hp).mpr (Int.le_refl _)
    refine ⟨vp p ((a * d - b * c : Int) : Rat) + k - vp p ((c : Rat) * r + d), ?_, ?_⟩
    · rw [eA]
      refine ⟨?_, ?_, ?_, ?_⟩
      · exact ((hv.mul hp hP).at hp (by omega)).congr (by simp only [Mx.mul, Mx.adj, Mp]; grind)
      · refine ((hv.mul hp h1).neg.at hp (by omega)).congr ?_
        simp only [Mx.mul, Mx.adj, Mp]
        grind
      · exact ((hu.mul hp hP).neg.at hp (by omega)).congr (by simp only [Mx.mul, Mx.adj, Mp]; grind)
      · refine Vg.congr (hq.add hp ((hu.mul hp h1).at hp (by omega))) ?_
        simp only [Mx.mul, Mx.adj, Mp]
        grind
    · rw [vA, Mp.det, vp_P hp]
      omega
end
end Pd
end
section
set_option Elab.async false
set_option linter.all false
set_option maxRecDepth 100000
set_option maxHeartbeats 4000000
set_option autoImplicit false
namespace Pd
open PySem PySem.Spec Dk
/-! ## the tree of places: steps, next ones, ways, moves -/
section
variable {p : Nat} {X Y Z : Int × Rat} {a b c d : Int}
noncomputable def dd (p : Nat) (X Y : Int × Rat) : Int := X.1 + Y.1 - 2 * mt p X.1 X.2 Y.1 Y.2
def Pla (p : Nat) (X : Int × Rat) : Prop := rest p X.1 X.2 = X.2
noncomputable abbrev mx (p : Nat) (X : Int × Rat) : Mx := Mp p X.1 X.2
noncomputable abbrev pcx (p : Nat) (a b c d : Int) (X : Int × Rat) : Int × Rat := pcp p a b c d X.1 X.2
theorem dd_dl (hp : Pr p) {n : Int} : Dl p (mx p X) (mx p Y) n ↔ dd p X Y ≤ n := Mp.dl hp
theorem mt_le (hp : Pr p) {j k : Int} {x y : Rat} : mt p j x k y ≤ j ∧ mt p j x k y ≤ k ∧ Nr p (mt p j x k y) x y := (mt_iff hp).mp (Int.le_refl _)
theorem dd_symm (hp : Pr p) : dd p X Y = dd p Y X := by
  unfold dd
  rw [mt_comm hp]
  omega
theorem dd_nn (hp : Pr p) : 0 ≤ dd p X Y := by
  have := mt_le hp (j := X.1) (x := X.2) (k := Y.1) (y := Y.2)
  unfold dd
  omega
theorem dd_self (hp : Pr p) : dd p X X = 0 := by
  unfold dd mt
  rw [if_pos rfl]
  omega
theorem dd_0 (hp : Pr p) (hX : Pla p X) (hY : Pla p Y) (h : dd p X Y ≤ 0) : X = Y := by
  obtain ⟨h1, h2, h3⟩ := mt_le hp (j := X.1) (x := X.2) (k := Y.1) (y := Y.2)
  unfold dd at h
  have e1 : X.1 = Y.1 := by omega
  have e2 : mt p X.1 X.2 Y.1 Y.2 = X.1 := by omega
  rw [e2] at h3
  have := (rest_iff hp).mpr h3
  have q1 : rest p X.1 X.2 = X.2 := hX
  have q2 : rest p Y.1 Y.2 = Y.2 := hY
  rw [q1, e1, q2] at this
  exact Prod.ext e1 this
theorem dd_tri (hp : Pr p) : dd p X Z ≤ dd p X Y + dd p Y Z := (dd_dl hp).mp (Dl.trans hp (Mp.det0 hp _ _) ((dd_dl hp).mpr (Int.le_refl _)) ((dd_dl hp).mpr (Int.le_refl _)))
theorem pcx_pla (hp : Pr p) : Pla p (pcx p a b c d X) := rest_self hp
theorem pcx_dl (hp : Pr p) (hD : ((a * d - b * c : Int) : Rat) ≠ 0) : Dl p ((Mm a b c d).mul (mx p X)) (mx p (pcx p a b c d X)) 0 := pic_dl hp hD
theorem mm0 (hp : Pr p) (hD : ((a * d - b * c : Int) : Rat) ≠ 0) : ((Mm a b c d).mul (mx p X)).det ≠ 0 := by
  rw [Mx.det_mul]
  exact fun z => (Rat.mul_eq_zero.mp z).elim (MM_det0 hD) (Mp.det0 hp _ _)
theorem pcx_le (hp : Pr p) (hD : ((a * d - b * c : Int) : Rat) ≠ 0) {n : Int} : Dl p ((Mm a b c d).mul (mx p X)) ((Mm a b c d).mul (mx p Y)) n ↔ dd p (pcx p a b c d X) (pcx p a b c d Y) ≤ n := by
  rw [← dd_dl hp]
  constructor
  · intro h
    have := Dl.trans hp (mm0 hp hD) (pcx_dl hp hD).symm (Dl.trans hp (mm0 hp hD) h (pcx_dl hp hD))
    exact this.mono (by omega)
  · intro h
    have := Dl.trans hp (Mp.det0 hp _ _) (pcx_dl (X := X) hp hD) (Dl.trans hp (Mp.det0 hp _ _) h (pcx_dl (X := Y) hp hD).symm)
    exact this.mono (by omega)
/-- a move keeps steps -/
theorem pcx_dd (hp : Pr p) (hD : ((a * d - b * c : Int) : Rat) ≠ 0) : dd p (pcx p a b c d X) (pcx p a b c d Y) = dd p X Y := by
  have key : ∀ n, dd p (pcx p a b c d X) (pcx p a b c d Y) ≤ n ↔ dd p X Y ≤ n := fun n => by
    rw [← pcx_le hp hD, ← dd_dl hp]
    exact Dl.led hp (MM_det0 hD) (Mp.det0 hp _ _) (Mp.det0 hp _ _)
  have h1 := (key _).mp (Int.le_refl _)
  have h2 := (key _).mpr (Int.le_refl _)
  omega
theorem pcx_eq (hp : Pr p) (hD : ((a * d - b * c : Int) : Rat) ≠ 0) (hY : Pla p Y) (h : Dl p ((Mm a b c d).mul (mx p X)) (mx p Y) 0) : pcx p a b c d X = Y := by
  refine dd_0 hp (pcx_pla hp) hY ((dd_dl hp).mp ?_)
  exact (Dl.trans hp (mm0 hp hD) (pcx_dl hp hD).symm h).mono (by omega)
theorem pcx_inj (hp : Pr p) (hD : ((a * d - b * c : Int) : Rat) ≠ 0) (hX : Pla p X) (hY : Pla p Y) (h : pcx p a b c d X = pcx p a b c d Y) : X = Y := by
  refine dd_0 hp hX hY ?_
  rw [← pcx_dd hp hD, h, dd_self hp]
  exact Int.le_refl _
theorem Mm.sm (k a b c d : Int) : Mm (k * a) (k * b) (k * c) (k * d) = (Mm a b c d).sm k := by
  apply Mx.ext' <;> simp only [Mm, Mx.sm, Rat.intCast_mul]
theorem det_sc (k a b c d : Int) : (k * a) * (k * d) - (k * b) * (k * c) = (k * k) * (a * d - b * c) := by grind
theorem det_sc0 {k : Int} (hk : k ≠ 0) (hD : ((a * d - b * c : Int) : Rat) ≠ 0) : (((k * a) * (k * d) - (k * b) * (k * c) : Int) : Rat) ≠ 0 := by
  intro z
  rw [Rat.intCast_eq_zero_iff, det_sc] at z
  rcases Int.mul_eq_zero.mp z with z | z
  · rcases Int.mul_eq_zero.mp z with z | z <;> exact hk z
  · exact hD (Rat.intCast_eq_zero_iff.mpr z)
/-- a table times a number is the same move -/
theorem pcx_sc (hp : Pr p) {k : Int} (hk : k ≠ 0) (hD : ((a * d - b * c : Int) : Rat) ≠ 0) : pcx p (k * a) (k * b) (k * c) (k * d) X = pcx p a b c d X := by
  have kr : (k : Rat) ≠ 0 := fun z => hk (Rat.intCast_eq_zero_iff.mp z)
  refine pcx_eq hp (det_sc0 hk hD) (pcx_pla hp) ?_
  rw [Mm.sm, Mx.sm_m, Dl.smL hp kr (mm0 hp hD)]
  exact pcx_dl hp hD
theorem Mm.mul (a b c d e f g h : Int) : Mm (a * e + b * g) (a * f + b * h) (c * e + d * g) (c * f + d * h) = (Mm a b c d).mul (Mm e f g h) := by
  apply Mx.ext' <;> simp only [Mm, Mx.mul, Rat.intCast_mul, Rat.intCast_add]
theorem det_bh (a b c d e f g h : Int) : (a * e + b * g) * (c * f + d * h) - (a * f + b * h) * (c * e + d * g) = (a * d - b * c) * (e * h - f * g) := by grind
theorem det_bh0 {e f g h : Int} (hD : ((a * d - b * c : Int) : Rat) ≠ 0) (hE : ((e * h - f * g : Int) : Rat) ≠ 0) : (((a * e + b * g) * (c * f + d * h) - (a * f + b * h) * (c * e + d * g) : Int) : Rat) ≠ 0 := by
  intro z
  rw [Rat.intCast_eq_zero_iff, det_bh] at z
  rcases Int.mul_eq_zero.mp z with z | z
  · exact hD (Rat.intCast_eq_zero_iff.mpr z)
  · exact hE (Rat.intCast_eq_zero_iff.mpr z)
/-- one behind the other one -/
theorem pcx_bh (hp : Pr p) {e f g h : Int} (hD : ((a * d - b * c : Int) : Rat) ≠ 0) (hE : ((e * h - f * g : Int) : Rat) ≠ 0) : pcx p (a * e + b * g) (a * f + b * h) (c * e + d * g) (c * f + d * h) X = pcx p a b c d (pcx p e f g h X) := by
  refine pcx_eq hp (det_bh0 hD hE) (pcx_pla hp) ?_
  rw [Mm.mul, Mx.asc]
  have h1 := (Dl.led hp (MM_det0 hD) (mm0 hp hE) (Mp.det0 hp _ _)).mpr (pcx_dl (X := X) hp hE)
  exact (Dl.trans hp (mm0 hp hD) h1 (pcx_dl hp hD)).mono (by omega)
/-- a move undone -/
theorem pcx_un (hp : Pr p) (hD : ((a * d - b * c : Int) : Rat) ≠ 0) (hX : Pla p X) : pcx p d (-b) (-c) a (pcx p a b c d X) = X := by
  have hE : ((d * a - -b * -c : Int) : Rat) ≠ 0 := by
    rw [show d * a - -b * -c = a * d - b * c by grind]
    exact hD
  have e : Mm d (-b) (-c) a = (Mm a b c d).adj := by
    apply Mx.ext' <;> simp only [Mm, Mx.adj, Rat.intCast_neg]
  refine pcx_eq hp hE hX ?_
  have h1 := (Dl.led hp (MM_det0 hE) (mm0 (X := X) hp hD) (Mp.det0 hp _ _)).mpr (pcx_dl (X := X) hp hD)
  rw [e, Mx.adj_l] at h1
  have hm := MM_det0 hD
  have h2 := ((Dl.smL hp hm (Mp.det0 hp _ _)).mp h1).symm
  rw [e]
  exact h2
/-! ### far from home -/
noncomputable abbrev hm (p : Nat) (X : Int × Rat) : Int := dd p (0, 0) X
theorem hm_led (hp : Pr p) (hD : ((a * d - b * c : Int) : Rat) ≠ 0) : hm p (pcx p a b c d X) ≤ hm p X + vp p ((a * d - b * c : Int) : Rat) := by
  have h1 : Dl p (mx p (0, 0)) ((Mm a b c d).mul (mx p (0, 0))) (vp p ((a * d - b * c : Int) : Rat)) := by
    refine ⟨0, ?_, ?_⟩
    · have e : (mx p (0, 0)).adj.mul ((Mm a b c d).mul (mx p (0, 0))) = Mm a b c d := by
        apply Mx.ext' <;> simp only [Mx.mul, Mx.adj, Mp, Mm, P_0] <;> grind
      rw [e]
      have zi : ∀ n : Int, Vg p 0 (n : Rat) := fun n => by
        unfold Vg
        rw [show -(0 : Int) = 0 from rfl, P_0, Rat.mul_one]
        exact .int hp n
      exact ⟨zi a, zi b, zi c, zi d⟩
    · rw [Mx.det_mul, vp_mul hp (MM_det0 hD) (Mp.det0 hp _ _), Mp.det, vp_P hp, Mm.det]
      show (0 : Int) + (_ + 0) ≤ _
      omega
  have h2 := (Dl.led hp (MM_det0 hD) (Mp.det0 hp _ _) (Mp.det0 hp _ _)).mpr ((dd_dl hp (X := (0, 0)) (Y := X)).mpr (Int.le_refl _))
  have h3 := Dl.trans hp (mm0 hp hD) h1 (Dl.trans hp (mm0 hp hD) h2 (pcx_dl hp hD))
  have := (dd_dl hp).mp h3
  show dd p (0, 0) (pcx p a b c d X) ≤ dd p (0, 0) X + _
  omega
theorem hm_k (hp : Pr p) : (X.1.natAbs : Int) ≤ hm p X := by
  have := mt_le hp (j := 0) (x := 0) (k := X.1) (y := X.2)
  show _ ≤ (0 : Int) + X.1 - 2 * mt p 0 0 X.1 X.2
  omega
theorem sz_base (hp : Pp p) (hX : Pla p X) {R : Nat} (k1 : X.1 ≤ R) (k0 : 0 ≤ X.1 + R) (hn : Nr p (-(R : Int)) X.2 0) : sz X.2 ≤ 9 * R + 8 := by
  have hr : IsRest p X.1 X.2 (rest p X.1 X.2) := rest_ok hp.pr _ _
  have e : rest p X.1 X.2 = X.2 := hX
  rw [e] at hr
  have hz : Zi p (X.2 * P p R) := by
    have : Zi p ((X.2 - 0) * P p (-(-(R : Int)))) := hn
    rw [show X.2 - 0 = X.2 by grind, show -(-(R : Int)) = R by omega] at this
    exact this
  obtain ⟨n, hn⟩ := whole hp.pr hz (hr.fr.mul hp.pr (.P hp.pr _))
  have n0 : 0 ≤ n := by
    have := Rat.mul_nonneg hr.nn (Rat.le_of_lt (P_pos hp.pr R))
    rw [hn] at this
    exact Rat.intCast_nonneg.mp this
  have n1 : n < (p : Int) ^ (2 * R) := by
    have l := (Rat.mul_lt_mul_right (P_pos hp.pr (R : Int))).mpr hr.lt
    rw [hn, ← P_add hp.pr] at l
    obtain ⟨e, he⟩ := Int.eq_ofNat_of_zero_le (show 0 ≤ X.1 + R by omega)
    rw [he, P_nat] at l
    have l2 := Rat.intCast_lt_intCast.mp l
    have l3 : p ^ e ≤ p ^ (2 * R) := Nat.pow_le_pow_right (by have := hp.pr.two; omega) (by omega)
    have l4 : ((p ^ e : Nat) : Int) = (p : Int) ^ e := Int.natCast_pow p e
    have l5 : ((p ^ (2 * R) : Nat) : Int) = (p : Int) ^ (2 * R) := Int.natCast_pow p _
    omega
  have pR := pow_pos' hp.pr R
  have ex : X.2 = Rat.divInt n ((p : Int) ^ R) := by
    rw [Rat.divInt_eq_div, ← hn, ← P_nat]
    have := P_ne hp.pr (R : Int)
    have := Rat.div_mul_cancel (a := X.2 * P p R) this
    grind
  have lp := Lg.pow hp.le (2 * R)
  have ln : Lg (3 * (2 * R) + 1) n := (lp.le (by omega)).mono (by omega)
  have lr : Lg (3 * R + 1) ((p : Int) ^ R) := (Lg.pow hp.le R).mono (by omega)
  have b1 := bl_le ln (by omega)
  have b2 := bl_le lr (by omega)
  have s := sz_low (t := n) (b := (p : Int) ^ R) (by omega)
  rw [ex]
  omega
theorem hm_sz (hp : Pp p) (hX : Pla p X) {R : Nat} (h : hm p X ≤ R) : sz X.2 ≤ 9 * R + 8 := by
  obtain ⟨h1, h2, h3⟩ := mt_le hp.pr (j := 0) (x := 0) (k := X.1) (y := X.2)
  have hh : (0 : Int) + X.1 - 2 * mt p 0 0 X.1 X.2 ≤ R := h
  have kk := hm_k hp.pr (X := X)
  exact sz_base hp hX (by omega) (by omega) ((h3.symm).mono hp.pr (by omega))
end
end Pd
end
section
set_option Elab.async false
set_option linter.all false
set_option maxRecDepth 100000
set_option maxHeartbeats 4000000
set_option autoImplicit false
namespace Pd
open PySem PySem.Spec Dk
section
variable {p : Nat} {X Y Z : Int × Rat} {a b c d : Int}
/-! ### next ones -/
noncomputable def upp (p : Nat) (X : Int × Rat) : Int × Rat := (X.1 - 1, rest p (X.1 - 1) X.2)
noncomputable def dwn (p : Nat) (X : Int × Rat) (i : Nat) : Int × Rat := (X.1 + 1, X.2 + ((i : Int) : Rat) * P p X.1)
noncomputable def nx (p : Nat) (X : Int × Rat) : List (Int × Rat) := upp p X :: (List.range p).map (dwn p X)
theorem nx_len : (nx p X).length = p + 1 := by simp [nx]
theorem upp_pla (hp : Pr p) : Pla p (upp p X) := rest_self hp
theorem dwn_rest (hp : Pr p) (hX : Pla p X) {i : Nat} (hi : i < p) : Pla p (dwn p X i) := by
  have r : IsRest p X.1 X.2 (rest p X.1 X.2) := rest_ok hp _ _
  have e : rest p X.1 X.2 = X.2 := hX
  rw [e] at r
  have h := rest_digit hp (x := X.2 + ((i : Int) : Rat) * P p X.1) (r := X.2) (i := X.1) (d := i) ⟨r.fr, r.nn, r.lt, ?_⟩ hi (.rfl' hp)
  · exact (rest_eq hp h).symm
  · have : Nr p X.1 (((i : Int) : Rat) * P p X.1) 0 := by
      show Zi p ((((i : Int) : Rat) * P p X.1 - 0) * P p (-X.1))
      have q := P_neg hp X.1
      rw [show (((i : Int) : Rat) * P p X.1 - 0) * P p (-X.1) = ((i : Int) : Rat) by grind]
      exact .int hp _
    have h2 := Nr.add hp (Nr.rfl' hp (k := X.1) (x := X.2)) this
    rw [show X.2 + (0 : Rat) = X.2 by grind] at h2
    exact h2
theorem dwn_nr (hp : Pr p) {i : Nat} : Nr p X.1 X.2 (dwn p X i).2 := by
  have : Nr p X.1 0 (((i : Int) : Rat) * P p X.1) := by
    show Zi p ((0 - ((i : Int) : Rat) * P p X.1) * P p (-X.1))
    have q := P_neg hp X.1
    rw [show (0 - ((i : Int) : Rat) * P p X.1) * P p (-X.1) = -((i : Int) : Rat) by grind]
    exact (Zi.int hp _).neg
  have h2 := Nr.add hp (Nr.rfl' hp (k := X.1) (x := X.2)) this
  rw [show X.2 + (0 : Rat) = X.2 by grind] at h2
  exact h2
theorem dd_of (hp : Pr p) {m : Int} (h1 : m ≤ X.1) (h2 : m ≤ Y.1) (h3 : Nr p m X.2 Y.2) : dd p X Y ≤ X.1 + Y.1 - 2 * m := by
  have := (mt_iff hp).mpr ⟨h1, h2, h3⟩
  unfold dd
  omega
theorem nx_dd (hp : Pr p) (hX : Pla p X) {Y : Int × Rat} (h : Y ∈ nx p X) : dd p X Y ≤ 1 ∧ Pla p Y := by
  unfold nx at h
  rcases List.mem_cons.mp h with rfl | h
  · refine ⟨?_, upp_pla hp⟩
    have := dd_of hp (X := X) (Y := upp p X) (m := X.1 - 1) (by omega) (Int.le_refl _) (rest_near hp _ _)
    have e : (upp p X).1 = X.1 - 1 := rfl
    omega
  · obtain ⟨i, hi, rfl⟩ := List.mem_map.mp h
    refine ⟨?_, dwn_rest hp hX (List.mem_range.mp hi)⟩
    have := dd_of hp (X := X) (Y := dwn p X i) (m := X.1) (Int.le_refl _) (by show X.1 ≤ X.1 + 1; omega) (dwn_nr hp)
    have e : (dwn p X i).1 = X.1 + 1 := rfl
    omega
theorem nx_at0 : (nx p X)[0]? = some (upp p X) := rfl
theorem nx_at {i : Nat} (hi : i < p) : (nx p X)[i + 1]? = some (dwn p X i) := by
  unfold nx
  rw [List.getElem?_cons_succ, List.getElem?_map, List.getElem?_range hi]
  rfl
theorem nx_ex (hp : Pr p) (hX : Pla p X) (hY : Pla p Y) (h : dd p X Y ≤ 1) (hne : X ≠ Y) : ∃ i, i < p + 1 ∧ (nx p X)[i]? = some Y := by
  obtain ⟨m1, m2, m3⟩ := mt_le hp (j := X.1) (x := X.2) (k := Y.1) (y := Y.2)
  have h0 : ¬ dd p X Y ≤ 0 := fun z => hne (dd_0 hp hX hY z)
  unfold dd at h h0
  have e : Y.1 = X.1 - 1 ∧ mt p X.1 X.2 Y.1 Y.2 = X.1 - 1 ∨ Y.1 = X.1 + 1 ∧ mt p X.1 X.2 Y.1 Y.2 = X.1 := by omega
  rcases e with ⟨e1, e2⟩ | ⟨e1, e2⟩
  · refine ⟨0, by omega, ?_⟩
    rw [nx_at0]
    rw [e2] at m3
    refine congrArg some (Prod.ext e1.symm ?_)
    show rest p (X.1 - 1) X.2 = Y.2
    rw [(rest_iff hp).mpr m3, ← e1]
    exact hY
  · rw [e2] at m3
    obtain ⟨i, hi, hn⟩ := digit_at hp m3.symm
    refine ⟨i + 1, by omega, ?_⟩
    rw [nx_at hi]
    refine congrArg some (Prod.ext e1.symm ?_)
    show X.2 + ((i : Int) : Rat) * P p X.1 = Y.2
    have q1 : rest p Y.1 Y.2 = Y.2 := hY
    have q2 : rest p (X.1 + 1) (X.2 + ((i : Int) : Rat) * P p X.1) = X.2 + ((i : Int) : Rat) * P p X.1 := dwn_rest hp hX hi
    rw [← q2, ← q1, e1]
    exact (rest_iff hp).mpr hn.symm
/-- the number of a next one -/
noncomputable def nn (p : Nat) (X Y : Int × Rat) : Option Int := open Classical in
  if Y = upp p X then some 0 else if Y.1 ≠ X.1 + 1 ∨ upp p Y ≠ X then none else some (((Y.2 - X.2) / P p X.1).num + 1)
theorem upp_dwn (hp : Pr p) (hX : Pla p X) {i : Nat} : upp p (dwn p X i) = X := by
  refine Prod.ext (show X.1 + 1 - 1 = X.1 by omega) ?_
  show rest p (X.1 + 1 - 1) (dwn p X i).2 = X.2
  rw [show X.1 + 1 - 1 = X.1 by omega, ← (rest_iff hp).mpr (dwn_nr (X := X) (i := i) hp)]
  exact hX
theorem nn_dwn (hp : Pr p) (hX : Pla p X) {i : Nat} : nn p X (dwn p X i) = some ((i : Int) + 1) := by
  unfold nn
  have h1 : dwn p X i ≠ upp p X := fun z => by
    have : X.1 + 1 = X.1 - 1 := congrArg Prod.fst z
    omega
  rw [if_neg h1, if_neg (fun z => z.elim (fun z => z rfl) fun z => z (upp_dwn hp hX))]
  have e : ((dwn p X i).2 - X.2) / P p X.1 = ((i : Int) : Rat) := by
    show (X.2 + ((i : Int) : Rat) * P p X.1 - X.2) / P p X.1 = _
    have := P_ne hp X.1
    rw [show X.2 + ((i : Int) : Rat) * P p X.1 - X.2 = ((i : Int) : Rat) * P p X.1 by grind]
    have := Rat.div_mul_cancel (a := ((i : Int) : Rat) * P p X.1) this
    grind
  rw [e]
  rfl
theorem nn_at (hp : Pr p) (hX : Pla p X) {i : Nat} (h : (nx p X)[i]? = some Y) : nn p X Y = some (i : Int) := by
  cases i with
  | zero =>
    rw [nx_at0] at h
    cases h
    unfold nn
    rw [if_pos rfl]
    rfl
  | succ i =>
    have hi : i < p := by
      have := (List.getElem?_eq_some_iff.mp h).1
      rw [nx_len] at this
      omega
    rw [nx_at hi] at h
    cases h
    exact nn_dwn hp hX
/-- numbers of next ones: each tells one place -/
theorem nn_led (hp : Pr p) (hD : ((a * d - b * c : Int) : Rat) ≠ 0) (hX : Pla p X) : ∃ v : List Int, (nx p X).map (fun Y => nn p (pcx p a b c d X) (pcx p a b c d Y)) = v.map some ∧ v.length = p + 1 ∧ v.Nodup ∧ ∀ i ∈ v, 0 ≤ i ∧ i < (p : Int) + 1 := by
  have hG : Pla p (pcx p a b c d X) := pcx_pla hp
  have each : ∀ Y ∈ nx p X, ∃ i : Nat, i < p + 1 ∧ (nx p (pcx p a b c d X))[i]? = some (pcx p a b c d Y) := fun Y hY => by
    obtain ⟨h1, h2⟩ := nx_dd hp hX hY
    refine nx_ex hp hG (pcx_pla hp) (by rw [pcx_dd hp hD]; exact h1) fun z => ?_
    have e := pcx_inj hp hD hX h2 z
    subst e
    unfold nx at hY
    rcases List.mem_cons.mp hY with z | z
    · have : X.1 = X.1 - 1 := congrArg Prod.fst z
      omega
    · obtain ⟨i, hi, z⟩ := List.mem_map.mp z
      have : X.1 + 1 = X.1 := congrArg Prod.fst z
      omega
  have dist : (nx p X).Nodup := by
    unfold nx
    refine List.nodup_cons.mpr ⟨fun z => ?_, ?_⟩
    · obtain ⟨i, _, z⟩ := List.mem_map.mp z
      have : X.1 + 1 = X.1 - 1 := congrArg Prod.fst z
      omega
    · refine List.Pairwise.map _ (R := fun i j => i ≠ j) (fun i j ij z => ?_) List.nodup_range
      have h1 := nn_dwn hp hX (i := i)
      rw [z, nn_dwn hp hX] at h1
      injection h1 with h1
      omega
  have hall : ∀ Y ∈ nx p X, Pla p Y := fun Y hY => (nx_dd hp hX hY).2
  have gen : ∀ l : List (Int × Rat), (∀ Y ∈ l, Y ∈ nx p X) → l.Nodup → ∃ v : List Int, l.map (fun Y => nn p (pcx p a b c d X) (pcx p a b c d Y)) = v.map some ∧ v.length = l.length ∧ v.Nodup ∧ ∀ i ∈ v, (0 ≤ i ∧ i < (p : Int) + 1) ∧ ∃ Y ∈ l, nn p (pcx p a b c d X) (pcx p a b c d Y) = some i := by
    intro l
    induction l with
    | nil => exact fun _ _ => ⟨[], rfl, rfl, List.nodup_nil, fun i hi => by cases hi⟩
    | cons Y l ih =>
      intro hl hn
      obtain ⟨v, v1, v2, v3, v4⟩ := ih (fun Z hZ => hl Z (List.mem_cons_of_mem _ hZ)) (List.nodup_cons.mp hn).2
      obtain ⟨i, hi, e⟩ := each Y (hl Y List.mem_cons_self)
      have ei := nn_at hp hG e
      refine ⟨(i : Int) :: v, by rw [List.map_cons, List.map_cons, ei, v1], by rw [List.length_cons, List.length_cons, v2], List.nodup_cons.mpr ⟨fun hm => ?_, v3⟩, fun j hj => ?_⟩
      · obtain ⟨_, Z, hZ, eZ⟩ := v4 _ hm
        obtain ⟨j, hj, e2⟩ := each Z (hl Z (List.mem_cons_of_mem _ hZ))
        have ej := nn_at hp hG e2
        rw [eZ] at ej
        injection ej with ej
        have : i = j := by omega
        subst this
        rw [e] at e2
        injection e2 with e2
        have := pcx_inj hp hD (hall _ (hl Y List.mem_cons_self)) (hall _ (hl Z (List.mem_cons_of_mem _ hZ))) e2
        subst this
        exact (List.nodup_cons.mp hn).1 hZ
      · rcases List.mem_cons.mp hj with rfl | hj
        · exact ⟨⟨by omega, by omega⟩, Y, List.mem_cons_self, ei⟩
        · obtain ⟨w, Z, hZ, eZ⟩ := v4 j hj
          exact ⟨w, Z, List.mem_cons_of_mem _ hZ, eZ⟩
  obtain ⟨v, v1, v2, v3, v4⟩ := gen (nx p X) (fun _ h => h) dist
  exact ⟨v, v1, v2.trans nx_len, v3, fun i hi => (v4 i hi).1⟩
theorem up_list : ∀ (v : List Int) (a : Int), v.Pairwise (· < ·) → (∀ i ∈ v, a ≤ i ∧ i < a + v.length) → v = (List.range v.length).map fun (k : Nat) => a + (k : Int)
  | [], _, _, _ => rfl
  | h :: v, a, hv, hb => by
    have hv := List.pairwise_cons.mp hv
    have h0 := hb h List.mem_cons_self
    have ih := up_list v (a + 1) hv.2 (fun i hi => by
      have h1 := hb i (List.mem_cons_of_mem _ hi)
      have h2 := hv.1 i hi
      rw [List.length_cons] at h1
      omega)
    have eh : h = a := by
      cases v with
      | nil =>
        simp at h0
        omega
      | cons g v =>
        have h2 := hv.1 g List.mem_cons_self
        have e : g = a + 1 := by
          have := congrArg List.head? ih
          rw [List.length_cons, List.range_succ_eq_map, List.map_cons] at this
          simp at this
          exact this
        omega
    rw [List.length_cons, List.range_succ_eq_map, List.map_cons, List.map_map]
    conv => lhs; rw [ih, eh]
    refine congr (congrArg _ (by simp)) (List.map_congr_left fun k _ => ?_)
    show a + 1 + (k : Int) = a + ((k + 1 : Nat) : Int)
    omega
theorem sorted_range {v : List Int} {n : Nat} (hl : v.length = n) (hn : v.Nodup) (hb : ∀ i ∈ v, 0 ≤ i ∧ i < (n : Int)) : v.mergeSort (fun a b => decide (a ≤ b)) = (List.range n).map fun (k : Nat) => (0 : Int) + (k : Int) := by
  have pm := List.mergeSort_perm v (fun a b => decide (a ≤ b))
  have srt : (v.mergeSort (fun a b => decide (a ≤ b))).Pairwise (fun a b => decide (a ≤ b) = true) := List.pairwise_mergeSort (fun a b c h1 h2 => by simp at *; omega) (fun a b => by simp; omega) v
  have nd : (v.mergeSort (fun a b => decide (a ≤ b))).Nodup := pm.nodup_iff.mpr hn
  have lt : (v.mergeSort (fun a b => decide (a ≤ b))).Pairwise (· < ·) := (srt.and nd).imp fun {a b} h => by
    have h1 := of_decide_eq_true h.1
    have h2 := h.2
    omega
  have len : (v.mergeSort (fun a b => decide (a ≤ b))).length = n := by rw [pm.length_eq, hl]
  have := up_list _ 0 lt (fun i hi => by
    have := hb i (pm.mem_iff.mp hi)
    omega)
  rw [len] at this
  exact this
end
end Pd
end
section
set_option Elab.async false
set_option linter.all false
set_option maxRecDepth 100000
set_option maxHeartbeats 4000000
set_option autoImplicit false
namespace Pd
open PySem PySem.Spec Dk
section
variable {p : Nat} {X Y Z : Int × Rat} {a b c d : Int}
/-! ### ways -/
noncomputable abbrev mtx (p : Nat) (X Y : Int × Rat) : Int := mt p X.1 X.2 Y.1 Y.2
theorem mtx_le (hp : Pr p) : mtx p X Y ≤ X.1 ∧ mtx p X Y ≤ Y.1 ∧ Nr p (mtx p X Y) X.2 Y.2 := mt_le hp
noncomputable def upl (p : Nat) (X : Int × Rat) (n : Int) : Int × Rat := (X.1 - n, rest p (X.1 - n) X.2)
noncomputable def al (p : Nat) (X Y : Int × Rat) (n : Int) : Int × Rat :=
  if n ≤ X.1 - mtx p X Y then upl p X n else (mtx p X Y + n - (X.1 - mtx p X Y), rest p (mtx p X Y + n - (X.1 - mtx p X Y)) Y.2)
theorem upl_pla (hp : Pr p) {n : Int} : Pla p (upl p X n) := rest_self hp
theorem al_pla (hp : Pr p) {n : Int} : Pla p (al p X Y n) := by
  unfold al
  split
  · exact upl_pla hp
  · exact rest_self hp
theorem al_dd (hp : Pr p) {n : Int} (h0 : 0 ≤ n) (h1 : n ≤ dd p X Y) : dd p X (al p X Y n) ≤ n ∧ dd p (al p X Y n) Y ≤ dd p X Y - n := by
  obtain ⟨m1, m2, m3⟩ := mtx_le hp (X := X) (Y := Y)
  have hd : dd p X Y = X.1 + Y.1 - 2 * mtx p X Y := rfl
  unfold al
  split
  · rename_i h
    have q1 := dd_of hp (X := X) (Y := upl p X n) (m := X.1 - n) (by omega) (Int.le_refl _) (rest_near hp _ _)
    have q2 := dd_of hp (X := upl p X n) (Y := Y) (m := mtx p X Y) (by show _ ≤ X.1 - n; omega) m2 (((rest_near hp (X.1 - n) X.2).symm.mono hp (by omega)).trans hp m3)
    have e : (upl p X n).1 = X.1 - n := rfl
    omega
  · rename_i h
    generalize hl : mtx p X Y + n - (X.1 - mtx p X Y) = l
    have q1 := dd_of hp (X := X) (Y := (l, rest p l Y.2)) (m := mtx p X Y) m1 (by show _ ≤ l; omega) (m3.trans hp ((rest_near hp l Y.2).mono hp (by omega)))
    have q2 := dd_of hp (X := (l, rest p l Y.2)) (Y := Y) (m := l) (Int.le_refl _) (by omega) (rest_near hp l Y.2).symm
    dsimp only at q1 q2
    omega
theorem pla_eq (hp : Pr p) (hZ : Pla p Z) {k : Int} {y : Rat} (e : Z.1 = k) (h : Nr p k y Z.2) : Z = (k, rest p k y) := by
  subst e
  refine Prod.ext rfl ?_
  show Z.2 = rest p Z.1 y
  rw [(rest_iff hp).mpr h]
  exact hZ.symm
theorem al_uniq (hp : Pr p) (hZ : Pla p Z) {n : Int} (h1 : dd p X Z ≤ n) (h2 : dd p Z Y ≤ dd p X Y - n) : Z = al p X Y n := by
  obtain ⟨m1, m2, m3⟩ := mtx_le hp (X := X) (Y := Y)
  obtain ⟨a1, a2, a3⟩ := mtx_le hp (X := X) (Y := Z)
  obtain ⟨b1, b2, b3⟩ := mtx_le hp (X := Z) (Y := Y)
  have u : min (mtx p X Z) (mtx p Z Y) ≤ mtx p X Y := (mt_iff hp).mpr ⟨by omega, by omega, (a3.mono hp (by omega)).trans hp (b3.mono hp (by omega))⟩
  have hd : dd p X Y = X.1 + Y.1 - 2 * mtx p X Y := rfl
  have hd1 : dd p X Z = X.1 + Z.1 - 2 * mtx p X Z := rfl
  have hd2 : dd p Z Y = Z.1 + Y.1 - 2 * mtx p Z Y := rfl
  unfold al
  rcases Int.le_total (mtx p Z Y) (mtx p X Z) with o | o
  · have e1 : mtx p X Z = Z.1 := by omega
    have e2 : Z.1 = X.1 - n := by omega
    rw [if_pos (by omega)]
    have a3' : Nr p (mtx p X Z) X.2 Z.2 := a3
    rw [e1, e2] at a3'
    exact pla_eq hp hZ e2 a3'
  · have e1 : mtx p Z Y = Z.1 := by omega
    have e2 : Z.1 = mtx p X Y + n - (X.1 - mtx p X Y) := by omega
    have b3' : Nr p (mtx p Z Y) Z.2 Y.2 := b3
    rw [e1] at b3'
    split
    · rename_i h
      have e3 : Z.1 = X.1 - n := by omega
      have e4 : Z.1 ≤ mtx p X Y := by omega
      exact pla_eq hp hZ e3 (e3 ▸ ((m3.mono hp e4).trans hp b3'.symm))
    · exact pla_eq hp hZ e2 (e2 ▸ b3'.symm)
/-- a move leads ways to ways -/
theorem pcx_al (hp : Pr p) (hD : ((a * d - b * c : Int) : Rat) ≠ 0) {n : Int} (h0 : 0 ≤ n) (h1 : n ≤ dd p X Y) : pcx p a b c d (al p X Y n) = al p (pcx p a b c d X) (pcx p a b c d Y) n := by
  obtain ⟨q1, q2⟩ := al_dd hp h0 h1
  refine al_uniq hp (pcx_pla hp) ?_ ?_
  · rw [pcx_dd hp hD]
    exact q1
  · rw [pcx_dd hp hD, pcx_dd hp hD]
    exact q2
/-- the way from one place to another one -/
noncomputable def wy2 (p : Nat) (X Y : Int × Rat) : List (Int × Rat) := (List.range (dd p X Y + 1).toNat).map fun (k : Nat) => al p X Y (k : Int)
theorem wy2_len (hp : Pr p) : ((wy2 p X Y).length : Int) = dd p X Y + 1 := by
  have := dd_nn hp (X := X) (Y := Y)
  unfold wy2
  rw [List.length_map, List.length_range]
  omega
theorem pcx_wy (hp : Pr p) (hD : ((a * d - b * c : Int) : Rat) ≠ 0) : (wy2 p X Y).map (pcx p a b c d) = wy2 p (pcx p a b c d X) (pcx p a b c d Y) := by
  unfold wy2
  rw [pcx_dd hp hD, List.map_map]
  refine List.map_congr_left fun k hk => ?_
  have := List.mem_range.mp hk
  exact pcx_al hp hD (by omega) (by omega)
/-- up so often -/
noncomputable def ups (p : Nat) (X : Int × Rat) (n : Nat) : List (Int × Rat) := (List.range n).map fun (k : Nat) => upl p X (k : Int)
theorem ups_len (n : Nat) : (ups p X n).length = n := by simp [ups]
theorem ups_at {n k : Nat} (h : k < n) : (ups p X n)[k]? = some (upl p X (k : Int)) := by
  unfold ups
  rw [List.getElem?_map, List.getElem?_range h]
  rfl
theorem ups_succ (n : Nat) : ups p X (n + 1) = ups p X n ++ [upl p X (n : Int)] := by
  unfold ups
  rw [List.range_succ, List.map_append]
  rfl
theorem ups_way (hp : Pr p) : ups p X (X.1 - mtx p X Y + 1).toNat ++ (ups p Y (Y.1 - mtx p X Y).toNat).reverse = wy2 p X Y := by
  obtain ⟨m1, m2, m3⟩ := mtx_le hp (X := X) (Y := Y)
  have hd : dd p X Y = X.1 + Y.1 - 2 * mtx p X Y := rfl
  obtain ⟨s, hs⟩ := Int.eq_ofNat_of_zero_le (show 0 ≤ X.1 - mtx p X Y by omega)
  obtain ⟨t, ht⟩ := Int.eq_ofNat_of_zero_le (show 0 ≤ Y.1 - mtx p X Y by omega)
  have e1 : (X.1 - mtx p X Y + 1).toNat = s + 1 := by omega
  have e2 : (Y.1 - mtx p X Y).toNat = t := by omega
  have e3 : (dd p X Y + 1).toNat = s + 1 + t := by omega
  rw [e1, e2]
  apply List.ext_getElem?
  intro k
  unfold wy2
  rw [e3, List.getElem?_map]
  by_cases h : k < s + 1
  · rw [List.getElem?_append_left (by rw [ups_len]; exact h), ups_at h, List.getElem?_range (by omega)]
    refine congrArg some ?_
    show upl p X (k : Int) = al p X Y (k : Int)
    unfold al
    rw [if_pos (by omega)]
  · rw [List.getElem?_append_right (by rw [ups_len]; omega), ups_len]
    by_cases h2 : k < s + 1 + t
    · rw [List.getElem?_reverse (by rw [ups_len]; omega), ups_len, ups_at (by omega), List.getElem?_range h2]
      refine congrArg some ?_
      show upl p Y _ = al p X Y (k : Int)
      unfold al
      rw [if_neg (by omega)]
      unfold upl
      have e : Y.1 - ((t - 1 - (k - (s + 1)) : Nat) : Int) = mtx p X Y + (k : Int) - (X.1 - mtx p X Y) := by omega
      rw [e]
    · rw [List.getElem?_eq_none (by rw [List.length_reverse, ups_len]; omega), List.getElem?_eq_none (by rw [List.length_range]; omega)]
      rfl
/-- the way told from the other end -/
theorem al_back (hp : Pr p) {n : Int} (h0 : 0 ≤ n) (h1 : n ≤ dd p X Y) : al p Y X n = al p X Y (dd p X Y - n) := by
  have hs : dd p Y X = dd p X Y := dd_symm hp
  obtain ⟨q1, q2⟩ := al_dd hp (X := Y) (Y := X) h0 (by omega)
  refine al_uniq hp (al_pla hp) ?_ ?_
  · rw [dd_symm hp]
    omega
  · rw [dd_symm hp]
    omega
/-! ### sizes -/
structure Hb (p R : Nat) (X : Int × Rat) : Prop where
  pla : Pla p X
  far : hm p X ≤ R
theorem Hb.mono {R T : Nat} (h : Hb p R X) (k : R ≤ T) : Hb p T X := ⟨h.pla, by have := h.far; omega⟩
theorem Hb.k (hp : Pr p) {R : Nat} (h : Hb p R X) : X.1.natAbs ≤ R := by
  have := hm_k hp (X := X)
  have := h.far
  omega
theorem Hb.near0 (hp : Pr p) {R : Nat} (h : Hb p R X) : Nr p (-(R : Int)) X.2 0 := by
  obtain ⟨h1, h2, h3⟩ := mt_le hp (j := 0) (x := 0) (k := X.1) (y := X.2)
  have hh : (0 : Int) + X.1 - 2 * mt p 0 0 X.1 X.2 ≤ R := h.far
  exact (h3.symm).mono hp (by omega)
theorem sz_up (hp : Pp p) {R : Nat} {x : Rat} (hn : Nr p (-(R : Int)) x 0) {k : Int} (hk : k ≤ R) : sz (rest p k x) ≤ 9 * R + 8 := by
  by_cases h0 : k ≤ -(R : Int)
  · have := rest_eq hp.pr (rest_zero hp.pr (hn.mono hp.pr h0))
    rw [← this]
    have : sz 0 ≤ 2 := by decide
    omega
  · exact sz_base hp (X := (k, rest p k x)) (rest_self hp.pr) hk (by dsimp only; omega) (((rest_near hp.pr k x).symm.mono hp.pr (by omega)).trans hp.pr hn)
theorem Hb.sz (hp : Pp p) {R : Nat} (h : Hb p R X) : sz X.2 ≤ 9 * R + 8 := hm_sz hp h.pla h.far
theorem Hb.led (hp : Pr p) {R V : Nat} (h : Hb p R X) (hD : ((a * d - b * c : Int) : Rat) ≠ 0) (hv : vp p ((a * d - b * c : Int) : Rat) ≤ V) : Hb p (R + V) (pcx p a b c d X) := by
  have := hm_led hp (X := X) hD
  have := h.far
  exact ⟨pcx_pla hp, by omega⟩
theorem Hb.step (hp : Pr p) {R V : Nat} (h : Hb p R X) (hY : Pla p Y) (hv : dd p X Y ≤ V) : Hb p (R + V) Y := by
  have := dd_tri hp (X := (0, 0)) (Y := X) (Z := Y)
  have : dd p (0, 0) X ≤ R := h.far
  exact ⟨hY, by show dd p (0, 0) Y ≤ _; omega⟩
end
end Pd
end
section
set_option Elab.async false
set_option linter.all false
set_option autoImplicit false
namespace Pd
open PySem PySem.Spec Dk
def b__law_way_k11 : Ss := (.cons (.par 3 4 (.lst true (.cons (.var 1) .nil)) (.lst true (.cons (.var 2) .nil))) (.cons (.whl (.cmp .ne (.ix (.var 3) (.neg (.int 1))) (.ix (.var 4) (.neg (.int 1)))) (.cons (.ite (.cmp .ge (.ix (.ix (.var 3) (.neg (.int 1))) (.int 0)) (.ix (.ix (.var 4) (.neg (.int 1))) (.int 0))) (.cons (.app 3 (.call "_law_up" (.cons (.var 0) (.cons (.ix (.var 3) (.neg (.int 1))) .nil)))) .nil) (.cons (.app 4 (.call "_law_up" (.cons (.var 0) (.cons (.ix (.var 4) (.neg (.int 1))) .nil)))) .nil)) .nil)) (.cons (.ret (.bf .tuple (.cons (.bop .add (.var 3) (.rev (.sl (.var 4) .no (.so (.neg (.int 1)))))) .nil))) .nil)))
def b__law_drawn_place_k11 : Ss := (.cons (.ret (.call "_law_place" (.cons (.var 1) (.cons (.bop .sub (.call "_law_pick" (.cons (.var 0) (.cons (.int 9) .nil))) (.int 3)) (.cons (.call "_law_fraction" (.cons (.var 0) (.cons (.var 1) .nil))) .nil))))) .nil)
def b__law_four_k11 : Ss := (.cons (.asg (.nm 2) (.lst true (.cons (.call "_law_drawn_place" (.cons (.var 0) (.cons (.var 1) .nil))) .nil))) (.cons (.for_ (.nm 3) (.rng (.cons (.int 3) .nil)) (.cons (.asg (.nm 4) (.ix (.var 2) (.call "_law_pick" (.cons (.var 0) (.cons (.bf .len (.cons (.var 2) .nil)) .nil))))) (.cons (.ite (.cmp .eq (.call "_law_pick" (.cons (.var 0) (.cons (.int 4) .nil))) (.int 0)) (.cons (.asg (.nm 4) (.call "_law_drawn_place" (.cons (.var 0) (.cons (.var 1) .nil)))) .nil) .nil) (.cons (.for_ (.nm 5) (.rng (.cons (.call "_law_pick" (.cons (.var 0) (.cons (.int 5) .nil))) .nil)) (.cons (.asg (.nm 6) (.tup (.cons (.call "_law_pick" (.cons (.var 0) (.cons (.var 1) .nil))) (.cons (.int 1) .nil)))) (.cons (.asg (.nm 7) (.tup (.cons (.bop .add (.ix (.var 4) (.int 0)) (.int 1)) (.cons (.call "_law_plus" (.cons (.ix (.var 4) (.int 1)) (.cons (.call "_law_times" (.cons (.var 6) (.cons (.call "_law_power" (.cons (.var 1) (.cons (.ix (.var 4) (.int 0)) .nil))) .nil))) .nil))) .nil)))) (.cons (.asg (.nm 4) (.ife (.cmp .eq (.call "_law_pick" (.cons (.var 0) (.cons (.int 3) .nil))) (.int 0)) (.call "_law_up" (.cons (.var 1) (.cons (.var 4) .nil))) (.var 7))) .nil)))) (.cons (.app 2 (.var 4)) .nil))))) (.cons (.frz 2) (.cons (.ret (.var 2)) .nil))))
def b__law_next_right_k11 : Ss := (.cons (.asg (.nm 2) (.lst true (.cons (.call "_law_up" (.cons (.var 0) (.cons (.var 1) .nil))) .nil))) (.cons (.for_ (.nm 3) (.rng (.cons (.var 0) .nil)) (.cons (.app 2 (.tup (.cons (.bop .add (.ix (.var 1) (.int 0)) (.int 1)) (.cons (.call "_law_plus" (.cons (.ix (.var 1) (.int 1)) (.cons (.call "_law_times" (.cons (.tup (.cons (.var 3) (.cons (.int 1) .nil))) (.cons (.call "_law_power" (.cons (.var 0) (.cons (.ix (.var 1) (.int 0)) .nil))) .nil))) .nil))) .nil)))) .nil)) (.cons (.asg (.nm 4) (.call "next_places" (.cons (.var 0) (.cons (.var 1) .nil)))) (.cons (.ite (.or (.cmp .ne (.bf .repr (.cons (.var 4) .nil)) (.bf .repr (.cons (.bf .tuple (.cons (.var 2) .nil)) .nil))) (.cmp .ne (.bf .repr (.cons (.call "up_from" (.cons (.var 0) (.cons (.var 1) .nil))) .nil)) (.bf .repr (.cons (.ix (.var 2) (.int 0)) .nil)))) (.cons (.ret (.bl false)) .nil) .nil) (.cons (.ite (.cmp .ne (.lc false (.call "next_number" (.cons (.var 0) (.cons (.var 1) (.cons (.var 5) .nil)))) [("one", 5)] (.nm 5) (.seq (.var 2)) .tt) (.lrng1 false (.bop .add (.var 0) (.int 1)))) (.cons (.ret (.bl false)) .nil) .nil) (.cons (.ite (.cmp .ne (.lc false (.var 5) [("one", 5)] (.nm 5) (.seq (.var 2)) (.or (.cmp .is (.call "next_number" (.cons (.var 0) (.cons (.var 5) (.cons (.var 1) .nil)))) .non) (.cmp .isnt (.call "is_place" (.cons (.var 0) (.cons (.var 5) .nil))) (.bl true)))) (.lst false .nil)) (.cons (.ret (.bl false)) .nil) .nil) (.cons (.ret (.and (.cmp .is (.call "next_number" (.cons (.var 0) (.cons (.var 1) (.cons (.var 1) .nil)))) .non) (.cmp .is (.call "next_number" (.cons (.var 0) (.cons (.ix (.var 2) (.int 1)) (.cons (.ix (.var 2) (.int 2)) .nil)))) .non))) .nil)))))))
def b__law_pair_right_k11 : Ss := (.cons (.asg (.nm 4) (.call "_law_way" (.cons (.var 1) (.cons (.var 2) (.cons (.var 3) .nil))))) (.cons (.asg (.nm 5) (.bop .sub (.bf .len (.cons (.var 4) .nil)) (.int 1))) (.cons (.ite (.cmp .ne (.bf .repr (.cons (.lst false (.cons (.call "steps_between" (.cons (.var 1) (.cons (.var 2) (.cons (.var 3) .nil)))) (.cons (.call "steps_between" (.cons (.var 1) (.cons (.var 3) (.cons (.var 2) .nil)))) .nil))) .nil)) (.bf .repr (.cons (.lst false (.cons (.var 5) (.cons (.var 5) .nil))) .nil))) (.cons (.ret (.bl false)) .nil) .nil) (.cons (.ite (.or (.cmp .ne (.bf .repr (.cons (.call "way_between" (.cons (.var 1) (.cons (.var 2) (.cons (.var 3) .nil)))) .nil)) (.bf .repr (.cons (.var 4) .nil))) (.cmp .ne (.bf .repr (.cons (.call "way_between" (.cons (.var 1) (.cons (.var 3) (.cons (.var 2) .nil)))) .nil)) (.bf .repr (.cons (.rev (.var 4)) .nil)))) (.cons (.ret (.bl false)) .nil) .nil) (.cons (.asg (.nm 6) (.bf .min1 (.cons (.lc false (.ix (.var 7) (.int 0)) [("place", 7)] (.nm 7) (.seq (.var 4)) .tt) .nil))) (.cons (.ite (.or (.cmp .ne (.bf .repr (.cons (.call "meeting" (.cons (.var 1) (.cons (.var 2) (.cons (.var 3) .nil)))) .nil)) (.bf .repr (.cons (.var 6) .nil))) (.cmp .ne (.bf .repr (.cons (.call "upward" (.cons (.var 1) (.cons (.var 2) (.cons (.var 6) .nil)))) .nil)) (.bf .repr (.cons (.call "upward" (.cons (.var 1) (.cons (.var 3) (.cons (.var 6) .nil)))) .nil)))) (.cons (.ret (.bl false)) .nil) .nil) (.cons (.asg (.nm 8) (.call "_law_pick" (.cons (.var 0) (.cons (.bop .add (.var 5) (.int 1)) .nil)))) (.cons (.ret (.and (.cmp .eq (.bf .repr (.cons (.call "place_along" (.cons (.var 1) (.cons (.var 2) (.cons (.var 3) (.cons (.var 8) .nil))))) .nil)) (.bf .repr (.cons (.ix (.var 4) (.var 8)) .nil))) (.cmp .eq (.idx (.var 4) (.ix (.var 4) (.var 8))) (.var 8)))) .nil))))))))
def b_moves_behind_k15 : Ss := (.cons (.asg (.tp (.cons (.nm 2) (.cons (.nm 3) (.cons (.nm 4) (.cons (.nm 5) .nil))))) (.var 0)) (.cons (.asg (.tp (.cons (.nm 6) (.cons (.nm 7) (.cons (.nm 8) (.cons (.nm 9) .nil))))) (.var 1)) (.cons (.ret (.call "move_of" (.cons (.tup (.cons (.bop .add (.bop .mul (.var 2) (.var 6)) (.bop .mul (.var 3) (.var 8))) (.cons (.bop .add (.bop .mul (.var 2) (.var 7)) (.bop .mul (.var 3) (.var 9))) (.cons (.bop .add (.bop .mul (.var 4) (.var 6)) (.bop .mul (.var 5) (.var 8))) (.cons (.bop .add (.bop .mul (.var 4) (.var 7)) (.bop .mul (.var 5) (.var 9))) .nil))))) .nil))) .nil)))
def b_move_undone_k15 : Ss := (.cons (.ret (.call "move_of" (.cons (.tup (.cons (.ix (.var 0) (.int 3)) (.cons (.neg (.ix (.var 0) (.int 1))) (.cons (.neg (.ix (.var 0) (.int 2))) (.cons (.ix (.var 0) (.int 0)) .nil))))) .nil))) .nil)
def b__law_numbers_k15 : Ss := (.cons (.par 2 3 (.call "_law_pick" (.cons (.var 0) (.cons (.int 4) .nil))) (.lc false (.bop .sub (.call "_law_pick" (.cons (.var 0) (.cons (.int 13) .nil))) (.int 6)) [("k", 4)] (.nm 4) (.rng (.cons (.int 4) .nil)) .tt)) (.cons (.ite (.cmp .eq (.var 2) (.int 0)) (.cons (.asg (.nm 3) (.lst false (.cons (.int 0) (.cons (.var 1) (.cons (.int 1) (.cons (.int 0) .nil)))))) .nil) .nil) (.cons (.ite (.cmp .eq (.var 2) (.int 1)) (.cons (.asg (.nm 3) (.lst false (.cons (.ix (.call "_law_power" (.cons (.var 1) (.cons (.bop .add (.int 1) (.call "_law_pick" (.cons (.var 0) (.cons (.int 3) .nil)))) .nil))) (.int 0)) (.cons (.ix (.var 3) (.int 1)) (.cons (.int 0) (.cons (.bop .add (.int 1) (.call "_law_pick" (.cons (.var 0) (.cons (.int 4) .nil)))) .nil)))))) .nil) .nil) (.cons (.ret (.ife (.cmp .ne (.bop .mul (.ix (.var 3) (.int 0)) (.ix (.var 3) (.int 3))) (.bop .mul (.ix (.var 3) (.int 1)) (.ix (.var 3) (.int 2)))) (.var 3) (.lst false (.cons (.int 1) (.cons (.ix (.var 3) (.int 1)) (.cons (.int 0) (.cons (.bop .add (.int 1) (.bf .abs (.cons (.ix (.var 3) (.int 3)) .nil))) .nil))))))) .nil))))
def b__law_put_k15 : Ss := (.cons (.par 2 3 (.bop .add (.bop .mul (.ix (.var 0) (.int 0)) (.ix (.var 1) (.int 0))) (.bop .mul (.ix (.var 0) (.int 1)) (.ix (.var 1) (.int 1)))) (.bop .add (.bop .mul (.ix (.var 0) (.int 2)) (.ix (.var 1) (.int 0))) (.bop .mul (.ix (.var 0) (.int 3)) (.ix (.var 1) (.int 1))))) (.cons (.ret (.ife (.cmp .ne (.var 3) (.int 0)) (.call "_law_frac" (.cons (.var 2) (.cons (.var 3) .nil))) .non)) .nil))
def b__law_put_far_k15 : Ss := (.cons (.ret (.ife (.cmp .ne (.ix (.var 0) (.int 2)) (.int 0)) (.call "_law_frac" (.cons (.ix (.var 0) (.int 0)) (.cons (.ix (.var 0) (.int 2)) .nil))) .non)) .nil)
end Pd
end
section
set_option Elab.async false
set_option linter.all false
set_option maxRecDepth 100000
set_option maxHeartbeats 4000000
set_option autoImplicit false
namespace Pd
open PySem PySem.Spec Dk
/-! ## next ones, ways: the program's defs -/
abbrev pX (X : Int × Rat) : PyData := pl X.1 X.2
def UfF (f : Fn) : Prop := ∀ (p : Nat) (X : Int × Rat) (S : Src), Pp p → X.1.natAbs ≤ 900 → sz X.2 ≤ 1000 → f [.d (.int p), .d (pX X)] S = .ok (pX (upp p X)) [] S
theorem upf_of {Δ : Tb} (h : UpF (Δ "upward")) : UfF (mean Δ 2 2 b_up_from) := by
  intro p X S hp hk hx
  refine mean_eq (n := 0) ⟨rfl, rfl⟩ ?_
  unfold b_up_from
  have e1 := h p X.1 X.2 (X.1 - 1) S hp (by omega) hx
  simp only [Ws_cons, Ws_nil, Ws_ret]
  simp [e1, pX, upp]
theorem lplA_of {Δ : Tb} (h : RestF (Δ "_law_rest")) : NameF (mean Δ 3 3 b__law_place_a) := by
  intro p k x S hp hk hx
  refine mean_eq (n := 0) ⟨rfl, rfl⟩ ?_
  unfold b__law_place_a
  have e1 := h p x k S hp hk hx
  have s2 : (2 : Nat) ≤ sizeLine := by decide
  simp only [Ws_cons, Ws_nil, Ws_ret]
  simp [e1, s2]
  rfl
theorem lupA_of {Δ : Tb} (h : NameF (Δ "_law_place")) : UfF (mean Δ 2 2 b__law_up_a) := by
  intro p X S hp hk hx
  refine mean_eq (n := 0) ⟨rfl, rfl⟩ ?_
  unfold b__law_up_a
  have e1 := h p (X.1 - 1) X.2 S hp (by omega) hx
  simp only [Ws_cons, Ws_nil, Ws_ret]
  simp [e1, pX, upp]
def NxF (f : Fn) : Prop := ∀ (p : Nat) (X : Int × Rat) (S : Src), Pp p → X.1.natAbs ≤ 400 → sz X.2 ≤ 1000 → f [.d (.int p), .d (pX X)] S = .ok (.tuple ((nx p X).map pX)) [] S
structure NxI (p : Nat) (X : Int × Rat) (S0 : Src) (i : Nat) (σ : List W) (L : Lo) (S : Src) : Prop where
  ex : ∃ w5, σ = [.d (.int p), .d (pX X), .d (.int X.1), .d (fr X.2), .m 0, w5] ∧ L = [some (.lst (pX (upp p X) :: (List.range i).map (pX ∘ dwn p X)))] ∧ S = S0
theorem nx_of {Δ : Tb} (hu : UfF (Δ "up_from")) (ha : BinF (fun x y => x + y) (Δ "ratios_added")) (hm : BinF (fun x y => x * y) (Δ "ratios_times")) (hw : PowF (Δ "power_of")) : NxF (mean Δ 2 6 b_next_places) := by
  intro p X S hp hk hx
  refine mean_eq (n := 0) ⟨rfl, rfl⟩ ?_
  unfold b_next_places
  have s2 : (2 : Nat) ≤ sizeLine := by decide
  have p7 := hp.le
  have e1 := hu p X S hp (by omega) hx
  have w1 := hw p X.1 S hp (by omega)
  have sP := sz_P hp X.1
  rw [Ws_cons, Ws_asgT]
  refine Wr_ok.mpr ⟨.tuple [.int X.1, fr X.2], _, rfl, rfl, ?_⟩
  dsimp only
  rw [Ws_cons, Ws_asg]
  simp [e1, R.own]
  refine Ws_cut (NxI p X S p) ?_ ?_
  · rw [Ws_for]
    have hr := range_0 (d := (p : Int)) (by omega) (by omega)
    have hlen := len_0 (p : Int).toNat
    have hat := fun (i : Nat) (y : PyData) => range_at (n := (p : Int).toNat) (v := 0) (i := i) (y := y)
    rw [Int.toNat_natCast] at hr hlen hat
    generalize ((List.range p).map fun (k : Nat) => PyData.int ((0 : Int) + (k : Int))) = xs at hr hlen hat
    simp [hr]
    refine forL_of (NxI p X S) ⟨_, rfl, rfl, rfl⟩ ?_ (fun σ L S h => by rw [hlen] at h; exact h)
    rintro i y σ L S' hy ⟨w5, rfl, rfl, rfl⟩
    have hi := (List.getElem?_eq_some_iff.mp hy).1
    rw [hlen] at hi
    rw [hat i y hy, Int.zero_add]
    simp only [bindT]
    have si := sz_int (i : Int)
    have bi := bl_small (i := (i : Int)) (by omega)
    have w2 := hm ((i : Int) : Rat) (P p X.1) S' (by omega)
    have sm := sz_mul ((i : Int) : Rat) (P p X.1)
    have w3 := ha X.2 (((i : Int) : Rat) * P p X.1) S' (by omega)
    dsimp only at w2 w3
    rw [Ws_cons]
    refine Ws_app ⟨(0, _), rfl⟩ ?_
    simp [w1, s2, fr_int, w2, w3]
    refine ⟨0, _, rfl, by simp; unfold sizeLine; omega, ?_⟩
    rw [Ws_nil]
    refine ⟨_, rfl, ?_, rfl⟩
    rw [List.range_succ, List.map_append]
    rfl
  · rintro σ L S' ⟨w5, rfl, rfl, rfl⟩
    simp only [Ws_cons, Ws_nil, Ws_ret]
    simp [viewAll, opF, nx]
noncomputable def nD : Option Int → PyData
  | none => .none
  | some i => .int i
def NnF (f : Fn) : Prop := ∀ (p : Nat) (X Y : Int × Rat) (S : Src), Pp p → X.1.natAbs ≤ 800 → sz X.2 ≤ 1000 → Y.1.natAbs ≤ 800 → sz Y.2 ≤ 1000 → f [.d (.int p), .d (pX X), .d (pX Y)] S = .ok (nD (nn p X Y)) [] S
theorem nn_of {Δ : Tb} (hu : UfF (Δ "up_from")) (hs : BinF (fun x y => x - y) (Δ "ratios_less")) (ho : OverF (Δ "ratios_over")) (hw : PowF (Δ "power_of")) : NnF (mean Δ 3 4 b_next_number) := by
  intro p X Y S hp hk hx hj hy
  refine mean_eq (n := 0) ⟨rfl, rfl⟩ ?_
  unfold b_next_number
  have e1 := hu p X S hp (by omega) hx
  have e2 := hu p Y S hp (by omega) hy
  have w1 := hw p X.1 S hp (by omega)
  have sP := sz_P hp X.1
  have w2 := hs Y.2 X.2 S (by omega)
  have ss := sz_sub Y.2 X.2
  have w3 := ho (Y.2 - X.2) (P p X.1) S (P_ne hp.pr _) (by omega)
  dsimp only at w2
  have eqp : ∀ U V : Int × Rat, (U.1 = V.1 ∧ U.2 = V.2) ↔ U = V := fun U V => ⟨fun h => Prod.ext h.1 h.2, fun h => by rw [h]; exact ⟨rfl, rfl⟩⟩
  rw [Ws_cons, Ws_if]
  unfold nn
  by_cases h1 : Y = upp p X
  · have h1' := (eqp _ _).mpr h1
    rw [if_pos h1]
    simp [e1]
    rw [if_pos h1']
    simp only [Ws_cons, Ws_nil, Ws_ret]
    simp [nD]
  · have h1' := fun z => h1 ((eqp _ _).mp z)
    rw [if_neg h1]
    simp [e1]
    rw [if_neg h1']
    rw [Ws_nil]
    dsimp only
    rw [Ws_cons, Ws_if]
    by_cases h2 : Y.1 ≠ X.1 + 1
    · rw [if_pos (.inl h2)]
      simp [h2]
      simp only [Ws_cons, Ws_nil, Ws_ret]
      simp [nD]
    · have h2' : Y.1 = X.1 + 1 := by omega
      by_cases h3 : upp p Y = X
      · have h3' := (eqp _ _).mpr h3
        rw [if_neg (fun z => z.elim (fun z => h2 z) fun z => z h3)]
        simp [h2', e2]
        rw [if_neg (fun z => z.elim (fun z => z h3'.1) fun z => z h3'.2)]
        rw [Ws_nil]
        dsimp only
        rw [Ws_cons, Ws_asg]
        simp [w1, w2, w3]
        simp only [Ws_cons, Ws_nil, Ws_ret]
        simp [nD]
      · have h3' := fun z => h3 ((eqp _ _).mp z)
        rw [if_pos (.inr h3)]
        simp [h2', e2]
        rw [if_pos (Decidable.not_and_iff_or_not.mp h3')]
        simp only [Ws_cons, Ws_nil, Ws_ret]
        simp [nD]
def AlF (f : Fn) : Prop := ∀ (p : Nat) (X Y : Int × Rat) (n : Int) (S : Src), Pp p → sz X.2 ≤ 1000 → sz Y.2 ≤ 1000 → (al p X Y n).1.natAbs ≤ 1000 → f [.d (.int p), .d (pX X), .d (pX Y), .d (.int n)] S = .ok (pX (al p X Y n)) [] S
theorem al_of {Δ : Tb} (h : MeetF (Δ "meeting")) (hu : UpF (Δ "upward")) : AlF (mean Δ 4 5 b_place_along) := by
  intro p X Y n S hp hx hy hk
  refine mean_eq (n := 0) ⟨rfl, rfl⟩ ?_
  unfold b_place_along
  have e1 := h p X.1 X.2 Y.1 Y.2 S hp (by omega)
  rw [Ws_cons, Ws_asg]
  simp [e1]
  rw [Ws_cons, Ws_if]
  revert hk
  unfold al
  by_cases hh : n ≤ X.1 - mtx p X Y
  · rw [if_pos hh]
    intro hk
    have e2 := hu p X.1 X.2 (X.1 - n) S hp hk hx
    simp [hh]
    simp only [Ws_cons, Ws_nil, Ws_ret]
    simp [e2, upl]
  · rw [if_neg hh]
    intro hk
    have e2 := hu p Y.1 Y.2 (mtx p X Y + n - (X.1 - mtx p X Y)) S hp hk hy
    simp [hh, Ws_nil]
    simp only [Ws_cons, Ws_nil, Ws_ret]
    simp [e2]
def WyF (f : Fn) : Prop := ∀ (p : Nat) (X Y : Int × Rat) (S : Src), Pp p → X.1.natAbs ≤ 400 → Y.1.natAbs ≤ 400 → sz X.2 ≤ 1000 → sz Y.2 ≤ 1000 → dd p X Y ≤ 400 → f [.d (.int p), .d (pX X), .d (pX Y)] S = .ok (.tuple ((wy2 p X Y).map pX)) [] S
theorem al_k {p : Nat} (hp : Pr p) {X Y : Int × Rat} {n : Int} (h0 : 0 ≤ n) (h1 : n ≤ dd p X Y) : (al p X Y n).1 ≤ max X.1 Y.1 ∧ mtx p X Y ≤ (al p X Y n).1 := by
  have m := mtx_le hp (X := X) (Y := Y)
  have hd : dd p X Y = X.1 + Y.1 - 2 * mtx p X Y := rfl
  unfold al
  split
  · show X.1 - n ≤ _ ∧ _ ≤ X.1 - n
    omega
  · show mtx p X Y + n - (X.1 - mtx p X Y) ≤ _ ∧ _ ≤ mtx p X Y + n - (X.1 - mtx p X Y)
    omega
theorem way_of {Δ : Tb} (hM : Δ "MOST_STEPS" = conF (.int 400)) (h : StepF (Δ "steps_between")) (ha : AlF (Δ "place_along")) : WyF (mean Δ 3 5 b_way_between) := by
  intro p X Y S hp hk hj hx hy hd
  refine mean_eq (n := 0) ⟨rfl, rfl⟩ ?_
  unfold b_way_between
  have e1 := h p X.1 X.2 Y.1 Y.2 S hp (by omega)
  have ed : X.1 + Y.1 - 2 * mt p X.1 X.2 Y.1 Y.2 = dd p X Y := rfl
  rw [ed] at e1
  have d0 := dd_nn hp.pr (X := X) (Y := Y)
  have hn : ¬ (400 < dd p X Y) := by omega
  rw [Ws_cons, Ws_asg]
  simp [e1]
  rw [Ws_cons, Ws_if]
  simp [hM, conF, hn, Ws_nil]
  rw [Ws_cons, Ws_ret]
  have hr := range_0 (d := dd p X Y + 1) (by omega) (by omega)
  have hlc := ev_lcP (Δ := Δ) (elt := .call "place_along" (.cons (.var 0) (.cons (.var 1) (.cons (.var 2) (.cons (.var 4) .nil))))) (nm := "k") (q := 4) (it := .rng (.cons (.bop .add (.var 3) (.int 1)) .nil)) (σ := [.d (.int p), .d (pX X), .d (pX Y), .d (.int (dd p X Y)), .un]) (L := []) (S := S) (l := List.range (dd p X Y + 1).toNat) (fun (k : Nat) => .int ((0 : Int) + k)) (fun k => pX (al p X Y (k : Int))) (by simp [hr]) (by rw [List.length_range]; unfold sizeLine; omega) (fun k hk' => by
    have hk2 := List.mem_range.mp hk'
    have m := mtx_le hp.pr (X := X) (Y := Y)
    have hdd : dd p X Y = X.1 + Y.1 - 2 * mtx p X Y := rfl
    have q := al_k hp.pr (X := X) (Y := Y) (n := (k : Int)) (by omega) (by omega)
    have e2 := ha p X Y (k : Int) S hp hx hy (by omega)
    simp [e2])
  generalize E.lc _ _ _ _ _ _ = e at hlc ⊢
  simp [hlc, viewAll, opF, wy2]
end Pd
end
section
set_option Elab.async false
set_option linter.all false
set_option maxRecDepth 100000
set_option maxHeartbeats 4000000
set_option autoImplicit false
namespace Pd
open PySem PySem.Spec Dk
/-! ## ways, the law's own going up; drawn places -/
theorem cutLast {α : Type} {xs : List α} : cutD xs none (some (-1)) = xs.dropLast := by
  unfold cutD
  have e : HT.sIx xs.length xs.length (some (-1)) = xs.length - 1 := by
    show (if (-1 : Int) < 0 then ((-1 : Int) + (xs.length : Int)).toNat else min (-1 : Int).toNat xs.length) = xs.length - 1
    rw [if_pos (by decide)]
    omega
  rw [e, HT.sIx_none, List.drop_zero, Nat.sub_zero, List.dropLast_eq_take]
section
variable {p : Nat} {X Y : Int × Rat}
theorem ups_last (n : Nat) : ((ups p X (n + 1)).map pX).getLast? = some (pX (upl p X (n : Int))) := by
  rw [ups_succ, List.map_append, List.map_singleton, List.getLast?_append]
  rfl
theorem upl_0 (h : Pla p X) : upl p X ((0 : Nat) : Int) = X := by
  refine Prod.ext (show X.1 - ((0 : Nat) : Int) = X.1 by omega) ?_
  show rest p (X.1 - ((0 : Nat) : Int)) X.2 = X.2
  rw [show X.1 - ((0 : Nat) : Int) = X.1 by omega]
  exact h
theorem ups_1 (h : Pla p X) : ups p X 1 = [X] := by
  show [upl p X ((0 : Nat) : Int)] = [X]
  rw [upl_0 h]
theorem upp_upl (hp : Pr p) (n : Nat) : upp p (upl p X (n : Int)) = upl p X ((n + 1 : Nat) : Int) := by
  have e : X.1 - (n : Int) - 1 = X.1 - ((n + 1 : Nat) : Int) := by omega
  refine Prod.ext e ?_
  show rest p (X.1 - (n : Int) - 1) (rest p (X.1 - (n : Int)) X.2) = rest p (X.1 - ((n + 1 : Nat) : Int)) X.2
  rw [← e]
  exact rest_up hp (by omega) _
theorem Hb.mtx (hp : Pr p) {R : Nat} (h : Hb p R X) (k : Hb p R Y) : -(R : Int) ≤ mtx p X Y := by
  have h1 := h.k hp
  have h2 := k.k hp
  exact (mt_iff hp).mpr ⟨by omega, by omega, (h.near0 hp).trans hp (k.near0 hp).symm⟩
end
structure WwI (p : Nat) (X Y : Int × Rat) (S0 : Src) (m : Nat) (σ : List W) (L : Lo) (S : Src) : Prop where
  ex : ∃ s t : Nat, σ = [.d (.int p), .d (pX X), .d (pX Y), .m 0, .m 1] ∧ L = [some (.lst ((ups p X (s + 1)).map pX)), some (.lst ((ups p Y (t + 1)).map pX))] ∧ S = S0 ∧ (s : Int) ≤ X.1 - mtx p X Y ∧ (t : Int) ≤ Y.1 - mtx p X Y ∧ (m : Int) = (X.1 - mtx p X Y - s) + (Y.1 - mtx p X Y - t)
def LwyF (f : Fn) : Prop := ∀ (p R : Nat) (X Y : Int × Rat) (S : Src), Pp p → R ≤ 100 → Hb p R X → Hb p R Y → f [.d (.int p), .d (pX X), .d (pX Y)] S = .ok (.tuple ((wy2 p X Y).map pX)) [] S
theorem lwy_of {Δ : Tb} (hu : UfF (Δ "_law_up")) : LwyF (mean Δ 3 5 b__law_way_k11) := by
  intro p R X Y S hp hR hX hY
  have hk := hX.k hp.pr
  have hj := hY.k hp.pr
  have m0 := hX.mtx hp.pr hY
  obtain ⟨m1, m2, m3⟩ := mtx_le hp.pr (X := X) (Y := Y)
  obtain ⟨sx, hsx⟩ := Int.eq_ofNat_of_zero_le (show 0 ≤ X.1 - mtx p X Y by omega)
  obtain ⟨sy, hsy⟩ := Int.eq_ofNat_of_zero_le (show 0 ≤ Y.1 - mtx p X Y by omega)
  refine mean_eq (n := sx + sy + 1) ⟨rfl, rfl⟩ ?_
  unfold b__law_way_k11
  have s1 : (1 : Nat) ≤ sizeLine := by decide
  rw [Ws_cons, Ws_par]
  simp [Dk.R.own]
  refine Ws_cut (fun σ L S' => σ = [.d (.int p), .d (pX X), .d (pX Y), .m 0, .m 1] ∧ L = [some (.lst ((ups p X (sx + 1)).map pX)), some (.lst ((ups p Y (sy + 1)).map pX))] ∧ S' = S) ?_ ?_
  · rw [Ws_whl]
    refine whl_of (D := ⟨_, _, _, _⟩) (WwI p X Y S) ?_ (sx + sy + 1) (sx + sy) _ _ _ (Nat.lt_succ_self _) ⟨0, 0, rfl, ?_, rfl, by omega, by omega, by omega⟩
    · rintro m σ L S' ⟨s, t, rfl, rfl, rfl, hs, ht, hm⟩
      have l1 : L2.atI ((ups p X (s + 1)).map pX) (-1) = some (pX (upl p X (s : Int))) := atI_last.trans (ups_last s)
      have l2 : L2.atI ((ups p Y (t + 1)).map pX) (-1) = some (pX (upl p Y (t : Int))) := atI_last.trans (ups_last t)
      by_cases hh : (upl p X (s : Int)).1 = (upl p Y (t : Int)).1 ∧ (upl p X (s : Int)).2 = (upl p Y (t : Int)).2
      · have e1 : X.1 - (s : Int) = Y.1 - (t : Int) := hh.1
        have e2 : rest p (X.1 - (s : Int)) X.2 = rest p (Y.1 - (t : Int)) Y.2 := hh.2
        rw [← e1] at e2
        have := (mt_iff hp.pr).mpr ⟨show X.1 - (s : Int) ≤ X.1 by omega, show X.1 - (s : Int) ≤ Y.1 by omega, (rest_iff hp.pr).mp e2⟩
        have this : X.1 - (s : Int) ≤ mtx p X Y := this
        have es : s = sx := by omega
        have et : t = sy := by omega
        simp [l1, l2, hh]
        rw [es, et]
        exact ⟨rfl, rfl⟩
      · have hne : ¬ (X.1 - (s : Int) = mtx p X Y ∧ Y.1 - (t : Int) = mtx p X Y) := fun z => hh ⟨z.1.trans z.2.symm, by
          show rest p (X.1 - (s : Int)) X.2 = rest p (Y.1 - (t : Int)) Y.2
          rw [z.1, z.2]
          exact (rest_iff hp.pr).mpr m3⟩
        have u1 := hu p (upl p X (s : Int)) S' hp (by show (X.1 - (s : Int)).natAbs ≤ 900; omega) (by
          have := sz_up hp (hX.near0 hp.pr) (k := X.1 - (s : Int)) (by omega)
          show sz (rest p (X.1 - (s : Int)) X.2) ≤ 1000
          omega)
        have u2 := hu p (upl p Y (t : Int)) S' hp (by show (Y.1 - (t : Int)).natAbs ≤ 900; omega) (by
          have := sz_up hp (hY.near0 hp.pr) (k := Y.1 - (t : Int)) (by omega)
          show sz (rest p (Y.1 - (t : Int)) Y.2) ≤ 1000
          omega)
        rw [upp_upl hp.pr] at u1 u2
        simp [l1, l2]
        rw [if_pos (Decidable.not_and_iff_or_not.mp hh)]
        rw [Ws_cons, Ws_if]
        by_cases ho : (upl p Y (t : Int)).1 ≤ (upl p X (s : Int)).1
        · have ho' : Y.1 - (t : Int) ≤ X.1 - (s : Int) := ho
          simp [l1, l2, ho]
          rw [Ws_cons]
          refine Ws_app ⟨(0, _), rfl⟩ ?_
          simp [l1, u1]
          refine ⟨0, _, rfl, by simp [ups_len]; unfold sizeLine; omega, ?_⟩
          rw [Ws_nil]
          dsimp only
          rw [Ws_nil]
          refine ⟨m - 1, by omega, s + 1, t, rfl, ?_, rfl, by omega, by omega, by omega⟩
          rw [ups_succ (s + 1), List.map_append]
          rfl
        · have ho' : ¬ Y.1 - (t : Int) ≤ X.1 - (s : Int) := ho
          simp [l1, l2, ho]
          rw [Ws_cons]
          refine Ws_app ⟨(1, _), rfl⟩ ?_
          simp [l2, u2]
          refine ⟨1, _, rfl, by simp [ups_len]; unfold sizeLine; omega, ?_⟩
          rw [Ws_nil]
          dsimp only
          rw [Ws_nil]
          refine ⟨m - 1, by omega, s, t + 1, rfl, ?_, rfl, by omega, by omega, by omega⟩
          rw [ups_succ (t + 1), List.map_append]
          rfl
    · rw [ups_1 hX.pla, ups_1 hY.pla]
      rfl
  · rintro σ L S' ⟨rfl, rfl, rfl⟩
    simp only [Ws_cons, Ws_nil, Ws_ret]
    have hw := ups_way hp.pr (X := X) (Y := Y)
    have e1 : (X.1 - mtx p X Y + 1).toNat = sx + 1 := by omega
    have e2 : (Y.1 - mtx p X Y).toNat = sy := by omega
    rw [e1, e2] at hw
    have dl : ((ups p Y (sy + 1)).map pX).dropLast = (ups p Y sy).map pX := by
      rw [ups_succ, List.map_append, List.map_singleton, List.dropLast_concat]
    have ad := add_lists (xs := (ups p X (sx + 1)).map pX) (ys := ((ups p Y sy).map pX).reverse) (by simp [ups_len]; unfold sizeLine; omega)
    rw [← List.map_reverse, ← List.map_append, hw, List.map_reverse] at ad
    simp [slD, cutLast, dl, ad, viewAll, opF]
/-! drawn places -/
theorem zi_quot' {p : Nat} (hp : Pr p) {a b k : Int} (hb : b ≠ 0) (hk : bl b ≤ k) : Zi p (Rat.divInt a b * P p k) := by
  obtain ⟨e, m, h1, h2⟩ := split hp _ b (Nat.le_refl _) hb
  have hv := vp_bl hp hb
  rw [vp_eq hp (Vl.of_int hp h1 h2)] at hv
  have e1 : Rat.divInt a b * P p k = ((a : Rat) / m) * P p (k - e) := by
    rw [Rat.divInt_eq_div, h1, Rat.intCast_mul, ← P_nat, show k - (e : Int) = k + -(e : Int) by omega, P_add hp]
    have q1 := h2.ne'
    have q2 := P_ne hp (e : Int)
    have q3 := P_neg hp (e : Int)
    have q4 : ((m : Rat) * P p e) ≠ 0 := fun z => (Rat.mul_eq_zero.mp z).elim q1 q2
    have q5 := Rat.div_mul_cancel (a := (a : Rat)) q1
    have q6 := Rat.div_mul_cancel (a := (a : Rat)) q4
    grind
  rw [e1]
  exact (Zi.mk h2).mul hp (Zi.P hp (by omega))
structure Fx (p : Nat) (x : Rat) : Prop where
  s : sz x ≤ 14
  d : bl (x.den : Int) ≤ 6
  n : Nr p (-7) x 0
def FrcF (f : Fn) : Prop := ∀ (p : Nat) (S : Src), Pp p → SrcOk S → ∃ x S', f [.src, .d (.int p)] S = .ok (fr x) [] S' ∧ Fx p x ∧ SrcOk S'
theorem fracC_of {Δ : Tb} (hp' : PickF (Δ "_law_pick")) (ho : OfF (Δ "_law_of")) (hl : LowF (Δ "_law_frac")) : FrcF (mean Δ 2 3 b__law_fraction_c) := by
  intro p S hp hS
  suffices h : ∃ v S', mean Δ 2 3 b__law_fraction_c [.src, .d (.int p)] S = .ok v [] S' ∧ ((∃ x, v = fr x ∧ Fx p x) ∧ SrcOk S') by
    obtain ⟨v, S', h1, ⟨x, rfl, h2⟩, h3⟩ := h
    exact ⟨x, S', h1, h2, h3⟩
  refine mean_of (n := 0) ⟨rfl, rfl⟩ ?_
  unfold b__law_fraction_c
  have p7 := hp.le
  have p2 := hp.pr.two
  have m1 := opB_mul2 (a := (p : Int)) (b := p) (by omega)
  have m2 := opB_mul2 (a := 5) (b := (p : Int)) (by decide)
  have s8 : (8 : Nat) ≤ sizeLine := by decide
  obtain ⟨y, S1, e1, hy, ok1⟩ := ho S [.int 1, .int 1, .int 2, .int 3, .int 7, .int p, .int (p * p), .int (5 * p)] hS (by simp) (show (8 : Nat) ≤ 1000 by decide)
  obtain ⟨b, rfl, b1, b2⟩ : ∃ b : Int, y = .int b ∧ 1 ≤ b ∧ b ≤ 49 := by
    have q0 : (p : Int) * p ≤ 49 := by
      have : p * p ≤ 7 * 7 := Nat.mul_le_mul p7 p7
      have e : ((p * p : Nat) : Int) = (p : Int) * p := by simp
      omega
    have q1 : 1 ≤ (p : Int) * p := by
      have : 1 * 1 ≤ p * p := Nat.mul_le_mul (by omega) (by omega)
      have e : ((p * p : Nat) : Int) = (p : Int) * p := by simp
      omega
    simp at hy
    rcases hy with rfl | rfl | rfl | rfl | rfl | rfl | rfl <;> exact ⟨_, rfl, by omega, by omega⟩
  rw [Ws_cons, Ws_asg]
  simp [m1, m2, s8, e1]
  obtain ⟨v, S2, e2, v0, v1, ok2⟩ := hp' S1 121 ok1 (by decide) (by decide)
  have b0 : b ≠ 0 := by omega
  have bt : bl (v - 60) ≤ 6 := bl_le ⟨by omega⟩ (by decide)
  have bb : bl b ≤ 6 := bl_le ⟨by omega⟩ (by decide)
  have e3 := hl (v - 60) b S2 b0 (by omega) (by omega)
  have sz := sz_low (t := v - 60) b0
  simp only [Ws_cons, Ws_nil, Ws_ret]
  simp [e2, e3]
  refine ⟨⟨_, rfl, by omega, ?_, ?_⟩, ok2⟩
  · exact Nat.le_trans (bl_mono (low_le b0).2) bb
  · show Zi p ((Rat.divInt (v - 60) b - 0) * P p (-(-7)))
    rw [show Rat.divInt (v - 60) b - 0 = Rat.divInt (v - 60) b by grind]
    exact zi_quot' hp.pr b0 (by omega)
structure Dr (p : Nat) (X : Int × Rat) : Prop where
  h : Hb p 19 X
  k0 : -3 ≤ X.1
  k1 : X.1 ≤ 5
  s : sz X.2 ≤ 45
def DrF (f : Fn) : Prop := ∀ (p : Nat) (S : Src), Pp p → SrcOk S → ∃ X S', f [.src, .d (.int p)] S = .ok (pX X) [] S' ∧ Dr p X ∧ SrcOk S'
theorem drawn_of {Δ : Tb} (hp' : PickF (Δ "_law_pick")) (hf : FrcF (Δ "_law_fraction")) (hn : NameF (Δ "_law_place")) : DrF (mean Δ 2 2 b__law_drawn_place_k11) := by
  intro p S hp hS
  suffices h : ∃ v S', mean Δ 2 2 b__law_drawn_place_k11 [.src, .d (.int p)] S = .ok v [] S' ∧ ((∃ X, v = pX X ∧ Dr p X) ∧ SrcOk S') by
    obtain ⟨v, S', h1, ⟨x, rfl, h2⟩, h3⟩ := h
    exact ⟨x, S', h1, h2, h3⟩
  refine mean_of (n := 0) ⟨rfl, rfl⟩ ?_
  unfold b__law_drawn_place_k11
  obtain ⟨v, S1, e1, v0, v1, ok1⟩ := hp' S 9 hS (by decide) (by decide)
  obtain ⟨x, S2, e2, hx, ok2⟩ := hf p S1 hp ok1
  have hs := hx.s
  have e3 := hn p (v - 3) x S2 hp (by omega) (by omega)
  simp only [Ws_cons, Ws_nil, Ws_ret]
  simp [e1, e2, e3]
  refine ⟨⟨v - 3, rest p (v - 3) x, rfl, ⟨rest_self hp.pr, ?_⟩, by dsimp only; omega, by dsimp only; omega, ?_⟩, ok2⟩
  · have := dd_of hp.pr (X := (0, 0)) (Y := (v - 3, rest p (v - 3) x)) (m := -7) (by decide) (by dsimp only; omega) (((rest_near hp.pr (v - 3) x).symm.mono hp.pr (by omega)).trans hp.pr hx.n).symm
    show dd p (0, 0) (v - 3, rest p (v - 3) x) ≤ (19 : Nat)
    dsimp only at this
    omega
  · have := sz_rest2 hp (v - 3) x
    have := hx.d
    show sz (rest p (v - 3) x) ≤ 45
    omega
end Pd
end
section
set_option Elab.async false
set_option linter.all false
set_option maxRecDepth 100000
set_option maxHeartbeats 4000000
set_option autoImplicit false
namespace Pd
open PySem PySem.Spec Dk
/-! ## pictures, wider bounds -/
theorem sz_led {a b c d : Int} {r : Rat} {n m : Nat} (ba : bl a ≤ n) (bb : bl b ≤ n) (bc : bl c ≤ n) (bd : bl d ≤ n) (hr : sz r ≤ m) (hs : (c : Rat) * r + d ≠ 0) : sz (((a : Rat) * r + b) / (c * r + d)) ≤ 2 * (n + m + 1) := by
  rw [← (led_low (a := a) (b := b) (c := c) (d := d) (x := r)).2 hs]
  have h0 := (led_low (a := a) (b := b) (c := c) (d := d) (x := r)).1.mpr hs
  have := sz_low (t := a * r.num + b * r.den) h0
  have n1 := bl_num r
  have n2 := bl_den r
  have h1 := bl_mul a r.num
  have h2 := bl_mul b (r.den : Int)
  have h3 := bl_add (a * r.num) (b * (r.den : Int))
  have h4 := bl_mul c r.num
  have h5 := bl_mul d (r.den : Int)
  have h6 := bl_add (c * r.num) (d * (r.den : Int))
  omega
def PicH (f : Fn) : Prop := ∀ (p : Nat) (a b c d k : Int) (r : Rat) (S : Src), Pp p → bl a ≤ 60 → bl b ≤ 60 → bl c ≤ 60 → bl d ≤ 60 → k.natAbs ≤ 100 → sz r ≤ 400 → (pic p a b c d k r).1.natAbs ≤ 1000 → ((a * d - b * c : Int) : Rat) ≠ 0 → f [.d (.int p), .d (mvD a b c d), .d (pl k r)] S = .ok (pl (pcp p a b c d k r).1 (pcp p a b c d k r).2) [] S
theorem picH_of {Δ : Tb} (hb : BotF (Δ "bottoms_of")) (hd : DetF (Δ "determinant")) (hwh : WhF (Δ "whole")) (hi : PiF (Δ "power_in")) (hn : NameF (Δ "place_named")) (hl : LowF (Δ "ratio_low")) (ht : BinF (fun x y => x * y) (Δ "ratios_times")) (ha : BinF (fun x y => x + y) (Δ "ratios_added")) (ho : OverF (Δ "ratios_over")) : PicH (mean Δ 3 12 b_picture_of) := by
  intro p a b c d k r S hp ba bb bc bd hk hr hpd hD
  refine mean_eq (n := 0) ⟨rfl, rfl⟩ ?_
  unfold b_picture_of
  have s2 : (2 : Nat) ≤ sizeLine := by decide
  have e1 := hb p a b c d k r S hp (by omega) (by omega) (by omega) (by omega) (by omega) (by omega)
  rw [Ws_cons, Ws_asgT]
  refine Wr_ok.mpr ⟨_, _, rfl, rfl, ?_⟩
  dsimp only
  rw [Ws_cons, Ws_asgT]
  have ev1 : ev Δ (.call "bottoms_of" (.cons (.var 0) (.cons (.var 1) (.cons (.var 2) .nil)))) [.d (.int p), .d (mvD a b c d), .d (pl k r), .d (.int a), .d (.int b), .d (.int c), .d (.int d), .un, .un, .un, .un, .un] [] S = .ok (.d (.tuple [fr ((c : Rat) * P p k), fr ((c : Rat) * r + d)])) [] S := by
    simp [e1]
  refine (show Wr (ev Δ _ [.d (.int p), .d (mvD a b c d), .d (pl k r), .d (.int a), .d (.int b), .d (.int c), .d (.int d), .un, .un, .un, .un, .un] [] S) _ from ?_)
  rw [ev1]
  refine Wr_ok.mpr ⟨_, _, rfl, rfl, ?_⟩
  dsimp only
  have bD := bl_det ba bb bc bd
  have e2 := hd a b c d S (by omega) (by omega) (by omega) (by omega)
  have e3 := hwh (a * d - b * c) S
  have e4 := hi p ((a * d - b * c : Int) : Rat) S hp
  rw [vD1 hD] at e4
  have vDs := vp_sz hp.pr hD
  have sD := sz_int (a * d - b * c)
  have sa := sz_int a
  have sb := sz_int b
  have sc := sz_int c
  have sd := sz_int d
  have sP := sz_P hp k
  have sf := sz_mul (c : Rat) (P p k)
  have scr := sz_mul (c : Rat) r
  have ss := sz_add ((c : Rat) * r) (d : Rat)
  have e5 := hi p ((c : Rat) * P p k) S hp
  have e6 := hi p ((c : Rat) * r + d) S hp
  generalize hDd : ((a * d - b * c : Int) : Rat) = D at *
  rw [Ws_cons, Ws_asg]
  simp [e2, e3, e4]
  have hpc : pcp p a b c d k r = ((pic p a b c d k r).1, rest p (pic p a b c d k r).1 (pic p a b c d k r).2) := rfl
  rw [hpc]
  unfold pic at hpd ⊢
  rw [hDd] at hpd ⊢
  by_cases hf : (c : Rat) * r + d = 0 ∨ ((c : Rat) * P p k ≠ 0 ∧ vp p (c * P p k) < vp p (c * r + d))
  · have hc : (c : Rat) ≠ 0 := by
      rcases hf with z | z
      · intro z2
        apply hD
        rw [← hDd, Rat.intCast_sub, Rat.intCast_mul, Rat.intCast_mul]
        rw [z2] at z
        have : (d : Rat) = 0 := by grind
        rw [this, z2]
        grind
      · exact fun z2 => z.1 (by rw [z2]; grind)
    have hci : c ≠ 0 := fun z => hc (by rw [z]; rfl)
    have e7 := hwh c S
    have e8 := hi p (c : Rat) S hp
    rw [vD1 hc] at e8
    have vcs := vp_sz hp.pr hc
    have e9 := hl a c S hci (by omega) (by omega)
    rw [Rat.divInt_eq_div] at e9
    have sq := sz_div (x := (a : Rat)) hc
    rw [if_pos hf] at hpd
    have e10 := hn p (vp p D - 2 * vp p c - k) ((a : Rat) / c) S hp hpd (by omega)
    have m2 : opB .mul (.int 2) (.int (vp p (c : Rat))) = some (.int (2 * vp p (c : Rat))) := opB_mul2 (by decide)
    rw [if_pos hf]
    have ev10 : ∀ σ : List W, σ[0]? = some (.d (.int p)) → σ[7]? = some (.d (fr ((c : Rat) * P p k))) → σ[8]? = some (.d (fr ((c : Rat) * r + d))) → ev Δ (.or (.cmp .eq (.var 8) (.tup (.cons (.int 0) (.cons (.int 1) .nil)))) (.and (.cmp .ne (.var 7) (.tup (.cons (.int 0) (.cons (.int 1) .nil)))) (.cmp .lt (.call "power_in" (.cons (.var 0) (.cons (.var 7) .nil))) (.call "power_in" (.cons (.var 0) (.cons (.var 8) .nil)))))) σ [] S = .ok (.d (.bool true)) [] S := fun σ h0 h7 h8 => by
      by_cases hz : (c : Rat) * r + d = 0
      · simp [h8, s2, fr_0, hz]
      · have hf2 := hf.resolve_left hz
        rw [vD1 hf2.1] at e5
        rw [vD1 hz] at e6
        simp [h0, h7, h8, s2, fr_0, hz, hf2.1, hf2.2, e5, e6]
    rw [Ws_cons, Ws_asg, ev10 _ rfl rfl rfl, Wr_ok]
    dsimp only
    simp
    rw [Ws_cons, Ws_if]
    simp
    simp only [Ws_nil, Ws_cons, Ws_ret]
    simp [e7, e8, m2, e9, e10]
  · rw [if_neg hf]
    have hs : (c : Rat) * r + d ≠ 0 := fun z => hf (.inl z)
    rw [vD1 hs] at e6
    have vss := vp_sz hp.pr hs
    have e7 := hwh a S
    have e8 := hwh b S
    have e9 := ht (a : Rat) r S (by omega)
    have sar := sz_mul (a : Rat) r
    have e10 := ha ((a : Rat) * r) (b : Rat) S (by omega)
    have st := sz_add ((a : Rat) * r) (b : Rat)
    have e11 := ho ((a : Rat) * r + b) ((c : Rat) * r + d) S hs (by omega)
    rw [if_neg hf] at hpd
    have sq := sz_led (b := b) ba bb bc bd hr hs
    have e12 := hn p (k + vp p D - 2 * vp p ((c : Rat) * r + d)) (((a : Rat) * r + b) / (c * r + d)) S hp hpd (by omega)
    have m2 : opB .mul (.int 2) (.int (vp p ((c : Rat) * r + d))) = some (.int (2 * vp p ((c : Rat) * r + d))) := opB_mul2 (by decide)
    have ev10 : ∀ σ : List W, σ[0]? = some (.d (.int p)) → σ[7]? = some (.d (fr ((c : Rat) * P p k))) → σ[8]? = some (.d (fr ((c : Rat) * r + d))) → ev Δ (.or (.cmp .eq (.var 8) (.tup (.cons (.int 0) (.cons (.int 1) .nil)))) (.and (.cmp .ne (.var 7) (.tup (.cons (.int 0) (.cons (.int 1) .nil)))) (.cmp .lt (.call "power_in" (.cons (.var 0) (.cons (.var 7) .nil))) (.call "power_in" (.cons (.var 0) (.cons (.var 8) .nil)))))) σ [] S = .ok (.d (.bool false)) [] S := fun σ h0 h7 h8 => by
      by_cases hz : (c : Rat) * P p k = 0
      · simp [h7, h8, s2, fr_0, hz, hs]
      · have h2 : ¬ vp p ((c : Rat) * P p k) < vp p ((c : Rat) * r + d) := fun z => hf (.inr ⟨hz, z⟩)
        rw [vD1 hz] at e5
        simp [h0, h7, h8, s2, fr_0, hz, hs, h2, e5, e6]
    rw [Ws_cons, Ws_asg, ev10 _ rfl rfl rfl, Wr_ok]
    dsimp only
    simp
    rw [Ws_cons, Ws_if]
    simp [Ws_nil]
    rw [Ws_cons, Ws_asg]
    simp [e7, e8, e9, e10]
    simp only [Ws_nil, Ws_cons, Ws_ret]
    simp [e6, m2, e11, e12]
end Pd
end
section
set_option Elab.async false
set_option linter.all false
set_option maxRecDepth 100000
set_option maxHeartbeats 4000000
set_option autoImplicit false
namespace Pd
open PySem PySem.Spec Dk
/-! ## middles -/
section
variable {p : Nat} {X Y Z M N : Int × Rat}
theorem mtx_comm (hp : Pr p) : mtx p X Y = mtx p Y X := mt_comm hp
theorem mtx_ult (hp : Pr p) : min (mtx p X Z) (mtx p Z Y) ≤ mtx p X Y := by
  obtain ⟨a1, a2, a3⟩ := mtx_le hp (X := X) (Y := Z)
  obtain ⟨b1, b2, b3⟩ := mtx_le hp (X := Z) (Y := Y)
  exact (mt_iff hp).mpr ⟨by omega, by omega, (a3.mono hp (by omega)).trans hp (b3.mono hp (by omega))⟩
noncomputable abbrev mdx (p : Nat) (X Y Z : Int × Rat) : Int × Rat := mid p X.1 X.2 Y.1 Y.2 Z.1 Z.2
theorem up_dd (hp : Pr p) {m n : Int} {W : Int × Rat} (h1 : m ≤ X.1) (h2 : n ≤ m) (h3 : n ≤ W.1) (h4 : Nr p n X.2 W.2) : dd p (m, rest p m X.2) W ≤ m + W.1 - 2 * n :=
  dd_of hp (X := (m, rest p m X.2)) (Y := W) (m := n) h2 h3 (((rest_near hp m X.2).symm.mono hp h2).trans hp h4)
/-- the place above two places where they meet, seen from a third one that meets both higher up -/
theorem mid_case (hp : Pr p) {m : Int} (hm : m = mtx p X Y) (h1 : mtx p X Z ≤ m) (h2 : mtx p Y Z = mtx p X Z) : Pla p (m, rest p m X.2) ∧ dd p X (m, rest p m X.2) + dd p (m, rest p m X.2) Y ≤ dd p X Y ∧ dd p X (m, rest p m X.2) + dd p (m, rest p m X.2) Z ≤ dd p X Z ∧ dd p Y (m, rest p m X.2) + dd p (m, rest p m X.2) Z ≤ dd p Y Z := by
  obtain ⟨a1, a2, a3⟩ := mtx_le hp (X := X) (Y := Y)
  obtain ⟨b1, b2, b3⟩ := mtx_le hp (X := X) (Y := Z)
  have q1 := up_dd hp (X := X) (m := m) (n := m) (W := X) (by omega) (Int.le_refl _) (by omega) (.rfl' hp)
  have q2 := up_dd hp (X := X) (m := m) (n := m) (W := Y) (by omega) (Int.le_refl _) (by omega) (hm ▸ a3)
  have q3 := up_dd hp (X := X) (m := m) (n := mtx p X Z) (W := Z) (by omega) h1 b2 b3
  rw [dd_symm hp (X := X) (Y := (m, rest p m X.2)), dd_symm hp (X := Y) (Y := (m, rest p m X.2))]
  have e1 : dd p X Y = X.1 + Y.1 - 2 * mtx p X Y := rfl
  have e2 : dd p X Z = X.1 + Z.1 - 2 * mtx p X Z := rfl
  have e3 : dd p Y Z = Y.1 + Z.1 - 2 * mtx p Y Z := rfl
  exact ⟨rest_self hp, by omega, by omega, by omega⟩
structure Md (p : Nat) (X Y Z M : Int × Rat) : Prop where
  pla : Pla p M
  xy : dd p X M + dd p M Y ≤ dd p X Y
  xz : dd p X M + dd p M Z ≤ dd p X Z
  yz : dd p Y M + dd p M Z ≤ dd p Y Z
theorem Md.xyE (hp : Pr p) (h : Md p X Y Z M) : dd p X M + dd p M Y = dd p X Y := by
  have := h.xy
  have := dd_tri hp (X := X) (Y := M) (Z := Y)
  omega
theorem Md.xzE (hp : Pr p) (h : Md p X Y Z M) : dd p X M + dd p M Z = dd p X Z := by
  have := h.xz
  have := dd_tri hp (X := X) (Y := M) (Z := Z)
  omega
theorem Md.yzE (hp : Pr p) (h : Md p X Y Z M) : dd p Y M + dd p M Z = dd p Y Z := by
  have := h.yz
  have := dd_tri hp (X := Y) (Y := M) (Z := Z)
  omega
theorem Md.s12 (hp : Pr p) (h : Md p X Y Z M) : Md p Y X Z M := ⟨h.pla, by
  have := h.xyE hp
  rw [dd_symm hp (X := Y) (Y := X), dd_symm hp (X := M) (Y := X), dd_symm hp (X := Y) (Y := M)]
  omega, h.yz, h.xz⟩
theorem Md.s23 (hp : Pr p) (h : Md p X Y Z M) : Md p X Z Y M := ⟨h.pla, h.xz, h.xy, by
  have := h.yzE hp
  rw [dd_symm hp (X := Z) (Y := Y), dd_symm hp (X := M) (Y := Y), dd_symm hp (X := Z) (Y := M)]
  omega⟩
theorem Md.uniq (hp : Pr p) (h : Md p X Y Z M) (k : Md p X Y Z N) : M = N := by
  have a1 := h.xyE hp
  have a2 := h.xzE hp
  have a3 := h.yzE hp
  have b1 := k.xyE hp
  have b2 := k.xzE hp
  have b3 := k.yzE hp
  rw [dd_symm hp (X := Y) (Y := M)] at a3
  rw [dd_symm hp (X := Y) (Y := N)] at b3
  have e1 := al_uniq hp h.pla (X := X) (Y := Y) (n := dd p X M) (Int.le_refl _) (by omega)
  have e2 := al_uniq hp k.pla (X := X) (Y := Y) (n := dd p X M) (by omega) (by omega)
  rw [e1, e2]
theorem mdx_md (hp : Pr p) : Md p X Y Z (mdx p X Y Z) := by
  have u1 := mtx_ult hp (X := Y) (Y := Z) (Z := X)
  have u2 := mtx_ult hp (X := X) (Y := Y) (Z := Z)
  have u3 := mtx_ult hp (X := X) (Y := Z) (Z := Y)
  rw [mtx_comm hp (X := Y) (Y := X)] at u1
  rw [mtx_comm hp (X := Z) (Y := Y)] at u2
  have key : mdx p X Y Z = if mtx p X Y ≠ mtx p X Z then (max (mtx p X Y) (mtx p X Z), rest p (max (mtx p X Y) (mtx p X Z)) X.2) else (mtx p Y Z, rest p (mtx p Y Z) Y.2) := rfl
  by_cases h : mtx p X Y ≠ mtx p X Z
  · rw [if_pos h] at key
    rcases Int.lt_or_gt_of_ne h with l | l
    · have em : max (mtx p X Y) (mtx p X Z) = mtx p X Z := by omega
      rw [em] at key
      obtain ⟨c1, c2, c3, c4⟩ := mid_case hp (X := X) (Y := Z) (Z := Y) (m := mtx p X Z) rfl (by omega) (by rw [mtx_comm hp (X := Z) (Y := Y)]; omega)
      rw [← key] at c1 c2 c3 c4
      exact Md.s23 hp ⟨c1, c2, c3, c4⟩
    · have em : max (mtx p X Y) (mtx p X Z) = mtx p X Y := by omega
      rw [em] at key
      obtain ⟨c1, c2, c3, c4⟩ := mid_case hp (X := X) (Y := Y) (Z := Z) (m := mtx p X Y) rfl (by omega) (by omega)
      rw [← key] at c1 c2 c3 c4
      exact ⟨c1, c2, c3, c4⟩
  · rw [if_neg h] at key
    obtain ⟨c1, c2, c3, c4⟩ := mid_case hp (X := Y) (Y := Z) (Z := X) (m := mtx p Y Z) rfl (by rw [mtx_comm hp (X := Y) (Y := X)]; omega) (by rw [mtx_comm hp (X := Y) (Y := X), mtx_comm hp (X := Z) (Y := X)]; omega)
    rw [← key] at c1 c2 c3 c4
    exact Md.s12 hp (Md.s23 hp ⟨c1, c2, c3, c4⟩)
theorem mdx_eq (hp : Pr p) (h : Md p X Y Z M) : mdx p X Y Z = M := (mdx_md hp).uniq hp h
theorem mdx_same (hp : Pr p) (hX : Pla p X) : mdx p X X Z = X := mdx_eq hp ⟨hX, by have := dd_self hp (X := X); omega, by have := dd_self hp (X := X); omega, by have := dd_self hp (X := X); omega⟩
theorem md_dd (hp : Pr p) (h : Md p X Y Z M) : 2 * dd p Z M = dd p X Z + dd p Z Y - dd p X Y := by
  have a1 := h.xyE hp
  have a2 := h.xzE hp
  have a3 := h.yzE hp
  rw [dd_symm hp (X := M) (Y := Z)] at a2 a3
  rw [dd_symm hp (X := M) (Y := Y)] at a1
  rw [dd_symm hp (X := Z) (Y := Y)]
  omega
/-! places on a way -/
theorem wy2_mem (hp : Pr p) : Z ∈ wy2 p X Y ↔ Pla p Z ∧ dd p X Z + dd p Z Y ≤ dd p X Y := by
  constructor
  · intro h
    obtain ⟨k, hk, rfl⟩ := List.mem_map.mp h
    have hk := List.mem_range.mp hk
    have q := al_dd hp (X := X) (Y := Y) (n := (k : Int)) (by omega) (by omega)
    exact ⟨al_pla hp, by omega⟩
  · rintro ⟨h1, h2⟩
    have d0 := dd_nn hp (X := X) (Y := Z)
    have d1 := dd_nn hp (X := Z) (Y := Y)
    have e := al_uniq hp h1 (X := X) (Y := Y) (n := dd p X Z) (Int.le_refl _) (by omega)
    refine List.mem_map.mpr ⟨(dd p X Z).toNat, List.mem_range.mpr (by omega), ?_⟩
    rw [Int.toNat_of_nonneg d0]
    exact e.symm
theorem al_far (hp : Pr p) {n : Int} (h0 : 0 ≤ n) (h1 : n ≤ dd p X Y) : dd p X (al p X Y n) = n := by
  have q := al_dd hp h0 h1
  have t := dd_tri hp (X := X) (Y := al p X Y n) (Z := Y)
  omega
theorem nodup_map' {α β : Type} {f : α → β} : ∀ {l : List α}, l.Nodup → (∀ a ∈ l, ∀ b ∈ l, f a = f b → a = b) → (l.map f).Nodup
  | [], _, _ => List.nodup_nil
  | a :: l, h, g => by
    obtain ⟨h1, h2⟩ := List.nodup_cons.mp h
    refine List.nodup_cons.mpr ⟨fun m => ?_, nodup_map' h2 fun x hx y hy => g x (List.mem_cons_of_mem _ hx) y (List.mem_cons_of_mem _ hy)⟩
    obtain ⟨b, hb, e⟩ := List.mem_map.mp m
    have := g b (List.mem_cons_of_mem _ hb) a List.mem_cons_self e
    exact h1 (this ▸ hb)
theorem wy2_nodup (hp : Pr p) : (wy2 p X Y).Nodup := by
  refine nodup_map' List.nodup_range fun a ha b hb e => ?_
  have ha := List.mem_range.mp ha
  have hb := List.mem_range.mp hb
  have q1 := al_far hp (X := X) (Y := Y) (n := (a : Int)) (by omega) (by omega)
  have q2 := al_far hp (X := X) (Y := Y) (n := (b : Int)) (by omega) (by omega)
  rw [e, q2] at q1
  omega
theorem filter_one {α : Type} {m : α} {P : α → Bool} : ∀ {l : List α}, l.Nodup → m ∈ l → (∀ a ∈ l, P a = true ↔ a = m) → l.filter P = [m]
  | [], _, h, _ => by cases h
  | a :: l, h, hm, g => by
    obtain ⟨h1, h2⟩ := List.nodup_cons.mp h
    by_cases e : a = m
    · subst e
      rw [List.filter_cons_of_pos ((g a List.mem_cons_self).mpr rfl)]
      congr 1
      refine List.filter_eq_nil_iff.mpr fun b hb q => ?_
      have := (g b (List.mem_cons_of_mem _ hb)).mp q
      exact h1 (this ▸ hb)
    · rw [List.filter_cons_of_neg (fun q => e ((g a List.mem_cons_self).mp q))]
      exact filter_one h2 ((List.mem_cons.mp hm).resolve_left fun z => e z.symm) fun b hb => g b (List.mem_cons_of_mem _ hb)
theorem ways_three (hp : Pr p) {P : Int × Rat → Bool} (hP : ∀ W, P W = true ↔ W ∈ wy2 p Y Z ∧ W ∈ wy2 p Z X) : (wy2 p X Y).filter P = [mdx p X Y Z] := by
  have m := mdx_md hp (X := X) (Y := Y) (Z := Z)
  refine filter_one (wy2_nodup hp) ((wy2_mem hp).mpr ⟨m.pla, m.xy⟩) fun W hW => ?_
  rw [hP]
  obtain ⟨w1, w2⟩ := (wy2_mem hp).mp hW
  constructor
  · rintro ⟨h1, h2⟩
    have h1 := ((wy2_mem hp).mp h1).2
    have h2 := ((wy2_mem hp).mp h2).2
    rw [dd_symm hp (X := Z) (Y := W), dd_symm hp (X := W) (Y := X), dd_symm hp (X := Z) (Y := X)] at h2
    exact (mdx_eq hp ⟨w1, w2, by omega, h1⟩).symm
  · rintro rfl
    refine ⟨(wy2_mem hp).mpr ⟨m.pla, m.yz⟩, (wy2_mem hp).mpr ⟨m.pla, ?_⟩⟩
    have := m.xzE hp
    rw [dd_symm hp (X := Z), dd_symm hp (Y := X), dd_symm hp (X := Z) (Y := X)]
    omega
end
end Pd
end
section
set_option Elab.async false
set_option linter.all false
set_option autoImplicit false
namespace Pd
open PySem PySem.Spec Dk
def b__law_mixed_k12 : Ss := (.cons (.asg (.nm 2) (.bf .listM (.cons (.var 1) .nil))) (.cons (.ret (.lc false (.popE 2 (.call "_law_pick" (.cons (.var 0) (.cons (.bf .len (.cons (.var 2) .nil)) .nil)))) [("lap", 3)] (.nm 3) (.rng (.cons (.bf .len (.cons (.var 2) .nil)) .nil)) .tt)) .nil))
def b__law_way_k12 : Ss := (.cons (.par 3 4 (.lst true (.cons (.var 1) .nil)) (.lst true (.cons (.var 2) .nil))) (.cons (.whl (.cmp .ne (.ix (.var 3) (.neg (.int 1))) (.ix (.var 4) (.neg (.int 1)))) (.cons (.asg (.nm 5) (.ife (.cmp .ge (.ix (.ix (.var 3) (.neg (.int 1))) (.int 0)) (.ix (.ix (.var 4) (.neg (.int 1))) (.int 0))) (.var 3) (.var 4))) (.cons (.app 5 (.call "_law_up" (.cons (.var 0) (.cons (.ix (.var 5) (.neg (.int 1))) (.cons (.bop .sub (.ix (.ix (.var 5) (.neg (.int 1))) (.int 0)) (.int 1)) .nil))))) .nil))) (.cons (.ret (.bop .add (.var 3) (.rev (.sl (.var 4) .no (.so (.neg (.int 1))))))) .nil)))
def b__law_near_k12 : Ss := (.cons (.asg (.nm 3) (.call "_law_up" (.cons (.var 1) (.cons (.var 2) (.cons (.bop .sub (.ix (.var 2) (.int 0)) (.call "_law_pick" (.cons (.var 0) (.cons (.int 4) .nil)))) .nil))))) (.cons (.for_ (.nm 4) (.rng (.cons (.call "_law_pick" (.cons (.var 0) (.cons (.int 4) .nil))) .nil)) (.cons (.asg (.nm 5) (.call "_law_times" (.cons (.tup (.cons (.call "_law_pick" (.cons (.var 0) (.cons (.var 1) .nil))) (.cons (.int 1) .nil))) (.cons (.call "_law_power" (.cons (.var 1) (.cons (.ix (.var 3) (.int 0)) .nil))) .nil)))) (.cons (.asg (.nm 3) (.tup (.cons (.bop .add (.ix (.var 3) (.int 0)) (.int 1)) (.cons (.call "_law_plus" (.cons (.ix (.var 3) (.int 1)) (.cons (.var 5) .nil))) .nil)))) .nil))) (.cons (.ret (.var 3)) .nil)))
def b__law_ways_right_k12 : Ss := (.cons (.asg (.nm 3) (.call "_law_way" (.cons (.var 0) (.cons (.var 1) (.cons (.var 2) .nil))))) (.cons (.ite (.or (.cmp .ne (.bf .repr (.cons (.call "way_between" (.cons (.var 0) (.cons (.var 1) (.cons (.var 2) .nil)))) .nil)) (.bf .repr (.cons (.bf .tuple (.cons (.var 3) .nil)) .nil))) (.cmp .ne (.call "steps_between" (.cons (.var 0) (.cons (.var 1) (.cons (.var 2) .nil)))) (.bop .sub (.bf .len (.cons (.var 3) .nil)) (.int 1)))) (.cons (.ret (.bl false)) .nil) .nil) (.cons (.ret (.cmp .eq (.bf .repr (.cons (.lc false (.call "place_along" (.cons (.var 0) (.cons (.var 1) (.cons (.var 2) (.cons (.var 4) .nil))))) [("k", 4)] (.nm 4) (.rng (.cons (.bf .len (.cons (.var 3) .nil)) .nil)) .tt) .nil)) (.bf .repr (.cons (.var 3) .nil)))) .nil)))
end Pd
end
section
set_option Elab.async false
set_option linter.all false
set_option maxRecDepth 100000
set_option maxHeartbeats 4000000
set_option autoImplicit false
namespace Pd
open PySem PySem.Spec Dk
/-! ## how often, rests: the law of middles -/
noncomputable def vz (p : Nat) (x : Rat) : Int := open Classical in if x = 0 then 9999 else vp p x
theorem vz0 {p : Nat} : vz p 0 = 9999 := if_pos rfl
theorem vz1 {p : Nat} {x : Rat} (h : x ≠ 0) : vz p x = vp p x := if_neg h
theorem vz_near {p : Nat} (hp : Pr p) {x y : Rat} {j : Int} (hj : j < 9999) : j < vz p (x - y) ↔ Nr p (j + 1) x y := by
  rw [near_iff hp]
  by_cases h : x = y
  · subst h
    rw [show x - x = 0 by grind, vz0]
    exact ⟨fun _ => .inl rfl, fun _ => hj⟩
  · rw [vz1 (fun z => h (by grind))]
    exact ⟨fun z => .inr (by omega), fun z => by have := z.resolve_left h; omega⟩
def OfcF (f : Fn) : Prop := ∀ (p : Nat) (x : Rat) (S : Src), Pp p → f [.d (.int p), .d (fr x)] S = .ok (.int (vz p x)) [] S
theorem oftenC_of {Δ : Tb} : OfcF (mean Δ 2 5 b__law_often_c) := by
  intro p x S hp
  have pz : (p : Int) ≠ 0 := by have := hp.pos; omega
  obtain ⟨N, hN⟩ : ∃ N : Nat, x.num.natAbs + x.den < N := ⟨_, Nat.lt_succ_self _⟩
  refine mean_eq (n := N) ⟨rfl, rfl⟩ ?_
  unfold b__law_often_c
  have s2 : (2 : Nat) ≤ sizeLine := by decide
  rw [Ws_cons, Ws_asgT]
  simp [s2]
  refine ⟨[.d (.int p), .d (fr x), .d (.int 0), .d (.int x.num), .d (.int x.den)], rfl, ?_⟩
  rw [Ws_cons, Ws_if]
  simp
  by_cases hx : x = 0
  · subst hx
    simp only [Ws_nil, Ws_cons, Ws_ret]
    simp [vz0]
  · have n0 := num0 hx
    simp [hx, Ws_nil, vz1 hx]
    refine Ws_cut (fun σ L S' => ∃ w3, σ = [.d (.int p), .d (fr x), .d (.int (vp p x.num)), w3, .d (.int x.den)] ∧ L = [] ∧ S' = S) ?_ ?_
    · rw [Ws_whl]
      have := many_loop (Δ := Δ) (c := .cmp .eq (.bop .mod (.bf .int (.cons (.var 3) .nil)) (.var 0)) (.int 0)) (e := .bop .add (.var 2) (.int 1)) (i := 3) (j := 2) (k := N) (s := 1) (σ0 := [.d (.int p), .d (fr x), .un, .un, .d (.int x.den)]) (S := S) (D := ⟨fun σ L S' => ∃ w3, σ = [.d (.int p), .d (fr x), .d (.int (vp p x.num)), w3, .d (.int x.den)] ∧ L = [] ∧ S' = S, fun x_1 S' => x_1 = .int (vp p x) ∧ S' = S, fun _ _ _ => False, fun _ _ _ => False⟩) hp (by decide) (by simp) (by simp) rfl (by decide) (by decide) (fun n m => by simp [viewAll, opF, opB_mod pz]) (fun n m => by simp) x.num 0 n0 N (by omega) (fun n' _ => ⟨_, by simp; rfl, rfl, rfl⟩)
      exact this
    · rintro σ L S' ⟨w3, rfl, rfl, rfl⟩
      refine Ws_cut (fun σ L S2 => ∃ w4, σ = [.d (.int p), .d (fr x), .d (.int (vp p x)), w3, w4] ∧ L = [] ∧ S2 = S') ?_ ?_
      · rw [Ws_whl]
        have := many_loop (Δ := Δ) (c := .cmp .eq (.bop .mod (.bf .int (.cons (.var 4) .nil)) (.var 0)) (.int 0)) (e := .bop .sub (.var 2) (.int 1)) (i := 4) (j := 2) (k := N) (s := -1) (σ0 := [.d (.int p), .d (fr x), .un, w3, .un]) (S := S') (D := ⟨fun σ L S2 => ∃ w4, σ = [.d (.int p), .d (fr x), .d (.int (vp p x)), w3, w4] ∧ L = [] ∧ S2 = S', fun x_1 S2 => x_1 = .int (vp p x) ∧ S2 = S', fun _ _ _ => False, fun _ _ _ => False⟩) hp (by decide) (by simp) (by simp) rfl (by decide) (by decide) (fun n m => by simp [viewAll, opF, opB_mod pz]) (fun n m => by simp; omega) (x.den : Int) (vp p x.num) (den0 x) N (by omega) (fun n' _ => ⟨_, by
            have ev := vp_num_den hp.pr hx
            simp
            refine ⟨?_, rfl⟩
            omega, rfl, rfl⟩)
        exact this
      · rintro σ L S2 ⟨w4, rfl, rfl, rfl⟩
        simp only [Ws_nil, Ws_cons, Ws_ret]
        simp
def RestC (f : Fn) : Prop := ∀ (p : Nat) (x : Rat) (k : Int) (S : Src), Pp p → k.natAbs ≤ 80 → sz x ≤ 300 → f [.d (.int p), .d (fr x), .d (.int k)] S = .ok (fr (rest p k x)) [] S
structure RcI (p : Nat) (x : Rat) (k v : Int) (S0 : Src) (i : Nat) (σ : List W) (L : Lo) (S : Src) : Prop where
  ex : ∃ (f : Rat) (w5 w6 w7 : W), σ = [.d (.int p), .d (fr x), .d (.int k), .d (fr f), .d (fr (x - f)), w5, w6, w7] ∧ L = [] ∧ S = S0 ∧ IsRest p (v + i) x f
structure RcJ (p : Nat) (x : Rat) (k i : Int) (f : Rat) (S0 : Src) (t : Nat) (σ : List W) (L : Lo) (S : Src) : Prop where
  ex : ∃ (w6 w7 : W), σ = [.d (.int p), .d (fr x), .d (.int k), .d (fr f), .d (fr (x - f)), .d (.int i), w6, w7] ∧ L = [] ∧ S = S0 ∧ ∀ d : Nat, d < t → ¬ Nr p (i + 1) x (f + ((d : Int) : Rat) * P p i)
theorem restC_of {Δ : Tb} (ho : OfcF (Δ "_law_often")) (ht : BinF (fun x y => x * y) (Δ "_law_times")) (hw : PowF (Δ "_law_power")) (ha : BinF (fun x y => x + y) (Δ "_law_plus")) (hs : BinF (fun x y => x - y) (Δ "_law_minus")) : RestC (mean Δ 3 8 b__law_rest_c) := by
  intro p x k S hp hk hx
  refine mean_eq (n := 0) ⟨rfl, rfl⟩ ?_
  unfold b__law_rest_c
  have s2 : (2 : Nat) ≤ sizeLine := by decide
  have e1 := ho p x S hp
  rw [Ws_cons, Ws_par]
  simp [s2]
  rw [fr_0]
  obtain ⟨v, hv⟩ : ∃ v, v = min (vz p x) k := ⟨_, rfl⟩
  have v1 : v ≤ k := by omega
  have v2 : -300 ≤ v := by
    by_cases x0 : x = 0
    · subst x0
      rw [vz0] at hv
      omega
    · rw [vz1 x0] at hv
      have := vp_sz hp.pr x0
      omega
  have r0 : IsRest p v x 0 := by
    refine rest_zero hp.pr ((near_iff hp.pr).mpr ?_)
    by_cases x0 : x = 0
    · exact .inl x0
    · rw [vz1 x0] at hv
      exact .inr (by rw [show x - 0 = x by grind]; omega)
  refine Ws_cut (RcI p x k v S (k - v).toNat) ?_ ?_
  · rw [Ws_for]
    have hr := range_ij (i := v) (j := k) (by omega)
    have hlen : ((List.range (k - v).toNat).map fun (a : Nat) => PyData.int (v + (a : Int))).length = (k - v).toNat := by rw [List.length_map, List.length_range]
    have hat := fun (i : Nat) (y : PyData) => range_at (n := (k - v).toNat) (v := v) (i := i) (y := y)
    generalize ((List.range (k - v).toNat).map fun (a : Nat) => PyData.int (v + (a : Int))) = xs at hr hlen hat
    simp [e1, viewAll, min_i, ← hv, hr]
    refine forL_of (RcI p x k v S) ⟨0, _, _, _, by rw [show x - 0 = x by grind], rfl, rfl, by rw [show v + ((0 : Nat) : Int) = v by omega]; exact r0⟩ ?_ (fun σ L S h => by rw [hlen] at h; exact h)
    rintro i y σ L S' hy ⟨f, w5, w6, w7, rfl, rfl, rfl, hf⟩
    have hi := (List.getElem?_eq_some_iff.mp hy).1
    rw [hlen] at hi
    rw [hat i y hy]
    simp only [bindT]
    have hfe := rest_eq hp.pr hf
    have zf := sz_rest2 hp (v + i) x
    have zd := bl_den x
    rw [← hfe] at zf
    generalize hj : v + (i : Int) = j at *
    refine Ws_cut (RcI p x k v S' (i + 1)) ?_ ?_
    · rw [Ws_for]
      have hrp := range_N (e := p) (by have := hp.le; omega)
      have hlp := len_0 p
      have hap := fun (i : Nat) (y : PyData) => range_at0 (n := p) (i := i) (y := y)
      generalize ((List.range p).map fun (a : Nat) => PyData.int ((0 : Int) + (a : Int))) = ys at hrp hlp hap
      simp [hrp]
      refine forL_of (RcJ p x k j f S') ⟨_, _, rfl, rfl, rfl, fun d hd => absurd hd (Nat.not_lt_zero d)⟩ ?_ ?_
      · rintro t z σ L S2 hz ⟨w6, w7, rfl, rfl, rfl, hno⟩
        have htp := (List.getElem?_eq_some_iff.mp hz).1
        rw [hap t z hz]
        simp only [bindT]
        rw [hlp] at htp
        have sd := bl_dig hp htp
        have sP := sz_P hp j
        have sm := sz_mul ((t : Int) : Rat) (P p j)
        have sa := sz_sub x f
        have g1 := hw p j S2 hp (by omega)
        have g2 := ht ((t : Int) : Rat) (P p j) S2 (by omega)
        have g3 := ha f ((t : Int) * P p j) S2 (by omega)
        have g4 := hs (x - f) ((t : Int) * P p j) S2 (by omega)
        have g5 := ho p (x - f - (t : Int) * P p j) S2 hp
        have gv := vz_near hp.pr (x := x) (y := f + (t : Int) * P p j) (j := j) (by omega)
        rw [show x - (f + (t : Int) * P p j) = x - f - (t : Int) * P p j by grind] at gv
        rw [Ws_cons, Ws_asg]
        simp [g1, s2, fr_int, g2]
        rw [Ws_cons, Ws_if]
        simp [g4, g5]
        by_cases hg : Nr p (j + 1) x (f + (t : Int) * P p j)
        · have good := rest_digit hp.pr hf htp hg
          rw [if_pos (gv.mpr hg)]
          rw [Ws_cons, Ws_par]
          simp [g3, g4]
          simp only [Ws_cons, Ws_nil]
          have ef : x - (f + ((t : Int) : Rat) * P p j) = x - f - ((t : Int) : Rat) * P p j := by grind
          exact ⟨f + ((t : Int) : Rat) * P p j, .d (.int j), .d (.int t), .d (fr (((t : Int) : Rat) * P p j)), by rw [ef], rfl, rfl, by rw [show v + ((i + 1 : Nat) : Int) = j + 1 by omega]; exact good⟩
        · rw [if_neg (fun z => hg (gv.mp z))]
          simp [Ws_nil]
          refine ⟨_, _, rfl, rfl, rfl, fun d hd => ?_⟩
          rcases Nat.lt_succ_iff_lt_or_eq.mp hd with h | h
          · exact hno d h
          · rw [h]
            exact hg
      · rintro σ L S2 ⟨w6, w7, rfl, rfl, rfl, hno⟩
        rw [hlp] at hno
        obtain ⟨d, hd, hg⟩ := digit_at hp.pr hf.nr
        exact absurd hg (hno d hd)
    · rintro σ L S2 h
      rw [Ws_nil]
      exact h
  · rintro σ L S' ⟨f, w5, w6, w7, rfl, rfl, rfl, hf⟩
    simp only [Ws_nil, Ws_cons, Ws_ret]
    rw [show v + ((k - v).toNat : Int) = k by omega] at hf
    simp [rest_eq hp.pr hf]
def UpcF (f : Fn) : Prop := ∀ (p : Nat) (k : Int) (x : Rat) (j : Int) (S : Src), Pp p → j.natAbs ≤ 80 → sz x ≤ 300 → f [.d (.int p), .d (pl k x), .d (.int j)] S = .ok (pl j (rest p j x)) [] S
theorem lupB_of {Δ : Tb} (h : RestC (Δ "_law_rest")) : UpcF (mean Δ 3 3 b__law_up_b) := by
  intro p k x j S hp hj hx
  refine mean_eq (n := 0) ⟨rfl, rfl⟩ ?_
  unfold b__law_up_b
  have e1 := h p x j S hp hj hx
  have s2 : (2 : Nat) ≤ sizeLine := by decide
  simp only [Ws_cons, Ws_nil, Ws_ret]
  simp [e1, s2]
  rfl
end Pd
end
section
set_option Elab.async false
set_option linter.all false
set_option maxRecDepth 100000
set_option maxHeartbeats 4000000
set_option autoImplicit false
namespace Pd
open PySem PySem.Spec Dk
/-! ## lists of places -/
theorem shp_pX {n : Nat} (X : Int × Rat) : Shp (n + 2) (pX X) := shp_pl X.1 X.2
theorem shp_pls {n : Nat} (l : List (Int × Rat)) : Shp (n + 3) (.list (l.map pX)) := Shp.list fun d hd => by
  obtain ⟨X, _, rfl⟩ := List.mem_map.mp hd
  exact shp_pX X
theorem eqv_pX (X Y : Int × Rat) : PyData.eqv (pX X) (pX Y) = decide (X = Y) := by
  rw [eqv_pl]
  exact decide_eq_decide.mpr ⟨fun h => Prod.ext h.1 h.2, fun h => by rw [h]; exact ⟨rfl, rfl⟩⟩
theorem isin_pl (X : Int × Rat) (l : List (Int × Rat)) : opC .isin (pX X) (.list (l.map pX)) = some (decide (X ∈ l)) := by
  show (if SeqAt.shaped (pX X) = true ∧ SeqAt.shaped (.list (l.map pX)) = true then some ((l.map pX).any fun z => PyData.eqv z (pX X)) else none) = _
  rw [if_pos ⟨(shp_pX (n := 0) X).ok (by decide), (shp_pls (n := 0) l).ok (by decide)⟩]
  congr 1
  rw [List.any_map]
  induction l with
  | nil => rfl
  | cons Y l ih =>
    rw [List.any_cons, ih]
    simp only [Function.comp, eqv_pX, List.mem_cons]
    by_cases h : X = Y
    · subst h; simp
    · have : ¬ Y = X := fun z => h z.symm
      simp [h, this]
theorem nn_ne : opC .ne (.list []) (.list []) = some false := by
  show (eqD (.list []) (.list [])).map (!·) = some false
  rw [eqD_nil shp_nil]
  rfl
theorem rk_pXs {l : List (Int × Rat)} (h : ∀ X ∈ l, X.1.natAbs ≤ 1000 ∧ sz X.2 ≤ 1900) (hl : l.length ≤ 1000) : Rk 3 11100000 (.list (l.map pX)) := by
  have q := rk_list (n := 2) (m := 11000) (l := 1000) (ds := l.map pX) (fun d hd => by
    obtain ⟨X, hX, rfl⟩ := List.mem_map.mp hd
    obtain ⟨h1, h2⟩ := h X hX
    exact rk_pl (by have := bl_small (i := X.1) (by omega); omega) h2) (by rw [List.length_map]; exact hl)
  exact q.up (Nat.le_refl _) (by decide)
theorem rk_pXt {l : List (Int × Rat)} (h : ∀ X ∈ l, X.1.natAbs ≤ 1000 ∧ sz X.2 ≤ 1900) (hl : l.length ≤ 1000) : Rk 3 11100000 (.tuple (l.map pX)) := by
  have q := rk_tup (n := 2) (m := 11000) (l := 1000) (ds := l.map pX) (fun d hd => by
    obtain ⟨X, hX, rfl⟩ := List.mem_map.mp hd
    obtain ⟨h1, h2⟩ := h X hX
    exact rk_pl (by have := bl_small (i := X.1) (by omega); omega) h2) (by rw [List.length_map]; exact hl)
  exact q.up (Nat.le_refl _) (by decide)
theorem Rk.o {n m : Nat} {d : PyData} (h : Rk n m d) (hn : n ≤ 64 := by decide) (hm : m ≤ 16777216 := by decide) : reprOk d = true := h.ok ⟨hn, hm⟩
theorem Hb.rk {p R : Nat} (hp : Pp p) (hR : R ≤ 100) {X : Int × Rat} (h : Hb p R X) : X.1.natAbs ≤ 1000 ∧ Pd.sz X.2 ≤ 1900 := by
  have := h.k hp.pr
  have := h.sz hp
  omega
theorem Hb.dd {p R T : Nat} (hp : Pr p) {X Y : Int × Rat} (h : Hb p R X) (k : Hb p T Y) : Pd.dd p X Y ≤ R + T := by
  have h1 : Pd.dd p (0, 0) X ≤ R := h.far
  have h2 : Pd.dd p (0, 0) Y ≤ T := k.far
  have t := dd_tri hp (X := X) (Y := (0, 0)) (Z := Y)
  rw [dd_symm hp (X := X) (Y := (0, 0))] at t
  omega
end Pd
end
section
set_option Elab.async false
set_option linter.all false
set_option maxRecDepth 100000
set_option maxHeartbeats 4000000
set_option autoImplicit false
namespace Pd
open PySem PySem.Spec Dk
/-! ## tables of whole numbers -/
structure Qm where
  a : Int
  b : Int
  c : Int
  d : Int
abbrev Qm.l (m : Qm) : List Int := [m.a, m.b, m.c, m.d]
abbrev Qm.D (m : Qm) : PyData := mvD m.a m.b m.c m.d
abbrev Qm.det (m : Qm) : Int := m.a * m.d - m.b * m.c
def Qm.mul (m n : Qm) : Qm := ⟨m.a * n.a + m.b * n.c, m.a * n.b + m.b * n.d, m.c * n.a + m.d * n.c, m.c * n.b + m.d * n.d⟩
def Qm.adj (m : Qm) : Qm := ⟨m.d, -m.b, -m.c, m.a⟩
noncomputable abbrev Qm.pc (p : Nat) (m : Qm) (X : Int × Rat) : Int × Rat := pcx p m.a m.b m.c m.d X
def Qm.nr (m : Qm) : Qm := ⟨m.a.fdiv (sg m.l), m.b.fdiv (sg m.l), m.c.fdiv (sg m.l), m.d.fdiv (sg m.l)⟩
theorem Qm.nr_l (m : Qm) : norm m.l = m.nr.l := rfl
theorem Qm.ti_l (m : Qm) : ti m.l = m.D := rfl
theorem Qm.ext' {m n : Qm} (h1 : m.a = n.a) (h2 : m.b = n.b) (h3 : m.c = n.c) (h4 : m.d = n.d) : m = n := by
  cases m; cases n; cases h1; cases h2; cases h3; cases h4; rfl
theorem Qm.D_inj {m n : Qm} (h : m.D = n.D) : m = n := by
  obtain ⟨h1, h2, h3, h4⟩ := mvD_inj h
  exact Qm.ext' h1 h2 h3 h4
/-- no number of it over B, its determinant not nothing -/
structure Qm.Ok (B : Nat) (m : Qm) : Prop where
  a : m.a.natAbs ≤ B
  b : m.b.natAbs ≤ B
  c : m.c.natAbs ≤ B
  d : m.d.natAbs ≤ B
  det : m.det ≠ 0
section
variable {m n : Qm} {A B : Nat}
theorem Qm.Ok.mat (h : m.Ok B) : Mat B m.l := ⟨m.a, m.b, m.c, m.d, rfl, h.det, h.a, h.b, h.c, h.d⟩
theorem Qm.Ok.mono (h : m.Ok A) (k : A ≤ B) : m.Ok B := ⟨Nat.le_trans h.a k, Nat.le_trans h.b k, Nat.le_trans h.c k, Nat.le_trans h.d k, h.det⟩
theorem Qm.Ok.nr (h : m.Ok B) : m.nr.Ok B := by
  obtain ⟨a, b, c, d, e, h0, h1, h2, h3, h4⟩ := h.mat.norm.ex
  have e : m.nr.l = [a, b, c, d] := e
  injection e with e1 e
  injection e with e2 e
  injection e with e3 e
  injection e with e4 e
  refine ⟨e1 ▸ h1, e2 ▸ h2, e3 ▸ h3, e4 ▸ h4, ?_⟩
  show m.nr.a * m.nr.d - m.nr.b * m.nr.c ≠ 0
  rw [e1, e2, e3, e4]
  exact h0
theorem Qm.nr_nr (h : m.Ok B) : m.nr.nr = m.nr := by
  have e : m.nr.nr.l = m.nr.l := norm_norm h.mat
  injection e with e1 e
  injection e with e2 e
  injection e with e3 e
  injection e with e4 e
  exact Qm.ext' e1 e2 e3 e4
theorem Qm.sc_nr (m : Qm) : m.a = sg m.l * m.nr.a ∧ m.b = sg m.l * m.nr.b ∧ m.c = sg m.l * m.nr.c ∧ m.d = sg m.l * m.nr.d := by
  have e := sc_norm m.l
  have e : [sg m.l * m.nr.a, sg m.l * m.nr.b, sg m.l * m.nr.c, sg m.l * m.nr.d] = [m.a, m.b, m.c, m.d] := e
  injection e with e1 e
  injection e with e2 e
  injection e with e3 e
  injection e with e4 e
  exact ⟨e1.symm, e2.symm, e3.symm, e4.symm⟩
theorem Qm.Ok.sg0 (h : m.Ok B) : sg m.l ≠ 0 := h.mat.sg0
theorem rat0 {i : Int} (h : i ≠ 0) : (i : Rat) ≠ 0 := fun z => h (Rat.intCast_eq_zero_iff.mp z)
theorem Qm.pc_nr {p : Nat} (hp : Pr p) (h : m.Ok B) (X : Int × Rat) : m.nr.pc p X = m.pc p X := by
  obtain ⟨e1, e2, e3, e4⟩ := m.sc_nr
  have q := pcx_sc (X := X) hp h.sg0 (rat0 h.nr.det)
  rw [← e1, ← e2, ← e3, ← e4] at q
  exact q.symm
theorem Qm.Ok.mul (h : m.Ok A) (k : n.Ok B) : (m.mul n).Ok (2 * (A * B)) := by
  have q : ∀ {x y z w : Int}, x.natAbs ≤ A → y.natAbs ≤ B → z.natAbs ≤ A → w.natAbs ≤ B → (x * y + z * w).natAbs ≤ 2 * (A * B) := fun h1 h2 h3 h4 => by
    have a1 := mulb h1 h2
    have a2 := mulb h3 h4
    rename_i x y z w
    generalize x * y = u at *
    generalize z * w = v at *
    generalize A * B = AB at *
    omega
  refine ⟨q h.a k.a h.b k.c, q h.a k.b h.b k.d, q h.c k.a h.d k.c, q h.c k.b h.d k.d, ?_⟩
  show _ * _ - _ * _ ≠ 0
  unfold Qm.mul
  dsimp only
  rw [det_bh]
  exact Int.mul_ne_zero h.det k.det
theorem Qm.Ok.adj (h : m.Ok A) : m.adj.Ok A := ⟨h.d, by show (-m.b).natAbs ≤ A; rw [Int.natAbs_neg]; exact h.b, by show (-m.c).natAbs ≤ A; rw [Int.natAbs_neg]; exact h.c, h.a, by
  show m.d * m.a - (-m.b) * (-m.c) ≠ 0
  have := h.det
  rw [show m.d * m.a - (-m.b) * (-m.c) = m.a * m.d - m.b * m.c by grind]
  exact this⟩
theorem Qm.pc_mul {p : Nat} (hp : Pr p) (h : m.det ≠ 0) (k : n.det ≠ 0) (X : Int × Rat) : (m.mul n).pc p X = m.pc p (n.pc p X) := pcx_bh hp (rat0 h) (rat0 k)
theorem Qm.pc_adj {p : Nat} (hp : Pr p) (h : m.det ≠ 0) {X : Int × Rat} (hX : Pla p X) : m.adj.pc p (m.pc p X) = X := pcx_un hp (rat0 h) hX
theorem Qm.pc_dd {p : Nat} (hp : Pr p) (h : m.det ≠ 0) (X Y : Int × Rat) : dd p (m.pc p X) (m.pc p Y) = dd p X Y := pcx_dd hp (rat0 h)
theorem Qm.pc_pla {p : Nat} (hp : Pr p) (X : Int × Rat) : Pla p (m.pc p X) := pcx_pla hp
theorem Qm.pc_hb {p R V : Nat} (hp : Pr p) {X : Int × Rat} (hX : Hb p R X) (h : m.det ≠ 0) (hv : vp p (m.det : Rat) ≤ V) : Hb p (R + V) (m.pc p X) := hX.led hp (rat0 h) hv
/-- how often the prime is in the determinant, by the numbers' size -/
theorem Qm.Ok.vp {p h : Nat} (hp : Pr p) (k : m.Ok (2 ^ h)) : Pd.vp p (m.det : Rat) ≤ (2 * h + 2 : Nat) := by
  have q := vp_bl hp k.det
  have a1 := mulb k.a k.d
  have a2 := mulb k.b k.c
  have t := Int.natAbs_sub_le (m.a * m.d) (m.b * m.c)
  have e : 2 ^ h * 2 ^ h = 2 ^ (2 * h) := by rw [← Nat.pow_add]; congr 1; omega
  have e2 : 2 ^ (2 * h + 2) = 2 ^ (2 * h) * 4 := by rw [Nat.pow_add]
  have pos : 0 < 2 ^ (2 * h) := Nat.pow_pos (by decide)
  have b := bl_le (n := 2 * h + 2) (a := m.det) ⟨by
    show (m.a * m.d - m.b * m.c).natAbs < 2 ^ (2 * h + 2)
    omega⟩ (by omega)
  omega
theorem bl_two {x : Int} {h : Nat} (k : x.natAbs ≤ 2 ^ h) : bl x ≤ h + 1 := bl_le ⟨by
  have : 2 ^ (h + 1) = 2 ^ h * 2 := by rw [Nat.pow_add]
  have pos : 0 < 2 ^ h := Nat.pow_pos (by decide)
  omega⟩ (by omega)
end
/-! the defs on tables -/
def MvT (f : Fn) : Prop := ∀ (m : Qm) (S : Src), m.Ok (2 ^ 62) → f [.d m.D] S = .ok m.nr.D [] S
theorem mvT_of {f : Fn} (h : MvF f) : MvT f := fun m S k => h m.l S (k.mat.tbl (by decide))
def PcF (f : Fn) : Prop := ∀ (p : Nat) (m : Qm) (X : Int × Rat) (R V : Nat) (S : Src), Pp p → m.Ok (2 ^ 59) → Hb p R X → R ≤ 43 → vp p (m.det : Rat) ≤ V → V ≤ 900 → f [.d (.int p), .d m.D, .d (pX X)] S = .ok (pX (m.pc p X)) [] S
theorem pcF_of {f : Fn} (h : PicH f) : PcF f := fun p m X R V S hp hm hX hR hv hV => by
  have kx := hX.k hp.pr
  have zx := hX.sz hp
  have hl := Qm.pc_hb hp.pr hX hm.det hv
  have kl := hl.k hp.pr
  exact h p m.a m.b m.c m.d X.1 X.2 S hp (bl_two hm.a) (bl_two hm.b) (bl_two hm.c) (bl_two hm.d) (by omega) (by omega) (by
    have : (pic p m.a m.b m.c m.d X.1 X.2).1.natAbs ≤ R + V := kl
    omega) (rat0 hm.det)
theorem small_mul {x y : Int} (h : x.natAbs ≤ 2 ^ 28) : opB .mul (.int x) (.int y) = some (.int (x * y)) := opB_mul2 (by
  have : (2 : Nat) ^ 28 = 268435456 := by decide
  omega)
@[simp] theorem ix_mv0 (a b c d : Int) : ixD (mvD a b c d) (.int 0) = some (.int a) := by simp [mvD]
@[simp] theorem ix_mv1 (a b c d : Int) : ixD (mvD a b c d) (.int 1) = some (.int b) := by simp [mvD]
@[simp] theorem ix_mv2 (a b c d : Int) : ixD (mvD a b c d) (.int 2) = some (.int c) := by simp [mvD]
@[simp] theorem ix_mv3 (a b c d : Int) : ixD (mvD a b c d) (.int 3) = some (.int d) := by simp [mvD]
def BehF (f : Fn) : Prop := ∀ (m n : Qm) (S : Src), m.Ok (2 ^ 28) → n.Ok (2 ^ 28) → f [.d m.D, .d n.D] S = .ok (m.mul n).nr.D [] S
theorem beh_of {Δ : Tb} (h : MvF (Δ "move_of")) : BehF (mean Δ 2 10 b_moves_behind_k15) := by
  intro m n S hm hn
  refine mean_eq (n := 0) ⟨rfl, rfl⟩ ?_
  unfold b_moves_behind_k15
  have s4 : (4 : Nat) ≤ sizeLine := by decide
  rw [Ws_cons, Ws_asgT]
  refine Wr_ok.mpr ⟨m.D, _, rfl, rfl, ?_⟩
  dsimp only
  rw [Ws_cons, Ws_asgT]
  refine Wr_ok.mpr ⟨n.D, _, rfl, rfl, ?_⟩
  dsimp only
  have e : Δ "move_of" [.d (.tuple [.int (m.a * n.a + m.b * n.c), .int (m.a * n.b + m.b * n.d), .int (m.c * n.a + m.d * n.c), .int (m.c * n.b + m.d * n.d)])] S = .ok (m.mul n).nr.D [] S := mvT_of h (m.mul n) S ((hm.mul hn).mono (by decide))
  rw [Ws_cons, Ws_ret]
  simp [small_mul hm.a, small_mul hm.b, small_mul hm.c, small_mul hm.d, s4, e]
def UndF (f : Fn) : Prop := ∀ (m : Qm) (S : Src), m.Ok (2 ^ 60) → f [.d m.D] S = .ok m.adj.nr.D [] S
theorem und_of {Δ : Tb} (h : MvF (Δ "move_of")) : UndF (mean Δ 1 1 b_move_undone_k15) := by
  intro m S hm
  refine mean_eq (n := 0) ⟨rfl, rfl⟩ ?_
  unfold b_move_undone_k15
  have s4 : (4 : Nat) ≤ sizeLine := by decide
  have e : Δ "move_of" [.d (.tuple [.int m.d, .int (-m.b), .int (-m.c), .int m.a])] S = .ok m.adj.nr.D [] S := mvT_of h m.adj S (hm.adj.mono (by decide))
  rw [Ws_cons, Ws_ret]
  simp [s4, e]
end Pd
end
section
set_option Elab.async false
set_option linter.all false
set_option maxRecDepth 100000
set_option maxHeartbeats 4000000
set_option autoImplicit false
namespace Pd
open PySem PySem.Spec Dk
/-! ## pictures as middles of three ends: the middle's def told otherwise -/
theorem mids_key {f : Fn} (h2 : Mid2F f) (h3 : Mid3F f) {p : Nat} {a b c d k : Int} {r : Rat} {S : Src} {es : List (Option Rat)} (hp : Pp p) (ba : bl a ≤ 40) (bb : bl b ≤ 40) (bc : bl c ≤ 40) (bd : bl d ≤ 40) (hk : k.natAbs ≤ 6) (hr : sz r ≤ 45) (hD : ((a * d - b * c : Int) : Rat) ≠ 0) (hes : [some r, some (r + P p k), none].map (ld a b c d) = es) : f [.d (.int p), .d (.list (es.map eD))] S = .ok (pl (pcp p a b c d k r).1 (pcp p a b c d k r).2) [] S := by
  have sP := sz_P hp k
  have sr := sz_add r (P p k)
  have pb := pic_bound (r := r) hp ba bb bc bd hk (by omega) hD
  have hlen : es.length ≤ 10 := by rw [← hes]; show (3 : Nat) ≤ 10; decide
  have y0 : ∀ x : Rat, (c : Rat) * x + d ≠ 0 → ld a b c d (some x) = some (((a : Rat) * x + b) / (c * x + d)) := fun x h => if_pos h
  have y1 : ∀ x : Rat, (c : Rat) * x + d = 0 → ld a b c d (some x) = none := fun x h => if_neg (fun z => z h)
  have szs : ∀ x : Rat, sz x ≤ 132 → (c : Rat) * x + d ≠ 0 → sz (((a : Rat) * x + b) / (c * x + d)) ≤ 400 := fun x hx h => by
    have := sz_ld ba bb bc bd h
    omega
  have sac : (c : Rat) ≠ 0 → sz ((a : Rat) / c) ≤ 400 := fun h => by
    have q1 := sz_div (x := (a : Rat)) h
    have q2 := sz_int a
    have q3 := sz_int c
    omega
  have sr' : sz (r + P p k) ≤ 132 := by omega
  by_cases hc : (c : Rat) = 0
  · obtain ⟨hs, ht, e⟩ := pic_c (k := k) (r := r) hp.pr hD hc
    rw [e] at pb ⊢
    have hf : es.filterMap id = [((a : Rat) * r + b) / (c * r + d), ((a : Rat) * (r + P p k) + b) / (c * (r + P p k) + d)] := by
      rw [← hes, List.map_cons, List.map_cons, List.map_cons, List.map_nil, y0 r hs, y0 _ ht, show ld a b c d none = none from if_neg (fun z => z hc)]
      rfl
    exact h2 p es _ _ S hp hlen hf (fun z => diff_ne hs ht hD (r_ne hp.pr) (by rw [z]; grind)) (szs r (by omega) hs) (szs _ sr' ht) (by dsimp only at pb; omega)
  · have yn : ld a b c d none = some ((a : Rat) / c) := if_pos hc
    by_cases hs : (c : Rat) * r + d = 0
    · obtain ⟨_, ht, e⟩ := pic_s (k := k) (r := r) hp.pr hD hs
      rw [e] at pb ⊢
      have hf : es.filterMap id = [((a : Rat) * (r + P p k) + b) / (c * (r + P p k) + d), (a : Rat) / c] := by
        rw [← hes, List.map_cons, List.map_cons, List.map_cons, List.map_nil, y1 r hs, y0 _ ht, yn]
        rfl
      exact h2 p es _ _ S hp hlen hf (fun z => inf_ne ht hc hD (by rw [z]; grind)) (szs _ sr' ht) (sac hc) (by dsimp only at pb; omega)
    · by_cases ht : (c : Rat) * (r + P p k) + d = 0
      · obtain ⟨_, _, e⟩ := pic_t (k := k) (r := r) hp.pr hD ht
        rw [e] at pb ⊢
        have hf : es.filterMap id = [((a : Rat) * r + b) / (c * r + d), (a : Rat) / c] := by
          rw [← hes, List.map_cons, List.map_cons, List.map_cons, List.map_nil, y0 r hs, y1 _ ht, yn]
          rfl
        exact h2 p es _ _ S hp hlen hf (fun z => inf_ne hs hc hD (by rw [z]; grind)) (szs r (by omega) hs) (sac hc) (by dsimp only at pb; omega)
      · obtain ⟨q1, q2, q3⟩ := pic3 (k := k) (r := r) hp.pr hD hc hs ht rfl rfl rfl
        have hf : es.filterMap id = [((a : Rat) * r + b) / (c * r + d), ((a : Rat) * (r + P p k) + b) / (c * (r + P p k) + d), (a : Rat) / c] := by
          rw [← hes, List.map_cons, List.map_cons, List.map_cons, List.map_nil, y0 r hs, y0 _ ht, yn]
          rfl
        have pb' : (pic p a b c d k r).1.natAbs ≤ 800 := pb
        rw [q1] at pb'
        have e := h3 p es _ _ _ S _ _ _ hp hlen hf (fun z => diff_ne hs ht hD (r_ne hp.pr) (by rw [z]; grind)) (fun z => inf_ne hs hc hD (by rw [z]; grind)) (fun z => inf_ne ht hc hD (by rw [z]; grind)) (szs r (by omega) hs) (szs _ sr' ht) (sac hc) rfl rfl rfl (by omega)
        rw [e]
        split
        · rename_i h1
          rw [q2 (.inl h1)]
        · rename_i h1
          split
          · rename_i h2
            rw [q2 (.inr h2)]
          · rename_i h2
            rw [q3 h1 h2]
theorem mid2B_of {Δ : Tb} (ho : PiF (Δ "_law_in")) (hs : BinF (fun x y => x - y) (Δ "_law_less")) (hr : NameF (Δ "_law_place")) : Mid2F (mean Δ 2 7 b__law_middle_b) := by
  intro p es y z S hp hlen hes yz sy sz_ hv
  refine mean_eq (n := 0) ⟨rfl, rfl⟩ ?_
  unfold b__law_middle_b
  have s2 : (2 : Nat) ≤ sizeLine := by decide
  have e1 := mid_some (Δ := Δ) (σ := [.d (.int p), .d (.list (es.map eD)), .un, .un, .un, .un, .un]) (es := es) (S := S) rfl (by simp) hlen
  rw [hes] at e1
  rw [Ws_cons, Ws_asg]
  refine (show Wr (ev Δ _ [.d (.int p), .d (.list (es.map eD)), .un, .un, .un, .un, .un] [] S) _ from ?_)
  rw [e1, Wr_ok]
  dsimp only
  have yz0 : y - z ≠ 0 := by grind
  have e2 := hs y z S (by omega)
  have e3 := ho p (y - z) S hp
  rw [vD1 yz0] at e3
  have e4 := hr p (vp p (y - z)) y S hp hv (by omega)
  rw [Ws_cons, Ws_if]
  simp [viewAll, opF]
  simp only [Ws_nil, Ws_cons, Ws_ret]
  simp [e2, e3, e4]
theorem mid3B_of {Δ : Tb} (ho : PiF (Δ "_law_in")) (hs : BinF (fun x y => x - y) (Δ "_law_less")) (hr : NameF (Δ "_law_place")) : Mid3F (mean Δ 2 7 b__law_middle_b) := by
  intro p es x y z S v01 v02 v12 hp hlen hes xy xz yz sx sy sz_ h01 h02 h12 hm
  refine mean_eq (n := 0) ⟨rfl, rfl⟩ ?_
  unfold b__law_middle_b
  have s2 : (2 : Nat) ≤ sizeLine := by decide
  have s3 : (3 : Nat) ≤ sizeLine := by decide
  have e1 := mid_some (Δ := Δ) (σ := [.d (.int p), .d (.list (es.map eD)), .un, .un, .un, .un, .un]) (es := es) (S := S) rfl (by simp) hlen
  rw [hes] at e1
  rw [Ws_cons, Ws_asg]
  refine (show Wr (ev Δ _ [.d (.int p), .d (.list (es.map eD)), .un, .un, .un, .un, .un] [] S) _ from ?_)
  rw [e1, Wr_ok]
  dsimp only
  have a1 := hs x y S (by omega)
  have a2 := hs x z S (by omega)
  have a3 := hs y z S (by omega)
  have b1 := ho p (x - y) S hp
  have b2 := ho p (x - z) S hp
  have b3 := ho p (y - z) S hp
  rw [vD1 (by grind), ← h01] at b1
  rw [vD1 (by grind), ← h02] at b2
  rw [vD1 (by grind), ← h12] at b3
  rw [Ws_cons, Ws_if]
  simp [viewAll, opF, Ws_nil]
  rw [Ws_cons, Ws_asg]
  have eL := ev_lcT (Δ := Δ) (elt := .call "_law_in" (.cons (.var 0) (.cons (.call "_law_less" (.cons (.ix (.var 2) (.var 5)) (.cons (.ix (.var 2) (.var 6)) .nil))) .nil))) (nm1 := "k") (nm2 := "j") (q1 := 5) (q2 := 6) (it := .seq (.tup (.cons (.tup (.cons (.int 0) (.cons (.int 1) .nil))) (.cons (.tup (.cons (.int 0) (.cons (.int 2) .nil))) (.cons (.tup (.cons (.int 1) (.cons (.int 2) .nil))) .nil))))) (σ := [.d (.int p), .d (.list (es.map eD)), .d (.list [fr x, fr y, fr z]), .un, .un, .un, .un]) (L := []) (S := S) (l := [((0 : Int), (1 : Int), v01), (0, 2, v02), (1, 2, v12)]) (fun a => .int a.1) (fun a => .int a.2.1) (fun a => .int a.2.2) (by simp [s2, s3]) (show (3 : Nat) ≤ sizeLine by decide) (fun a ha => by
    simp at ha
    rcases ha with rfl | rfl | rfl
    · simp [a1, b1]
    · simp [a2, b2]
    · simp [a3, b3])
  rw [eL, Wr_ok]
  dsimp only [List.map_cons, List.map_nil]
  rw [Ws_cons, Ws_asg]
  have e5 := max_3 v01 v02 v12
  have hmm : max v01 (max v02 v12) = v01 ∨ max v01 (max v02 v12) = v02 ∨ max v01 (max v02 v12) = v12 := by omega
  have e6 := idx_3 v01 v02 v12 _ hmm
  generalize hmx : max v01 (max v02 v12) = m at *
  have r1 := hr p m x S hp hm (by omega)
  have r2 := hr p m y S hp hm (by omega)
  by_cases h1 : v01 = m
  · rw [if_pos h1] at e6 ⊢
    simp [viewAll, e5, e6]
    simp only [Ws_nil, Ws_cons, Ws_ret]
    simp [s3, h1, r1]
  · rw [if_neg h1] at e6 ⊢
    by_cases h2 : v02 = m
    · rw [if_pos h2] at e6 ⊢
      simp [viewAll, e5, e6]
      simp only [Ws_nil, Ws_cons, Ws_ret]
      simp [s3, h2, r1]
    · rw [if_neg h2] at e6 ⊢
      have h3 : v12 = m := by omega
      simp [viewAll, e5, e6]
      simp only [Ws_nil, Ws_cons, Ws_ret]
      simp [s3, h3, r2]
theorem midsB_of {Δ : Tb} (ho : PiF (Δ "_law_in")) (hs : BinF (fun x y => x - y) (Δ "_law_less")) (hr : NameF (Δ "_law_place")) : MidsF (mean Δ 2 7 b__law_middle_b) := ⟨mid2B_of ho hs hr, mid3B_of ho hs hr⟩
theorem pcH_of {Δ : Tb} (hb : BotF (Δ "bottoms_of")) (hd : DetF (Δ "determinant")) (hwh : WhF (Δ "whole")) (hi : PiF (Δ "power_in")) (hn : NameF (Δ "place_named")) (hl : LowF (Δ "ratio_low")) (ht : BinF (fun x y => x * y) (Δ "ratios_times")) (ha : BinF (fun x y => x + y) (Δ "ratios_added")) (ho : OverF (Δ "ratios_over")) : PcF (mean Δ 3 12 b_picture_of) := pcF_of (picH_of hb hd hwh hi hn hl ht ha ho)
theorem li_ne (w : List Int) : opC .ne (.list (w.map .int)) (.list (w.map .int)) = some false := by
  have e : PyData.eqv (.list (w.map .int)) (.list (w.map .int)) = true := by
    show PyData.eqv (.list (w.map .int)) (.list (w.map .int)) = true
    simp only [PyData.eqv]
    induction w with
    | nil => rfl
    | cons i w ih =>
      simp only [List.map_cons, PyData.eqvAll, PyData.eqv, ih, Bool.and_true]
      exact decide_eq_true rfl
  show (eqD (.list (w.map .int)) (.list (w.map .int))).map (!·) = some false
  unfold eqD
  rw [if_pos ⟨shp_ints w, shp_ints w⟩, e]
  rfl
theorem ints_map : ∀ w : List Int, intsOf (w.map .int) = some w
  | [] => rfl
  | i :: w => by
    show (intsOf (w.map .int)).map (i :: ·) = _
    rw [ints_map w]
    rfl
theorem sorted_i (w : List Int) : opF .sorted [.list (w.map .int)] = some (.list ((w.mergeSort (fun a b => decide (a ≤ b))).map .int)) := by
  show (intsOf (w.map .int)).map _ = _
  rw [ints_map]
  rfl
def PutF (f : Fn) : Prop := ∀ (m : Qm) (x : Rat) (S : Src), m.Ok (2 ^ 28) → sz x ≤ 1000 → f [.d m.D, .d (fr x)] S = .ok (eD (ld m.a m.b m.c m.d (some x))) [] S
theorem put_of {Δ : Tb} (hl : LowF (Δ "_law_frac")) : PutF (mean Δ 2 4 b__law_put_k15) := by
  intro m x S hm hx
  refine mean_eq (n := 0) ⟨rfl, rfl⟩ ?_
  unfold b__law_put_k15
  obtain ⟨g1, g2⟩ := led_low (a := m.a) (b := m.b) (c := m.c) (d := m.d) (x := x)
  rw [Ws_cons, Ws_par]
  simp [small_mul hm.a, small_mul hm.b, small_mul hm.c, small_mul hm.d]
  simp only [Ws_nil, Ws_cons, Ws_ret]
  have ba := bl_two hm.a
  have bb := bl_two hm.b
  have bc := bl_two hm.c
  have bd := bl_two hm.d
  have bn := bl_num x
  have be := bl_den x
  have q := fun (u v : Int) (hu : bl u ≤ 29) (hv : bl v ≤ 29) => (show bl (u * x.num + v * x.den) ≤ 1100 by
    have q1 := bl_mul u x.num
    have q2 := bl_mul v x.den
    have q3 := bl_add (u * x.num) (v * x.den)
    omega)
  by_cases h : (m.c : Rat) * x + m.d ≠ 0
  · have h' := g1.mpr h
    have e := hl (m.a * x.num + m.b * x.den) (m.c * x.num + m.d * x.den) S h' (by have := q m.a m.b ba bb; omega) (by have := q m.c m.d bc bd; omega)
    rw [g2 h] at e
    have el : ld m.a m.b m.c m.d (some x) = some (((m.a : Rat) * x + m.b) / (m.c * x + m.d)) := if_pos h
    rw [el]
    simp [h', e, eD]
  · have h' : m.c * x.num + m.d * x.den = 0 := Decidable.byContradiction fun z => h (g1.mp z)
    have el : ld m.a m.b m.c m.d (some x) = none := if_neg h
    rw [el]
    simp [h', eD]
def PutfF (f : Fn) : Prop := ∀ (m : Qm) (S : Src), m.Ok (2 ^ 28) → f [.d m.D] S = .ok (eD (ld m.a m.b m.c m.d none)) [] S
theorem putf_of {Δ : Tb} (hl : LowF (Δ "_law_frac")) : PutfF (mean Δ 1 1 b__law_put_far_k15) := by
  intro m S hm
  refine mean_eq (n := 0) ⟨rfl, rfl⟩ ?_
  unfold b__law_put_far_k15
  simp only [Ws_nil, Ws_cons, Ws_ret]
  have ba := bl_two hm.a
  have bc := bl_two hm.c
  by_cases h : m.c = 0
  · have el : ld m.a m.b m.c m.d none = none := if_neg fun z => z (by rw [h]; rfl)
    rw [el]
    simp [h, eD]
  · have e := hl m.a m.c S h (by omega) (by omega)
    have el : ld m.a m.b m.c m.d none = some ((m.a : Rat) / m.c) := if_pos (rat0 h)
    rw [el]
    rw [Rat.divInt_eq_div] at e
    simp [h, e, eD]
end Pd
end
section
set_option Elab.async false
set_option linter.all false
set_option maxRecDepth 100000
set_option maxHeartbeats 4000000
set_option autoImplicit false
namespace Pd
open PySem PySem.Spec Dk
/-! ## places on ways are no farther than the ends; slots set twice -/
theorem set_set_g {σ : List W} {q i : Nat} {u v : W} (h : q ≠ i) : ((σ.set q u).set q v)[i]? = σ[i]? := by
  rw [List.set_set, List.getElem?_set_ne h]
theorem set_set_at {σ : List W} {q : Nat} {u v : W} (h : q < σ.length) : ((σ.set q u).set q v)[q]? = some v := by
  rw [List.set_set, List.getElem?_set_self h]
section
variable {p : Nat} {X Y W' P' : Int × Rat}
theorem way_part (hp : Pr p) (hW : W' ∈ wy2 p X Y) {M : Int × Rat} (h1 : dd p X M + dd p M Y ≤ dd p X Y) (h2 : dd p X M + dd p M P' ≤ dd p X P') (h3 : dd p X W' ≤ dd p X M) : dd p P' W' ≤ dd p P' X := by
  obtain ⟨w1, w2⟩ := (wy2_mem hp).mp hW
  have n0 := dd_nn hp (X := X) (Y := W')
  obtain ⟨a1, a2⟩ := al_dd hp (X := X) (Y := M) (n := dd p X W') n0 h3
  have t1 := dd_tri hp (X := al p X M (dd p X W')) (Y := M) (Z := Y)
  have e1 := al_uniq hp (al_pla hp (X := X) (Y := M) (n := dd p X W')) (X := X) (Y := Y) (n := dd p X W') a1 (by omega)
  have e2 := al_uniq hp w1 (X := X) (Y := Y) (n := dd p X W') (Int.le_refl _) (by omega)
  rw [e1, ← e2] at a2
  have t2 := dd_tri hp (X := W') (Y := M) (Z := P')
  rw [dd_symm hp (X := P') (Y := W'), dd_symm hp (X := P') (Y := X)]
  omega
theorem way_far (hp : Pr p) (hW : W' ∈ wy2 p X Y) : dd p P' W' ≤ max (dd p P' X) (dd p P' Y) := by
  have m := mdx_md hp (X := X) (Y := Y) (Z := P')
  have e1 := m.xyE hp
  obtain ⟨w1, w2⟩ := (wy2_mem hp).mp hW
  rcases Int.le_total (dd p X W') (dd p X (mdx p X Y P')) with h | h
  · have := way_part hp hW m.xy m.xz h
    omega
  · have hW' : W' ∈ wy2 p Y X := (wy2_mem hp).mpr ⟨w1, by rw [dd_symm hp (X := Y) (Y := W'), dd_symm hp (X := W') (Y := X), dd_symm hp (X := Y) (Y := X)]; omega⟩
    have m' := m.s12 hp
    have := way_part hp hW' m'.xy m'.xz (by
      rw [dd_symm hp (X := Y) (Y := W'), dd_symm hp (X := Y)]
      omega)
    omega
theorem way_hb (hp : Pr p) {R : Nat} (hX : Hb p R X) (hY : Hb p R Y) (hW : W' ∈ wy2 p X Y) : Hb p R W' := ⟨((wy2_mem hp).mp hW).1, by
  have h1 := way_far hp (P' := (0, 0)) hW
  have h2 := hX.far
  have h3 := hY.far
  show dd p (0, 0) W' ≤ R
  have h2 : dd p (0, 0) X ≤ R := h2
  have h3 : dd p (0, 0) Y ≤ R := h3
  omega⟩
end
end Pd
end
section
set_option Elab.async false
set_option linter.all false
set_option maxRecDepth 100000
set_option maxHeartbeats 0
set_option autoImplicit false
namespace My
open PySem PySem.Spec Dk
/-! ## the defs -/
def t0 : Tb := (add "MOST_STEPS" (conF (.int (400))) (add "NOTHING" (conF (.tuple [(.int (0)), (.int (1))])) (add "gcd" gcdF tb0)))
def n_determinant : List Str := ["one"]
def b_determinant : Ss := (.cons (.ret (.bop .sub (.bop .mul (.ix (.var 0) (.int 0)) (.ix (.var 0) (.int 3))) (.bop .mul (.ix (.var 0) (.int 1)) (.ix (.var 0) (.int 2))))) .nil)
noncomputable def f_determinant : Fn := mean t0 1 1 b_determinant
noncomputable def t1 : Tb := add "determinant" f_determinant t0
def n_move_of : List Str := ["numbers", "part", "number"]
def b_move_of : Ss := (.cons (.asg (.nm 1) (.int 0)) (.cons (.for_ (.nm 2) (.seq (.var 0)) (.cons (.asg (.nm 1) (.call "gcd" (.cons (.var 1) (.cons (.var 2) .nil)))) .nil)) (.cons (.ite (.cmp .lt (.ix (.lc false (.var 2) [("number", 2)] (.nm 2) (.seq (.var 0)) (.cmp .ne (.var 2) (.int 0))) (.int 0)) (.int 0)) (.cons (.asg (.nm 1) (.neg (.var 1))) .nil) .nil) (.cons (.ret (.bf .tuple (.cons (.lc false (.bop .fdiv (.var 2) (.var 1)) [("number", 2)] (.nm 2) (.seq (.var 0)) .tt) .nil))) .nil))))
noncomputable def f_move_of : Fn := mean t1 1 3 b_move_of
noncomputable def t2 : Tb := add "move_of" f_move_of t1
def n_moves_behind : List Str := ["one", "other", "a", "b", "c", "d", "e", "f", "g", "h"]
def b_moves_behind : Ss := (.cons (.asg (.tp (.cons (.nm 2) (.cons (.nm 3) (.cons (.nm 4) (.cons (.nm 5) .nil))))) (.var 0)) (.cons (.asg (.tp (.cons (.nm 6) (.cons (.nm 7) (.cons (.nm 8) (.cons (.nm 9) .nil))))) (.var 1)) (.cons (.ret (.call "move_of" (.cons (.tup (.cons (.bop .add (.bop .mul (.var 2) (.var 6)) (.bop .mul (.var 3) (.var 8))) (.cons (.bop .add (.bop .mul (.var 2) (.var 7)) (.bop .mul (.var 3) (.var 9))) (.cons (.bop .add (.bop .mul (.var 4) (.var 6)) (.bop .mul (.var 5) (.var 8))) (.cons (.bop .add (.bop .mul (.var 4) (.var 7)) (.bop .mul (.var 5) (.var 9))) .nil))))) .nil))) .nil)))
noncomputable def f_moves_behind : Fn := mean t2 2 10 b_moves_behind
noncomputable def t3 : Tb := add "moves_behind" f_moves_behind t2
def n_move_undone : List Str := ["one"]
def b_move_undone : Ss := (.cons (.ret (.call "move_of" (.cons (.tup (.cons (.ix (.var 0) (.int 3)) (.cons (.neg (.ix (.var 0) (.int 1))) (.cons (.neg (.ix (.var 0) (.int 2))) (.cons (.ix (.var 0) (.int 0)) .nil))))) .nil))) .nil)
noncomputable def f_move_undone : Fn := mean t3 1 1 b_move_undone
noncomputable def t4 : Tb := add "move_undone" f_move_undone t3
def n_ratio_low : List Str := ["top", "bottom", "part"]
def b_ratio_low : Ss := (.cons (.asg (.nm 2) (.ife (.cmp .gt (.var 1) (.int 0)) (.call "gcd" (.cons (.var 0) (.cons (.var 1) .nil))) (.neg (.call "gcd" (.cons (.var 0) (.cons (.var 1) .nil)))))) (.cons (.ret (.tup (.cons (.bop .fdiv (.var 0) (.var 2)) (.cons (.bop .fdiv (.var 1) (.var 2)) .nil)))) .nil))
noncomputable def f_ratio_low : Fn := mean t4 2 3 b_ratio_low
noncomputable def t5 : Tb := add "ratio_low" f_ratio_low t4
def n_ratios_added : List Str := ["one", "other"]
def b_ratios_added : Ss := (.cons (.ret (.call "ratio_low" (.cons (.bop .add (.bop .mul (.ix (.var 0) (.int 0)) (.ix (.var 1) (.int 1))) (.bop .mul (.ix (.var 1) (.int 0)) (.ix (.var 0) (.int 1)))) (.cons (.bop .mul (.ix (.var 0) (.int 1)) (.ix (.var 1) (.int 1))) .nil)))) .nil)
noncomputable def f_ratios_added : Fn := mean t5 2 2 b_ratios_added
noncomputable def t6 : Tb := add "ratios_added" f_ratios_added t5
def n_ratios_less : List Str := ["one", "other"]
def b_ratios_less : Ss := (.cons (.ret (.call "ratio_low" (.cons (.bop .sub (.bop .mul (.ix (.var 0) (.int 0)) (.ix (.var 1) (.int 1))) (.bop .mul (.ix (.var 1) (.int 0)) (.ix (.var 0) (.int 1)))) (.cons (.bop .mul (.ix (.var 0) (.int 1)) (.ix (.var 1) (.int 1))) .nil)))) .nil)
noncomputable def f_ratios_less : Fn := mean t6 2 2 b_ratios_less
noncomputable def t7 : Tb := add "ratios_less" f_ratios_less t6
def n_ratios_times : List Str := ["one", "other"]
def b_ratios_times : Ss := (.cons (.ret (.call "ratio_low" (.cons (.bop .mul (.ix (.var 0) (.int 0)) (.ix (.var 1) (.int 0))) (.cons (.bop .mul (.ix (.var 0) (.int 1)) (.ix (.var 1) (.int 1))) .nil)))) .nil)
noncomputable def f_ratios_times : Fn := mean t7 2 2 b_ratios_times
noncomputable def t8 : Tb := add "ratios_times" f_ratios_times t7
def n_ratios_over : List Str := ["one", "other"]
def b_ratios_over : Ss := (.cons (.ret (.call "ratio_low" (.cons (.bop .mul (.ix (.var 0) (.int 0)) (.ix (.var 1) (.int 1))) (.cons (.bop .mul (.ix (.var 0) (.int 1)) (.ix (.var 1) (.int 0))) .nil)))) .nil)
noncomputable def f_ratios_over : Fn := mean t8 2 2 b_ratios_over
noncomputable def t9 : Tb := add "ratios_over" f_ratios_over t8
def n_whole_power : List Str := ["p", "many", "found", "lap"]
def b_whole_power : Ss := (.cons (.asg (.nm 2) (.int 1)) (.cons (.for_ (.nm 3) (.rng (.cons (.var 1) .nil)) (.cons (.aug 2 .mul (.var 0)) .nil)) (.cons (.ret (.var 2)) .nil)))
noncomputable def f_whole_power : Fn := mean t9 2 4 b_whole_power
noncomputable def t10 : Tb := add "whole_power" f_whole_power t9
def n_power_of : List Str := ["p", "power"]
def b_power_of : Ss := (.cons (.ret (.ife (.cmp .ge (.var 1) (.int 0)) (.tup (.cons (.call "whole_power" (.cons (.var 0) (.cons (.var 1) .nil))) (.cons (.int 1) .nil))) (.tup (.cons (.int 1) (.cons (.call "whole_power" (.cons (.var 0) (.cons (.neg (.var 1)) .nil))) .nil))))) .nil)
noncomputable def f_power_of : Fn := mean t10 2 2 b_power_of
noncomputable def t11 : Tb := add "power_of" f_power_of t10
def n_many_in : List Str := ["p", "number", "found"]
def b_many_in : Ss := (.cons (.asg (.nm 2) (.int 0)) (.cons (.whl (.cmp .eq (.bop .mod (.var 1) (.var 0)) (.int 0)) (.cons (.par 1 2 (.bop .fdiv (.var 1) (.var 0)) (.bop .add (.var 2) (.int 1))) .nil)) (.cons (.ret (.var 2)) .nil)))
noncomputable def f_many_in : Fn := mean t11 2 3 b_many_in
noncomputable def t12 : Tb := add "many_in" f_many_in t11
def n_power_in : List Str := ["p", "one"]
def b_power_in : Ss := (.cons (.ite (.cmp .eq (.var 1) (.glo "NOTHING")) (.cons (.ret .non) .nil) .nil) (.cons (.ret (.bop .sub (.call "many_in" (.cons (.var 0) (.cons (.ix (.var 1) (.int 0)) .nil))) (.call "many_in" (.cons (.var 0) (.cons (.ix (.var 1) (.int 1)) .nil))))) .nil))
noncomputable def f_power_in : Fn := mean t12 2 2 b_power_in
noncomputable def t13 : Tb := add "power_in" f_power_in t12
def n_undone_by : List Str := ["number", "many", "ahead", "late", "by"]
def b_undone_by : Ss := (.cons (.par 2 3 (.tup (.cons (.var 1) (.cons (.int 0) .nil))) (.tup (.cons (.bop .mod (.var 0) (.var 1)) (.cons (.int 1) .nil)))) (.cons (.whl (.cmp .gt (.ix (.var 3) (.int 0)) (.int 1)) (.cons (.asg (.nm 4) (.bop .fdiv (.ix (.var 2) (.int 0)) (.ix (.var 3) (.int 0)))) (.cons (.par 2 3 (.var 3) (.tup (.cons (.bop .sub (.ix (.var 2) (.int 0)) (.bop .mul (.var 4) (.ix (.var 3) (.int 0)))) (.cons (.bop .sub (.ix (.var 2) (.int 1)) (.bop .mul (.var 4) (.ix (.var 3) (.int 1)))) .nil)))) .nil))) (.cons (.ret (.bop .mod (.ix (.var 3) (.int 1)) (.var 1))) .nil)))
noncomputable def f_undone_by : Fn := mean t13 2 5 b_undone_by
noncomputable def t14 : Tb := add "undone_by" f_undone_by t13
def n_rest_of : List Str := ["p", "one", "power", "out", "many", "whole", "bottom"]
def b_rest_of : Ss := (.cons (.asg (.nm 3) (.call "many_in" (.cons (.var 0) (.cons (.ix (.var 1) (.int 1)) .nil)))) (.cons (.asg (.nm 4) (.bop .add (.var 2) (.var 3))) (.cons (.ite (.cmp .le (.var 4) (.int 0)) (.cons (.ret (.glo "NOTHING")) .nil) .nil) (.cons (.par 5 6 (.call "whole_power" (.cons (.var 0) (.cons (.var 4) .nil))) (.bop .fdiv (.ix (.var 1) (.int 1)) (.call "whole_power" (.cons (.var 0) (.cons (.var 3) .nil))))) (.cons (.ret (.call "ratio_low" (.cons (.bop .mod (.bop .mul (.ix (.var 1) (.int 0)) (.call "undone_by" (.cons (.var 6) (.cons (.var 5) .nil)))) (.var 5)) (.cons (.call "whole_power" (.cons (.var 0) (.cons (.var 3) .nil))) .nil)))) .nil)))))
noncomputable def f_rest_of : Fn := mean t14 3 7 b_rest_of
noncomputable def t15 : Tb := add "rest_of" f_rest_of t14
def n_place_named : List Str := ["p", "depth", "one"]
def b_place_named : Ss := (.cons (.ret (.tup (.cons (.var 1) (.cons (.call "rest_of" (.cons (.var 0) (.cons (.var 2) (.cons (.var 1) .nil)))) .nil)))) .nil)
noncomputable def f_place_named : Fn := mean t15 3 3 b_place_named
noncomputable def t16 : Tb := add "place_named" f_place_named t15
def n_upward : List Str := ["p", "place", "depth"]
def b_upward : Ss := (.cons (.ret (.call "place_named" (.cons (.var 0) (.cons (.var 2) (.cons (.ix (.var 1) (.int 1)) .nil))))) .nil)
noncomputable def f_upward : Fn := mean t16 3 3 b_upward
noncomputable def t17 : Tb := add "upward" f_upward t16
def n_up_from : List Str := ["p", "place"]
def b_up_from : Ss := (.cons (.ret (.call "upward" (.cons (.var 0) (.cons (.var 1) (.cons (.bop .sub (.ix (.var 1) (.int 0)) (.int 1)) .nil))))) .nil)
noncomputable def f_up_from : Fn := mean t17 2 2 b_up_from
noncomputable def t18 : Tb := add "up_from" f_up_from t17
def n_next_places : List Str := ["p", "place", "depth", "rest", "found", "digit"]
def b_next_places : Ss := (.cons (.asg (.tp (.cons (.nm 2) (.cons (.nm 3) .nil))) (.var 1)) (.cons (.asg (.nm 4) (.lst true (.cons (.call "up_from" (.cons (.var 0) (.cons (.var 1) .nil))) .nil))) (.cons (.for_ (.nm 5) (.rng (.cons (.var 0) .nil)) (.cons (.app 4 (.tup (.cons (.bop .add (.var 2) (.int 1)) (.cons (.call "ratios_added" (.cons (.var 3) (.cons (.call "ratios_times" (.cons (.tup (.cons (.var 5) (.cons (.int 1) .nil))) (.cons (.call "power_of" (.cons (.var 0) (.cons (.var 2) .nil))) .nil))) .nil))) .nil)))) .nil)) (.cons (.ret (.bf .tuple (.cons (.var 4) .nil))) .nil))))
noncomputable def f_next_places : Fn := mean t18 2 6 b_next_places
noncomputable def t19 : Tb := add "next_places" f_next_places t18
def n_next_number : List Str := ["p", "place", "other", "late"]
def b_next_number : Ss := (.cons (.ite (.cmp .eq (.var 2) (.call "up_from" (.cons (.var 0) (.cons (.var 1) .nil)))) (.cons (.ret (.int 0)) .nil) .nil) (.cons (.ite (.or (.cmp .ne (.ix (.var 2) (.int 0)) (.bop .add (.ix (.var 1) (.int 0)) (.int 1))) (.cmp .ne (.call "up_from" (.cons (.var 0) (.cons (.var 2) .nil))) (.var 1))) (.cons (.ret .non) .nil) .nil) (.cons (.asg (.nm 3) (.call "ratios_over" (.cons (.call "ratios_less" (.cons (.ix (.var 2) (.int 1)) (.cons (.ix (.var 1) (.int 1)) .nil))) (.cons (.call "power_of" (.cons (.var 0) (.cons (.ix (.var 1) (.int 0)) .nil))) .nil)))) (.cons (.ret (.bop .add (.ix (.var 3) (.int 0)) (.int 1))) .nil))))
noncomputable def f_next_number : Fn := mean t19 3 4 b_next_number
noncomputable def t20 : Tb := add "next_number" f_next_number t19
def n_whole : List Str := ["number"]
def b_whole : Ss := (.cons (.ret (.tup (.cons (.var 0) (.cons (.int 1) .nil)))) .nil)
noncomputable def f_whole : Fn := mean t20 1 1 b_whole
noncomputable def t21 : Tb := add "whole" f_whole t20
def n_bottoms_of : List Str := ["p", "move", "place", "c", "d"]
def b_bottoms_of : Ss := (.cons (.par 3 4 (.call "whole" (.cons (.ix (.var 1) (.int 2)) .nil)) (.call "whole" (.cons (.ix (.var 1) (.int 3)) .nil))) (.cons (.ret (.tup (.cons (.call "ratios_times" (.cons (.var 3) (.cons (.call "power_of" (.cons (.var 0) (.cons (.ix (.var 2) (.int 0)) .nil))) .nil))) (.cons (.call "ratios_added" (.cons (.call "ratios_times" (.cons (.var 3) (.cons (.ix (.var 2) (.int 1)) .nil))) (.cons (.var 4) .nil))) .nil)))) .nil))
noncomputable def f_bottoms_of : Fn := mean t21 3 5 b_bottoms_of
noncomputable def t22 : Tb := add "bottoms_of" f_bottoms_of t21
def n_picture_of : List Str := ["p", "move", "place", "a", "b", "c", "d", "first", "second", "deep", "is_first", "top"]
def b_picture_of : Ss := (.cons (.asg (.tp (.cons (.nm 3) (.cons (.nm 4) (.cons (.nm 5) (.cons (.nm 6) .nil))))) (.var 1)) (.cons (.asg (.tp (.cons (.nm 7) (.cons (.nm 8) .nil))) (.call "bottoms_of" (.cons (.var 0) (.cons (.var 1) (.cons (.var 2) .nil))))) (.cons (.asg (.nm 9) (.call "power_in" (.cons (.var 0) (.cons (.call "whole" (.cons (.call "determinant" (.cons (.var 1) .nil)) .nil)) .nil)))) (.cons (.asg (.nm 10) (.or (.cmp .eq (.var 8) (.tup (.cons (.int 0) (.cons (.int 1) .nil)))) (.and (.cmp .ne (.var 7) (.tup (.cons (.int 0) (.cons (.int 1) .nil)))) (.cmp .lt (.call "power_in" (.cons (.var 0) (.cons (.var 7) .nil))) (.call "power_in" (.cons (.var 0) (.cons (.var 8) .nil))))))) (.cons (.ite (.val (.var 10)) (.cons (.ret (.call "place_named" (.cons (.var 0) (.cons (.bop .sub (.bop .sub (.var 9) (.bop .mul (.int 2) (.call "power_in" (.cons (.var 0) (.cons (.call "whole" (.cons (.var 5) .nil)) .nil))))) (.ix (.var 2) (.int 0))) (.cons (.call "ratio_low" (.cons (.var 3) (.cons (.var 5) .nil))) .nil))))) .nil) .nil) (.cons (.asg (.nm 11) (.call "ratios_added" (.cons (.call "ratios_times" (.cons (.call "whole" (.cons (.var 3) .nil)) (.cons (.ix (.var 2) (.int 1)) .nil))) (.cons (.call "whole" (.cons (.var 4) .nil)) .nil)))) (.cons (.ret (.call "place_named" (.cons (.var 0) (.cons (.bop .sub (.bop .add (.ix (.var 2) (.int 0)) (.var 9)) (.bop .mul (.int 2) (.call "power_in" (.cons (.var 0) (.cons (.var 8) .nil))))) (.cons (.call "ratios_over" (.cons (.var 11) (.cons (.var 8) .nil))) .nil))))) .nil)))))))
noncomputable def f_picture_of : Fn := mean t22 3 12 b_picture_of
noncomputable def t23 : Tb := add "picture_of" f_picture_of t22
def n_meeting : List Str := ["p", "one", "other", "least", "often"]
def b_meeting : Ss := (.cons (.asg (.nm 3) (.bf .min2 (.cons (.ix (.var 1) (.int 0)) (.cons (.ix (.var 2) (.int 0)) .nil)))) (.cons (.asg (.nm 4) (.call "power_in" (.cons (.var 0) (.cons (.call "ratios_less" (.cons (.ix (.var 1) (.int 1)) (.cons (.ix (.var 2) (.int 1)) .nil))) .nil)))) (.cons (.ret (.ife (.cmp .is (.var 4) .non) (.var 3) (.bf .min2 (.cons (.var 3) (.cons (.var 4) .nil))))) .nil)))
noncomputable def f_meeting : Fn := mean t23 3 5 b_meeting
noncomputable def t24 : Tb := add "meeting" f_meeting t23
def n_steps_between : List Str := ["p", "one", "other"]
def b_steps_between : Ss := (.cons (.ret (.bop .sub (.bop .add (.ix (.var 1) (.int 0)) (.ix (.var 2) (.int 0))) (.bop .mul (.int 2) (.call "meeting" (.cons (.var 0) (.cons (.var 1) (.cons (.var 2) .nil))))))) .nil)
noncomputable def f_steps_between : Fn := mean t24 3 3 b_steps_between
noncomputable def t25 : Tb := add "steps_between" f_steps_between t24
def n_place_along : List Str := ["p", "one", "other", "many", "depth"]
def b_place_along : Ss := (.cons (.asg (.nm 4) (.call "meeting" (.cons (.var 0) (.cons (.var 1) (.cons (.var 2) .nil))))) (.cons (.ite (.cmp .le (.var 3) (.bop .sub (.ix (.var 1) (.int 0)) (.var 4))) (.cons (.ret (.call "upward" (.cons (.var 0) (.cons (.var 1) (.cons (.bop .sub (.ix (.var 1) (.int 0)) (.var 3)) .nil))))) .nil) .nil) (.cons (.ret (.call "upward" (.cons (.var 0) (.cons (.var 2) (.cons (.bop .sub (.bop .add (.var 4) (.var 3)) (.bop .sub (.ix (.var 1) (.int 0)) (.var 4))) .nil))))) .nil)))
noncomputable def f_place_along : Fn := mean t25 4 5 b_place_along
noncomputable def t26 : Tb := add "place_along" f_place_along t25
def n_way_between : List Str := ["p", "one", "other", "many", "k"]
def b_way_between : Ss := (.cons (.asg (.nm 3) (.call "steps_between" (.cons (.var 0) (.cons (.var 1) (.cons (.var 2) .nil))))) (.cons (.ite (.cmp .gt (.var 3) (.glo "MOST_STEPS")) (.cons .nev .nil) .nil) (.cons (.ret (.bf .tuple (.cons (.lc false (.call "place_along" (.cons (.var 0) (.cons (.var 1) (.cons (.var 2) (.cons (.var 4) .nil))))) [("k", 4)] (.nm 4) (.rng (.cons (.bop .add (.var 3) (.int 1)) .nil)) .tt) .nil))) .nil)))
noncomputable def f_way_between : Fn := mean t26 3 5 b_way_between
noncomputable def t27 : Tb := add "way_between" f_way_between t26
def n__law_pick : List Str := ["source", "many", "left", "mixed"]
def b__law_pick : Ss := (.cons (.whl (.and (.cmp .gt (.var 1) (.int 1)) (.and (.cmp .lt (.sget 0 .left) (.int 2)) (.cmp .gt (.slen 0) (.int 0)))) (.cons (.sset 0 .left (.spop 0)) .nil)) (.cons (.asg (.nm 2) (.sget 0 .left)) (.cons (.ite (.or (.cmp .lt (.var 1) (.int 2)) (.cmp .gt (.var 2) (.int 1))) (.cons (.sset 0 .left (.bop .fdiv (.var 2) (.bf .max2 (.cons (.int 1) (.cons (.var 1) .nil))))) (.cons (.ret (.bop .mod (.bf .int (.cons (.var 2) .nil)) (.bf .max2 (.cons (.int 1) (.cons (.var 1) .nil))))) .nil)) .nil) (.cons (.sset 0 .turn (.bop .add (.sget 0 .turn) (.int 1))) (.cons (.asg (.nm 3) (.bop .mod (.bf .int (.cons (.bop .add (.sget 0 .mixed) (.bop .mul (.sget 0 .turn) (.int 104729))) .nil)) (.int 998244353))) (.cons (.asg (.nm 3) (.bop .mod (.bf .int (.cons (.bop .add (.bop .mul (.var 3) (.var 3)) (.bop .mul (.sget 0 .turn) (.int 17))) .nil)) (.int 2147483647))) (.cons (.sset 0 .mixed (.var 3)) (.cons (.ret (.bop .mod (.bf .int (.cons (.bop .fdiv (.var 3) (.int 16)) .nil)) (.var 1))) .nil))))))))
noncomputable def f__law_pick : Fn := mean t27 2 4 b__law_pick
noncomputable def t28 : Tb := add "_law_pick" f__law_pick t27
def n__law_of : List Str := ["source", "some"]
def b__law_of : Ss := (.cons (.ret (.ix (.var 1) (.call "_law_pick" (.cons (.var 0) (.cons (.bf .len (.cons (.var 1) .nil)) .nil))))) .nil)
noncomputable def f__law_of : Fn := mean t28 2 2 b__law_of
noncomputable def t29 : Tb := add "_law_of" f__law_of t28
def n__law_frac : List Str := ["top", "bottom", "one", "other", "sign"]
def b__law_frac : Ss := (.cons (.par 2 3 (.bf .abs (.cons (.var 1) .nil)) (.bf .abs (.cons (.var 0) .nil))) (.cons (.whl (.cmp .gt (.var 3) (.int 0)) (.cons (.par 2 3 (.var 3) (.bop .mod (.bf .int (.cons (.var 2) .nil)) (.var 3))) .nil)) (.cons (.asg (.nm 4) (.ife (.cmp .gt (.var 1) (.int 0)) (.int 1) (.neg (.int 1)))) (.cons (.ret (.tup (.cons (.bop .fdiv (.bop .mul (.var 4) (.var 0)) (.var 2)) (.cons (.bop .fdiv (.bf .abs (.cons (.var 1) .nil)) (.var 2)) .nil)))) .nil))))
noncomputable def f__law_frac : Fn := mean t29 2 5 b__law_frac
noncomputable def t30 : Tb := add "_law_frac" f__law_frac t29
def n__law_plus : List Str := ["one", "other"]
def b__law_plus : Ss := (.cons (.ret (.call "_law_frac" (.cons (.bop .add (.bop .mul (.ix (.var 0) (.int 0)) (.ix (.var 1) (.int 1))) (.bop .mul (.ix (.var 1) (.int 0)) (.ix (.var 0) (.int 1)))) (.cons (.bop .mul (.ix (.var 0) (.int 1)) (.ix (.var 1) (.int 1))) .nil)))) .nil)
noncomputable def f__law_plus : Fn := mean t30 2 2 b__law_plus
noncomputable def t31 : Tb := add "_law_plus" f__law_plus t30
def n__law_less : List Str := ["one", "other"]
def b__law_less : Ss := (.cons (.ret (.call "_law_frac" (.cons (.bop .sub (.bop .mul (.ix (.var 0) (.int 0)) (.ix (.var 1) (.int 1))) (.bop .mul (.ix (.var 1) (.int 0)) (.ix (.var 0) (.int 1)))) (.cons (.bop .mul (.ix (.var 0) (.int 1)) (.ix (.var 1) (.int 1))) .nil)))) .nil)
noncomputable def f__law_less : Fn := mean t31 2 2 b__law_less
noncomputable def t32 : Tb := add "_law_less" f__law_less t31
def n__law_times : List Str := ["one", "other"]
def b__law_times : Ss := (.cons (.ret (.call "_law_frac" (.cons (.bop .mul (.ix (.var 0) (.int 0)) (.ix (.var 1) (.int 0))) (.cons (.bop .mul (.ix (.var 0) (.int 1)) (.ix (.var 1) (.int 1))) .nil)))) .nil)
noncomputable def f__law_times : Fn := mean t32 2 2 b__law_times
noncomputable def t33 : Tb := add "_law_times" f__law_times t32
def n__law_often : List Str := ["p", "number", "many"]
def b__law_often : Ss := (.cons (.asg (.nm 2) (.int 0)) (.cons (.whl (.cmp .eq (.bop .mod (.bf .int (.cons (.var 1) .nil)) (.var 0)) (.int 0)) (.cons (.par 1 2 (.bop .fdiv (.var 1) (.var 0)) (.bop .add (.var 2) (.int 1))) .nil)) (.cons (.ret (.var 2)) .nil)))
noncomputable def f__law_often : Fn := mean t33 2 3 b__law_often
noncomputable def t34 : Tb := add "_law_often" f__law_often t33
def n__law_in : List Str := ["p", "one"]
def b__law_in : Ss := (.cons (.ret (.ife (.cmp .ne (.ix (.var 1) (.int 0)) (.int 0)) (.bop .sub (.call "_law_often" (.cons (.var 0) (.cons (.ix (.var 1) (.int 0)) .nil))) (.call "_law_often" (.cons (.var 0) (.cons (.ix (.var 1) (.int 1)) .nil)))) .non)) .nil)
noncomputable def f__law_in : Fn := mean t34 2 2 b__law_in
noncomputable def t35 : Tb := add "_law_in" f__law_in t34
def n__law_power : List Str := ["p", "power", "found", "lap"]
def b__law_power : Ss := (.cons (.asg (.nm 2) (.int 1)) (.cons (.for_ (.nm 3) (.rng (.cons (.bf .abs (.cons (.var 1) .nil)) .nil)) (.cons (.asg (.nm 2) (.bop .mul (.var 2) (.var 0))) .nil)) (.cons (.ret (.ife (.cmp .ge (.var 1) (.int 0)) (.tup (.cons (.var 2) (.cons (.int 1) .nil))) (.tup (.cons (.int 1) (.cons (.var 2) .nil))))) .nil)))
noncomputable def f__law_power : Fn := mean t35 2 4 b__law_power
noncomputable def t36 : Tb := add "_law_power" f__law_power t35
def n__law_rest : List Str := ["p", "one", "power", "out", "found", "unit", "bottom", "lap", "d"]
def b__law_rest : Ss := (.cons (.asg (.tp (.cons (.nm 3) (.cons (.nm 4) (.cons (.nm 5) .nil)))) (.tup (.cons (.call "_law_often" (.cons (.var 0) (.cons (.ix (.var 1) (.int 1)) .nil))) (.cons (.int 0) (.cons (.int 1) .nil))))) (.cons (.asg (.nm 6) (.bop .fdiv (.ix (.var 1) (.int 1)) (.ix (.call "_law_power" (.cons (.var 0) (.cons (.var 3) .nil))) (.int 0)))) (.cons (.for_ (.nm 7) (.rng (.cons (.bf .max2 (.cons (.int 0) (.cons (.bop .add (.var 2) (.var 3)) .nil))) .nil)) (.cons (.asg (.nm 4) (.ix (.lc false (.bop .add (.var 4) (.bop .mul (.var 8) (.var 5))) [("d", 8)] (.nm 8) (.rng (.cons (.var 0) .nil)) (.cmp .eq (.bop .mod (.bf .int (.cons (.bop .sub (.bop .mul (.bop .add (.var 4) (.bop .mul (.var 8) (.var 5))) (.var 6)) (.ix (.var 1) (.int 0))) .nil)) (.bop .mul (.var 5) (.var 0))) (.int 0))) (.int 0))) (.cons (.asg (.nm 5) (.bop .mul (.var 5) (.var 0))) .nil))) (.cons (.ret (.call "_law_frac" (.cons (.var 4) (.cons (.ix (.call "_law_power" (.cons (.var 0) (.cons (.var 3) .nil))) (.int 0)) .nil)))) .nil))))
noncomputable def f__law_rest : Fn := mean t36 3 9 b__law_rest
noncomputable def t37 : Tb := add "_law_rest" f__law_rest t36
def n__law_place : List Str := ["p", "depth", "one"]
def b__law_place : Ss := (.cons (.ret (.tup (.cons (.var 1) (.cons (.call "_law_rest" (.cons (.var 0) (.cons (.var 2) (.cons (.var 1) .nil)))) .nil)))) .nil)
noncomputable def f__law_place : Fn := mean t37 3 3 b__law_place
noncomputable def t38 : Tb := add "_law_place" f__law_place t37
def n__law_up : List Str := ["p", "place"]
def b__law_up : Ss := (.cons (.ret (.call "_law_place" (.cons (.var 0) (.cons (.bop .sub (.ix (.var 1) (.int 0)) (.int 1)) (.cons (.ix (.var 1) (.int 1)) .nil))))) .nil)
noncomputable def f__law_up : Fn := mean t38 2 2 b__law_up
noncomputable def t39 : Tb := add "_law_up" f__law_up t38
def n__law_way : List Str := ["p", "one", "other", "ahead", "behind"]
def b__law_way : Ss := (.cons (.par 3 4 (.lst true (.cons (.var 1) .nil)) (.lst true (.cons (.var 2) .nil))) (.cons (.whl (.cmp .ne (.ix (.var 3) (.neg (.int 1))) (.ix (.var 4) (.neg (.int 1)))) (.cons (.ite (.cmp .ge (.ix (.ix (.var 3) (.neg (.int 1))) (.int 0)) (.ix (.ix (.var 4) (.neg (.int 1))) (.int 0))) (.cons (.app 3 (.call "_law_up" (.cons (.var 0) (.cons (.ix (.var 3) (.neg (.int 1))) .nil)))) .nil) (.cons (.app 4 (.call "_law_up" (.cons (.var 0) (.cons (.ix (.var 4) (.neg (.int 1))) .nil)))) .nil)) .nil)) (.cons (.ret (.bf .tuple (.cons (.bop .add (.var 3) (.rev (.sl (.var 4) .no (.so (.neg (.int 1)))))) .nil))) .nil)))
noncomputable def f__law_way : Fn := mean t39 3 5 b__law_way
noncomputable def t40 : Tb := add "_law_way" f__law_way t39
def n__law_fraction : List Str := ["source", "p", "bottom"]
def b__law_fraction : Ss := (.cons (.asg (.nm 2) (.call "_law_of" (.cons (.var 0) (.cons (.lst false (.cons (.int 1) (.cons (.int 1) (.cons (.int 2) (.cons (.int 3) (.cons (.int 7) (.cons (.var 1) (.cons (.bop .mul (.var 1) (.var 1)) (.cons (.bop .mul (.int 5) (.var 1)) .nil))))))))) .nil)))) (.cons (.ret (.call "_law_frac" (.cons (.bop .sub (.call "_law_pick" (.cons (.var 0) (.cons (.int 121) .nil))) (.int 60)) (.cons (.var 2) .nil)))) .nil))
noncomputable def f__law_fraction : Fn := mean t40 2 3 b__law_fraction
noncomputable def t41 : Tb := add "_law_fraction" f__law_fraction t40
def n__law_drawn_place : List Str := ["source", "p"]
def b__law_drawn_place : Ss := (.cons (.ret (.call "_law_place" (.cons (.var 1) (.cons (.bop .sub (.call "_law_pick" (.cons (.var 0) (.cons (.int 9) .nil))) (.int 3)) (.cons (.call "_law_fraction" (.cons (.var 0) (.cons (.var 1) .nil))) .nil))))) .nil)
noncomputable def f__law_drawn_place : Fn := mean t41 2 2 b__law_drawn_place
noncomputable def t42 : Tb := add "_law_drawn_place" f__law_drawn_place t41
def n__law_numbers : List Str := ["source", "p", "way", "some", "k"]
def b__law_numbers : Ss := (.cons (.par 2 3 (.call "_law_pick" (.cons (.var 0) (.cons (.int 4) .nil))) (.lc false (.bop .sub (.call "_law_pick" (.cons (.var 0) (.cons (.int 13) .nil))) (.int 6)) [("k", 4)] (.nm 4) (.rng (.cons (.int 4) .nil)) .tt)) (.cons (.ite (.cmp .eq (.var 2) (.int 0)) (.cons (.asg (.nm 3) (.lst false (.cons (.int 0) (.cons (.var 1) (.cons (.int 1) (.cons (.int 0) .nil)))))) .nil) .nil) (.cons (.ite (.cmp .eq (.var 2) (.int 1)) (.cons (.asg (.nm 3) (.lst false (.cons (.ix (.call "_law_power" (.cons (.var 1) (.cons (.bop .add (.int 1) (.call "_law_pick" (.cons (.var 0) (.cons (.int 3) .nil)))) .nil))) (.int 0)) (.cons (.ix (.var 3) (.int 1)) (.cons (.int 0) (.cons (.bop .add (.int 1) (.call "_law_pick" (.cons (.var 0) (.cons (.int 4) .nil)))) .nil)))))) .nil) .nil) (.cons (.ret (.ife (.cmp .ne (.bop .mul (.ix (.var 3) (.int 0)) (.ix (.var 3) (.int 3))) (.bop .mul (.ix (.var 3) (.int 1)) (.ix (.var 3) (.int 2)))) (.var 3) (.lst false (.cons (.int 1) (.cons (.ix (.var 3) (.int 1)) (.cons (.int 0) (.cons (.bop .add (.int 1) (.bf .abs (.cons (.ix (.var 3) (.int 3)) .nil))) .nil))))))) .nil))))
noncomputable def f__law_numbers : Fn := mean t42 2 5 b__law_numbers
noncomputable def t43 : Tb := add "_law_numbers" f__law_numbers t42
def n__law_put : List Str := ["move", "x", "above", "below"]
def b__law_put : Ss := (.cons (.par 2 3 (.bop .add (.bop .mul (.ix (.var 0) (.int 0)) (.ix (.var 1) (.int 0))) (.bop .mul (.ix (.var 0) (.int 1)) (.ix (.var 1) (.int 1)))) (.bop .add (.bop .mul (.ix (.var 0) (.int 2)) (.ix (.var 1) (.int 0))) (.bop .mul (.ix (.var 0) (.int 3)) (.ix (.var 1) (.int 1))))) (.cons (.ret (.ife (.cmp .ne (.var 3) (.int 0)) (.call "_law_frac" (.cons (.var 2) (.cons (.var 3) .nil))) .non)) .nil))
noncomputable def f__law_put : Fn := mean t43 2 4 b__law_put
noncomputable def t44 : Tb := add "_law_put" f__law_put t43
def n__law_put_far : List Str := ["move"]
def b__law_put_far : Ss := (.cons (.ret (.ife (.cmp .ne (.ix (.var 0) (.int 2)) (.int 0)) (.call "_law_frac" (.cons (.ix (.var 0) (.int 0)) (.cons (.ix (.var 0) (.int 2)) .nil))) .non)) .nil)
noncomputable def f__law_put_far : Fn := mean t44 1 1 b__law_put_far
noncomputable def t45 : Tb := add "_law_put_far" f__law_put_far t44
def n__law_middle : List Str := ["p", "ends", "some", "end", "deep", "k", "j"]
def b__law_middle : Ss := (.cons (.asg (.nm 2) (.lc false (.var 3) [("end", 3)] (.nm 3) (.seq (.var 1)) (.cmp .isnt (.var 3) .non))) (.cons (.ite (.cmp .eq (.bf .len (.cons (.var 2) .nil)) (.int 2)) (.cons (.ret (.call "_law_place" (.cons (.var 0) (.cons (.call "_law_in" (.cons (.var 0) (.cons (.call "_law_less" (.cons (.ix (.var 2) (.int 0)) (.cons (.ix (.var 2) (.int 1)) .nil))) .nil))) (.cons (.ix (.var 2) (.int 0)) .nil))))) .nil) .nil) (.cons (.asg (.nm 4) (.lc false (.call "_law_in" (.cons (.var 0) (.cons (.call "_law_less" (.cons (.ix (.var 2) (.var 5)) (.cons (.ix (.var 2) (.var 6)) .nil))) .nil))) [("k", 5), ("j", 6)] (.tp (.cons (.nm 5) (.cons (.nm 6) .nil))) (.seq (.tup (.cons (.tup (.cons (.int 0) (.cons (.int 1) .nil))) (.cons (.tup (.cons (.int 0) (.cons (.int 2) .nil))) (.cons (.tup (.cons (.int 1) (.cons (.int 2) .nil))) .nil))))) .tt)) (.cons (.asg (.nm 5) (.idx (.var 4) (.bf .max1 (.cons (.var 4) .nil)))) (.cons (.ret (.call "_law_place" (.cons (.var 0) (.cons (.ix (.var 4) (.var 5)) (.cons (.ix (.var 2) (.ix (.lst false (.cons (.int 0) (.cons (.int 0) (.cons (.int 1) .nil)))) (.var 5))) .nil))))) .nil)))))
noncomputable def f__law_middle : Fn := mean t45 2 7 b__law_middle
noncomputable def t46 : Tb := add "_law_middle" f__law_middle t45
def n__law_picture : List Str := ["p", "move", "place", "unit", "found", "k", "x"]
def b__law_picture : Ss := (.cons (.par 3 4 (.call "_law_power" (.cons (.var 0) (.cons (.ix (.var 2) (.int 0)) .nil))) (.lst true .nil)) (.cons (.for_ (.nm 5) (.rng (.cons (.int 2) .nil)) (.cons (.asg (.nm 6) (.call "_law_plus" (.cons (.ix (.var 2) (.int 1)) (.cons (.call "_law_times" (.cons (.tup (.cons (.var 5) (.cons (.int 1) .nil))) (.cons (.var 3) .nil))) .nil)))) (.cons (.app 4 (.call "_law_put" (.cons (.var 1) (.cons (.var 6) .nil)))) .nil))) (.cons (.ret (.call "_law_middle" (.cons (.var 0) (.cons (.bop .add (.var 4) (.lst false (.cons (.call "_law_put_far" (.cons (.var 1) .nil)) .nil))) .nil)))) .nil)))
noncomputable def f__law_picture : Fn := mean t46 3 7 b__law_picture
noncomputable def t47 : Tb := add "_law_picture" f__law_picture t46
@[simp] theorem l1_gcd : t1 "gcd" = gcdF := by kernel_rfl
@[simp] theorem l2_move_of : t2 "move_of" = f_move_of := by kernel_rfl
@[simp] theorem l3_move_of : t3 "move_of" = f_move_of := by kernel_rfl
@[simp] theorem l4_gcd : t4 "gcd" = gcdF := by kernel_rfl
@[simp] theorem l5_ratio_low : t5 "ratio_low" = f_ratio_low := by kernel_rfl
@[simp] theorem l6_ratio_low : t6 "ratio_low" = f_ratio_low := by kernel_rfl
@[simp] theorem l7_ratio_low : t7 "ratio_low" = f_ratio_low := by kernel_rfl
@[simp] theorem l8_ratio_low : t8 "ratio_low" = f_ratio_low := by kernel_rfl
@[simp] theorem l10_whole_power : t10 "whole_power" = f_whole_power := by kernel_rfl
@[simp] theorem l12_NOTHING : t12 "NOTHING" = conF (.tuple [(.int (0)), (.int (1))]) := by kernel_rfl
@[simp] theorem l12_many_in : t12 "many_in" = f_many_in := by kernel_rfl
@[simp] theorem l14_many_in : t14 "many_in" = f_many_in := by kernel_rfl
@[simp] theorem l14_NOTHING : t14 "NOTHING" = conF (.tuple [(.int (0)), (.int (1))]) := by kernel_rfl
@[simp] theorem l14_whole_power : t14 "whole_power" = f_whole_power := by kernel_rfl
@[simp] theorem l14_ratio_low : t14 "ratio_low" = f_ratio_low := by kernel_rfl
@[simp] theorem l14_undone_by : t14 "undone_by" = f_undone_by := by kernel_rfl
@[simp] theorem l15_rest_of : t15 "rest_of" = f_rest_of := by kernel_rfl
@[simp] theorem l16_place_named : t16 "place_named" = f_place_named := by kernel_rfl
@[simp] theorem l17_upward : t17 "upward" = f_upward := by kernel_rfl
@[simp] theorem l18_up_from : t18 "up_from" = f_up_from := by kernel_rfl
@[simp] theorem l18_ratios_added : t18 "ratios_added" = f_ratios_added := by kernel_rfl
@[simp] theorem l18_ratios_times : t18 "ratios_times" = f_ratios_times := by kernel_rfl
@[simp] theorem l18_power_of : t18 "power_of" = f_power_of := by kernel_rfl
@[simp] theorem l19_up_from : t19 "up_from" = f_up_from := by kernel_rfl
@[simp] theorem l19_ratios_over : t19 "ratios_over" = f_ratios_over := by kernel_rfl
@[simp] theorem l19_ratios_less : t19 "ratios_less" = f_ratios_less := by kernel_rfl
@[simp] theorem l19_power_of : t19 "power_of" = f_power_of := by kernel_rfl
@[simp] theorem l21_whole : t21 "whole" = f_whole := by kernel_rfl
@[simp] theorem l21_ratios_times : t21 "ratios_times" = f_ratios_times := by kernel_rfl
@[simp] theorem l21_power_of : t21 "power_of" = f_power_of := by kernel_rfl
@[simp] theorem l21_ratios_added : t21 "ratios_added" = f_ratios_added := by kernel_rfl
@[simp] theorem l22_bottoms_of : t22 "bottoms_of" = f_bottoms_of := by kernel_rfl
@[simp] theorem l22_power_in : t22 "power_in" = f_power_in := by kernel_rfl
@[simp] theorem l22_whole : t22 "whole" = f_whole := by kernel_rfl
@[simp] theorem l22_determinant : t22 "determinant" = f_determinant := by kernel_rfl
@[simp] theorem l22_place_named : t22 "place_named" = f_place_named := by kernel_rfl
@[simp] theorem l22_ratio_low : t22 "ratio_low" = f_ratio_low := by kernel_rfl
@[simp] theorem l22_ratios_added : t22 "ratios_added" = f_ratios_added := by kernel_rfl
@[simp] theorem l22_ratios_times : t22 "ratios_times" = f_ratios_times := by kernel_rfl
@[simp] theorem l22_ratios_over : t22 "ratios_over" = f_ratios_over := by kernel_rfl
@[simp] theorem l23_power_in : t23 "power_in" = f_power_in := by kernel_rfl
@[simp] theorem l23_ratios_less : t23 "ratios_less" = f_ratios_less := by kernel_rfl
@[simp] theorem l24_meeting : t24 "meeting" = f_meeting := by kernel_rfl
@[simp] theorem l25_meeting : t25 "meeting" = f_meeting := by kernel_rfl
@[simp] theorem l25_upward : t25 "upward" = f_upward := by kernel_rfl
@[simp] theorem l26_steps_between : t26 "steps_between" = f_steps_between := by kernel_rfl
@[simp] theorem l26_MOST_STEPS : t26 "MOST_STEPS" = conF (.int (400)) := by kernel_rfl
@[simp] theorem l26_place_along : t26 "place_along" = f_place_along := by kernel_rfl
@[simp] theorem l28__law_pick : t28 "_law_pick" = f__law_pick := by kernel_rfl
@[simp] theorem l30__law_frac : t30 "_law_frac" = f__law_frac := by kernel_rfl
@[simp] theorem l31__law_frac : t31 "_law_frac" = f__law_frac := by kernel_rfl
@[simp] theorem l32__law_frac : t32 "_law_frac" = f__law_frac := by kernel_rfl
@[simp] theorem l34__law_often : t34 "_law_often" = f__law_often := by kernel_rfl
@[simp] theorem l36__law_often : t36 "_law_often" = f__law_often := by kernel_rfl
@[simp] theorem l36__law_power : t36 "_law_power" = f__law_power := by kernel_rfl
@[simp] theorem l36__law_frac : t36 "_law_frac" = f__law_frac := by kernel_rfl
@[simp] theorem l37__law_rest : t37 "_law_rest" = f__law_rest := by kernel_rfl
@[simp] theorem l38__law_place : t38 "_law_place" = f__law_place := by kernel_rfl
@[simp] theorem l39__law_up : t39 "_law_up" = f__law_up := by kernel_rfl
@[simp] theorem l40__law_of : t40 "_law_of" = f__law_of := by kernel_rfl
@[simp] theorem l40__law_frac : t40 "_law_frac" = f__law_frac := by kernel_rfl
@[simp] theorem l40__law_pick : t40 "_law_pick" = f__law_pick := by kernel_rfl
@[simp] theorem l41__law_place : t41 "_law_place" = f__law_place := by kernel_rfl
@[simp] theorem l41__law_pick : t41 "_law_pick" = f__law_pick := by kernel_rfl
@[simp] theorem l41__law_fraction : t41 "_law_fraction" = f__law_fraction := by kernel_rfl
@[simp] theorem l42__law_pick : t42 "_law_pick" = f__law_pick := by kernel_rfl
@[simp] theorem l42__law_power : t42 "_law_power" = f__law_power := by kernel_rfl
@[simp] theorem l43__law_frac : t43 "_law_frac" = f__law_frac := by kernel_rfl
@[simp] theorem l44__law_frac : t44 "_law_frac" = f__law_frac := by kernel_rfl
@[simp] theorem l45__law_place : t45 "_law_place" = f__law_place := by kernel_rfl
@[simp] theorem l45__law_in : t45 "_law_in" = f__law_in := by kernel_rfl
@[simp] theorem l45__law_less : t45 "_law_less" = f__law_less := by kernel_rfl
@[simp] theorem l46__law_power : t46 "_law_power" = f__law_power := by kernel_rfl
@[simp] theorem l46__law_plus : t46 "_law_plus" = f__law_plus := by kernel_rfl
@[simp] theorem l46__law_times : t46 "_law_times" = f__law_times := by kernel_rfl
@[simp] theorem l46__law_put : t46 "_law_put" = f__law_put := by kernel_rfl
@[simp] theorem l46__law_middle : t46 "_law_middle" = f__law_middle := by kernel_rfl
@[simp] theorem l46__law_put_far : t46 "_law_put_far" = f__law_put_far := by kernel_rfl
@[simp] theorem l47__law_of : t47 "_law_of" = f__law_of := by kernel_rfl
@[simp] theorem l47_move_of : t47 "move_of" = f_move_of := by kernel_rfl
@[simp] theorem l47__law_numbers : t47 "_law_numbers" = f__law_numbers := by kernel_rfl
@[simp] theorem l47__law_drawn_place : t47 "_law_drawn_place" = f__law_drawn_place := by kernel_rfl
@[simp] theorem l47_place_named : t47 "place_named" = f_place_named := by kernel_rfl
@[simp] theorem l47_picture_of : t47 "picture_of" = f_picture_of := by kernel_rfl
@[simp] theorem l47__law_picture : t47 "_law_picture" = f__law_picture := by kernel_rfl
@[simp] theorem l47_move_undone : t47 "move_undone" = f_move_undone := by kernel_rfl
@[simp] theorem l47_rest_of : t47 "rest_of" = f_rest_of := by kernel_rfl
@[simp] theorem l47_next_places : t47 "next_places" = f_next_places := by kernel_rfl
@[simp] theorem l47_next_number : t47 "next_number" = f_next_number := by kernel_rfl
@[simp] theorem l47_steps_between : t47 "steps_between" = f_steps_between := by kernel_rfl
@[simp] theorem l47_way_between : t47 "way_between" = f_way_between := by kernel_rfl
@[simp] theorem l47__law_way : t47 "_law_way" = f__law_way := by kernel_rfl
@[simp] theorem l47_moves_behind : t47 "moves_behind" = f_moves_behind := by kernel_rfl
def n_law : List Str := ["script", "source", "lap", "p", "there", "near", "other", "late", "way", "more", "move", "place", "one"]
def b_law : Ss := (.cons (.for_ (.nm 2) (.rng (.cons (.int 3) .nil)) (.cons (.asg (.nm 3) (.call "_law_of" (.cons (.var 1) (.cons (.lst false (.cons (.int 2) (.cons (.int 3) (.cons (.int 5) (.cons (.int 7) .nil))))) .nil)))) (.cons (.asg (.tp (.cons (.nm 10) (.cons (.nm 11) .nil))) (.tup (.cons (.call "move_of" (.cons (.bf .tuple (.cons (.call "_law_numbers" (.cons (.var 1) (.cons (.var 3) .nil))) .nil)) .nil)) (.cons (.call "_law_drawn_place" (.cons (.var 1) (.cons (.var 3) .nil))) .nil)))) (.cons (.ite (.cmp .ne (.bf .repr (.cons (.call "place_named" (.cons (.var 3) (.cons (.ix (.var 11) (.int 0)) (.cons (.ix (.var 11) (.int 1)) .nil)))) .nil)) (.bf .repr (.cons (.var 11) .nil))) (.cons (.ret (.bl false)) .nil) .nil) (.cons (.asg (.nm 4) (.call "picture_of" (.cons (.var 3) (.cons (.var 10) (.cons (.var 11) .nil))))) (.cons (.ite (.or (.cmp .ne (.bf .repr (.cons (.var 4) .nil)) (.bf .repr (.cons (.call "_law_picture" (.cons (.var 3) (.cons (.var 10) (.cons (.var 11) .nil)))) .nil))) (.cmp .ne (.call "picture_of" (.cons (.var 3) (.cons (.call "move_undone" (.cons (.var 10) .nil)) (.cons (.var 4) .nil)))) (.var 11))) (.cons (.ret (.bl false)) .nil) .nil) (.cons (.ite (.cmp .ne (.call "rest_of" (.cons (.var 3) (.cons (.ix (.var 4) (.int 1)) (.cons (.ix (.var 4) (.int 0)) .nil)))) (.ix (.var 4) (.int 1))) (.cons (.ret (.bl false)) .nil) .nil) (.cons (.asg (.nm 5) (.lc false (.call "picture_of" (.cons (.var 3) (.cons (.var 10) (.cons (.var 12) .nil)))) [("one", 12)] (.nm 12) (.seq (.call "next_places" (.cons (.var 3) (.cons (.var 11) .nil)))) .tt)) (.cons (.ite (.cmp .ne (.bf .sorted (.cons (.lc false (.call "next_number" (.cons (.var 3) (.cons (.var 4) (.cons (.var 12) .nil)))) [("one", 12)] (.nm 12) (.seq (.var 5)) .tt) .nil)) (.lrng1 false (.bop .add (.var 3) (.int 1)))) (.cons (.ret (.bl false)) .nil) .nil) (.cons (.asg (.nm 6) (.call "_law_drawn_place" (.cons (.var 1) (.cons (.var 3) .nil)))) (.cons (.asg (.nm 7) (.call "picture_of" (.cons (.var 3) (.cons (.var 10) (.cons (.var 6) .nil))))) (.cons (.ite (.cmp .ne (.call "steps_between" (.cons (.var 3) (.cons (.var 11) (.cons (.var 6) .nil)))) (.call "steps_between" (.cons (.var 3) (.cons (.var 4) (.cons (.var 7) .nil))))) (.cons (.ret (.bl false)) .nil) .nil) (.cons (.asg (.nm 8) (.lc false (.call "picture_of" (.cons (.var 3) (.cons (.var 10) (.cons (.var 12) .nil)))) [("one", 12)] (.nm 12) (.seq (.call "way_between" (.cons (.var 3) (.cons (.var 11) (.cons (.var 6) .nil))))) .tt)) (.cons (.ite (.or (.cmp .ne (.bf .repr (.cons (.bf .tuple (.cons (.var 8) .nil)) .nil)) (.bf .repr (.cons (.call "way_between" (.cons (.var 3) (.cons (.var 4) (.cons (.var 7) .nil)))) .nil))) (.cmp .ne (.bf .repr (.cons (.bf .tuple (.cons (.var 8) .nil)) .nil)) (.bf .repr (.cons (.call "_law_way" (.cons (.var 3) (.cons (.var 4) (.cons (.var 7) .nil)))) .nil)))) (.cons (.ret (.bl false)) .nil) .nil) (.cons (.asg (.nm 9) (.call "move_of" (.cons (.bf .tuple (.cons (.call "_law_numbers" (.cons (.var 1) (.cons (.var 3) .nil))) .nil)) .nil))) (.cons (.ite (.cmp .ne (.call "picture_of" (.cons (.var 3) (.cons (.call "moves_behind" (.cons (.var 9) (.cons (.var 10) .nil))) (.cons (.var 11) .nil)))) (.call "picture_of" (.cons (.var 3) (.cons (.var 9) (.cons (.var 4) .nil))))) (.cons (.ret (.bl false)) .nil) .nil) .nil)))))))))))))))) (.cons (.ret (.cmp .eq (.bf .repr (.cons (.call "picture_of" (.cons (.int 2) (.cons (.tup (.cons (.int 0) (.cons (.int 2) (.cons (.int 1) (.cons (.int 0) .nil))))) (.cons (.tup (.cons (.int 0) (.cons (.tup (.cons (.int 0) (.cons (.int 1) .nil))) .nil))) .nil)))) .nil)) (.bf .repr (.cons (.tup (.cons (.int 1) (.cons (.tup (.cons (.int 0) (.cons (.int 1) .nil))) .nil))) .nil)))) .nil))
end My
end
section
set_option Elab.async false
set_option linter.all false
set_option maxRecDepth 100000
set_option maxHeartbeats 4000000
set_option autoImplicit false
namespace My
open PySem PySem.Spec Dk Pd
theorem i_determinant : DetF f_determinant := det_of (Δ := t0)
theorem i_move_of : MvF f_move_of := mv_of (Δ := t1) l1_gcd
theorem i_moves_behind : BehF f_moves_behind := beh_of (Δ := t2) (by rw [l2_move_of]; exact i_move_of)
theorem i_move_undone : UndF f_move_undone := und_of (Δ := t3) (by rw [l3_move_of]; exact i_move_of)
theorem i_ratio_low : LowF f_ratio_low := low_of (Δ := t4) l4_gcd
theorem i_ratios_added : BinF (fun x y => x + y) f_ratios_added := add_of (g := "ratio_low") (Δ := t5) (by rw [l5_ratio_low]; exact i_ratio_low)
theorem i_ratios_less : BinF (fun x y => x - y) f_ratios_less := sub_of (g := "ratio_low") (Δ := t6) (by rw [l6_ratio_low]; exact i_ratio_low)
theorem i_ratios_times : BinF (fun x y => x * y) f_ratios_times := mul_of (g := "ratio_low") (Δ := t7) (by rw [l7_ratio_low]; exact i_ratio_low)
theorem i_ratios_over : OverF f_ratios_over := div_of (g := "ratio_low") (Δ := t8) (by rw [l8_ratio_low]; exact i_ratio_low)
theorem i_whole_power : WpF f_whole_power := wp_of (Δ := t9)
theorem i_power_of : PowF f_power_of := pow_of (Δ := t10) (by rw [l10_whole_power]; exact i_whole_power)
theorem i_many_in : ManyF f_many_in := many_of (Δ := t11)
theorem i_power_in : PiF f_power_in := pi_of (g := "NOTHING") (Δ := t12) l12_NOTHING (by rw [l12_many_in]; exact i_many_in)
theorem i_undone_by : UnF f_undone_by := un_of (Δ := t13)
theorem i_rest_of : RestF f_rest_of := rest_of (g := "NOTHING") (Δ := t14) l14_NOTHING (by rw [l14_many_in]; exact i_many_in) (by rw [l14_whole_power]; exact i_whole_power) (by rw [l14_undone_by]; exact i_undone_by) (by rw [l14_ratio_low]; exact i_ratio_low)
theorem i_place_named : NameF f_place_named := name_of (Δ := t15) (by rw [l15_rest_of]; exact i_rest_of)
theorem i_upward : UpF f_upward := up_of (Δ := t16) (by rw [l16_place_named]; exact i_place_named)
theorem i_up_from : UfF f_up_from := upf_of (Δ := t17) (by rw [l17_upward]; exact i_upward)
theorem i_next_places : NxF f_next_places := nx_of (Δ := t18) (by rw [l18_up_from]; exact i_up_from) (by rw [l18_ratios_added]; exact i_ratios_added) (by rw [l18_ratios_times]; exact i_ratios_times) (by rw [l18_power_of]; exact i_power_of)
theorem i_next_number : NnF f_next_number := nn_of (Δ := t19) (by rw [l19_up_from]; exact i_up_from) (by rw [l19_ratios_less]; exact i_ratios_less) (by rw [l19_ratios_over]; exact i_ratios_over) (by rw [l19_power_of]; exact i_power_of)
theorem i_whole : WhF f_whole := wh_of (Δ := t20)
theorem i_bottoms_of : BotF f_bottoms_of := bots_of (Δ := t21) (by rw [l21_whole]; exact i_whole) (by rw [l21_ratios_times]; exact i_ratios_times) (by rw [l21_ratios_added]; exact i_ratios_added) (by rw [l21_power_of]; exact i_power_of)
theorem i_picture_of : PcF f_picture_of := pcH_of (Δ := t22) (by rw [l22_bottoms_of]; exact i_bottoms_of) (by rw [l22_determinant]; exact i_determinant) (by rw [l22_whole]; exact i_whole) (by rw [l22_power_in]; exact i_power_in) (by rw [l22_place_named]; exact i_place_named) (by rw [l22_ratio_low]; exact i_ratio_low) (by rw [l22_ratios_times]; exact i_ratios_times) (by rw [l22_ratios_added]; exact i_ratios_added) (by rw [l22_ratios_over]; exact i_ratios_over)
theorem i_meeting : MeetF f_meeting := meet_of (Δ := t23) (by rw [l23_power_in]; exact i_power_in) (by rw [l23_ratios_less]; exact i_ratios_less)
theorem i_steps_between : StepF f_steps_between := step_of (Δ := t24) (by rw [l24_meeting]; exact i_meeting)
theorem i_place_along : AlF f_place_along := al_of (Δ := t25) (by rw [l25_meeting]; exact i_meeting) (by rw [l25_upward]; exact i_upward)
theorem i_way_between : WyF f_way_between := way_of (Δ := t26) l26_MOST_STEPS (by rw [l26_steps_between]; exact i_steps_between) (by rw [l26_place_along]; exact i_place_along)
theorem i__law_pick : PickF f__law_pick := pickF_of (Δ := t27)
theorem i__law_of : OfF f__law_of := ofF_of (Δ := t28) l28__law_pick
theorem i__law_frac : LowF f__law_frac := frac_of (Δ := t29)
theorem i__law_plus : BinF (fun x y => x + y) f__law_plus := add_of (g := "_law_frac") (Δ := t30) (by rw [l30__law_frac]; exact i__law_frac)
theorem i__law_less : BinF (fun x y => x - y) f__law_less := sub_of (g := "_law_frac") (Δ := t31) (by rw [l31__law_frac]; exact i__law_frac)
theorem i__law_times : BinF (fun x y => x * y) f__law_times := mul_of (g := "_law_frac") (Δ := t32) (by rw [l32__law_frac]; exact i__law_frac)
theorem i__law_often : ManyF f__law_often := oftenA_of (Δ := t33)
theorem i__law_in : PiF f__law_in := lawin_of (Δ := t34) (by rw [l34__law_often]; exact i__law_often)
theorem i__law_power : PowF f__law_power := lpow_of (Δ := t35)
theorem i__law_rest : RestF f__law_rest := lrestA_of (Δ := t36) (by rw [l36__law_often]; exact i__law_often) (by rw [l36__law_power]; exact i__law_power) (by rw [l36__law_frac]; exact i__law_frac)
theorem i__law_place : NameF f__law_place := lplA_of (Δ := t37) (by rw [l37__law_rest]; exact i__law_rest)
theorem i__law_up : UfF f__law_up := lupA_of (Δ := t38) (by rw [l38__law_place]; exact i__law_place)
theorem i__law_way : LwyF f__law_way := lwy_of (Δ := t39) (by rw [l39__law_up]; exact i__law_up)
theorem i__law_fraction : FrcF f__law_fraction := fracC_of (Δ := t40) (by rw [l40__law_pick]; exact i__law_pick) (by rw [l40__law_of]; exact i__law_of) (by rw [l40__law_frac]; exact i__law_frac)
theorem i__law_drawn_place : DrF f__law_drawn_place := drawn_of (Δ := t41) (by rw [l41__law_pick]; exact i__law_pick) (by rw [l41__law_fraction]; exact i__law_fraction) (by rw [l41__law_place]; exact i__law_place)
theorem i__law_put : PutF f__law_put := put_of (Δ := t43) (by rw [l43__law_frac]; exact i__law_frac)
theorem i__law_put_far : PutfF f__law_put_far := putf_of (Δ := t44) (by rw [l44__law_frac]; exact i__law_frac)
theorem i__law_middle : MidsF f__law_middle := midsB_of (Δ := t45) (by rw [l45__law_in]; exact i__law_in) (by rw [l45__law_less]; exact i__law_less) (by rw [l45__law_place]; exact i__law_place)
end My
end
section
set_option Elab.async false
set_option linter.all false
set_option maxRecDepth 100000
set_option maxHeartbeats 4000000
set_option autoImplicit false
namespace My
open PySem PySem.Spec Dk Pd
abbrev lD (m : Qm) : PyData := .list [.int m.a, .int m.b, .int m.c, .int m.d]
structure Nm (p : Nat) (v : Int) (σ : List W) (L : Lo) (S : Src) : Prop where
  ex : ∃ (m : Qm) (w4 : W), σ = [.src, .d (.int p), .d (.int v), .d (lD m), w4] ∧ m.a.natAbs ≤ 343 ∧ m.b.natAbs ≤ 343 ∧ m.c.natAbs ≤ 343 ∧ m.d.natAbs ≤ 342 ∧ SrcOk S
theorem four_ints {l : List Int} (h : l.length = 4) : ∃ a b c d, l = [a, b, c, d] := by
  match l, h with
  | [a, b, c, d], _ => exact ⟨a, b, c, d, rfl⟩
theorem numbers_ok {p : Nat} (hp : Pp p) {S : Src} (hS : SrcOk S) : ∃ (m : Qm) (S' : Src), f__law_numbers [.src, .d (.int p)] S = .ok (lD m) [] S' ∧ (m.Ok 343 ∧ SrcOk S') := by
  suffices h : ∃ v S', f__law_numbers [.src, .d (.int p)] S = .ok v [] S' ∧ ((∃ m : Qm, v = lD m ∧ m.Ok 343) ∧ SrcOk S') by
    obtain ⟨v, S', h1, ⟨x, rfl, h2⟩, h3⟩ := h
    exact ⟨x, S', h1, h2, h3⟩
  refine mean_of (n := 0) ⟨rfl, rfl⟩ ?_
  unfold b__law_numbers
  have p7 := hp.le
  have p2 := hp.pr.two
  have s4 : (4 : Nat) ≤ sizeLine := by decide
  obtain ⟨v, S1, e1, v0, v1, ok1⟩ := i__law_pick S 4 hS (by decide) (by decide)
  refine Ws_cut (Nm p v) ?_ ?_
  · rw [Ws_par]
    refine (show Wr (ev t42 (.call "_law_pick" (.cons (.var 0) (.cons (.int 4) .nil))) [.src, .d (.int p), .un, .un, .un] [] S) _ from ?_)
    have e1' : ev t42 (.call "_law_pick" (.cons (.var 0) (.cons (.int 4) .nil))) [.src, .d (.int p), .un, .un, .un] [] S = .ok (.d (.int v)) [] S1 := by simp [e1]
    rw [e1', Wr_ok]
    have hr := range_0 (d := 4) (by decide) (by decide)
    have hlen := len_0 (4 : Int).toNat
    generalize ((List.range (4 : Int).toNat).map fun (k : Nat) => PyData.int ((0 : Int) + k)) = xs at hr hlen
    refine Wr_lc (fun ys i acc S' => ys = xs ∧ (∃ l : List Int, acc = l.map .int ∧ l.length = i ∧ ∀ a ∈ l, a.natAbs ≤ 6) ∧ SrcOk S') ?_ ?_ ?_
    · simp [hr]
      exact ok1
    · rintro ys i y acc S2 hy ⟨rfl, ⟨l, rfl, hl, hb⟩, ok⟩
      have hi := (List.getElem?_eq_some_iff.mp hy).1
      obtain ⟨u, S3, e3, u0, u1, ok3⟩ := i__law_pick S2 13 ok (by decide) (by decide)
      simp [e3]
      refine ⟨by rw [hlen] at hi; rw [hl]; exact Nat.lt_of_lt_of_le hi (by decide), ⟨l ++ [u - 6], by simp, by simp [hl], fun a ha => ?_⟩, ok3⟩
      rcases List.mem_append.mp ha with h | h
      · exact hb a h
      · rw [List.mem_singleton.mp h]
        omega
    · rintro ys acc S2 ⟨rfl, ⟨l, rfl, hl, hb⟩, ok⟩
      rw [hlen] at hl
      obtain ⟨a, b, c, d, rfl⟩ := four_ints hl
      have h1 := hb a (by simp)
      have h2 := hb b (by simp)
      have h3 := hb c (by simp)
      have h4 := hb d (by simp)
      exact ⟨⟨a, b, c, d⟩, _, rfl, by dsimp only; omega, by dsimp only; omega, by dsimp only; omega, by dsimp only; omega, ok⟩
  rintro σ L S ⟨m, w4, rfl, h1, h2, h3, h4, ok⟩
  refine Ws_cut (Nm p v) ?_ ?_
  · rw [Ws_if]
    by_cases hv : v = 0
    · simp [hv]
      rw [Ws_cons, Ws_asg]
      simp [s4, Ws_nil]
      exact ⟨⟨0, p, 1, 0⟩, _, rfl, by dsimp only; omega, by dsimp only; omega, by dsimp only; omega, by dsimp only; omega, ok⟩
    · simp [hv, Ws_nil]
      exact ⟨m, _, rfl, h1, h2, h3, h4, ok⟩
  clear h1 h2 h3 h4 ok
  rintro σ L S ⟨m, w4, rfl, h1, h2, h3, h4, ok⟩
  refine Ws_cut (Nm p v) ?_ ?_
  · rw [Ws_if]
    by_cases hv : v = 1
    · simp [hv]
      obtain ⟨u, S2, e2, u0, u1, ok2⟩ := i__law_pick S 3 ok (by decide) (by decide)
      obtain ⟨u, rfl⟩ := Int.eq_ofNat_of_zero_le u0
      obtain ⟨x, S3, e3, x0, x1, ok3⟩ := i__law_pick S2 4 ok2 (by decide) (by decide)
      have w := i__law_power p ((u + 1 : Nat) : Int) S2 hp (by omega)
      rw [fr_P hp.pr, show ((u + 1 : Nat) : Int) = 1 + (u : Int) by omega] at w
      rw [Ws_cons, Ws_asg]
      simp [e2, w, e3, s4, Ws_nil]
      have pw : ((p : Int) ^ (u + 1)).natAbs ≤ 343 := by
        rw [Int.natAbs_pow, Int.natAbs_natCast]
        exact Nat.le_trans (Nat.pow_le_pow_left p7 _) (Nat.le_trans (Nat.pow_le_pow_right (by decide) (show u + 1 ≤ 3 by omega)) (by decide))
      exact ⟨⟨(p : Int) ^ (u + 1), m.b, 0, 1 + x⟩, _, rfl, pw, h2, by dsimp only; omega, by dsimp only; omega, ok3⟩
    · simp [hv, Ws_nil]
      exact ⟨m, _, rfl, h1, h2, h3, h4, ok⟩
  clear h1 h2 h3 h4 ok
  rintro σ L S ⟨m, w4, rfl, h1, h2, h3, h4, ok⟩
  have q1 := small_mul (x := m.a) (y := m.d) (by have : (2 : Nat) ^ 28 = 268435456 := by decide
                                                 omega)
  have q2 := small_mul (x := m.b) (y := m.c) (by have : (2 : Nat) ^ 28 = 268435456 := by decide
                                                 omega)
  rw [Ws_cons, Ws_ret]
  by_cases hd : m.a * m.d = m.b * m.c
  · simp [q1, q2, hd, s4, viewAll, abs_eq]
    refine ⟨⟨⟨1, m.b, 0, 1 + absI m.d⟩, ⟨rfl, rfl, rfl, rfl⟩, ?_⟩, ok⟩
    have ha : 0 ≤ absI m.d ∧ (absI m.d).natAbs ≤ 342 := by unfold absI; split <;> omega
    refine ⟨by show (1 : Int).natAbs ≤ 343; decide, h2, by show (0 : Int).natAbs ≤ 343; decide, by dsimp only; omega, ?_⟩
    show (1 : Int) * (1 + absI m.d) - m.b * 0 ≠ 0
    omega
  · simp [q1, q2, hd]
    exact ⟨⟨m, ⟨rfl, rfl, rfl, rfl⟩, h1, h2, h3, by omega, by show _ - _ ≠ 0; omega⟩, ok⟩
structure PcL (p : Nat) (m : Qm) (X : Int × Rat) (S0 : Src) (i : Nat) (σ : List W) (L : Lo) (S : Src) : Prop where
  ex : ∃ w5 w6 : W, σ = [.d (.int p), .d m.D, .d (pX X), .d (fr (P p X.1)), .m 0, w5, w6] ∧ L = [some (.lst ((([some X.2, some (X.2 + P p X.1)].take i).map (ld m.a m.b m.c m.d)).map eD))] ∧ S = S0
theorem picture_ok {p : Nat} (hp : Pp p) {m : Qm} (hm : m.Ok 343) {X : Int × Rat} (S : Src) (hk : X.1.natAbs ≤ 6) (hr : sz X.2 ≤ 45) : f__law_picture [.d (.int p), .d m.D, .d (pX X)] S = .ok (pX (m.pc p X)) [] S := by
  refine mean_eq (n := 0) ⟨rfl, rfl⟩ ?_
  unfold b__law_picture
  have s1 : (1 : Nat) ≤ sizeLine := by decide
  have s2 : (2 : Nat) ≤ sizeLine := by decide
  have s3 : (3 : Nat) ≤ sizeLine := by decide
  have hm' : m.Ok (2 ^ 28) := hm.mono (by decide)
  have hm9 : m.Ok (2 ^ 9) := hm.mono (by decide)
  have w1 := i__law_power p X.1 S hp (by omega)
  have sP := sz_P hp X.1
  have t1 := sz_mul 1 (P p X.1)
  have z1 : sz 1 ≤ 4 := by decide
  have z0 : sz 0 ≤ 4 := by decide
  have sr := sz_add X.2 (P p X.1)
  have zr := sz_add X.2 0
  rw [Ws_cons, Ws_par]
  simp [w1, Dk.R.own]
  refine Ws_cut (PcL p m X S 2) ?_ ?_
  · refine Ws_forR (fun d i σ L S' => d = 2 ∧ PcL p m X S i σ L S') ?_ ?_ ?_
    · refine Wr_rng (I := fun d i σ L S' => d = 2 ∧ PcL p m X S i σ L S') (J := [.d (.int p), .d m.D, .d (pX X), .d (fr (P p X.1)), .m 0, .un, .un]) ?_
      simp
      exact ⟨_, _, rfl, rfl, rfl⟩
    · rintro d i σ L S' hi ⟨rfl, w5, w6, rfl, rfl, rfl⟩
      have hi2 : i = 0 ∨ i = 1 := by omega
      rcases hi2 with rfl | rfl
      · have g1 := i__law_times 0 (P p X.1) S' (by omega)
        have g2 := i__law_plus X.2 0 S' (by omega)
        have g3 := i__law_put m X.2 S' hm' (by omega)
        dsimp only at g1 g2
        rw [show (0 : Rat) * P p X.1 = 0 by grind] at g1
        rw [show X.2 + (0 : Rat) = X.2 by grind] at g2
        rw [Ws_cons, Ws_asg]
        simp [s2]
        rw [fr_0]
        simp [g1, g2]
        rw [Ws_cons]
        refine Ws_app ⟨(0, _), rfl⟩ ?_
        simp [g3]
        refine ⟨0, [], rfl, by decide, ?_⟩
        rw [Ws_nil]
        exact ⟨_, _, rfl, rfl, rfl⟩
      · have g1 := i__law_times 1 (P p X.1) S' (by omega)
        have g2 := i__law_plus X.2 (P p X.1) S' (by omega)
        have g3 := i__law_put m (X.2 + P p X.1) S' hm' (by omega)
        dsimp only at g1 g2
        rw [show (1 : Rat) * P p X.1 = P p X.1 by grind] at g1
        rw [Ws_cons, Ws_asg]
        simp [s2]
        rw [show PyData.tuple [.int 1, .int 1] = fr 1 from rfl]
        simp [g1, g2]
        rw [Ws_cons]
        refine Ws_app ⟨(0, _), rfl⟩ ?_
        simp [g3]
        refine ⟨0, [eD (ld m.a m.b m.c m.d (some X.2))], rfl, by show 1 < sizeLine; decide, ?_⟩
        rw [Ws_nil]
        exact ⟨_, _, rfl, rfl, rfl⟩
    · rintro d σ L S' ⟨rfl, h⟩
      exact h
  · rintro σ L S' ⟨w5, w6, rfl, rfl, rfl⟩
    have g1 := i__law_put_far m S' hm'
    have key := mids_key (f := f__law_middle) i__law_middle.1 i__law_middle.2 (S := S') hp (Nat.le_trans (bl_two hm9.a) (by decide)) (Nat.le_trans (bl_two hm9.b) (by decide)) (Nat.le_trans (bl_two hm9.c) (by decide)) (Nat.le_trans (bl_two hm9.d) (by decide)) hk hr (rat0 hm.det) rfl
    have ad := add_lists (xs := [eD (ld m.a m.b m.c m.d (some X.2)), eD (ld m.a m.b m.c m.d (some (X.2 + P p X.1)))]) (ys := [eD (ld m.a m.b m.c m.d none)]) (by show 3 ≤ sizeLine; decide)
    have key' : f__law_middle [.d (.int p), .d (.list [eD (ld m.a m.b m.c m.d (some X.2)), eD (ld m.a m.b m.c m.d (some (X.2 + P p X.1))), eD (ld m.a m.b m.c m.d none)])] S' = .ok (pX (m.pc p X)) [] S' := key
    have ad' : opB .add (.list [eD (ld m.a m.b m.c m.d (some X.2)), eD (ld m.a m.b m.c m.d (some (X.2 + P p X.1)))]) (.list [eD (ld m.a m.b m.c m.d none)]) = some (.list [eD (ld m.a m.b m.c m.d (some X.2)), eD (ld m.a m.b m.c m.d (some (X.2 + P p X.1))), eD (ld m.a m.b m.c m.d none)]) := ad
    rw [Ws_cons, Ws_ret]
    simp [g1, s1, ad', key']
end My
end
section
set_option Elab.async false
set_option linter.all false
set_option maxRecDepth 100000
set_option maxHeartbeats 4000000
set_option autoImplicit false
namespace My
open PySem PySem.Spec Dk Pd
def q0 : Dk.S := (.asg (.nm 3) (.call "_law_of" (.cons (.var 1) (.cons (.lst false (.cons (.int 2) (.cons (.int 3) (.cons (.int 5) (.cons (.int 7) .nil))))) .nil))))
def q1 : Dk.S := (.asg (.tp (.cons (.nm 10) (.cons (.nm 11) .nil))) (.tup (.cons (.call "move_of" (.cons (.bf .tuple (.cons (.call "_law_numbers" (.cons (.var 1) (.cons (.var 3) .nil))) .nil)) .nil)) (.cons (.call "_law_drawn_place" (.cons (.var 1) (.cons (.var 3) .nil))) .nil))))
def q2 : Dk.S := (.ite (.cmp .ne (.bf .repr (.cons (.call "place_named" (.cons (.var 3) (.cons (.ix (.var 11) (.int 0)) (.cons (.ix (.var 11) (.int 1)) .nil)))) .nil)) (.bf .repr (.cons (.var 11) .nil))) (.cons (.ret (.bl false)) .nil) .nil)
def q3 : Dk.S := (.asg (.nm 4) (.call "picture_of" (.cons (.var 3) (.cons (.var 10) (.cons (.var 11) .nil)))))
def q4 : Dk.S := (.ite (.or (.cmp .ne (.bf .repr (.cons (.var 4) .nil)) (.bf .repr (.cons (.call "_law_picture" (.cons (.var 3) (.cons (.var 10) (.cons (.var 11) .nil)))) .nil))) (.cmp .ne (.call "picture_of" (.cons (.var 3) (.cons (.call "move_undone" (.cons (.var 10) .nil)) (.cons (.var 4) .nil)))) (.var 11))) (.cons (.ret (.bl false)) .nil) .nil)
def q5 : Dk.S := (.ite (.cmp .ne (.call "rest_of" (.cons (.var 3) (.cons (.ix (.var 4) (.int 1)) (.cons (.ix (.var 4) (.int 0)) .nil)))) (.ix (.var 4) (.int 1))) (.cons (.ret (.bl false)) .nil) .nil)
def q6 : Dk.S := (.asg (.nm 5) (.lc false (.call "picture_of" (.cons (.var 3) (.cons (.var 10) (.cons (.var 12) .nil)))) [("one", 12)] (.nm 12) (.seq (.call "next_places" (.cons (.var 3) (.cons (.var 11) .nil)))) .tt))
def q7 : Dk.S := (.ite (.cmp .ne (.bf .sorted (.cons (.lc false (.call "next_number" (.cons (.var 3) (.cons (.var 4) (.cons (.var 12) .nil)))) [("one", 12)] (.nm 12) (.seq (.var 5)) .tt) .nil)) (.lrng1 false (.bop .add (.var 3) (.int 1)))) (.cons (.ret (.bl false)) .nil) .nil)
def q8 : Dk.S := (.asg (.nm 6) (.call "_law_drawn_place" (.cons (.var 1) (.cons (.var 3) .nil))))
def q9 : Dk.S := (.asg (.nm 7) (.call "picture_of" (.cons (.var 3) (.cons (.var 10) (.cons (.var 6) .nil)))))
def q10 : Dk.S := (.ite (.cmp .ne (.call "steps_between" (.cons (.var 3) (.cons (.var 11) (.cons (.var 6) .nil)))) (.call "steps_between" (.cons (.var 3) (.cons (.var 4) (.cons (.var 7) .nil))))) (.cons (.ret (.bl false)) .nil) .nil)
def q11 : Dk.S := (.asg (.nm 8) (.lc false (.call "picture_of" (.cons (.var 3) (.cons (.var 10) (.cons (.var 12) .nil)))) [("one", 12)] (.nm 12) (.seq (.call "way_between" (.cons (.var 3) (.cons (.var 11) (.cons (.var 6) .nil))))) .tt))
def q12 : Dk.S := (.ite (.or (.cmp .ne (.bf .repr (.cons (.bf .tuple (.cons (.var 8) .nil)) .nil)) (.bf .repr (.cons (.call "way_between" (.cons (.var 3) (.cons (.var 4) (.cons (.var 7) .nil)))) .nil))) (.cmp .ne (.bf .repr (.cons (.bf .tuple (.cons (.var 8) .nil)) .nil)) (.bf .repr (.cons (.call "_law_way" (.cons (.var 3) (.cons (.var 4) (.cons (.var 7) .nil)))) .nil)))) (.cons (.ret (.bl false)) .nil) .nil)
def q13 : Dk.S := (.asg (.nm 9) (.call "move_of" (.cons (.bf .tuple (.cons (.call "_law_numbers" (.cons (.var 1) (.cons (.var 3) .nil))) .nil)) .nil)))
def q14 : Dk.S := (.ite (.cmp .ne (.call "picture_of" (.cons (.var 3) (.cons (.call "moves_behind" (.cons (.var 9) (.cons (.var 10) .nil))) (.cons (.var 11) .nil)))) (.call "picture_of" (.cons (.var 3) (.cons (.var 9) (.cons (.var 4) .nil))))) (.cons (.ret (.bl false)) .nil) .nil)
def lapS : Ss := (.cons q0 (.cons q1 (.cons q2 (.cons q3 (.cons q4 (.cons q5 (.cons q6 (.cons q7 (.cons q8 (.cons q9 (.cons q10 (.cons q11 (.cons q12 (.cons q13 (.cons q14 .nil)))))))))))))))
def u0 : Dk.S := .for_ (.nm 2) (.rng (.cons (.int 3) .nil)) lapS
def u1 : Dk.S := (.ret (.cmp .eq (.bf .repr (.cons (.call "picture_of" (.cons (.int 2) (.cons (.tup (.cons (.int 0) (.cons (.int 2) (.cons (.int 1) (.cons (.int 0) .nil))))) (.cons (.tup (.cons (.int 0) (.cons (.tup (.cons (.int 0) (.cons (.int 1) .nil))) .nil))) .nil)))) .nil)) (.bf .repr (.cons (.tup (.cons (.int 1) (.cons (.tup (.cons (.int 0) (.cons (.int 1) .nil))) .nil))) .nil))))
theorem law_split : b_law = (.cons u0 (.cons u1 .nil)) := rfl
abbrev A15 (fs : List (Nat × W)) (σ : List W) (L : Lo) (S : Src) : Prop := Ax 13 fs SrcOk σ L S
theorem named_ok {p R : Nat} {X : Int × Rat} (S : Src) (hp : Pp p) (hR : R ≤ 40) (hX : Hb p R X) : f_place_named [.d (.int p), .d (.int X.1), .d (fr X.2)] S = .ok (pX X) [] S := by
  have kx := hX.k hp.pr
  have zx := hX.sz hp
  have e := i_place_named p X.1 X.2 S hp (by omega) (by omega)
  have h : rest p X.1 X.2 = X.2 := hX.pla
  rw [h] at e
  exact e
structure Mo (m : Qm) : Prop where
  ok : m.Ok 343
theorem Mo.v {m : Qm} (h : Mo m) {p : Nat} (hp : Pr p) : vp p (m.det : Rat) ≤ (20 : Nat) := (h.ok.mono (B := 2 ^ 9) (by decide)).vp hp
theorem Mo.pic {p R : Nat} {m : Qm} {X : Int × Rat} (h : Mo m) (S : Src) (hp : Pp p) (hR : R ≤ 43) (hX : Hb p R X) : f_picture_of [.d (.int p), .d m.D, .d (pX X)] S = .ok (pX (m.pc p X)) [] S :=
  i_picture_of p m X R 20 S hp (h.ok.mono (by decide)) hX hR (h.v hp.pr) (by decide)
theorem Mo.hb {p R : Nat} {m : Qm} {X : Int × Rat} (h : Mo m) (hp : Pp p) (hX : Hb p R X) : Hb p (R + 20) (m.pc p X) := Qm.pc_hb hp.pr hX h.ok.det (h.v hp.pr)
theorem move_ok {p : Nat} (hp : Pp p) {S : Src} (hS : SrcOk S) : ∃ (m m0 : Qm) (S' : Src), f__law_numbers [.src, .d (.int p)] S = .ok (lD m0) [] S' ∧ (∀ S, f_move_of [.d (.tuple [.int m0.a, .int m0.b, .int m0.c, .int m0.d])] S = .ok m.D [] S) ∧ Mo m ∧ SrcOk S' := by
  obtain ⟨m0, S', e, h, ok⟩ := numbers_ok hp hS
  exact ⟨m0.nr, m0, S', e, fun S => mvT_of i_move_of m0 S (h.mono (by decide)), ⟨h.nr⟩, ok⟩
theorem part_a {p : Nat} (hp : Pp p) {n : Nat} {D : Fin4} {ss : Ss} {σ : List W} {L : Lo} {S : Src} (h0 : A15 [(1, .src), (3, .d (.int p))] σ L S)
    (k : ∀ (m : Qm) X σ L S, Mo m → Dr p X → A15 [(1, .src), (3, .d (.int p)), (10, .d m.D), (11, .d (pX X)), (4, .d (pX (m.pc p X)))] σ L S → Ws (execs t47 n ss σ L S) D) :
    Ws (execs t47 n (.cons q1 (.cons q2 (.cons q3 (.cons q4 (.cons q5 ss))))) σ L S) D := by
  obtain ⟨h, ok⟩ := h0
  have s2 : (2 : Nat) ≤ sizeLine := by decide
  obtain ⟨m, m0, S1, e1, e2, hm, ok1⟩ := move_ok hp ok
  obtain ⟨X, S2, e3, hX, ok2⟩ := i__law_drawn_place p S1 hp ok1
  have hB := hX.h
  refine Ws_cut (A15 [(1, .src), (3, .d (.int p)), (10, .d m.D), (11, .d (pX X))]) ?_ ?_
  · unfold q1
    rw [Ws_asgT]
    simp [h.g 1 rfl, h.g 3 rfl, e1, viewAll, opF, e2, e3, s2]
    exact ⟨_, rfl, ((h.put 10 _ (by decide)).put 11 _ (by decide)).keep [1, 3, 10, 11], ok2⟩
  clear h e1 e3
  rintro σ L S ⟨h, ok⟩
  obtain ⟨b1, b2⟩ := hB.rk hp (by decide)
  have rkX := (rk_pl (k := X.1) (x := X.2) (by have := bl_small (i := X.1) (by omega); omega) b2).o
  refine Ws_cut (A15 [(1, .src), (3, .d (.int p)), (10, .d m.D), (11, .d (pX X))]) ?_ ?_
  · unfold q2
    rw [Ws_if]
    simp [h.g 3 rfl, h.g 11 rfl, named_ok S hp (by decide) hB, viewAll, opF, rkX, Ws_nil]
    exact ⟨h, ok⟩
  clear h
  rintro σ L S ⟨h, ok⟩
  have pc := hm.pic S hp (R := 19) (by decide) hB
  refine Ws_cut (A15 [(1, .src), (3, .d (.int p)), (10, .d m.D), (11, .d (pX X)), (4, .d (pX (m.pc p X)))]) ?_ ?_
  · unfold q3
    rw [Ws_asg]
    simp [h.g 3 rfl, h.g 10 rfl, h.g 11 rfl, pc]
    exact ⟨(h.put 4 _ (by decide)).keep [1, 3, 10, 11, 4], ok⟩
  clear h
  rintro σ L S ⟨h, ok⟩
  have hT := hm.hb hp hB
  obtain ⟨c1, c2⟩ := hT.rk hp (by decide)
  have rkT := (rk_pl (k := (m.pc p X).1) (x := (m.pc p X).2) (by have := bl_small (i := (m.pc p X).1) (by omega); omega) c2).o
  have lp := picture_ok hp hm.ok (X := X) S (by have := hX.k0; have := hX.k1; omega) hX.s
  have un := i_move_undone m S (hm.ok.mono (by decide))
  have hu : Mo m.adj.nr := ⟨hm.ok.adj.nr⟩
  have pu := hu.pic S hp (R := 39) (by decide) hT
  have eu : m.adj.nr.pc p (m.pc p X) = X := by rw [Qm.pc_nr hp.pr hm.ok.adj, Qm.pc_adj hp.pr hm.ok.det hB.pla]
  rw [eu] at pu
  refine Ws_cut (A15 [(1, .src), (3, .d (.int p)), (10, .d m.D), (11, .d (pX X)), (4, .d (pX (m.pc p X)))]) ?_ ?_
  · unfold q4
    rw [Ws_if]
    simp [h.g 3 rfl, h.g 4 rfl, h.g 10 rfl, h.g 11 rfl, lp, viewAll, opF, rkT, un, pu, Ws_nil]
    exact ⟨h, ok⟩
  clear h
  rintro σ L S ⟨h, ok⟩
  have kT := hT.k hp.pr
  have zT := hT.sz hp
  have er := i_rest_of p (m.pc p X).2 (m.pc p X).1 S hp (by omega) (by omega)
  rw [show rest p (m.pc p X).1 (m.pc p X).2 = (m.pc p X).2 from hT.pla] at er
  refine Ws_cut (A15 [(1, .src), (3, .d (.int p)), (10, .d m.D), (11, .d (pX X)), (4, .d (pX (m.pc p X)))]) ?_ ?_
  · unfold q5
    rw [Ws_if]
    simp [h.g 3 rfl, h.g 4 rfl, er, Ws_nil]
    exact ⟨h, ok⟩
  exact fun σ L S h => k m X σ L S hm hX h
end My
end
section
set_option Elab.async false
set_option linter.all false
set_option maxRecDepth 100000
set_option maxHeartbeats 4000000
set_option autoImplicit false
namespace My
open PySem PySem.Spec Dk Pd
theorem nD_list {α : Type} {l : List α} {f : α → Option Int} {v : List Int} (h : l.map f = v.map some) : l.map (fun a => nD (f a)) = v.map .int := by
  have e : l.map (fun a => nD (f a)) = (l.map f).map nD := by rw [List.map_map]; rfl
  rw [e, h, List.map_map]
  rfl
noncomputable abbrev fC (p : Nat) (m : Qm) (X : Int × Rat) : List (Nat × W) := [(1, .src), (3, .d (.int p)), (10, .d m.D), (11, .d (pX X)), (4, .d (pX (m.pc p X)))]
theorem part_b {p : Nat} (hp : Pp p) {n : Nat} {D : Fin4} {ss : Ss} {m : Qm} {X : Int × Rat} (hm : Mo m) (hX : Dr p X) {σ : List W} {L : Lo} {S : Src} (h0 : A15 (fC p m X) σ L S)
    (k : ∀ σ L S, A15 (fC p m X) σ L S → Ws (execs t47 n ss σ L S) D) :
    Ws (execs t47 n (.cons q6 (.cons q7 ss)) σ L S) D := by
  obtain ⟨h, ok⟩ := h0
  have hB := hX.h
  have p7 := hp.le
  have hT := hm.hb hp hB
  have kT := hT.k hp.pr
  have zT := hT.sz hp
  have hX0 := hX.k0
  have hX1 := hX.k1
  have hXs := hX.s
  have en := i_next_places p X S hp (by omega) (by omega)
  have hn : ∀ Y ∈ nx p X, Hb p 20 Y := fun Y hY => by
    obtain ⟨d1, d2⟩ := nx_dd hp.pr hB.pla hY
    exact hB.step hp.pr (V := 1) d2 (by omega)
  have hl := nx_len (p := p) (X := X)
  refine Ws_cut (A15 ((5, .d (.list ((nx p X).map fun Y => pX (m.pc p Y)))) :: fC p m X)) ?_ ?_
  · unfold q6
    rw [Ws_asg]
    have hlc := ev_lcP (Δ := t47) (elt := .call "picture_of" (.cons (.var 3) (.cons (.var 10) (.cons (.var 12) .nil)))) (nm := "one") (q := 12) (it := .seq (.call "next_places" (.cons (.var 3) (.cons (.var 11) .nil)))) (σ := σ) (L := L) (S := S) (l := nx p X) pX (fun Y => pX (m.pc p Y)) (by
        simp [h.g 3 rfl, h.g 11 rfl, en]) (by rw [hl]; unfold sizeLine; omega) (fun Y hY => by
        have e1 := hm.pic S hp (R := 20) (by decide) (hn Y hY)
        have g3 := (set_set_g (σ := σ) (q := 12) (i := 3) (u := .un) (v := .d (pX Y)) (by decide)).trans (h.g 3 rfl)
        have g10 := (set_set_g (σ := σ) (q := 12) (i := 10) (u := .un) (v := .d (pX Y)) (by decide)).trans (h.g 10 rfl)
        have g12 := set_set_at (σ := σ) (q := 12) (u := .un) (v := .d (pX Y)) (by rw [h.len]; decide)
        generalize (σ.set 12 W.un).set 12 (W.d (pX Y)) = τ at *
        simp [g3, g10, g12, e1])
    generalize E.lc _ _ _ _ _ _ = e at hlc ⊢
    rw [hlc, Wr_ok]
    exact ⟨(h.put 5 _ (by decide)).keep [5, 1, 3, 10, 11, 4], ok⟩
  clear h en
  rintro σ L S ⟨h, ok⟩
  refine Ws_cut (A15 (fC p m X)) ?_ k
  unfold q7
  rw [Ws_if]
  obtain ⟨v, v1, v2, v3, v4⟩ := nn_led (X := X) hp.pr (rat0 hm.ok.det) hB.pla
  have hlc := ev_lcP (Δ := t47) (elt := .call "next_number" (.cons (.var 3) (.cons (.var 4) (.cons (.var 12) .nil)))) (nm := "one") (q := 12) (it := .seq (.var 5)) (σ := σ) (L := L) (S := S) (l := nx p X) (fun Y => pX (m.pc p Y)) (fun Y => nD (nn p (m.pc p X) (m.pc p Y))) (by
        simp [h.g 5 rfl]) (by rw [hl]; unfold sizeLine; omega) (fun Y hY => by
        have hL := hm.hb hp (hn Y hY)
        have kY := hL.k hp.pr
        have zY := hL.sz hp
        have e1 := i_next_number p (m.pc p X) (m.pc p Y) S hp (by omega) (by omega) (by omega) (by omega)
        have g3 := (set_set_g (σ := σ) (q := 12) (i := 3) (u := .un) (v := .d (pX (m.pc p Y))) (by decide)).trans (h.g 3 rfl)
        have g4 := (set_set_g (σ := σ) (q := 12) (i := 4) (u := .un) (v := .d (pX (m.pc p Y))) (by decide)).trans (h.g 4 rfl)
        have g12 := set_set_at (σ := σ) (q := 12) (u := .un) (v := .d (pX (m.pc p Y))) (by rw [h.len]; decide)
        generalize (σ.set 12 W.un).set 12 (W.d (pX (m.pc p Y))) = τ at *
        simp [g3, g4, g12, e1])
  generalize E.lc _ _ _ _ _ _ = e at hlc ⊢
  rw [nD_list v1] at hlc
  have so := sorted_i v
  have srt := sorted_range v2 v3 (fun i hi => by have := v4 i hi; omega)
  rw [srt] at so
  have hr := range_0 (d := (p : Int) + 1) (by omega) (by omega)
  have em : (List.range ((p : Int) + 1).toNat).map (fun (k : Nat) => PyData.int ((0 : Int) + k)) = ((List.range (p + 1)).map fun (k : Nat) => (0 : Int) + (k : Int)).map .int := by
    rw [List.map_map, show ((p : Int) + 1).toNat = p + 1 by omega]
    rfl
  rw [em] at hr
  have ln := li_ne ((List.range (p + 1)).map fun (k : Nat) => (0 : Int) + (k : Int))
  have le : (((List.range (p + 1)).map fun (k : Nat) => (0 : Int) + (k : Int)).map PyData.int).length ≤ 16777216 := by
    rw [List.length_map, List.length_map, List.length_range]
    omega
  generalize (List.range (p + 1)).map (fun (k : Nat) => (0 : Int) + (k : Int)) = z at so hr ln le
  have le' : z.length ≤ 16777216 := by rwa [List.length_map] at le
  simp [hlc, h.g 3 rfl, viewAll, so, hr, le', ln, Ws_nil]
  exact ⟨h.keep [1, 3, 10, 11, 4], ok⟩
theorem wy2_map_len {p : Nat} (hp : Pr p) {X Y : Int × Rat} {R : Nat} (hX : Hb p R X) (hY : Hb p R Y) : (wy2 p X Y).length ≤ 2 * R + 1 := by
  have := wy2_len hp (X := X) (Y := Y)
  have := hX.dd hp hY
  omega
theorem part_c {p : Nat} (hp : Pp p) {n : Nat} {D : Fin4} {m : Qm} {X : Int × Rat} (hm : Mo m) (hX : Dr p X) {σ : List W} {L : Lo} {S : Src} (h0 : A15 (fC p m X) σ L S)
    (k : ∀ σ L S, A15 [(1, .src)] σ L S → D.nx σ L S) :
    Ws (execs t47 n (.cons q8 (.cons q9 (.cons q10 (.cons q11 (.cons q12 (.cons q13 (.cons q14 .nil))))))) σ L S) D := by
  obtain ⟨h, ok⟩ := h0
  have hB := hX.h
  have hT := hm.hb hp hB
  have kX := hB.k hp.pr
  have zX := hB.sz hp
  have kT := hT.k hp.pr
  have zT := hT.sz hp
  obtain ⟨Y, S1, e1, hY, ok1⟩ := i__law_drawn_place p S hp ok
  have hC := hY.h
  have hU := hm.hb hp hC
  have kY := hC.k hp.pr
  have zY := hC.sz hp
  have kU := hU.k hp.pr
  have zU := hU.sz hp
  refine Ws_cut (A15 ((6, .d (pX Y)) :: fC p m X)) ?_ ?_
  · unfold q8
    rw [Ws_asg]
    simp [h.g 1 rfl, h.g 3 rfl, e1]
    exact ⟨(h.put 6 _ (by decide)).keep [6, 1, 3, 10, 11, 4], ok1⟩
  clear h e1
  rintro σ L S ⟨h, ok⟩
  have e2 := hm.pic S hp (R := 19) (by decide) hC
  refine Ws_cut (A15 ((7, .d (pX (m.pc p Y))) :: (6, .d (pX Y)) :: fC p m X)) ?_ ?_
  · unfold q9
    rw [Ws_asg]
    simp [h.g 3 rfl, h.g 10 rfl, h.g 6 rfl, e2]
    exact ⟨(h.put 7 _ (by decide)).keep [7, 6, 1, 3, 10, 11, 4], ok⟩
  clear h e2
  rintro σ L S ⟨h, ok⟩
  have ed := Qm.pc_dd hp.pr hm.ok.det X Y
  refine Ws_cut (A15 ((7, .d (pX (m.pc p Y))) :: (6, .d (pX Y)) :: fC p m X)) ?_ ?_
  · have e3 : f_steps_between [.d (.int p), .d (pX X), .d (pX Y)] S = .ok (.int (dd p X Y)) [] S := i_steps_between p X.1 X.2 Y.1 Y.2 S hp (by omega)
    have e4 : f_steps_between [.d (.int p), .d (pX (m.pc p X)), .d (pX (m.pc p Y))] S = .ok (.int (dd p X Y)) [] S := by
      rw [← ed]
      exact i_steps_between p _ _ _ _ S hp (by omega)
    unfold q10
    rw [Ws_if]
    simp [h.g 3 rfl, h.g 4 rfl, h.g 6 rfl, h.g 7 rfl, h.g 11 rfl, e3, e4, Ws_nil]
    exact ⟨h, ok⟩
  clear h
  rintro σ L S ⟨h, ok⟩
  have hdd := hB.dd hp.pr hC
  have ew := i_way_between p X Y S hp (by omega) (by omega) (by omega) (by omega) (by omega)
  have hwl := wy2_map_len hp.pr hB hC
  have pw := pcx_wy hp.pr (rat0 hm.ok.det) (X := X) (Y := Y)
  have hmw : (wy2 p X Y).map (fun U => pX (m.pc p U)) = (wy2 p (m.pc p X) (m.pc p Y)).map pX := by
    rw [← pw, List.map_map]
    rfl
  refine Ws_cut (A15 ((8, .d (.list ((wy2 p (m.pc p X) (m.pc p Y)).map pX))) :: (7, .d (pX (m.pc p Y))) :: fC p m X)) ?_ ?_
  · unfold q11
    rw [Ws_asg]
    have hlc := ev_lcP (Δ := t47) (elt := .call "picture_of" (.cons (.var 3) (.cons (.var 10) (.cons (.var 12) .nil)))) (nm := "one") (q := 12) (it := .seq (.call "way_between" (.cons (.var 3) (.cons (.var 11) (.cons (.var 6) .nil))))) (σ := σ) (L := L) (S := S) (l := wy2 p X Y) pX (fun Y => pX (m.pc p Y)) (by
        simp [h.g 3 rfl, h.g 6 rfl, h.g 11 rfl, ew]) (by unfold sizeLine; omega) (fun U hU => by
        have e1 := hm.pic S hp (R := 19) (by decide) (way_hb hp.pr hB hC hU)
        have g3 := (set_set_g (σ := σ) (q := 12) (i := 3) (u := .un) (v := .d (pX U)) (by decide)).trans (h.g 3 rfl)
        have g10 := (set_set_g (σ := σ) (q := 12) (i := 10) (u := .un) (v := .d (pX U)) (by decide)).trans (h.g 10 rfl)
        have g12 := set_set_at (σ := σ) (q := 12) (u := .un) (v := .d (pX U)) (by rw [h.len]; decide)
        generalize (σ.set 12 W.un).set 12 (W.d (pX U)) = τ at *
        simp [g3, g10, g12, e1])
    generalize E.lc _ _ _ _ _ _ = e at hlc ⊢
    rw [hmw] at hlc
    rw [hlc, Wr_ok]
    exact ⟨(h.put 8 _ (by decide)).keep [8, 7, 1, 3, 10, 11, 4], ok⟩
  clear h ew
  rintro σ L S ⟨h, ok⟩
  refine Ws_cut (A15 (fC p m X)) ?_ ?_
  · have hdu := hT.dd hp.pr hU
    have ew := i_way_between p (m.pc p X) (m.pc p Y) S hp (by omega) (by omega) (by omega) (by omega) (by omega)
    have el := i__law_way p 39 (m.pc p X) (m.pc p Y) S hp (by decide) hT hU
    have rk := (rk_pXt (l := wy2 p (m.pc p X) (m.pc p Y)) (fun U hU' => (way_hb hp.pr hT hU hU').rk hp (by decide)) (by have := wy2_map_len hp.pr hT hU; omega)).o
    unfold q12
    rw [Ws_if]
    simp [h.g 3 rfl, h.g 4 rfl, h.g 7 rfl, h.g 8 rfl, ew, el, viewAll, opF, rk, Ws_nil]
    exact ⟨h.keep [1, 3, 10, 11, 4], ok⟩
  clear h
  rintro σ L S ⟨h, ok⟩
  obtain ⟨m2, m0, S2, e5, e6, hm2, ok2⟩ := move_ok hp ok
  refine Ws_cut (A15 ((9, .d m2.D) :: fC p m X)) ?_ ?_
  · unfold q13
    rw [Ws_asg]
    simp [h.g 1 rfl, h.g 3 rfl, e5, viewAll, opF, e6]
    exact ⟨(h.put 9 _ (by decide)).keep [9, 1, 3, 10, 11, 4], ok2⟩
  clear h e5
  rintro σ L S ⟨h, ok⟩
  have eb := i_moves_behind m2 m S (hm2.ok.mono (by decide)) (hm.ok.mono (by decide))
  have okb : (m2.mul m).nr.Ok (2 ^ 18) := ((hm2.ok.mul hm.ok).nr).mono (by decide)
  have e7 := i_picture_of p (m2.mul m).nr X 19 38 S hp (okb.mono (by decide)) hB (by decide) (okb.vp hp.pr) (by decide)
  rw [Qm.pc_nr hp.pr (hm2.ok.mul hm.ok), Qm.pc_mul hp.pr hm2.ok.det hm.ok.det] at e7
  have e8 := hm2.pic S hp (R := 39) (by decide) hT
  rw [Ws_cons]
  unfold q14
  rw [Ws_if]
  simp [h.g 3 rfl, h.g 4 rfl, h.g 9 rfl, h.g 10 rfl, h.g 11 rfl, eb, e7, e8, Ws_nil]
  exact k σ L S ⟨h.keep [1], ok⟩
theorem law_pure (ns : List Int) : ∃ m S', execs t47 m b_law ((List.replicate n_law.length .un).set 1 .src) [] (src0 ns) = .rt (.bool true) S' := by
  suffices h : Ws (execs t47 0 b_law ((List.replicate n_law.length .un).set 1 .src) [] (src0 ns)) ⟨fun _ _ _ => False, fun x _ => x = .bool true, fun _ _ _ => False, fun _ _ _ => False⟩ by
    cases e : execs t47 0 b_law ((List.replicate n_law.length .un).set 1 .src) [] (src0 ns) with
    | rt x S =>
      rw [e] at h
      have : x = .bool true := h
      subst this
      exact ⟨0, S, e⟩
    | nx σ L S => rw [e] at h; exact h.elim
    | bk σ L S => rw [e] at h; exact h.elim
    | ct σ L S => rw [e] at h; exact h.elim
    | st => rw [e] at h; exact h.elim
    | ex z σ L S => rw [e] at h; exact h.elim
  have h0 : Ax 13 [(1, .src)] SrcOk ((List.replicate n_law.length .un).set 1 .src) [] (src0 ns) := ⟨(Sl.nil (n := 13) rfl).cons rfl, src0_ok ns⟩
  generalize (List.replicate n_law.length W.un).set 1 .src = σ at h0
  generalize src0 ns = S at h0
  rw [law_split]
  have s4 : (4 : Nat) ≤ sizeLine := by decide
  have s2 : (2 : Nat) ≤ sizeLine := by decide
  refine Ws_cut (Ax 13 [(1, .src)] SrcOk) ?_ ?_
  · unfold u0
    refine Ws_forX h0 ⟨_, by simp [range_0 (d := 3) (by decide) (by decide)]; rfl⟩ ?_ (fun _ _ _ q => q)
    rintro w σ L S ⟨h, ok⟩
    have h := (h.put 2 (.d w) (by decide)).keep [1]
    generalize σ.set 2 (.d w) = σ at h
    unfold lapS
    obtain ⟨w, S1, e1, hw, ok1⟩ := i__law_of S [.int 2, .int 3, .int 5, .int 7] ok (by simp) (show (4 : Nat) ≤ 1000 by decide)
    obtain ⟨p, rfl, hp⟩ : ∃ p : Nat, w = .int p ∧ Pp p := by
      simp at hw
      rcases hw with rfl | rfl | rfl | rfl
      · exact ⟨2, rfl, pp2⟩
      · exact ⟨3, rfl, pp3⟩
      · exact ⟨5, rfl, pp5⟩
      · exact ⟨7, rfl, pp7⟩
    refine Ws_cut (A15 [(1, .src), (3, .d (.int p))]) ?_ ?_
    · unfold q0
      rw [Ws_asg]
      simp [h.g 1 rfl, s4, e1]
      exact ⟨(h.put 3 _ (by decide)).keep [1, 3], ok1⟩
    intro σ L S h
    refine part_a hp h ?_
    intro m X σ L S hm hX h
    refine part_b hp hm hX h ?_
    intro σ L S h
    exact part_c hp hm hX h fun σ L S h => h
  rintro σ L S ⟨h, ok⟩
  unfold u1
  have h00 : Hb 2 0 ((0 : Int), (0 : Rat)) := ⟨rest_of0 pr2 0, by
    have := dd_self pr2 (X := ((0 : Int), (0 : Rat)))
    show dd 2 (0, 0) (0, 0) ≤ 0
    omega⟩
  have hk : (⟨0, 2, 1, 0⟩ : Qm).Ok 2 := ⟨by decide, by decide, by decide, by decide, by decide⟩
  have e := i_picture_of 2 ⟨0, 2, 1, 0⟩ (0, 0) 0 6 S pp2 (hk.mono (by decide)) h00 (by decide) (by have := hk.vp (h := 1) pr2; omega) (by decide)
  have ev : (⟨0, 2, 1, 0⟩ : Qm).pc 2 ((0 : Int), (0 : Rat)) = (1, 0) := by
    have e1 : pic 2 0 2 1 0 0 0 = (1, 0) := by
      unfold pic
      rw [if_pos (.inl (by decide +kernel))]
      have v1 : vp 2 (((0 * 0 - 2 * 1 : Int)) : Rat) = 1 := by
        have q := vp_P pr2 1
        rw [P_1] at q
        rw [show (((0 * 0 - 2 * 1 : Int)) : Rat) = -((2 : Nat) : Rat) by decide +kernel]
        rw [vp_neg pr2 (by decide +kernel)]
        exact q
      have v2 : vp 2 (((1 : Int)) : Rat) = 0 := by
        have q := vp_P pr2 0
        rw [P_0] at q
        exact q
      rw [v1, v2]
      exact Prod.ext rfl (by decide +kernel)
    show ((pic 2 0 2 1 0 0 0).1, rest 2 (pic 2 0 2 1 0 0 0).1 (pic 2 0 2 1 0 0 0).2) = (1, 0)
    rw [e1]
    dsimp only
    rw [rest_of0 pr2]
  rw [ev] at e
  have e' : f_picture_of [.d (.int 2), .d (.tuple [.int 0, .int 2, .int 1, .int 0]), .d (.tuple [.int 0, .tuple [.int 0, .int 1]])] S = .ok (.tuple [.int 1, .tuple [.int 0, .int 1]]) [] S := e
  have rk : reprOk (.tuple [.int 1, .tuple [.int 0, .int 1]]) = true := by decide +kernel
  rw [Ws_cons, Ws_ret]
  simp [e', s4, s2, viewAll, opF, rk]
end My
end
section
set_option Elab.async false
set_option linter.all false
set_option maxRecDepth 100000
set_option maxHeartbeats 0
set_option autoImplicit false
namespace My
open PySem PySem.Spec PyProof.Rows L2 Dk
/-! ## the text -/
def top (i : Nat) : Stmt := PySem.Challenge.pw_gridtrees_k15_whole_next_ones_led_to_nex.main.body.getD i (.Pass ⟨0, 0, 0, 0⟩)
def dd (i : Nat) (x : Str) : He.DefD := ⟨(x, none), x, x, defArgs (top i), defBody (top i), defScope (top i), [], []⟩
def fn : List He.DefD := [dd 5 "determinant", dd 6 "move_of", dd 7 "moves_behind", dd 8 "move_undone", dd 10 "ratio_low", dd 11 "ratios_added", dd 12 "ratios_less", dd 13 "ratios_times", dd 14 "ratios_over", dd 17 "whole_power", dd 18 "power_of", dd 19 "many_in", dd 20 "power_in", dd 21 "undone_by", dd 22 "rest_of", dd 24 "place_named", dd 25 "upward", dd 26 "up_from", dd 27 "next_places", dd 28 "next_number", dd 30 "whole", dd 31 "bottoms_of", dd 32 "picture_of", dd 36 "meeting", dd 37 "steps_between", dd 38 "place_along", dd 39 "way_between", dd 41 "_law_source", dd 42 "_law_pick", dd 43 "_law_of", dd 44 "_law_frac", dd 45 "_law_plus", dd 46 "_law_less", dd 47 "_law_times", dd 48 "_law_often", dd 49 "_law_in", dd 50 "_law_power", dd 51 "_law_rest", dd 52 "_law_place", dd 53 "_law_up", dd 54 "_law_way", dd 55 "_law_fraction", dd 56 "_law_drawn_place", dd 57 "_law_numbers", dd 58 "_law_put", dd 59 "_law_picture", dd 60 "_law_put_far", dd 61 "_law_middle", dd 62 "law"]
def fa : List He.Fa := [.glo "determinant", .glo "move_of", .glo "moves_behind", .glo "move_undone", .glo "ratio_low", .glo "ratios_added", .glo "ratios_less", .glo "ratios_times", .glo "ratios_over", .glo "whole_power", .glo "power_of", .glo "many_in", .glo "power_in", .glo "undone_by", .glo "rest_of", .glo "place_named", .glo "upward", .glo "up_from", .glo "next_places", .glo "next_number", .glo "whole", .glo "bottoms_of", .glo "picture_of", .glo "meeting", .glo "steps_between", .glo "place_along", .glo "way_between", .glo "_law_source", .glo "_law_pick", .glo "_law_of", .glo "_law_frac", .glo "_law_plus", .glo "_law_less", .glo "_law_times", .glo "_law_often", .glo "_law_in", .glo "_law_power", .glo "_law_rest", .glo "_law_place", .glo "_law_up", .glo "_law_way", .glo "_law_fraction", .glo "_law_drawn_place", .glo "_law_numbers", .glo "_law_put", .glo "_law_picture", .glo "_law_put_far", .glo "_law_middle", .glo "law", .free "abs", .free "max", .free "min", .free "len", .free "int", .free "repr", .free "all", .free "tuple", .free "list", .free "sum", .free "sorted", .free "str", .free "isinstance", .free "range", .free "enumerate", .free "zip", .free "bool"]
def loose : List PySem.Str := (["TreeError", "TooGreat", "determinant", "move_of", "moves_behind", "move_undone", "ratio_low", "ratios_added", "ratios_less", "ratios_times", "ratios_over", "NOTHING", "whole_power", "power_of", "many_in", "power_in", "undone_by", "rest_of", "place_named", "upward", "up_from", "next_places", "next_number", "whole", "bottoms_of", "picture_of", "MOST_STEPS", "FAR", "meeting", "steps_between"] : List PySem.Str) ++ (["place_along", "way_between", "_law_source", "_law_pick", "_law_of", "_law_frac", "_law_plus", "_law_less", "_law_times", "_law_often", "_law_in", "_law_power", "_law_rest", "_law_place", "_law_up", "_law_way", "_law_fraction", "_law_drawn_place", "_law_numbers", "_law_put", "_law_picture", "_law_put_far", "_law_middle"] : List PySem.Str)
def ex (K : PySem.W.Frag) : Bool := gcdB K && (gvB K "NOTHING" (.tuple [(.int (0)), (.int (1))]) && (gvB K "MOST_STEPS" (.int (400))))
abbrev R : PySem.W.OpenRow := PySem.W.OpenLaw.row PySem.Challenge.rw_gridtrees_k15_whole_next_ones_led_to_nex
abbrev hk : PySem.W.Hook := He.hookX 4 fa fn [] [] ex
def ob (s : PySem.W.SharedT) : He.AlX := He.obsX 4 fa fn [] [] ex (HandSHeadRun.getT s)
theorem ob_eq (s : PySem.W.SharedT) : ob s = hk.obs s.abs := He.obsX_eq (HandSHeadRun.getT_eq s)
theorem ran (w : World) : HandSHeadRun.RunEqI R (PySem.W.view R.prog [0, 62]) hk ob 3000 loose w := by
  unfold HandSHeadRun.RunEqI
  kernel_rfl
section
variable {P : Program} {w : World} {K : PySem.W.Frag} {h base : Heap} {mg : Str → Option Value}
theorem s_determinant : FnScope n_determinant ["one"] (defScope (top 5)) := ⟨rfl, rfl, rfl, by decide +kernel, rfl, by decide +kernel, by decide +kernel⟩
theorem c_determinant : chkSs n_determinant (defScope (top 5)) b_determinant (defBody (top 5)) = true := by decide +kernel
theorem s_move_of : FnScope n_move_of ["numbers"] (defScope (top 6)) := ⟨rfl, rfl, rfl, by decide +kernel, rfl, by decide +kernel, by decide +kernel⟩
theorem c_move_of : chkSs n_move_of (defScope (top 6)) b_move_of (defBody (top 6)) = true := by decide +kernel
theorem s_moves_behind : FnScope n_moves_behind ["one", "other"] (defScope (top 7)) := ⟨rfl, rfl, rfl, by decide +kernel, rfl, by decide +kernel, by decide +kernel⟩
theorem c_moves_behind : chkSs n_moves_behind (defScope (top 7)) b_moves_behind (defBody (top 7)) = true := by decide +kernel
theorem s_move_undone : FnScope n_move_undone ["one"] (defScope (top 8)) := ⟨rfl, rfl, rfl, by decide +kernel, rfl, by decide +kernel, by decide +kernel⟩
theorem c_move_undone : chkSs n_move_undone (defScope (top 8)) b_move_undone (defBody (top 8)) = true := by decide +kernel
theorem s_ratio_low : FnScope n_ratio_low ["top", "bottom"] (defScope (top 10)) := ⟨rfl, rfl, rfl, by decide +kernel, rfl, by decide +kernel, by decide +kernel⟩
theorem c_ratio_low : chkSs n_ratio_low (defScope (top 10)) b_ratio_low (defBody (top 10)) = true := by decide +kernel
theorem s_ratios_added : FnScope n_ratios_added ["one", "other"] (defScope (top 11)) := ⟨rfl, rfl, rfl, by decide +kernel, rfl, by decide +kernel, by decide +kernel⟩
theorem c_ratios_added : chkSs n_ratios_added (defScope (top 11)) b_ratios_added (defBody (top 11)) = true := by decide +kernel
theorem s_ratios_less : FnScope n_ratios_less ["one", "other"] (defScope (top 12)) := ⟨rfl, rfl, rfl, by decide +kernel, rfl, by decide +kernel, by decide +kernel⟩
theorem c_ratios_less : chkSs n_ratios_less (defScope (top 12)) b_ratios_less (defBody (top 12)) = true := by decide +kernel
theorem s_ratios_times : FnScope n_ratios_times ["one", "other"] (defScope (top 13)) := ⟨rfl, rfl, rfl, by decide +kernel, rfl, by decide +kernel, by decide +kernel⟩
theorem c_ratios_times : chkSs n_ratios_times (defScope (top 13)) b_ratios_times (defBody (top 13)) = true := by decide +kernel
theorem s_ratios_over : FnScope n_ratios_over ["one", "other"] (defScope (top 14)) := ⟨rfl, rfl, rfl, by decide +kernel, rfl, by decide +kernel, by decide +kernel⟩
theorem c_ratios_over : chkSs n_ratios_over (defScope (top 14)) b_ratios_over (defBody (top 14)) = true := by decide +kernel
theorem s_whole_power : FnScope n_whole_power ["p", "many"] (defScope (top 17)) := ⟨rfl, rfl, rfl, by decide +kernel, rfl, by decide +kernel, by decide +kernel⟩
theorem c_whole_power : chkSs n_whole_power (defScope (top 17)) b_whole_power (defBody (top 17)) = true := by decide +kernel
theorem s_power_of : FnScope n_power_of ["p", "power"] (defScope (top 18)) := ⟨rfl, rfl, rfl, by decide +kernel, rfl, by decide +kernel, by decide +kernel⟩
theorem c_power_of : chkSs n_power_of (defScope (top 18)) b_power_of (defBody (top 18)) = true := by decide +kernel
theorem s_many_in : FnScope n_many_in ["p", "number"] (defScope (top 19)) := ⟨rfl, rfl, rfl, by decide +kernel, rfl, by decide +kernel, by decide +kernel⟩
theorem c_many_in : chkSs n_many_in (defScope (top 19)) b_many_in (defBody (top 19)) = true := by decide +kernel
theorem s_power_in : FnScope n_power_in ["p", "one"] (defScope (top 20)) := ⟨rfl, rfl, rfl, by decide +kernel, rfl, by decide +kernel, by decide +kernel⟩
theorem c_power_in : chkSs n_power_in (defScope (top 20)) b_power_in (defBody (top 20)) = true := by decide +kernel
theorem s_undone_by : FnScope n_undone_by ["number", "many"] (defScope (top 21)) := ⟨rfl, rfl, rfl, by decide +kernel, rfl, by decide +kernel, by decide +kernel⟩
theorem c_undone_by : chkSs n_undone_by (defScope (top 21)) b_undone_by (defBody (top 21)) = true := by decide +kernel
theorem s_rest_of : FnScope n_rest_of ["p", "one", "power"] (defScope (top 22)) := ⟨rfl, rfl, rfl, by decide +kernel, rfl, by decide +kernel, by decide +kernel⟩
theorem c_rest_of : chkSs n_rest_of (defScope (top 22)) b_rest_of (defBody (top 22)) = true := by decide +kernel
theorem s_place_named : FnScope n_place_named ["p", "depth", "one"] (defScope (top 24)) := ⟨rfl, rfl, rfl, by decide +kernel, rfl, by decide +kernel, by decide +kernel⟩
theorem c_place_named : chkSs n_place_named (defScope (top 24)) b_place_named (defBody (top 24)) = true := by decide +kernel
theorem s_upward : FnScope n_upward ["p", "place", "depth"] (defScope (top 25)) := ⟨rfl, rfl, rfl, by decide +kernel, rfl, by decide +kernel, by decide +kernel⟩
theorem c_upward : chkSs n_upward (defScope (top 25)) b_upward (defBody (top 25)) = true := by decide +kernel
theorem s_up_from : FnScope n_up_from ["p", "place"] (defScope (top 26)) := ⟨rfl, rfl, rfl, by decide +kernel, rfl, by decide +kernel, by decide +kernel⟩
theorem c_up_from : chkSs n_up_from (defScope (top 26)) b_up_from (defBody (top 26)) = true := by decide +kernel
theorem s_next_places : FnScope n_next_places ["p", "place"] (defScope (top 27)) := ⟨rfl, rfl, rfl, by decide +kernel, rfl, by decide +kernel, by decide +kernel⟩
theorem c_next_places : chkSs n_next_places (defScope (top 27)) b_next_places (defBody (top 27)) = true := by decide +kernel
theorem s_next_number : FnScope n_next_number ["p", "place", "other"] (defScope (top 28)) := ⟨rfl, rfl, rfl, by decide +kernel, rfl, by decide +kernel, by decide +kernel⟩
theorem c_next_number : chkSs n_next_number (defScope (top 28)) b_next_number (defBody (top 28)) = true := by decide +kernel
theorem s_whole : FnScope n_whole ["number"] (defScope (top 30)) := ⟨rfl, rfl, rfl, by decide +kernel, rfl, by decide +kernel, by decide +kernel⟩
theorem c_whole : chkSs n_whole (defScope (top 30)) b_whole (defBody (top 30)) = true := by decide +kernel
theorem s_bottoms_of : FnScope n_bottoms_of ["p", "move", "place"] (defScope (top 31)) := ⟨rfl, rfl, rfl, by decide +kernel, rfl, by decide +kernel, by decide +kernel⟩
theorem c_bottoms_of : chkSs n_bottoms_of (defScope (top 31)) b_bottoms_of (defBody (top 31)) = true := by decide +kernel
theorem s_picture_of : FnScope n_picture_of ["p", "move", "place"] (defScope (top 32)) := ⟨rfl, rfl, rfl, by decide +kernel, rfl, by decide +kernel, by decide +kernel⟩
theorem c_picture_of : chkSs n_picture_of (defScope (top 32)) b_picture_of (defBody (top 32)) = true := by decide +kernel
theorem s_meeting : FnScope n_meeting ["p", "one", "other"] (defScope (top 36)) := ⟨rfl, rfl, rfl, by decide +kernel, rfl, by decide +kernel, by decide +kernel⟩
theorem c_meeting : chkSs n_meeting (defScope (top 36)) b_meeting (defBody (top 36)) = true := by decide +kernel
theorem s_steps_between : FnScope n_steps_between ["p", "one", "other"] (defScope (top 37)) := ⟨rfl, rfl, rfl, by decide +kernel, rfl, by decide +kernel, by decide +kernel⟩
theorem c_steps_between : chkSs n_steps_between (defScope (top 37)) b_steps_between (defBody (top 37)) = true := by decide +kernel
theorem s_place_along : FnScope n_place_along ["p", "one", "other", "many"] (defScope (top 38)) := ⟨rfl, rfl, rfl, by decide +kernel, rfl, by decide +kernel, by decide +kernel⟩
theorem c_place_along : chkSs n_place_along (defScope (top 38)) b_place_along (defBody (top 38)) = true := by decide +kernel
theorem s_way_between : FnScope n_way_between ["p", "one", "other"] (defScope (top 39)) := ⟨rfl, rfl, rfl, by decide +kernel, rfl, by decide +kernel, by decide +kernel⟩
theorem c_way_between : chkSs n_way_between (defScope (top 39)) b_way_between (defBody (top 39)) = true := by decide +kernel
theorem s__law_pick : FnScope n__law_pick ["source", "many"] (defScope (top 42)) := ⟨rfl, rfl, rfl, by decide +kernel, rfl, by decide +kernel, by decide +kernel⟩
theorem c__law_pick : chkSs n__law_pick (defScope (top 42)) b__law_pick (defBody (top 42)) = true := by decide +kernel
theorem s__law_of : FnScope n__law_of ["source", "some"] (defScope (top 43)) := ⟨rfl, rfl, rfl, by decide +kernel, rfl, by decide +kernel, by decide +kernel⟩
theorem c__law_of : chkSs n__law_of (defScope (top 43)) b__law_of (defBody (top 43)) = true := by decide +kernel
theorem s__law_frac : FnScope n__law_frac ["top", "bottom"] (defScope (top 44)) := ⟨rfl, rfl, rfl, by decide +kernel, rfl, by decide +kernel, by decide +kernel⟩
theorem c__law_frac : chkSs n__law_frac (defScope (top 44)) b__law_frac (defBody (top 44)) = true := by decide +kernel
theorem s__law_plus : FnScope n__law_plus ["one", "other"] (defScope (top 45)) := ⟨rfl, rfl, rfl, by decide +kernel, rfl, by decide +kernel, by decide +kernel⟩
theorem c__law_plus : chkSs n__law_plus (defScope (top 45)) b__law_plus (defBody (top 45)) = true := by decide +kernel
theorem s__law_less : FnScope n__law_less ["one", "other"] (defScope (top 46)) := ⟨rfl, rfl, rfl, by decide +kernel, rfl, by decide +kernel, by decide +kernel⟩
theorem c__law_less : chkSs n__law_less (defScope (top 46)) b__law_less (defBody (top 46)) = true := by decide +kernel
theorem s__law_times : FnScope n__law_times ["one", "other"] (defScope (top 47)) := ⟨rfl, rfl, rfl, by decide +kernel, rfl, by decide +kernel, by decide +kernel⟩
theorem c__law_times : chkSs n__law_times (defScope (top 47)) b__law_times (defBody (top 47)) = true := by decide +kernel
theorem s__law_often : FnScope n__law_often ["p", "number"] (defScope (top 48)) := ⟨rfl, rfl, rfl, by decide +kernel, rfl, by decide +kernel, by decide +kernel⟩
theorem c__law_often : chkSs n__law_often (defScope (top 48)) b__law_often (defBody (top 48)) = true := by decide +kernel
theorem s__law_in : FnScope n__law_in ["p", "one"] (defScope (top 49)) := ⟨rfl, rfl, rfl, by decide +kernel, rfl, by decide +kernel, by decide +kernel⟩
theorem c__law_in : chkSs n__law_in (defScope (top 49)) b__law_in (defBody (top 49)) = true := by decide +kernel
theorem s__law_power : FnScope n__law_power ["p", "power"] (defScope (top 50)) := ⟨rfl, rfl, rfl, by decide +kernel, rfl, by decide +kernel, by decide +kernel⟩
theorem c__law_power : chkSs n__law_power (defScope (top 50)) b__law_power (defBody (top 50)) = true := by decide +kernel
theorem s__law_rest : FnScope n__law_rest ["p", "one", "power"] (defScope (top 51)) := ⟨rfl, rfl, rfl, by decide +kernel, rfl, by decide +kernel, by decide +kernel⟩
theorem c__law_rest : chkSs n__law_rest (defScope (top 51)) b__law_rest (defBody (top 51)) = true := by decide +kernel
theorem s__law_place : FnScope n__law_place ["p", "depth", "one"] (defScope (top 52)) := ⟨rfl, rfl, rfl, by decide +kernel, rfl, by decide +kernel, by decide +kernel⟩
theorem c__law_place : chkSs n__law_place (defScope (top 52)) b__law_place (defBody (top 52)) = true := by decide +kernel
theorem s__law_up : FnScope n__law_up ["p", "place"] (defScope (top 53)) := ⟨rfl, rfl, rfl, by decide +kernel, rfl, by decide +kernel, by decide +kernel⟩
theorem c__law_up : chkSs n__law_up (defScope (top 53)) b__law_up (defBody (top 53)) = true := by decide +kernel
theorem s__law_way : FnScope n__law_way ["p", "one", "other"] (defScope (top 54)) := ⟨rfl, rfl, rfl, by decide +kernel, rfl, by decide +kernel, by decide +kernel⟩
theorem c__law_way : chkSs n__law_way (defScope (top 54)) b__law_way (defBody (top 54)) = true := by decide +kernel
theorem s__law_fraction : FnScope n__law_fraction ["source", "p"] (defScope (top 55)) := ⟨rfl, rfl, rfl, by decide +kernel, rfl, by decide +kernel, by decide +kernel⟩
theorem c__law_fraction : chkSs n__law_fraction (defScope (top 55)) b__law_fraction (defBody (top 55)) = true := by decide +kernel
theorem s__law_drawn_place : FnScope n__law_drawn_place ["source", "p"] (defScope (top 56)) := ⟨rfl, rfl, rfl, by decide +kernel, rfl, by decide +kernel, by decide +kernel⟩
theorem c__law_drawn_place : chkSs n__law_drawn_place (defScope (top 56)) b__law_drawn_place (defBody (top 56)) = true := by decide +kernel
theorem s__law_numbers : FnScope n__law_numbers ["source", "p"] (defScope (top 57)) := ⟨rfl, rfl, rfl, by decide +kernel, rfl, by decide +kernel, by decide +kernel⟩
theorem c__law_numbers : chkSs n__law_numbers (defScope (top 57)) b__law_numbers (defBody (top 57)) = true := by decide +kernel
theorem s__law_put : FnScope n__law_put ["move", "x"] (defScope (top 58)) := ⟨rfl, rfl, rfl, by decide +kernel, rfl, by decide +kernel, by decide +kernel⟩
theorem c__law_put : chkSs n__law_put (defScope (top 58)) b__law_put (defBody (top 58)) = true := by decide +kernel
theorem s__law_put_far : FnScope n__law_put_far ["move"] (defScope (top 60)) := ⟨rfl, rfl, rfl, by decide +kernel, rfl, by decide +kernel, by decide +kernel⟩
theorem c__law_put_far : chkSs n__law_put_far (defScope (top 60)) b__law_put_far (defBody (top 60)) = true := by decide +kernel
theorem s__law_middle : FnScope n__law_middle ["p", "ends"] (defScope (top 61)) := ⟨rfl, rfl, rfl, by decide +kernel, rfl, by decide +kernel, by decide +kernel⟩
theorem c__law_middle : chkSs n__law_middle (defScope (top 61)) b__law_middle (defBody (top 61)) = true := by decide +kernel
theorem s__law_picture : FnScope n__law_picture ["p", "move", "place"] (defScope (top 59)) := ⟨rfl, rfl, rfl, by decide +kernel, rfl, by decide +kernel, by decide +kernel⟩
theorem c__law_picture : chkSs n__law_picture (defScope (top 59)) b__law_picture (defBody (top 59)) = true := by decide +kernel
theorem s_law : FnScope n_law ["script"] (defScope (top 62)) := ⟨rfl, rfl, rfl, by decide +kernel, rfl, by decide +kernel, by decide +kernel⟩
theorem c_law : chkSs n_law (defScope (top 62)) b_law (defBody (top 62)).tail = true := by decide +kernel
theorem tabs (X : K.In h) (G : h.Ns mainGlobals mg) (c : He.SaysD fa fn K) (e : ex K = true) : Tabs t47 P w K mg base 47 := by
  have T : Tabs tb0 P w K mg base 0 := Tabs.nil fun x hx => He.free_ok X G (c.facts (show He.Fa.free x ∈ fa from by
    simp only [freeNames, List.mem_cons, List.not_mem_nil, or_false] at hx
    rcases hx with rfl | rfl | rfl | rfl | rfl | rfl | rfl | rfl | rfl | rfl | rfl | rfl | rfl | rfl | rfl | rfl | rfl <;> simp [fa]))
  unfold ex at e
  obtain ⟨e0, e⟩ := and2 e
  obtain ⟨e1, e⟩ := and2 e
  have e2 := e
  have T := T.gcd (gcdB_ok X G e0)
  have T := T.con (gvB_ok X G e1)
  have T := T.con (gvB_ok X G e2)
  have T : Tabs t0 P w K mg base 0 := T
  obtain ⟨fd, F⟩ := c.def_ 0 (d := dd 5 "determinant") rfl
  have T : Tabs t1 P w K mg base 1 := T.def_ (x := "determinant") (st := top 5) (N := n_determinant) (ps := ["one"]) F (He.glo_ok X G (c.fact 0 (f := .glo "determinant") rfl)) (fun _ _ _ _ _ _ us hl => match us, hl with | [_], _ => rfl) s_determinant c_determinant
  obtain ⟨fd, F⟩ := c.def_ 1 (d := dd 6 "move_of") rfl
  have T : Tabs t2 P w K mg base 2 := T.def_ (x := "move_of") (st := top 6) (N := n_move_of) (ps := ["numbers"]) F (He.glo_ok X G (c.fact 1 (f := .glo "move_of") rfl)) (fun _ _ _ _ _ _ us hl => match us, hl with | [_], _ => rfl) s_move_of c_move_of
  obtain ⟨fd, F⟩ := c.def_ 2 (d := dd 7 "moves_behind") rfl
  have T : Tabs t3 P w K mg base 3 := T.def_ (x := "moves_behind") (st := top 7) (N := n_moves_behind) (ps := ["one", "other"]) F (He.glo_ok X G (c.fact 2 (f := .glo "moves_behind") rfl)) (fun _ _ _ _ _ _ us hl => match us, hl with | [_, _], _ => rfl) s_moves_behind c_moves_behind
  obtain ⟨fd, F⟩ := c.def_ 3 (d := dd 8 "move_undone") rfl
  have T : Tabs t4 P w K mg base 4 := T.def_ (x := "move_undone") (st := top 8) (N := n_move_undone) (ps := ["one"]) F (He.glo_ok X G (c.fact 3 (f := .glo "move_undone") rfl)) (fun _ _ _ _ _ _ us hl => match us, hl with | [_], _ => rfl) s_move_undone c_move_undone
  obtain ⟨fd, F⟩ := c.def_ 4 (d := dd 10 "ratio_low") rfl
  have T : Tabs t5 P w K mg base 5 := T.def_ (x := "ratio_low") (st := top 10) (N := n_ratio_low) (ps := ["top", "bottom"]) F (He.glo_ok X G (c.fact 4 (f := .glo "ratio_low") rfl)) (fun _ _ _ _ _ _ us hl => match us, hl with | [_, _], _ => rfl) s_ratio_low c_ratio_low
  obtain ⟨fd, F⟩ := c.def_ 5 (d := dd 11 "ratios_added") rfl
  have T : Tabs t6 P w K mg base 6 := T.def_ (x := "ratios_added") (st := top 11) (N := n_ratios_added) (ps := ["one", "other"]) F (He.glo_ok X G (c.fact 5 (f := .glo "ratios_added") rfl)) (fun _ _ _ _ _ _ us hl => match us, hl with | [_, _], _ => rfl) s_ratios_added c_ratios_added
  obtain ⟨fd, F⟩ := c.def_ 6 (d := dd 12 "ratios_less") rfl
  have T : Tabs t7 P w K mg base 7 := T.def_ (x := "ratios_less") (st := top 12) (N := n_ratios_less) (ps := ["one", "other"]) F (He.glo_ok X G (c.fact 6 (f := .glo "ratios_less") rfl)) (fun _ _ _ _ _ _ us hl => match us, hl with | [_, _], _ => rfl) s_ratios_less c_ratios_less
  obtain ⟨fd, F⟩ := c.def_ 7 (d := dd 13 "ratios_times") rfl
  have T : Tabs t8 P w K mg base 8 := T.def_ (x := "ratios_times") (st := top 13) (N := n_ratios_times) (ps := ["one", "other"]) F (He.glo_ok X G (c.fact 7 (f := .glo "ratios_times") rfl)) (fun _ _ _ _ _ _ us hl => match us, hl with | [_, _], _ => rfl) s_ratios_times c_ratios_times
  obtain ⟨fd, F⟩ := c.def_ 8 (d := dd 14 "ratios_over") rfl
  have T : Tabs t9 P w K mg base 9 := T.def_ (x := "ratios_over") (st := top 14) (N := n_ratios_over) (ps := ["one", "other"]) F (He.glo_ok X G (c.fact 8 (f := .glo "ratios_over") rfl)) (fun _ _ _ _ _ _ us hl => match us, hl with | [_, _], _ => rfl) s_ratios_over c_ratios_over
  obtain ⟨fd, F⟩ := c.def_ 9 (d := dd 17 "whole_power") rfl
  have T : Tabs t10 P w K mg base 10 := T.def_ (x := "whole_power") (st := top 17) (N := n_whole_power) (ps := ["p", "many"]) F (He.glo_ok X G (c.fact 9 (f := .glo "whole_power") rfl)) (fun _ _ _ _ _ _ us hl => match us, hl with | [_, _], _ => rfl) s_whole_power c_whole_power
  obtain ⟨fd, F⟩ := c.def_ 10 (d := dd 18 "power_of") rfl
  have T : Tabs t11 P w K mg base 11 := T.def_ (x := "power_of") (st := top 18) (N := n_power_of) (ps := ["p", "power"]) F (He.glo_ok X G (c.fact 10 (f := .glo "power_of") rfl)) (fun _ _ _ _ _ _ us hl => match us, hl with | [_, _], _ => rfl) s_power_of c_power_of
  obtain ⟨fd, F⟩ := c.def_ 11 (d := dd 19 "many_in") rfl
  have T : Tabs t12 P w K mg base 12 := T.def_ (x := "many_in") (st := top 19) (N := n_many_in) (ps := ["p", "number"]) F (He.glo_ok X G (c.fact 11 (f := .glo "many_in") rfl)) (fun _ _ _ _ _ _ us hl => match us, hl with | [_, _], _ => rfl) s_many_in c_many_in
  obtain ⟨fd, F⟩ := c.def_ 12 (d := dd 20 "power_in") rfl
  have T : Tabs t13 P w K mg base 13 := T.def_ (x := "power_in") (st := top 20) (N := n_power_in) (ps := ["p", "one"]) F (He.glo_ok X G (c.fact 12 (f := .glo "power_in") rfl)) (fun _ _ _ _ _ _ us hl => match us, hl with | [_, _], _ => rfl) s_power_in c_power_in
  obtain ⟨fd, F⟩ := c.def_ 13 (d := dd 21 "undone_by") rfl
  have T : Tabs t14 P w K mg base 14 := T.def_ (x := "undone_by") (st := top 21) (N := n_undone_by) (ps := ["number", "many"]) F (He.glo_ok X G (c.fact 13 (f := .glo "undone_by") rfl)) (fun _ _ _ _ _ _ us hl => match us, hl with | [_, _], _ => rfl) s_undone_by c_undone_by
  obtain ⟨fd, F⟩ := c.def_ 14 (d := dd 22 "rest_of") rfl
  have T : Tabs t15 P w K mg base 15 := T.def_ (x := "rest_of") (st := top 22) (N := n_rest_of) (ps := ["p", "one", "power"]) F (He.glo_ok X G (c.fact 14 (f := .glo "rest_of") rfl)) (fun _ _ _ _ _ _ us hl => match us, hl with | [_, _, _], _ => rfl) s_rest_of c_rest_of
  obtain ⟨fd, F⟩ := c.def_ 15 (d := dd 24 "place_named") rfl
  have T : Tabs t16 P w K mg base 16 := T.def_ (x := "place_named") (st := top 24) (N := n_place_named) (ps := ["p", "depth", "one"]) F (He.glo_ok X G (c.fact 15 (f := .glo "place_named") rfl)) (fun _ _ _ _ _ _ us hl => match us, hl with | [_, _, _], _ => rfl) s_place_named c_place_named
  obtain ⟨fd, F⟩ := c.def_ 16 (d := dd 25 "upward") rfl
  have T : Tabs t17 P w K mg base 17 := T.def_ (x := "upward") (st := top 25) (N := n_upward) (ps := ["p", "place", "depth"]) F (He.glo_ok X G (c.fact 16 (f := .glo "upward") rfl)) (fun _ _ _ _ _ _ us hl => match us, hl with | [_, _, _], _ => rfl) s_upward c_upward
  obtain ⟨fd, F⟩ := c.def_ 17 (d := dd 26 "up_from") rfl
  have T : Tabs t18 P w K mg base 18 := T.def_ (x := "up_from") (st := top 26) (N := n_up_from) (ps := ["p", "place"]) F (He.glo_ok X G (c.fact 17 (f := .glo "up_from") rfl)) (fun _ _ _ _ _ _ us hl => match us, hl with | [_, _], _ => rfl) s_up_from c_up_from
  obtain ⟨fd, F⟩ := c.def_ 18 (d := dd 27 "next_places") rfl
  have T : Tabs t19 P w K mg base 19 := T.def_ (x := "next_places") (st := top 27) (N := n_next_places) (ps := ["p", "place"]) F (He.glo_ok X G (c.fact 18 (f := .glo "next_places") rfl)) (fun _ _ _ _ _ _ us hl => match us, hl with | [_, _], _ => rfl) s_next_places c_next_places
  obtain ⟨fd, F⟩ := c.def_ 19 (d := dd 28 "next_number") rfl
  have T : Tabs t20 P w K mg base 20 := T.def_ (x := "next_number") (st := top 28) (N := n_next_number) (ps := ["p", "place", "other"]) F (He.glo_ok X G (c.fact 19 (f := .glo "next_number") rfl)) (fun _ _ _ _ _ _ us hl => match us, hl with | [_, _, _], _ => rfl) s_next_number c_next_number
  obtain ⟨fd, F⟩ := c.def_ 20 (d := dd 30 "whole") rfl
  have T : Tabs t21 P w K mg base 21 := T.def_ (x := "whole") (st := top 30) (N := n_whole) (ps := ["number"]) F (He.glo_ok X G (c.fact 20 (f := .glo "whole") rfl)) (fun _ _ _ _ _ _ us hl => match us, hl with | [_], _ => rfl) s_whole c_whole
  obtain ⟨fd, F⟩ := c.def_ 21 (d := dd 31 "bottoms_of") rfl
  have T : Tabs t22 P w K mg base 22 := T.def_ (x := "bottoms_of") (st := top 31) (N := n_bottoms_of) (ps := ["p", "move", "place"]) F (He.glo_ok X G (c.fact 21 (f := .glo "bottoms_of") rfl)) (fun _ _ _ _ _ _ us hl => match us, hl with | [_, _, _], _ => rfl) s_bottoms_of c_bottoms_of
  obtain ⟨fd, F⟩ := c.def_ 22 (d := dd 32 "picture_of") rfl
  have T : Tabs t23 P w K mg base 23 := T.def_ (x := "picture_of") (st := top 32) (N := n_picture_of) (ps := ["p", "move", "place"]) F (He.glo_ok X G (c.fact 22 (f := .glo "picture_of") rfl)) (fun _ _ _ _ _ _ us hl => match us, hl with | [_, _, _], _ => rfl) s_picture_of c_picture_of
  obtain ⟨fd, F⟩ := c.def_ 23 (d := dd 36 "meeting") rfl
  have T : Tabs t24 P w K mg base 24 := T.def_ (x := "meeting") (st := top 36) (N := n_meeting) (ps := ["p", "one", "other"]) F (He.glo_ok X G (c.fact 23 (f := .glo "meeting") rfl)) (fun _ _ _ _ _ _ us hl => match us, hl with | [_, _, _], _ => rfl) s_meeting c_meeting
  obtain ⟨fd, F⟩ := c.def_ 24 (d := dd 37 "steps_between") rfl
  have T : Tabs t25 P w K mg base 25 := T.def_ (x := "steps_between") (st := top 37) (N := n_steps_between) (ps := ["p", "one", "other"]) F (He.glo_ok X G (c.fact 24 (f := .glo "steps_between") rfl)) (fun _ _ _ _ _ _ us hl => match us, hl with | [_, _, _], _ => rfl) s_steps_between c_steps_between
  obtain ⟨fd, F⟩ := c.def_ 25 (d := dd 38 "place_along") rfl
  have T : Tabs t26 P w K mg base 26 := T.def_ (x := "place_along") (st := top 38) (N := n_place_along) (ps := ["p", "one", "other", "many"]) F (He.glo_ok X G (c.fact 25 (f := .glo "place_along") rfl)) (fun _ _ _ _ _ _ us hl => match us, hl with | [_, _, _, _], _ => rfl) s_place_along c_place_along
  obtain ⟨fd, F⟩ := c.def_ 26 (d := dd 39 "way_between") rfl
  have T : Tabs t27 P w K mg base 27 := T.def_ (x := "way_between") (st := top 39) (N := n_way_between) (ps := ["p", "one", "other"]) F (He.glo_ok X G (c.fact 26 (f := .glo "way_between") rfl)) (fun _ _ _ _ _ _ us hl => match us, hl with | [_, _, _], _ => rfl) s_way_between c_way_between
  obtain ⟨fd, F⟩ := c.def_ 28 (d := dd 42 "_law_pick") rfl
  have T : Tabs t28 P w K mg base 28 := T.def_ (x := "_law_pick") (st := top 42) (N := n__law_pick) (ps := ["source", "many"]) F (He.glo_ok X G (c.fact 28 (f := .glo "_law_pick") rfl)) (fun _ _ _ _ _ _ us hl => match us, hl with | [_, _], _ => rfl) s__law_pick c__law_pick
  obtain ⟨fd, F⟩ := c.def_ 29 (d := dd 43 "_law_of") rfl
  have T : Tabs t29 P w K mg base 29 := T.def_ (x := "_law_of") (st := top 43) (N := n__law_of) (ps := ["source", "some"]) F (He.glo_ok X G (c.fact 29 (f := .glo "_law_of") rfl)) (fun _ _ _ _ _ _ us hl => match us, hl with | [_, _], _ => rfl) s__law_of c__law_of
  obtain ⟨fd, F⟩ := c.def_ 30 (d := dd 44 "_law_frac") rfl
  have T : Tabs t30 P w K mg base 30 := T.def_ (x := "_law_frac") (st := top 44) (N := n__law_frac) (ps := ["top", "bottom"]) F (He.glo_ok X G (c.fact 30 (f := .glo "_law_frac") rfl)) (fun _ _ _ _ _ _ us hl => match us, hl with | [_, _], _ => rfl) s__law_frac c__law_frac
  obtain ⟨fd, F⟩ := c.def_ 31 (d := dd 45 "_law_plus") rfl
  have T : Tabs t31 P w K mg base 31 := T.def_ (x := "_law_plus") (st := top 45) (N := n__law_plus) (ps := ["one", "other"]) F (He.glo_ok X G (c.fact 31 (f := .glo "_law_plus") rfl)) (fun _ _ _ _ _ _ us hl => match us, hl with | [_, _], _ => rfl) s__law_plus c__law_plus
  obtain ⟨fd, F⟩ := c.def_ 32 (d := dd 46 "_law_less") rfl
  have T : Tabs t32 P w K mg base 32 := T.def_ (x := "_law_less") (st := top 46) (N := n__law_less) (ps := ["one", "other"]) F (He.glo_ok X G (c.fact 32 (f := .glo "_law_less") rfl)) (fun _ _ _ _ _ _ us hl => match us, hl with | [_, _], _ => rfl) s__law_less c__law_less
  obtain ⟨fd, F⟩ := c.def_ 33 (d := dd 47 "_law_times") rfl
  have T : Tabs t33 P w K mg base 33 := T.def_ (x := "_law_times") (st := top 47) (N := n__law_times) (ps := ["one", "other"]) F (He.glo_ok X G (c.fact 33 (f := .glo "_law_times") rfl)) (fun _ _ _ _ _ _ us hl => match us, hl with | [_, _], _ => rfl) s__law_times c__law_times
  obtain ⟨fd, F⟩ := c.def_ 34 (d := dd 48 "_law_often") rfl
  have T : Tabs t34 P w K mg base 34 := T.def_ (x := "_law_often") (st := top 48) (N := n__law_often) (ps := ["p", "number"]) F (He.glo_ok X G (c.fact 34 (f := .glo "_law_often") rfl)) (fun _ _ _ _ _ _ us hl => match us, hl with | [_, _], _ => rfl) s__law_often c__law_often
  obtain ⟨fd, F⟩ := c.def_ 35 (d := dd 49 "_law_in") rfl
  have T : Tabs t35 P w K mg base 35 := T.def_ (x := "_law_in") (st := top 49) (N := n__law_in) (ps := ["p", "one"]) F (He.glo_ok X G (c.fact 35 (f := .glo "_law_in") rfl)) (fun _ _ _ _ _ _ us hl => match us, hl with | [_, _], _ => rfl) s__law_in c__law_in
  obtain ⟨fd, F⟩ := c.def_ 36 (d := dd 50 "_law_power") rfl
  have T : Tabs t36 P w K mg base 36 := T.def_ (x := "_law_power") (st := top 50) (N := n__law_power) (ps := ["p", "power"]) F (He.glo_ok X G (c.fact 36 (f := .glo "_law_power") rfl)) (fun _ _ _ _ _ _ us hl => match us, hl with | [_, _], _ => rfl) s__law_power c__law_power
  obtain ⟨fd, F⟩ := c.def_ 37 (d := dd 51 "_law_rest") rfl
  have T : Tabs t37 P w K mg base 37 := T.def_ (x := "_law_rest") (st := top 51) (N := n__law_rest) (ps := ["p", "one", "power"]) F (He.glo_ok X G (c.fact 37 (f := .glo "_law_rest") rfl)) (fun _ _ _ _ _ _ us hl => match us, hl with | [_, _, _], _ => rfl) s__law_rest c__law_rest
  obtain ⟨fd, F⟩ := c.def_ 38 (d := dd 52 "_law_place") rfl
  have T : Tabs t38 P w K mg base 38 := T.def_ (x := "_law_place") (st := top 52) (N := n__law_place) (ps := ["p", "depth", "one"]) F (He.glo_ok X G (c.fact 38 (f := .glo "_law_place") rfl)) (fun _ _ _ _ _ _ us hl => match us, hl with | [_, _, _], _ => rfl) s__law_place c__law_place
  obtain ⟨fd, F⟩ := c.def_ 39 (d := dd 53 "_law_up") rfl
  have T : Tabs t39 P w K mg base 39 := T.def_ (x := "_law_up") (st := top 53) (N := n__law_up) (ps := ["p", "place"]) F (He.glo_ok X G (c.fact 39 (f := .glo "_law_up") rfl)) (fun _ _ _ _ _ _ us hl => match us, hl with | [_, _], _ => rfl) s__law_up c__law_up
  obtain ⟨fd, F⟩ := c.def_ 40 (d := dd 54 "_law_way") rfl
  have T : Tabs t40 P w K mg base 40 := T.def_ (x := "_law_way") (st := top 54) (N := n__law_way) (ps := ["p", "one", "other"]) F (He.glo_ok X G (c.fact 40 (f := .glo "_law_way") rfl)) (fun _ _ _ _ _ _ us hl => match us, hl with | [_, _, _], _ => rfl) s__law_way c__law_way
  obtain ⟨fd, F⟩ := c.def_ 41 (d := dd 55 "_law_fraction") rfl
  have T : Tabs t41 P w K mg base 41 := T.def_ (x := "_law_fraction") (st := top 55) (N := n__law_fraction) (ps := ["source", "p"]) F (He.glo_ok X G (c.fact 41 (f := .glo "_law_fraction") rfl)) (fun _ _ _ _ _ _ us hl => match us, hl with | [_, _], _ => rfl) s__law_fraction c__law_fraction
  obtain ⟨fd, F⟩ := c.def_ 42 (d := dd 56 "_law_drawn_place") rfl
  have T : Tabs t42 P w K mg base 42 := T.def_ (x := "_law_drawn_place") (st := top 56) (N := n__law_drawn_place) (ps := ["source", "p"]) F (He.glo_ok X G (c.fact 42 (f := .glo "_law_drawn_place") rfl)) (fun _ _ _ _ _ _ us hl => match us, hl with | [_, _], _ => rfl) s__law_drawn_place c__law_drawn_place
  obtain ⟨fd, F⟩ := c.def_ 43 (d := dd 57 "_law_numbers") rfl
  have T : Tabs t43 P w K mg base 43 := T.def_ (x := "_law_numbers") (st := top 57) (N := n__law_numbers) (ps := ["source", "p"]) F (He.glo_ok X G (c.fact 43 (f := .glo "_law_numbers") rfl)) (fun _ _ _ _ _ _ us hl => match us, hl with | [_, _], _ => rfl) s__law_numbers c__law_numbers
  obtain ⟨fd, F⟩ := c.def_ 44 (d := dd 58 "_law_put") rfl
  have T : Tabs t44 P w K mg base 44 := T.def_ (x := "_law_put") (st := top 58) (N := n__law_put) (ps := ["move", "x"]) F (He.glo_ok X G (c.fact 44 (f := .glo "_law_put") rfl)) (fun _ _ _ _ _ _ us hl => match us, hl with | [_, _], _ => rfl) s__law_put c__law_put
  obtain ⟨fd, F⟩ := c.def_ 46 (d := dd 60 "_law_put_far") rfl
  have T : Tabs t45 P w K mg base 45 := T.def_ (x := "_law_put_far") (st := top 60) (N := n__law_put_far) (ps := ["move"]) F (He.glo_ok X G (c.fact 46 (f := .glo "_law_put_far") rfl)) (fun _ _ _ _ _ _ us hl => match us, hl with | [_], _ => rfl) s__law_put_far c__law_put_far
  obtain ⟨fd, F⟩ := c.def_ 47 (d := dd 61 "_law_middle") rfl
  have T : Tabs t46 P w K mg base 46 := T.def_ (x := "_law_middle") (st := top 61) (N := n__law_middle) (ps := ["p", "ends"]) F (He.glo_ok X G (c.fact 47 (f := .glo "_law_middle") rfl)) (fun _ _ _ _ _ _ us hl => match us, hl with | [_, _], _ => rfl) s__law_middle c__law_middle
  obtain ⟨fd, F⟩ := c.def_ 45 (d := dd 59 "_law_picture") rfl
  have T : Tabs t47 P w K mg base 47 := T.def_ (x := "_law_picture") (st := top 59) (N := n__law_picture) (ps := ["p", "move", "place"]) F (He.glo_ok X G (c.fact 45 (f := .glo "_law_picture") rfl)) (fun _ _ _ _ _ _ us hl => match us, hl with | [_, _, _], _ => rfl) s__law_picture c__law_picture
  exact T
end
theorem pure_law : ∀ ns : List Int, ns.length ≤ (PySem.Challenge.rw_gridtrees_k15_whole_next_ones_led_to_nex.most).getD 0 → ∃ m S', execs t47 m b_law ((List.replicate n_law.length .un).set 1 .src) [] (src0 ns) = .rt (.bool true) S' := fun ns _ => law_pure ns
abbrev most : Nat := (PySem.Challenge.rw_gridtrees_k15_whole_next_ones_led_to_nex.most).getD 0
theorem law_end {w : World} {K : PySem.W.Frag} {h : Heap} {mg : Str → Option Value} {fa' : Addr} (X : K.In h) (G : h.Ns mainGlobals mg) (named : mg "law" = some (.ref fa')) (c : He.SaysX fa fn [] [] ex w h K) :
    ∃ (fd : FuncData) (sp : Sp), K.In h ∧ (∀ (s : Shared) (u : Value), BindsTo s fd ⟨[u], []⟩ [("script", u)]) ∧
      (∀ (H : Hp) (a : Addr) (ns : List Int), ns.length ≤ most → SqL K H a (ns.map V.int) → sp [.ref a] H (fun v _ => v = .bl true) fun _ _ _ => False) ∧
      ∀ B : Heap, K.In B → B.Ns mainGlobals mg → FnG PySem.Challenge.rw_gridtrees_k15_whole_next_ones_led_to_nex.prog w K mg B CX0 48 fa' fd ["script"] sp := by
  obtain ⟨fdS, FS0⟩ := c.t.d.def_ 27 (d := dd 41 "_law_source") rfl
  obtain ⟨fd, F0⟩ := c.t.d.def_ 48 (d := dd 62 "law") rfl
  have FS : FunD K "_law_source" "_law_source" (defArgs (top 41)) (defBody (top 41)) (defScope (top 41)) [] [] (He.ga K "_law_source") fdS := FS0
  have F : FunD K "law" "law" (defArgs (top 62)) (defBody (top 62)) (defScope (top 62)) [] [] (He.ga K "law") fd := F0
  have gS := He.glo_ok X G (c.t.d.fact 27 (f := .glo "_law_source") rfl)
  have gL := He.glo_ok X G (c.t.d.fact 48 (f := .glo "law") rfl)
  cases named.symm.trans gL
  have mi := He.free_ok X G (c.t.d.fact 53 (f := .free "int") rfl)
  have ma := He.free_ok X G (c.t.d.fact 49 (f := .free "abs") rfl)
  refine ⟨fd, spLaw K most, X, fun s u => F.bindsA (ps := ["script"]) (fun _ _ _ _ _ _ us hl => match us, hl with | [_], _ => rfl) s [u] rfl, fun H a ns hl hS => ⟨a, ns, rfl, hS, hl, fun _ => rfl⟩, fun B hB hm => ?_⟩
  have T : Tabs t47 PySem.Challenge.rw_gridtrees_k15_whole_next_ones_led_to_nex.prog w K mg B 47 := tabs X G c.t.d c.more
  have ok := ok_src (base := B) (w := w) (P := PySem.Challenge.rw_gridtrees_k15_whole_next_ones_led_to_nex.prog) (Fun.ofD FS) rfl rfl mi ma
  exact law_ok (i := 1) T F ok (by decide) gS FS.kp (FS.bindsN fun _ _ _ _ _ _ us hl => match us, hl with | [_], _ => rfl) s_law rfl rfl rfl (by decide +kernel) (by decide +kernel) (by decide +kernel) c_law (by decide) pure_law
end My
open PySem PySem.W PySem.Calls PyProof.Rows in
theorem PySem.Challenge.cw_gridtrees_k15_whole_next_ones_led_to_nex_holds : PySem.Challenge.rw_gridtrees_k15_whole_next_ones_led_to_nex.Holds := by
  w_on; o_law
  refine HandSHeadRun.head_imp (r := OpenLaw.row PySem.Challenge.rw_gridtrees_k15_whole_next_ones_led_to_nex) (q := view (OpenLaw.row PySem.Challenge.rw_gridtrees_k15_whole_next_ones_led_to_nex).prog [0, 62]) (H := My.hk) (ob := My.ob) (M := 3000) (loose := My.loose)
    (d := HandSHeadRun.topDef (OpenLaw.row PySem.Challenge.rw_gridtrees_k15_whole_next_ones_led_to_nex).prog 62) (kwd := []) My.ob_eq  My.ran (by kernel_rfl) (by kernel_rfl)
    (by kernel_rfl) (by rfl) (by first | assumption | decide +kernel) (by decide +kernel) ⟨rfl, rfl, rfl, rfl, rfl, by decide +kernel⟩ ?hw ?hc
  case hw => w_witness2
  case hc =>
    refine Dk.walk_G (l := PySem.Challenge.rw_gridtrees_k15_whole_next_ones_led_to_nex) (n := My.most) (k := 48) (x := "script") rfl (by decide) (by kernel_rfl) ⟨rfl, by decide, by decide⟩ ?F
    intro w mg fa h Y G named
    obtain ⟨K, X, c⟩ := Y
    have e : (HandSHeadRun.topDef (OpenLaw.row PySem.Challenge.rw_gridtrees_k15_whole_next_ones_led_to_nex).prog 62).name = ("law" : PySem.Str) := by kernel_rfl
    rw [e] at named
    exact ⟨K, My.law_end X G named c⟩
end
