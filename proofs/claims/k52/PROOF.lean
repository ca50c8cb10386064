import PyProof.Rows.All
import Wide.All
import OpenK.AllK
import Wide.FinOn
import HandS.ForMost
import HandS.DictComp
import HandS.Zip
import HandS.IsInst
import HandS.Deep
import HandS.Conv
import HandS.HeadHook2
import HandS.HeadEnd
import HandS.Head0
import HandS.Head1
import HandS.Head2
import KE.SortData
import KE.DataMinMax
import KE.DataFind
import PyProof.Rows.TupAdd
import KE.KIndexOf
import HandS.Small
import PyProof.Transfer
import KE.GoesEnum
import HandS.RepeatKit
import PySem.Challenge.RW_tabletalk_k52_whole_told_trees
set_option Elab.async false
set_option linter.all false
set_option maxRecDepth 100000
/-! PP, part a: pure values behind abstract heaps: what a value tells (Rep), slots, states (Rel), moves (Mv). -/
namespace PP
open PySem PySem.Spec PyProof.Rows L2

/-- a value without its heap: plain tuples may be keys; fup: a tuple whose object is known (it may be asked for an index) -/
inductive PV where
  | non | bl (b : Bool) | int (i : Int) | str (s : Str)
  | tup (xs : List PV) | fup (xs : List PV) | lst (xs : List PV)
  | dk (kvs : List (Key × PV)) | dt (kvs : List (List Key × PV))
mutual
/-- as data -/
def toD : PV → PyData
  | .non => .none
  | .bl b => .bool b
  | .int i => .int i
  | .str s => .str s
  | .tup xs => .tuple (toDs xs)
  | .fup xs => .tuple (toDs xs)
  | .lst xs => .list (toDs xs)
  | .dk _ => .dict []
  | .dt _ => .dict []
def toDs : List PV → List PyData
  | [] => []
  | x :: xs => toD x :: toDs xs
end
theorem toDs_map : ∀ xs : List PV, toDs xs = xs.map toD
  | [] => rfl
  | x :: xs => by simp [toDs, toDs_map xs]
def keyP : Key → PV
  | .inl i => .int i
  | .inr s => .str s
abbrev tupObj (its : List Value) : Obj := { cls := .type "tuple", data := .seq its.toArray }

/-- a list that is read: frozen, or a part of the module -/
def FzL (K : PySem.W.Frag) (F : Addr → Prop) (H : Hp) (a : Addr) (vs : List V) : Prop := (F a ∧ SqL K H a vs) ∨ SqL K (fun _ => none) a vs

mutual
inductive Rep (K : PySem.W.Frag) (F : Addr → Prop) (H : Hp) : V → PV → Prop
  | non : Rep K F H .non .non
  | bl (b : Bool) : Rep K F H (.bl b) (.bl b)
  | int (i : Int) : Rep K F H (.int i) (.int i)
  | str (x : Str) : Rep K F H (.str x) (.str x)
  | tup {a : Addr} {vs : List V} {xs : List PV} : H a = some (.tup vs) → RepL K F H vs xs → Rep K F H (.ref a) (.tup xs)
  | fup {a : Addr} {its : List Value} {vs : List V} {xs : List PV} : H a = some (.frz (tupObj its) (.tup vs)) → RepL K F H vs xs → Rep K F H (.ref a) (.fup xs)
  | lst {a : Addr} {vs : List V} {xs : List PV} : FzL K F H a vs → RepL K F H vs xs → Rep K F H (.ref a) (.lst xs)
  | dk {a : Addr} {kvs : List (Key × V)} {xs : List (Key × PV)} : F a → H a = some (.dK kvs) → RepK K F H kvs xs → Rep K F H (.ref a) (.dk xs)
  | dt {a : Addr} {kvs : List (List Key × V)} {xs : List (List Key × PV)} : F a → H a = some (.dT kvs) → RepT K F H kvs xs → Rep K F H (.ref a) (.dt xs)
inductive RepL (K : PySem.W.Frag) (F : Addr → Prop) (H : Hp) : List V → List PV → Prop
  | nil : RepL K F H [] []
  | cons {v : V} {vs : List V} {x : PV} {xs : List PV} : Rep K F H v x → RepL K F H vs xs → RepL K F H (v :: vs) (x :: xs)
inductive RepK (K : PySem.W.Frag) (F : Addr → Prop) (H : Hp) : List (Key × V) → List (Key × PV) → Prop
  | nil : RepK K F H [] []
  | cons {k : Key} {v : V} {kvs : List (Key × V)} {x : PV} {xs : List (Key × PV)} : Rep K F H v x → RepK K F H kvs xs → RepK K F H ((k, v) :: kvs) ((k, x) :: xs)
inductive RepT (K : PySem.W.Frag) (F : Addr → Prop) (H : Hp) : List (List Key × V) → List (List Key × PV) → Prop
  | nil : RepT K F H [] []
  | cons {k : List Key} {v : V} {kvs : List (List Key × V)} {x : PV} {xs : List (List Key × PV)} : Rep K F H v x → RepT K F H kvs xs → RepT K F H ((k, v) :: kvs) ((k, x) :: xs)
end

/-- what is frozen stays, tuples stay -/
structure Ex (F : Addr → Prop) (H : Hp) (F' : Addr → Prop) (H' : Hp) : Prop where
  sub : ∀ a, F a → F' a
  keep : ∀ a o, F a → H a = some o → H' a = some o
  tups : ∀ a vs, H a = some (.tup vs) → H' a = some (.tup vs)
  frzs : ∀ a o u, H a = some (.frz o u) → H' a = some (.frz o u)
theorem Ex.refl {F : Addr → Prop} {H : Hp} : Ex F H F H := ⟨fun _ h => h, fun _ _ _ h => h, fun _ _ h => h, fun _ _ _ h => h⟩
theorem Ex.trans {F F1 F2 : Addr → Prop} {H H1 H2 : Hp} (a : Ex F H F1 H1) (b : Ex F1 H1 F2 H2) : Ex F H F2 H2 :=
  ⟨fun x h => b.sub x (a.sub x h), fun x o h e => b.keep x o (a.sub x h) (a.keep x o h e), fun x vs e => b.tups x vs (a.tups x vs e), fun x o u e => b.frzs x o u (a.frzs x o u e)⟩

variable {K : PySem.W.Frag} {F F' : Addr → Prop} {H H' : Hp}

theorem rd_keep {a : Addr} {u : HO} (k : ∀ o, H a = some o → H' a = some o) (r : Rd H a u) : Rd H' a u := by
  rcases r with r | ⟨o, r⟩
  · exact .inl (k _ r)
  · exact .inr ⟨o, k _ r⟩
theorem sql_keep {a : Addr} {vs : List V} (k : ∀ o, H a = some o → H' a = some o) (r : SqL K H a vs) : SqL K H' a vs := by
  rcases r with r | r
  · exact .inl (rd_keep k r)
  · exact .inr r
theorem FzL.seq {a : Addr} {vs : List V} (r : FzL K F H a vs) : SqL K H a vs := by
  rcases r with ⟨_, r⟩ | r
  · exact r
  · exact sql_keep (fun o e => by cases e) r
theorem FzL.ex {a : Addr} {vs : List V} (e : Ex F H F' H') (r : FzL K F H a vs) : FzL K F' H' a vs := by
  rcases r with ⟨f, r⟩ | r
  · exact .inl ⟨e.sub a f, sql_keep (fun o q => e.keep a o f q) r⟩
  · exact .inr r

mutual
theorem Rep.ex (e : Ex F H F' H') : ∀ {v : V} {x : PV}, Rep K F H v x → Rep K F' H' v x
  | _, _, .non => .non
  | _, _, .bl b => .bl b
  | _, _, .int i => .int i
  | _, _, .str s => .str s
  | _, _, .tup h r => .tup (e.tups _ _ h) (RepL.ex e r)
  | _, _, .fup h r => .fup (e.frzs _ _ _ h) (RepL.ex e r)
  | _, _, .lst h r => .lst (h.ex e) (RepL.ex e r)
  | _, _, .dk f h r => .dk (e.sub _ f) (e.keep _ _ f h) (RepK.ex e r)
  | _, _, .dt f h r => .dt (e.sub _ f) (e.keep _ _ f h) (RepT.ex e r)
theorem RepL.ex (e : Ex F H F' H') : ∀ {vs : List V} {xs : List PV}, RepL K F H vs xs → RepL K F' H' vs xs
  | _, _, .nil => .nil
  | _, _, .cons r t => .cons (Rep.ex e r) (RepL.ex e t)
theorem RepK.ex (e : Ex F H F' H') : ∀ {vs : List (Key × V)} {xs : List (Key × PV)}, RepK K F H vs xs → RepK K F' H' vs xs
  | _, _, .nil => .nil
  | _, _, .cons r t => .cons (Rep.ex e r) (RepK.ex e t)
theorem RepT.ex (e : Ex F H F' H') : ∀ {vs : List (List Key × V)} {xs : List (List Key × PV)}, RepT K F H vs xs → RepT K F' H' vs xs
  | _, _, .nil => .nil
  | _, _, .cons r t => .cons (Rep.ex e r) (RepT.ex e t)
end

theorem RepL.length : ∀ {vs : List V} {xs : List PV}, RepL K F H vs xs → vs.length = xs.length
  | _, _, .nil => rfl
  | _, _, .cons _ t => by simp [RepL.length t]
theorem RepL.get : ∀ {vs : List V} {xs : List PV} {i : Nat} {x : PV}, RepL K F H vs xs → xs[i]? = some x → ∃ v, vs[i]? = some v ∧ Rep K F H v x
  | _, _, _, _, .nil, e => by simp at e
  | _, _, 0, _, .cons r _, e => by simp at e; subst e; exact ⟨_, rfl, r⟩
  | _, _, i + 1, x, .cons _ t, e => by
    obtain ⟨u, h1, h2⟩ := RepL.get (i := i) (x := x) t (by simpa using e)
    exact ⟨u, by simpa using h1, h2⟩
theorem RepL.append : ∀ {vs ws : List V} {xs ys : List PV}, RepL K F H vs xs → RepL K F H ws ys → RepL K F H (vs ++ ws) (xs ++ ys)
  | _, _, _, _, .nil, s => s
  | _, _, _, _, .cons r t, s => .cons r (RepL.append t s)
theorem RepL.take : ∀ {vs : List V} {xs : List PV} (n : Nat), RepL K F H vs xs → RepL K F H (vs.take n) (xs.take n)
  | _, _, 0, _ => by simpa using RepL.nil
  | _, _, _ + 1, .nil => .nil
  | _, _, n + 1, .cons r t => .cons r (RepL.take n t)
theorem RepL.drop : ∀ {vs : List V} {xs : List PV} (n : Nat), RepL K F H vs xs → RepL K F H (vs.drop n) (xs.drop n)
  | _, _, 0, r => r
  | _, _, _ + 1, .nil => .nil
  | _, _, n + 1, .cons _ t => RepL.drop n t
theorem RepL.set {v : V} {x : PV} (r : Rep K F H v x) : ∀ {vs : List V} {xs : List PV} (n : Nat), RepL K F H vs xs → RepL K F H (vs.set n v) (xs.set n x)
  | _, _, _, .nil => .nil
  | _, _, 0, .cons _ t => .cons r t
  | _, _, n + 1, .cons q t => .cons q (RepL.set r n t)
theorem RepL.eraseIdx : ∀ {vs : List V} {xs : List PV} (n : Nat), RepL K F H vs xs → RepL K F H (vs.eraseIdx n) (xs.eraseIdx n)
  | _, _, _, .nil => .nil
  | _, _, 0, .cons _ t => t
  | _, _, n + 1, .cons q t => .cons q (RepL.eraseIdx n t)
theorem RepL.dropLast : ∀ {vs : List V} {xs : List PV}, RepL K F H vs xs → RepL K F H vs.dropLast xs.dropLast
  | _, _, .nil => .nil
  | _, _, .cons _ .nil => .nil
  | _, _, .cons r (.cons r2 t) => .cons r (RepL.dropLast (.cons r2 t))
theorem RepL.reverse : ∀ {vs : List V} {xs : List PV}, RepL K F H vs xs → RepL K F H vs.reverse xs.reverse
  | _, _, .nil => .nil
  | _, _, .cons r t => by
    rw [List.reverse_cons, List.reverse_cons]
    exact (RepL.reverse t).append (.cons r .nil)

/-! ### data as the layer reads them -/
mutual
/-- no dict in it -/
def nodic : PV → Bool
  | .dk _ => false
  | .dt _ => false
  | .lst xs => nodicL xs
  | .tup xs => nodicL xs
  | .fup xs => nodicL xs
  | _ => true
def nodicL : List PV → Bool
  | [] => true
  | x :: xs => nodic x && nodicL xs
end
mutual
theorem Rep.dp : ∀ {v : V} {x : PV}, nodic x = true → Rep K F H v x → Dp K H v (toD x)
  | _, _, _, .non => by unfold toD; exact .non
  | _, _, _, .bl b => by unfold toD; exact .bl b
  | _, _, _, .int i => by unfold toD; exact .int i
  | _, _, _, .str s => by unfold toD; exact .str s
  | _, _, e, .tup h r => by unfold toD; exact .tup (SqT.of h) (RepL.dp (by simpa [nodic] using e) r)
  | _, _, e, .fup h r => by unfold toD; exact .tup (.inl (.inr ⟨_, h⟩)) (RepL.dp (by simpa [nodic] using e) r)
  | _, _, e, .lst h r => by unfold toD; exact .lst h.seq (RepL.dp (by simpa [nodic] using e) r)
theorem RepL.dp : ∀ {vs : List V} {xs : List PV}, nodicL xs = true → RepL K F H vs xs → DpAll K H vs (toDs xs)
  | _, _, _, .nil => by unfold toDs; exact .nil
  | _, _, e, .cons r t => by
    simp only [nodicL, Bool.and_eq_true] at e
    unfold toDs
    exact .cons (Rep.dp e.1 r) (RepL.dp e.2 t)
end

/-! ### slots -/
inductive SlP where
  | no | val (v : PV) | own (v : PV)
abbrev PEn := List SlP

/-- a container of one's own at a -/
inductive OwnAt (K : PySem.W.Frag) (F : Addr → Prop) (H : Hp) (a : Addr) : PV → Prop
  | lst {vs : List V} {xs : List PV} : H a = some (.lst vs) → RepL K F H vs xs → OwnAt K F H a (.lst xs)
  | dk {kvs : List (Key × V)} {xs : List (Key × PV)} : H a = some (.dK kvs) → RepK K F H kvs xs → OwnAt K F H a (.dk xs)
  | dt {kvs : List (List Key × V)} {xs : List (List Key × PV)} : H a = some (.dT kvs) → RepT K F H kvs xs → OwnAt K F H a (.dt xs)
theorem OwnAt.some {a : Addr} {v : PV} (o : OwnAt K F H a v) : ∃ u, H a = some u ∧ (∀ vs, u ≠ .tup vs) ∧ ∀ o w, u ≠ .frz o w := by
  cases o with
  | lst h _ => exact ⟨_, h, (fun _ z => by cases z), (fun _ _ z => by cases z)⟩
  | dk h _ => exact ⟨_, h, (fun _ z => by cases z), (fun _ _ z => by cases z)⟩
  | dt h _ => exact ⟨_, h, (fun _ z => by cases z), (fun _ _ z => by cases z)⟩
theorem OwnAt.ex {a : Addr} {v : PV} (e : Ex F H F' H') (k : H' a = H a) (o : OwnAt K F H a v) : OwnAt K F' H' a v := by
  cases o with
  | lst h r => exact .lst (k.trans h) (r.ex e)
  | dk h r => exact .dk (k.trans h) (r.ex e)
  | dt h r => exact .dt (k.trans h) (r.ex e)
/-- frozen, it is a value -/
theorem OwnAt.rep {a : Addr} {v : PV} (o : OwnAt K F H a v) (e : Ex F H F' H) (f : F' a) : Rep K F' H (.ref a) v := by
  cases o with
  | lst h r => exact .lst (.inl ⟨f, SqL.of h⟩) (r.ex e)
  | dk h r => exact .dk f h (r.ex e)
  | dt h r => exact .dt f h (r.ex e)

/-- a value, or a container of one's own that is only read -/
inductive BRep (K : PySem.W.Frag) (F : Addr → Prop) (H : Hp) : V → PV → Prop
  | rep {v : V} {x : PV} : Rep K F H v x → BRep K F H v x
  | own {a : Addr} {x : PV} : OwnAt K F H a x → BRep K F H (.ref a) x
inductive BRepL (K : PySem.W.Frag) (F : Addr → Prop) (H : Hp) : List V → List PV → Prop
  | nil : BRepL K F H [] []
  | cons {v : V} {vs : List V} {x : PV} {xs : List PV} : BRep K F H v x → BRepL K F H vs xs → BRepL K F H (v :: vs) (x :: xs)
theorem RepL.b : ∀ {vs : List V} {xs : List PV}, RepL K F H vs xs → BRepL K F H vs xs
  | _, _, .nil => .nil
  | _, _, .cons r t => .cons (.rep r) (RepL.b t)
theorem BRepL.length : ∀ {vs : List V} {xs : List PV}, BRepL K F H vs xs → vs.length = xs.length
  | _, _, .nil => rfl
  | _, _, .cons _ t => by simp [BRepL.length t]
/-- the items of a list that is read -/
theorem BRep.lst {v : V} {xs : List PV} (r : BRep K F H v (.lst xs)) : ∃ a vs, v = .ref a ∧ SqL K H a vs ∧ RepL K F H vs xs := by
  cases r with
  | rep r => cases r with | lst h r => exact ⟨_, _, rfl, h.seq, r⟩
  | own o => cases o with | lst h r => exact ⟨_, _, rfl, SqL.of h, r⟩
theorem BRep.tup {v : V} {xs : List PV} (r : BRep K F H v (.tup xs)) : ∃ a vs, v = .ref a ∧ H a = some (.tup vs) ∧ RepL K F H vs xs := by
  cases r with
  | rep r => cases r with | tup h r => exact ⟨_, _, rfl, h, r⟩
  | own o => cases o
theorem BRep.fup {v : V} {xs : List PV} (r : BRep K F H v (.fup xs)) : ∃ a its vs, v = .ref a ∧ H a = some (.frz (tupObj its) (.tup vs)) ∧ RepL K F H vs xs := by
  cases r with
  | rep r => cases r with | fup h r => exact ⟨_, _, _, rfl, h, r⟩
  | own o => cases o
theorem BRep.int {v : V} {i : Int} (r : BRep K F H v (.int i)) : v = .int i := by
  cases r with
  | rep r => cases r; rfl
  | own o => cases o
theorem BRep.bl {v : V} {i : Bool} (r : BRep K F H v (.bl i)) : v = .bl i := by
  cases r with
  | rep r => cases r; rfl
  | own o => cases o
theorem BRep.str {v : V} {i : Str} (r : BRep K F H v (.str i)) : v = .str i := by
  cases r with
  | rep r => cases r; rfl
  | own o => cases o
theorem BRep.dp {v : V} {x : PV} (n : nodic x = true) (r : BRep K F H v x) : Dp K H v (toD x) := by
  cases r with
  | rep r => exact r.dp n
  | own o =>
    cases o with
    | lst h r => unfold toD; exact .lst (SqL.of h) (RepL.dp (by simpa [nodic] using n) r)
    | dk _ _ => simp [nodic] at n
    | dt _ _ => simp [nodic] at n

def Sized (H : Hp) : Prop := ∀ a, (∀ vs, (Rd H a (.lst vs) ∨ Rd H a (.tup vs)) → vs.length ≤ sizeLine) ∧ (∀ kvs, H a = some (.dK kvs) → kvs.length ≤ sizeLine) ∧ ∀ kvs, H a = some (.dT kvs) → kvs.length ≤ sizeLine
theorem sized_of {P : Program} {w : World} {h : Heap} (ok : HOk P w H h) : Sized H := fun a => by
  refine ⟨fun vs e => ?_, fun kvs e => ?_, fun kvs e => ?_⟩
  · rcases e with e | e
    · exact (e.ok ok).1
    · exact (e.ok ok).1
  · exact (ok a _ e).1
  · exact (ok a _ e).1
def HO.small : HO → Prop
  | .lst vs => vs.length ≤ sizeLine
  | .tup vs => vs.length ≤ sizeLine
  | .dK kvs => kvs.length ≤ sizeLine
  | .dT kvs => kvs.length ≤ sizeLine
  | .frz _ (.lst vs) => vs.length ≤ sizeLine
  | .frz _ (.tup vs) => vs.length ≤ sizeLine
  | _ => True
theorem Sized.upd {p : Addr} {o : HO} (s : Sized H) (h : PP.HO.small o) : Sized (L2.upd H p o) := fun a => by
  by_cases e : a = p
  · subst e
    unfold Rd
    rw [upd_same]
    refine ⟨fun vs q => ?_, fun kvs q => ?_, fun kvs q => ?_⟩
    · rcases q with (q | ⟨x, q⟩) | (q | ⟨x, q⟩) <;> cases q <;> exact h
    · cases q; exact h
    · cases q; exact h
  · unfold Rd
    rw [upd_ne e]
    exact s a

def Own (env : PEn) (σ : L2.St) (a : Addr) : Prop := ∃ (i : Nat) (v : PV), env[i]? = some (SlP.own v) ∧ σ[i]? = some (some (V.ref a))

structure Rel (K : PySem.W.Frag) (F : Addr → Prop) (H : Hp) (env : PEn) (σ : L2.St) : Prop where
  len : env.length = σ.length
  val : ∀ (i : Nat) (v : PV), env[i]? = some (SlP.val v) → ∃ x, σ[i]? = some (some x) ∧ Rep K F H x v
  own : ∀ (i : Nat) (v : PV), env[i]? = some (SlP.own v) → ∃ a, σ[i]? = some (some (V.ref a)) ∧ ¬ F a ∧ OwnAt K F H a v
  apart : ∀ (i j : Nat) (v w : PV) (a : Addr), env[i]? = some (SlP.own v) → env[j]? = some (SlP.own w) → σ[i]? = some (some (V.ref a)) → σ[j]? = some (some (V.ref a)) → i = j
  fz : ∀ a, F a → ∃ o, H a = some o
  sz : Sized H

structure Mv (F : Addr → Prop) (H : Hp) (env : PEn) (σ : L2.St) (F' : Addr → Prop) (H' : Hp) (env' : PEn) (σ' : L2.St) : Prop where
  sub : ∀ a, F a → F' a
  frame : ∀ b o, H b = some o → ¬ Own env σ b → H' b = some o
  fnew : ∀ a, F' a → F a ∨ Own env σ a ∨ H a = none
  onew : ∀ a, Own env' σ' a → Own env σ a ∨ H a = none
  there : ∀ b o, H b = some o → ∃ o', H' b = some o'

variable {env env1 env2 : PEn} {σ σ1 σ2 : L2.St} {F1 F2 : Addr → Prop} {H1 H2 : Hp}

theorem Mv.refl : Mv F H env σ F H env σ := ⟨fun _ h => h, fun _ _ h _ => h, fun _ h => .inl h, fun _ h => .inl h, fun _ o h => ⟨o, h⟩⟩
theorem Mv.back (a : Mv F H env σ F1 H1 env1 σ1) {b : Addr} (h : H1 b = none) : H b = none := by
  cases q : H b with
  | none => rfl
  | some o =>
    obtain ⟨o', e⟩ := a.there b o q
    rw [h] at e; cases e
theorem Mv.trans (a : Mv F H env σ F1 H1 env1 σ1) (b : Mv F1 H1 env1 σ1 F2 H2 env2 σ2) : Mv F H env σ F2 H2 env2 σ2 where
  sub := fun x h => b.sub x (a.sub x h)
  frame := fun x o h n => by
    refine b.frame x o (a.frame x o h n) fun z => ?_
    rcases a.onew x z with q | q
    · exact n q
    · rw [h] at q; cases q
  fnew := fun x h => by
    rcases b.fnew x h with q | q | q
    · exact a.fnew x q
    · exact .inr (a.onew x q)
    · exact .inr (.inr (a.back q))
  onew := fun x h => by
    rcases b.onew x h with q | q
    · exact a.onew x q
    · exact .inr (a.back q)
  there := fun x o h => let ⟨o', e⟩ := a.there x o h; b.there x o' e

theorem Rel.nof (R : Rel K F H env σ) {a : Addr} (o : Own env σ a) : ¬ F a := by
  obtain ⟨i, v, e, s⟩ := o
  obtain ⟨b, s', n, _⟩ := R.own i v e
  rw [s] at s'; cases s'; exact n
theorem Rel.ownAt (R : Rel K F H env σ) {a : Addr} (o : Own env σ a) : ∃ v, OwnAt K F H a v := by
  obtain ⟨i, v, e, s⟩ := o
  obtain ⟨b, s', _, n⟩ := R.own i v e
  rw [s] at s'; cases s'; exact ⟨v, n⟩
theorem Rel.ntup (R : Rel K F H env σ) {a : Addr} {vs : List V} (h : H a = some (.tup vs)) : ¬ Own env σ a := fun o => by
  obtain ⟨v, n⟩ := R.ownAt o
  obtain ⟨u, e, d, _⟩ := n.some
  rw [h] at e; cases e; exact d vs rfl
theorem Rel.nfrz (R : Rel K F H env σ) {a : Addr} {o : Obj} {w : HO} (h : H a = some (.frz o w)) : ¬ Own env σ a := fun z => by
  obtain ⟨v, n⟩ := R.ownAt z
  obtain ⟨u, e, _, d⟩ := n.some
  rw [h] at e; cases e; exact d _ _ rfl
theorem Mv.ex (m : Mv F H env σ F1 H1 env1 σ1) (R : Rel K F H env σ) : Ex F H F1 H1 :=
  ⟨m.sub, fun a o f e => m.frame a o e fun z => R.nof z f, fun a vs e => m.frame a _ e (R.ntup e), fun a o u e => m.frame a _ e (R.nfrz e)⟩

/-- the heap grew, some of the new is frozen -/
structure Nw (F : Addr → Prop) (H : Hp) (F' : Addr → Prop) (H' : Hp) : Prop where
  sub : ∀ a, F a → F' a
  same : Same H H'
  fnew : ∀ a, F' a → F a ∨ H a = none
  fz : ∀ a, F' a → ∃ o, H' a = some o
theorem Nw.refl (fz : ∀ a, F a → ∃ o, H a = some o) : Nw F H F H := ⟨fun _ h => h, Same.refl H, fun _ h => .inl h, fz⟩
theorem Nw.ex (n : Nw F H F' H') : Ex F H F' H' := ⟨n.sub, fun a o _ e => n.same a o e, fun a vs e => n.same a _ e, fun a o u e => n.same a _ e⟩
theorem Nw.trans (a : Nw F H F1 H1) (b : Nw F1 H1 F2 H2) : Nw F H F2 H2 :=
  ⟨fun x h => b.sub x (a.sub x h), Same.trans a.same b.same, fun x h => by
    rcases b.fnew x h with q | q
    · exact a.fnew x q
    · exact .inr (Same.free a.same q), b.fz⟩
theorem Nw.mv (n : Nw F H F' H') : Mv F H env σ F' H' env σ :=
  ⟨n.sub, fun b o e _ => n.same b o e, fun a h => (n.fnew a h).imp_right .inr, fun _ h => .inl h, fun b o e => ⟨o, n.same b o e⟩⟩
theorem Nw.rel (n : Nw F H F' H') (R : Rel K F H env σ) (sz : Sized H') : Rel K F' H' env σ where
  len := R.len
  val := fun i v e => let ⟨x, s, r⟩ := R.val i v e; ⟨x, s, r.ex n.ex⟩
  own := fun i v e => by
    obtain ⟨a, s, nf, o⟩ := R.own i v e
    obtain ⟨u, hu, _⟩ := o.some
    refine ⟨a, s, fun f => ?_, o.ex n.ex ((n.same a u hu).trans hu.symm)⟩
    rcases n.fnew a f with q | q
    · exact nf q
    · rw [hu] at q; cases q
  apart := R.apart
  fz := n.fz
  sz := sz
/-- a new object, not frozen -/
theorem Nw.upd {p : Addr} {o : HO} (h : H p = none) (fz : ∀ a, F a → ∃ o, H a = some o) : Nw F H F (L2.upd H p o) :=
  ⟨fun _ h => h, fun b x e => by rw [upd_ne (ne_of_none e h)]; exact e, fun _ h => .inl h, fun a f => by
    obtain ⟨u, e⟩ := fz a f
    exact ⟨u, by rw [upd_ne (ne_of_none e h)]; exact e⟩⟩
/-- a new object, frozen -/
theorem Nw.fix {p : Addr} {o : HO} (h : H p = none) (fz : ∀ a, F a → ∃ o, H a = some o) : Nw F H (fun a => F a ∨ a = p) (L2.upd H p o) :=
  ⟨fun _ h => .inl h, fun b x e => by rw [upd_ne (ne_of_none e h)]; exact e, fun a f => by
    rcases f with f | rfl
    · exact .inl f
    · exact .inr h, fun a f => by
    by_cases q : a = p
    · subst q; exact ⟨o, upd_same⟩
    · rcases f with f | f
      · obtain ⟨u, e⟩ := fz a f
        exact ⟨u, by rw [upd_ne q]; exact e⟩
      · exact absurd f q⟩
end PP

/-! PP, part b: denotations of expressions; constants, names, displays, operators. -/
namespace PP
open PySem PySem.Spec PyProof.Rows L2

abbrev Den := PEn → Option (PV × PEn)
abbrev DenT := PEn → Option (Bool × PEn)
abbrev DenA := PEn → Option (List PV × PEn)

def tE (K : PySem.W.Frag) (d : Den) : TE := fun σ H Q => ∃ F env r env', Rel K F H env σ ∧ d env = some (r, env') ∧ ∀ (x : V) (F' : Addr → Prop) (H' : Hp), Rel K F' H' env' σ → Mv F H env σ F' H' env' σ → Rep K F' H' x r → Q x H'
def tT (K : PySem.W.Frag) (d : DenT) : TT := fun σ H Q => ∃ F env r env', Rel K F H env σ ∧ d env = some (r, env') ∧ ∀ (F' : Addr → Prop) (H' : Hp), Rel K F' H' env' σ → Mv F H env σ F' H' env' σ → Q r H'
def tAB (K : PySem.W.Frag) (d : DenA) : TA := fun σ H Q => ∃ F env r env', Rel K F H env σ ∧ d env = some (r, env') ∧ ∀ (xs : List V) (F' : Addr → Prop) (H' : Hp), Rel K F' H' env' σ → Mv F H env σ F' H' env' σ → BRepL K F' H' xs r → Q xs H'
def tA (K : PySem.W.Frag) (d : DenA) : TA := fun σ H Q => ∃ F env r env', Rel K F H env σ ∧ d env = some (r, env') ∧ ∀ (xs : List V) (F' : Addr → Prop) (H' : Hp), Rel K F' H' env' σ → Mv F H env σ F' H' env' σ → RepL K F' H' xs r → Q xs H'

abbrev VE (X : Cx) (e : Expr) (d : Den) : Prop := PE X e (tE X.K d)
abbrev VT (X : Cx) (e : Expr) (d : DenT) : Prop := PT X e (tT X.K d)
abbrev VW (X : Cx) (e : Expr) (d : DenT) : Prop := PW X e (tT X.K d)
abbrev VAB (X : Cx) (e : List Expr) (d : DenA) : Prop := PA X e (tAB X.K d)
abbrev VA (X : Cx) (e : List Expr) (d : DenA) : Prop := PA X e (tA X.K d)

section
variable {X : Cx} {e : Expr} {es : List Expr}
theorem pe_imp {t t' : TE} (h : PE X e t) (i : ∀ σ H Q, Sized H → t' σ H Q → t σ H (fun v H' => Sized H' → Q v H')) : PE X e t' := ⟨fun pins s σ H Q I hw =>
  thn (h.run pins s σ H _ I (i σ H Q (sized_of I.hok) hw)) fun u s' ⟨v, H', I', r, q⟩ => ⟨v, H', I', r, q (sized_of I'.hok)⟩⟩
theorem pt_imp {t t' : TT} (h : PT X e t) (i : ∀ σ H Q, Sized H → t' σ H Q → t σ H (fun v H' => Sized H' → Q v H')) : PT X e t' := ⟨fun pins s σ H Q I hw =>
  thn (h.run pins s σ H _ I (i σ H Q (sized_of I.hok) hw)) fun u s' ⟨H', I', q⟩ => ⟨H', I', q (sized_of I'.hok)⟩⟩
theorem pw_imp {t t' : TT} (h : PW X e t) (i : ∀ σ H Q, Sized H → t' σ H Q → t σ H (fun v H' => Sized H' → Q v H')) : PW X e t' := ⟨fun wh pins s σ H Q I hw =>
  thn (h.run wh pins s σ H _ I (i σ H Q (sized_of I.hok) hw)) fun u s' ⟨H', I', q⟩ => ⟨H', I', q (sized_of I'.hok)⟩⟩
theorem pa_imp {t t' : TA} (h : PA X es t) (i : ∀ σ H Q, Sized H → t' σ H Q → t σ H (fun v H' => Sized H' → Q v H')) : PA X es t' := ⟨fun pos pins s σ H Q I hw =>
  thn (h.run pos pins s σ H _ I (i σ H Q (sized_of I.hok) hw)) fun u s' ⟨vs, H', I', r, q⟩ => ⟨vs, H', I', r, q (sized_of I'.hok)⟩⟩
end

/-! ### denotations -/
def dC (v : PV) : Den := fun e => some (v, e)
def dVar (i : Nat) : Den := fun e => match e[i]? with
  | some (.val v) => some (v, e)
  | some (.own v) => some (v, e.set i (.val v))
  | _ => none
def dUn (f : PV → Option PV) (a : Den) : Den := fun e => (a e).bind fun p => (f p.1).map fun z => (z, p.2)
def dBin (f : PV → PV → Option PV) (a b : Den) : Den := fun e => (a e).bind fun p => (b p.2).bind fun q => (f p.1 q.1).map fun z => (z, q.2)
def dArgs : List Den → DenA
  | [] => fun e => some ([], e)
  | a :: r => fun e => (a e).bind fun p => (dArgs r p.2).map fun q => (p.1 :: q.1, q.2)
/-- a slot that is only read -/
def slotv (e : PEn) (i : Nat) : Option PV := match e[i]? with
  | some (.val v) => some v
  | some (.own v) => some v
  | _ => none
/-- an argument: evaluated, or a slot that is only read -/
inductive Arg where
  | d (a : Den) | b (i : Nat)
def bArgs : List Arg → DenA
  | [] => fun e => some ([], e)
  | .d a :: r => fun e => (a e).bind fun p => (bArgs r p.2).map fun q => (p.1 :: q.1, q.2)
  | .b i :: r => fun e => (slotv e i).bind fun _ => (bArgs r e).bind fun q => (slotv q.2 i).map fun v => (v :: q.1, q.2)
def dApp (f : List PV → Option PV) (as : List Arg) : Den := fun e => (bArgs as e).bind fun p => (f p.1).map fun z => (z, p.2)
/-- the right one is only read -/
def dBinR (f : PV → PV → Option PV) (a : Den) (i : Nat) : Den := fun e => (a e).bind fun p => (slotv p.2 i).bind fun y => (f p.1 y).map fun z => (z, p.2)
/-- the left one is only read -/
def dBinL (f : PV → PV → Option PV) (i : Nat) (b : Den) : Den := fun e => (slotv e i).bind fun _ => (b e).bind fun q => (slotv q.2 i).bind fun x => (f x q.1).map fun z => (z, q.2)
def dIf (t : DenT) (a b : Den) : Den := fun e => (t e).bind fun p => if p.1 then a p.2 else b p.2
def dTest (f : PV → Option Bool) (a : Den) : DenT := fun e => (a e).bind fun p => (f p.1).map fun z => (z, p.2)
def dTest2 (f : PV → PV → Option Bool) (a b : Den) : DenT := fun e => (a e).bind fun p => (b p.2).bind fun q => (f p.1 q.1).map fun z => (z, q.2)
def dNot (t : DenT) : DenT := fun e => (t e).map fun p => (!p.1, p.2)
def dAnd (t u : DenT) : DenT := fun e => (t e).bind fun p => if p.1 then u p.2 else some (false, p.2)
def dOr (t u : DenT) : DenT := fun e => (t e).bind fun p => if p.1 then some (true, p.2) else u p.2
/-- a test as a value -/
def dBl (t : DenT) : Den := fun e => (t e).map fun p => (.bl p.1, p.2)

/-! ### values by rules -/
/-- a built-in's word over values: what it makes is new -/
def rB (K : PySem.W.Frag) (f : PV → PV → Option PV) : R2 := fun x y H Q => ∃ (F : Addr → Prop) (p q r : PV), (∀ a, F a → ∃ o, H a = some o) ∧ Sized H ∧ BRep K F H x p ∧ BRep K F H y q ∧ f p q = some r ∧ ∀ (z : V) (F' : Addr → Prop) (H' : Hp), Nw F H F' H' → Rep K F' H' z r → Q z H'
def rU1 (K : PySem.W.Frag) (f : PV → Option PV) : V → Hp → VK → Prop := fun x H Q => ∃ (F : Addr → Prop) (p r : PV), (∀ a, F a → ∃ o, H a = some o) ∧ Sized H ∧ BRep K F H x p ∧ f p = some r ∧ ∀ (z : V) (F' : Addr → Prop) (H' : Hp), Nw F H F' H' → Rep K F' H' z r → Q z H'
def rL (K : PySem.W.Frag) (f : List PV → Option PV) : List V → Hp → VK → Prop := fun xs H Q => ∃ (F : Addr → Prop) (ps : List PV) (r : PV), (∀ a, F a → ∃ o, H a = some o) ∧ Sized H ∧ BRepL K F H xs ps ∧ f ps = some r ∧ ∀ (z : V) (F' : Addr → Prop) (H' : Hp), Nw F H F' H' → Rep K F' H' z r → Q z H'

section
variable {X : Cx} {a b e : Expr} {es : List Expr} {da db : Den} {ds : List Den} {pos : Pos}

theorem ve_c {v : V} {p : PV} (h : PE X e (tC v)) (r : ∀ F H, Rep X.K F H v p) : VE X e (dC p) :=
  pe_imp h fun σ H Q sz ⟨F, env, r', env', R, hd, q⟩ => by
    cases hd
    exact fun _ => q v F H R .refl (r F H)

theorem set_len {α : Type} {l : List α} {i : Nat} {x y : α} (h : l[i]? = some x) : (l.set i y)[i]? = some y := by
  have : i < l.length := (List.getElem?_eq_some_iff.mp h).1
  simp [this]

/-- an own slot is frozen -/
theorem freeze {K : PySem.W.Frag} {F : Addr → Prop} {H : Hp} {env : PEn} {σ : L2.St} {i : Nat} {v : PV} {a : Addr} (R : Rel K F H env σ) (e : env[i]? = some (SlP.own v)) (s : σ[i]? = some (some (V.ref a))) :
    Rel K (fun b => F b ∨ b = a) H (env.set i (.val v)) σ ∧ Mv F H env σ (fun b => F b ∨ b = a) H (env.set i (.val v)) σ ∧ Rep K (fun b => F b ∨ b = a) H (.ref a) v := by
  obtain ⟨a', s', nf, o⟩ := R.own i v e
  rw [s] at s'; cases s'
  have ex : Ex F H (fun b => F b ∨ b = a) H := ⟨fun _ h => .inl h, fun _ _ _ h => h, fun _ _ h => h, fun _ _ _ h => h⟩
  have rp : Rep K (fun b => F b ∨ b = a) H (.ref a) v := o.rep ex (.inr rfl)
  refine ⟨⟨by simpa using R.len, fun j w ej => ?_, fun j w ej => ?_, fun j k w w' b ej ek sj sk => ?_, fun b f => ?_, R.sz⟩, ⟨fun _ h => .inl h, fun _ _ h _ => h, fun b f => ?_, fun b o' => ?_, fun _ o h => ⟨o, h⟩⟩, rp⟩
  · by_cases hj : i = j
    · subst hj
      rw [set_len e] at ej
      cases ej
      exact ⟨_, s, rp⟩
    · rw [List.getElem?_set_ne hj] at ej
      obtain ⟨x, sx, r⟩ := R.val j w ej
      exact ⟨x, sx, r.ex ex⟩
  · by_cases hj : i = j
    · subst hj
      rw [set_len e] at ej
      cases ej
    · rw [List.getElem?_set_ne hj] at ej
      obtain ⟨b, sb, nb, ob⟩ := R.own j w ej
      refine ⟨b, sb, fun f => ?_, ob.ex ex rfl⟩
      rcases f with f | rfl
      · exact nb f
      · exact hj (R.apart i j _ _ _ e ej s sb)
  · by_cases hj : i = j
    · subst hj; rw [set_len e] at ej; cases ej
    · by_cases hk : i = k
      · subst hk; rw [set_len e] at ek; cases ek
      · rw [List.getElem?_set_ne hj] at ej
        rw [List.getElem?_set_ne hk] at ek
        exact R.apart j k w w' b ej ek sj sk
  · rcases f with f | rfl
    · exact R.fz b f
    · obtain ⟨u, hu, _⟩ := o.some; exact ⟨u, hu⟩
  · rcases f with f | rfl
    · exact .inl f
    · exact .inr (.inl ⟨i, v, e, s⟩)
  · obtain ⟨j, w, ej, sj⟩ := o'
    by_cases hj : i = j
    · subst hj; rw [set_len e] at ej; cases ej
    · rw [List.getElem?_set_ne hj] at ej
      exact .inl ⟨j, w, ej, sj⟩

theorem ve_var {i : Nat} (h : PE X e (tVar i)) : VE X e (dVar i) :=
  pe_imp h fun σ H Q sz ⟨F, env, r, env', R, hd, q⟩ => by
    unfold dVar at hd
    split at hd
    · rename_i v ev
      cases hd
      obtain ⟨x, sx, rx⟩ := R.val i _ ev
      exact ⟨x, sx, fun _ => q x F H R .refl rx⟩
    · rename_i v ev
      cases hd
      obtain ⟨a, sa, _, _⟩ := R.own i _ ev
      obtain ⟨R', M', rp⟩ := freeze R ev sa
      exact ⟨.ref a, sa, fun _ => q _ _ H R' M' rp⟩
    · cases hd

theorem ve_bin {op : Operator} {f : PV → PV → Option PV} (ho : OpR X (binaryOp op) (rB X.K f)) (ha : VE X a da) (hb : VE X b db) : VE X (.BinOp a op b pos) (dBin f da db) :=
  pe_imp (pe_op ho ha hb) fun σ H Q sz ⟨F, env, r, env', R, hd, q⟩ => by
    unfold dBin at hd
    obtain ⟨⟨p, e1⟩, h1, hd⟩ := Option.bind_eq_some_iff.mp hd
    obtain ⟨⟨q', e2⟩, h2, hd⟩ := Option.bind_eq_some_iff.mp hd
    obtain ⟨z, h3, hz⟩ := Option.map_eq_some_iff.mp hd
    cases hz
    refine ⟨F, env, p, e1, R, h1, fun x F1 H1 R1 M1 r1 => ⟨F1, e1, q', e2, R1, h2, fun y F2 H2 R2 M2 r2 => ⟨F2, p, q', r, R2.fz, R2.sz, .rep (r1.ex (M2.ex R1)), .rep r2, h3, fun z F3 H3 N r3 s3 => ?_⟩⟩⟩
    exact q z F3 H3 (N.rel R2 s3) ((M1.trans M2).trans N.mv) r3

theorem ve_cmp {op : CmpOp} {f : PV → PV → Option PV} (ho : OpR X (compareOp op) (rB X.K f)) (hm : behindInMarks op b = false) (ha : VE X a da) (hb : VE X b db) : VE X (.Compare a [op] [b] pos) (dBin f da db) :=
  pe_imp (pe_cmpR ho ha hb hm) fun σ H Q sz ⟨F, env, r, env', R, hd, q⟩ => by
    unfold dBin at hd
    obtain ⟨⟨p, e1⟩, h1, hd⟩ := Option.bind_eq_some_iff.mp hd
    obtain ⟨⟨q', e2⟩, h2, hd⟩ := Option.bind_eq_some_iff.mp hd
    obtain ⟨z, h3, hz⟩ := Option.map_eq_some_iff.mp hd
    cases hz
    refine ⟨F, env, p, e1, R, h1, fun x F1 H1 R1 M1 r1 => ⟨F1, e1, q', e2, R1, h2, fun y F2 H2 R2 M2 r2 => ⟨F2, p, q', r, R2.fz, R2.sz, .rep (r1.ex (M2.ex R1)), .rep r2, h3, fun z F3 H3 N r3 s3 => ?_⟩⟩⟩
    exact q z F3 H3 (N.rel R2 s3) ((M1.trans M2).trans N.mv) r3

theorem ve_un {op : UnaryOp} {f : PV → Option PV} (ho : UnR X (unaryOp op) (rU1 X.K f)) (ha : VE X a da) : VE X (.UnaryOp op a pos) (dUn f da) :=
  pe_imp (pe_un ho ha) fun σ H Q sz ⟨F, env, r, env', R, hd, q⟩ => by
    unfold dUn at hd
    obtain ⟨⟨p, e1⟩, h1, hd⟩ := Option.bind_eq_some_iff.mp hd
    obtain ⟨z, h3, hz⟩ := Option.map_eq_some_iff.mp hd
    cases hz
    refine ⟨F, env, p, e1, R, h1, fun x F1 H1 R1 M1 r1 => ⟨F1, p, r, R1.fz, R1.sz, .rep r1, h3, fun z F3 H3 N r3 s3 => ?_⟩⟩
    exact q z F3 H3 (N.rel R1 s3) (M1.trans N.mv) r3

/-! arguments -/
theorem va_nil : VA X [] (dArgs []) := pa_imp pa_nil fun σ H Q sz ⟨F, env, r, env', R, hd, q⟩ => by
  cases hd
  exact fun _ => q [] F H R .refl .nil
def notStar : Expr → Bool
  | .Starred _ _ => false
  | _ => true
theorem starEach_cons {env : Env} (h : notStar e = true) : starEach (e :: es) env = (false, eval e env) :: starEach es env := by
  cases e <;> first | rfl | (cases h)
theorem star_plain {env : Env} : ∀ {es : List Expr}, es.all notStar = true → ∀ pos, (backTo pos (starEach es env)).any (·.1) = false
  | [], _, _ => by rfl
  | e :: es, h, pos => by
    simp only [List.all_cons, Bool.and_eq_true] at h
    have ih := star_plain (env := env) h.2 pos
    rw [starEach_cons h.1]
    show (backTo pos _).any _ = false
    simp only [backTo, List.map_cons, List.any_cons, Bool.false_or] at ih ⊢
    exact ih
theorem va_cons (hn : notStar e = true) (ha : VE X e da) (hr : VA X es (dArgs ds)) : VA X (e :: es) (dArgs (da :: ds)) :=
  pa_imp (pa_cons ha hr (starEach_cons hn)) fun σ H Q sz ⟨F, env, r, env', R, hd, q⟩ => by
    unfold dArgs at hd
    obtain ⟨⟨p, e1⟩, h1, hd⟩ := Option.bind_eq_some_iff.mp hd
    obtain ⟨⟨ps, e2⟩, h2, hz⟩ := Option.map_eq_some_iff.mp hd
    cases hz
    refine ⟨F, env, p, e1, R, h1, fun x F1 H1 R1 M1 r1 => ⟨F1, e1, ps, e2, R1, h2, fun xs F2 H2 R2 M2 r2 => ?_⟩⟩
    exact fun _ => q (x :: xs) F2 H2 R2 (M1.trans M2) (.cons (r1.ex (M2.ex R1)) r2)

theorem dArgs_len : ∀ {ds : List Den} {env env' : PEn} {r : List PV}, dArgs ds env = some (r, env') → r.length = ds.length
  | [], _, _, _, h => by cases h; rfl
  | d :: ds, _, _, _, h => by
    unfold dArgs at h
    obtain ⟨⟨p, e1⟩, h1, hd⟩ := Option.bind_eq_some_iff.mp h
    obtain ⟨⟨ps, e2⟩, h2, hz⟩ := Option.map_eq_some_iff.mp hd
    cases hz
    simp [dArgs_len h2]

def dTup (ds : List Den) : Den := fun e => (dArgs ds e).map fun p => (.tup p.1, p.2)
def dLst (ds : List Den) : Den := fun e => (dArgs ds e).map fun p => (.lst p.1, p.2)
theorem ve_tup {k : Nat} (hl : ds.length ≤ 1000) (h : VA X es (dArgs ds)) : VE X (.Tuple es k pos) (dTup ds) :=
  pe_imp (pe_tup h) fun σ H Q sz ⟨F, env, r, env', R, hd, q⟩ => by
    unfold dTup at hd
    obtain ⟨⟨ps, e1⟩, h1, hz⟩ := Option.map_eq_some_iff.mp hd
    cases hz
    refine ⟨F, env, ps, _, R, h1, fun xs F1 H1 R1 M1 r1 => ⟨?_, fun p np sz' => ?_⟩⟩
    · rw [r1.length, dArgs_len h1]; exact Nat.le_of_lt (small1000 hl)
    · have N : Nw F1 H1 F1 (upd H1 p (.tup xs)) := .upd np R1.fz
      exact q _ F1 _ (N.rel R1 sz') (M1.trans N.mv) (.tup upd_same (r1.ex N.ex))
theorem ve_lst (hl : ds.length ≤ 1000) (h : VA X es (dArgs ds)) : VE X (.List es pos) (dLst ds) :=
  pe_imp (pe_lst h) fun σ H Q sz ⟨F, env, r, env', R, hd, q⟩ => by
    unfold dLst at hd
    obtain ⟨⟨ps, e1⟩, h1, hz⟩ := Option.map_eq_some_iff.mp hd
    cases hz
    refine ⟨F, env, ps, _, R, h1, fun xs F1 H1 R1 M1 r1 => ⟨?_, fun p np sz' => ?_⟩⟩
    · rw [r1.length, dArgs_len h1]; exact Nat.le_of_lt (small1000 hl)
    · have N : Nw F1 H1 (fun b => F1 b ∨ b = p) (upd H1 p (.lst xs)) := .fix np R1.fz
      exact q _ _ _ (N.rel R1 sz') (M1.trans N.mv) (.lst (.inl ⟨.inr rfl, SqL.of upd_same⟩) (r1.ex N.ex))

theorem slotv_rep {K : PySem.W.Frag} {F : Addr → Prop} {H : Hp} {env : PEn} {σ : L2.St} {i : Nat} {v : PV} (R : Rel K F H env σ) (h : slotv env i = some v) : ∃ x, σ[i]? = some (some x) ∧ BRep K F H x v := by
  unfold slotv at h
  split at h
  · rename_i w e
    cases h
    obtain ⟨x, sx, r⟩ := R.val i _ e
    exact ⟨x, sx, .rep r⟩
  · rename_i w e
    cases h
    obtain ⟨a, sa, _, o⟩ := R.own i _ e
    exact ⟨_, sa, .own o⟩
  · cases h
theorem vab_nil : VAB X [] (bArgs []) := pa_imp pa_nil fun σ H Q sz ⟨F, env, r, env', R, hd, q⟩ => by
  cases hd
  exact fun _ => q [] F H R .refl .nil
theorem vab_d {as : List Arg} (hn : notStar e = true) (ha : VE X e da) (hr : VAB X es (bArgs as)) : VAB X (e :: es) (bArgs (.d da :: as)) :=
  pa_imp (pa_cons ha hr (starEach_cons hn)) fun σ H Q sz ⟨F, env, r, env', R, hd, q⟩ => by
    unfold bArgs at hd
    obtain ⟨⟨p, e1⟩, h1, hd⟩ := Option.bind_eq_some_iff.mp hd
    obtain ⟨⟨ps, e2⟩, h2, hz⟩ := Option.map_eq_some_iff.mp hd
    cases hz
    refine ⟨F, env, p, e1, R, h1, fun x F1 H1 R1 M1 r1 => ⟨F1, e1, ps, e2, R1, h2, fun xs F2 H2 R2 M2 r2 => ?_⟩⟩
    exact fun _ => q (x :: xs) F2 H2 R2 (M1.trans M2) (.cons (.rep (r1.ex (M2.ex R1))) r2)
theorem vab_b {as : List Arg} {i : Nat} (hn : notStar e = true) (ha : PE X e (tVar i)) (hr : VAB X es (bArgs as)) : VAB X (e :: es) (bArgs (.b i :: as)) :=
  pa_imp (pa_cons ha hr (starEach_cons hn)) fun σ H Q sz ⟨F, env, r, env', R, hd, q⟩ => by
    unfold bArgs at hd
    obtain ⟨_, h0, hd⟩ := Option.bind_eq_some_iff.mp hd
    obtain ⟨⟨ps, e1⟩, h1, hd⟩ := Option.bind_eq_some_iff.mp hd
    obtain ⟨v, h2, hz⟩ := Option.map_eq_some_iff.mp hd
    cases hz
    obtain ⟨x, sx, _⟩ := slotv_rep R h0
    refine ⟨x, sx, F, env, ps, e1, R, h1, fun xs F2 H2 R2 M2 r2 _ => ?_⟩
    obtain ⟨x', sx', r'⟩ := slotv_rep R2 h2
    rw [sx] at sx'; cases sx'
    exact q (x :: xs) F2 H2 R2 M2 (.cons r' r2)

/-- a built-in by its name -/
theorem ve_app {x : Str} {T : String} {f : List PV → Option PV} {as : List Arg} {p : Pos} (hc : CallR X (.builtin T) (rL X.K f)) (hg : Gl X x) (hm : X.mg x = none) (hv : bootBuiltins x = some (.builtin T)) (hn : x ≠ "__name__") (hdb : (x == ("__debug__" : Str)) = false)
    (hs : (e :: es).all notStar = true) (h : VAB X (e :: es) (bArgs as)) : VE X (.Call (.Name x p) (e :: es) [] pos) (dApp f as) :=
  pe_imp (pe_callB hc hg hm hv h hn hdb (starEach_cons (List.all_eq_true.mp hs _ List.mem_cons_self)) (star_plain (by simp only [List.all_cons, Bool.and_eq_true] at hs; exact hs.2) pos)) fun σ H Q sz ⟨F, env, r, env', R, hd, q⟩ => by
    unfold dApp at hd
    obtain ⟨⟨ps, e1⟩, h1, hd⟩ := Option.bind_eq_some_iff.mp hd
    obtain ⟨z, h3, hz⟩ := Option.map_eq_some_iff.mp hd
    cases hz
    refine ⟨F, env, ps, _, R, h1, fun xs F1 H1 R1 M1 r1 => ⟨F1, ps, r, R1.fz, R1.sz, r1, h3, fun z F3 H3 N r3 s3 => ?_⟩⟩
    exact q z F3 H3 (N.rel R1 s3) (M1.trans N.mv) r3
theorem ve_appTy {x : Str} {T : String} {f : List PV → Option PV} {as : List Arg} {p : Pos} (hc : CallR X (.type T) (rL X.K f)) (hg : Gl X x) (hm : X.mg x = none) (hv : bootBuiltins x = some (.type T)) (hn : x ≠ "__name__") (hdb : (x == ("__debug__" : Str)) = false)
    (hs : (e :: es).all notStar = true) (h : VAB X (e :: es) (bArgs as)) : VE X (.Call (.Name x p) (e :: es) [] pos) (dApp f as) :=
  pe_imp (pe_callTy hc hg hm hv h hn hdb (starEach_cons (List.all_eq_true.mp hs _ List.mem_cons_self)) (star_plain (by simp only [List.all_cons, Bool.and_eq_true] at hs; exact hs.2) pos)) fun σ H Q sz ⟨F, env, r, env', R, hd, q⟩ => by
    unfold dApp at hd
    obtain ⟨⟨ps, e1⟩, h1, hd⟩ := Option.bind_eq_some_iff.mp hd
    obtain ⟨z, h3, hz⟩ := Option.map_eq_some_iff.mp hd
    cases hz
    refine ⟨F, env, ps, _, R, h1, fun xs F1 H1 R1 M1 r1 => ⟨F1, ps, r, R1.fz, R1.sz, r1, h3, fun z F3 H3 N r3 s3 => ?_⟩⟩
    exact q z F3 H3 (N.rel R1 s3) (M1.trans N.mv) r3
theorem ve_cmpR {op : CmpOp} {f : PV → PV → Option PV} {i : Nat} (ho : OpR X (compareOp op) (rB X.K f)) (hm : behindInMarks op b = false) (ha : VE X a da) (hb : PE X b (tVar i)) : VE X (.Compare a [op] [b] pos) (dBinR f da i) :=
  pe_imp (pe_cmpR ho ha hb hm) fun σ H Q sz ⟨F, env, r, env', R, hd, q⟩ => by
    unfold dBinR at hd
    obtain ⟨⟨p, e1⟩, h1, hd⟩ := Option.bind_eq_some_iff.mp hd
    obtain ⟨y, h2, hd⟩ := Option.bind_eq_some_iff.mp hd
    obtain ⟨z, h3, hz⟩ := Option.map_eq_some_iff.mp hd
    cases hz
    refine ⟨F, env, p, _, R, h1, fun x F1 H1 R1 M1 r1 => ?_⟩
    obtain ⟨x', sx', r'⟩ := slotv_rep R1 h2
    exact ⟨x', sx', F1, p, y, r, R1.fz, R1.sz, .rep r1, r', h3, fun z F3 H3 N r3 s3 => q z F3 H3 (N.rel R1 s3) (M1.trans N.mv) r3⟩

/-! ### tests -/
variable {t u : DenT} {c : Expr} {rest : List Expr}
theorem vt_bl (he : ∀ whole, isTrue e X.env whole = (do let v ← whole; standAt e.pos; holding [v] (truthy v))) (h : VE X e da) : VT X e (dTest (fun v => match v with | .bl b => some b | _ => none) da) :=
  pt_imp (pt_val h he) fun σ H Q sz ⟨F, env, r, env', R, hd, q⟩ => by
    unfold dTest at hd
    obtain ⟨⟨p, e1⟩, h1, hd⟩ := Option.bind_eq_some_iff.mp hd
    obtain ⟨z, h3, hz⟩ := Option.map_eq_some_iff.mp hd
    cases hz
    refine ⟨F, env, p, _, R, h1, fun x F1 H1 R1 M1 r1 => ?_⟩
    dsimp only at h3
    split at h3
    · cases h3
      cases r1
      exact ⟨_, rfl, fun _ => q F1 H1 R1 M1⟩
    · cases h3
theorem vt_not (h : VT X e t) : VT X (.UnaryOp .Not e pos) (dNot t) :=
  pt_imp (pt_not h) fun σ H Q sz ⟨F, env, r, env', R, hd, q⟩ => by
    unfold dNot at hd
    obtain ⟨⟨p, e1⟩, h1, hz⟩ := Option.map_eq_some_iff.mp hd
    cases hz
    exact ⟨F, env, p, _, R, h1, fun F1 H1 R1 M1 _ => q F1 H1 R1 M1⟩
theorem vw_and1 (h : VT X e t) : VW X (.BoolOp .And [e] pos) t := pw_and1 h
theorem vw_or1 (h : VT X e t) : VW X (.BoolOp .Or [e] pos) t := pw_or1 h
theorem vw_and (h : VT X e t) (h2 : VW X (.BoolOp .And (c :: rest) pos) u) : VW X (.BoolOp .And (e :: c :: rest) pos) (dAnd t u) :=
  pw_imp (pw_and h h2) fun σ H Q sz ⟨F, env, r, env', R, hd, q⟩ => by
    unfold dAnd at hd
    obtain ⟨⟨p, e1⟩, h1, hd⟩ := Option.bind_eq_some_iff.mp hd
    refine ⟨F, env, p, e1, R, h1, fun F1 H1 R1 M1 => ?_⟩
    cases p with
    | true =>
      rw [if_pos rfl]
      exact ⟨F1, e1, r, env', R1, by simpa using hd, fun F2 H2 R2 M2 _ => q F2 H2 R2 (M1.trans M2)⟩
    | false =>
      rw [if_neg Bool.false_ne_true]
      simp at hd
      obtain ⟨rfl, rfl⟩ := hd
      exact fun _ => q F1 H1 R1 M1
theorem vw_or (h : VT X e t) (h2 : VW X (.BoolOp .Or (c :: rest) pos) u) : VW X (.BoolOp .Or (e :: c :: rest) pos) (dOr t u) :=
  pw_imp (pw_or h h2) fun σ H Q sz ⟨F, env, r, env', R, hd, q⟩ => by
    unfold dOr at hd
    obtain ⟨⟨p, e1⟩, h1, hd⟩ := Option.bind_eq_some_iff.mp hd
    refine ⟨F, env, p, e1, R, h1, fun F1 H1 R1 M1 => ?_⟩
    cases p with
    | false =>
      rw [if_neg Bool.false_ne_true]
      exact ⟨F1, e1, r, env', R1, by simpa using hd, fun F2 H2 R2 M2 _ => q F2 H2 R2 (M1.trans M2)⟩
    | true =>
      rw [if_pos rfl]
      simp at hd
      obtain ⟨rfl, rfl⟩ := hd
      exact fun _ => q F1 H1 R1 M1
theorem ve_if (ht : VT X c t) (ha : VE X a da) (hb : VE X b db) : VE X (.IfExp c a b pos) (dIf t da db) :=
  pe_imp (pe_ifExp ht ha hb) fun σ H Q sz ⟨F, env, r, env', R, hd, q⟩ => by
    unfold dIf at hd
    obtain ⟨⟨p, e1⟩, h1, hd⟩ := Option.bind_eq_some_iff.mp hd
    refine ⟨F, env, p, e1, R, h1, fun F1 H1 R1 M1 => ?_⟩
    cases p with
    | false =>
      rw [if_neg Bool.false_ne_true]
      exact ⟨F1, e1, r, env', R1, by simpa using hd, fun x F2 H2 R2 M2 r2 _ => q x F2 H2 R2 (M1.trans M2) r2⟩
    | true =>
      rw [if_pos rfl]
      exact ⟨F1, e1, r, env', R1, by simpa using hd, fun x F2 H2 R2 M2 r2 _ => q x F2 H2 R2 (M1.trans M2) r2⟩
end
end PP

/-! PP, part c: operators and built-ins by values. -/
namespace PP
open PySem PySem.Spec PyProof.Rows L2

/-! ### data of a small depth -/
def okD : Nat → PV → Bool
  | _, .non => true
  | _, .bl _ => true
  | _, .int _ => true
  | _, .str x => PyData.strOk x
  | n + 1, .lst xs => xs.all (okD n)
  | n + 1, .tup xs => xs.all (okD n)
  | n + 1, .fup xs => xs.all (okD n)
  | _, _ => false
theorem okD_all {n : Nat} (ih : ∀ x, okD n x = true → (toD x).canLay0 = true ∧ (toD x).depth ≤ n ∧ nodic x = true) : ∀ {xs : List PV}, xs.all (okD n) = true → PyData.canLayAll0 (toDs xs) = true ∧ PyData.depthAll (toDs xs) ≤ n ∧ nodicL xs = true
  | [], _ => ⟨rfl, Nat.zero_le _, rfl⟩
  | x :: xs, h => by
    simp only [List.all_cons, Bool.and_eq_true] at h
    obtain ⟨a, b, c⟩ := ih x h.1
    obtain ⟨a', b', c'⟩ := okD_all ih h.2
    exact ⟨by simp [toDs, PyData.canLayAll0, a, a'], by simp only [toDs, PyData.depthAll]; exact Nat.max_le.mpr ⟨b, b'⟩, by simp [nodicL, c, c']⟩
theorem okD_sound : ∀ (n : Nat) (x : PV), okD n x = true → (toD x).canLay0 = true ∧ (toD x).depth ≤ n ∧ nodic x = true
  | n, .non, _ => ⟨by simp [toD, PyData.canLay0], by simp [toD, PyData.depth], by simp [nodic]⟩
  | n, .bl _, _ => ⟨by simp [toD, PyData.canLay0], by simp [toD, PyData.depth], by simp [nodic]⟩
  | n, .int _, _ => ⟨by simp [toD, PyData.canLay0], by simp [toD, PyData.depth], by simp [nodic]⟩
  | n, .str x, h => ⟨by simpa [toD, PyData.canLay0, okD] using h, by simp [toD, PyData.depth], by simp [nodic]⟩
  | 0, .lst _, h => by simp [okD] at h
  | 0, .tup _, h => by simp [okD] at h
  | 0, .fup _, h => by simp [okD] at h
  | n + 1, .lst xs, h => by
    obtain ⟨a, b, c⟩ := okD_all (okD_sound n) (show xs.all (okD n) = true by simpa [okD] using h)
    exact ⟨by simpa [toD, PyData.canLay0] using a, by simp only [toD, PyData.depth]; omega, by simpa [nodic] using c⟩
  | n + 1, .tup xs, h => by
    obtain ⟨a, b, c⟩ := okD_all (okD_sound n) (show xs.all (okD n) = true by simpa [okD] using h)
    exact ⟨by simpa [toD, PyData.canLay0] using a, by simp only [toD, PyData.depth]; omega, by simpa [nodic] using c⟩
  | n + 1, .fup xs, h => by
    obtain ⟨a, b, c⟩ := okD_all (okD_sound n) (show xs.all (okD n) = true by simpa [okD] using h)
    exact ⟨by simpa [toD, PyData.canLay0] using a, by simp only [toD, PyData.depth]; omega, by simpa [nodic] using c⟩
  | n, .dk _, h => by cases n <;> simp [okD] at h
  | n, .dt _, h => by cases n <;> simp [okD] at h
theorem okD_shaped {x : PV} (h : okD 60 x = true) : SeqAt.shaped (toD x) = true ∧ nodic x = true := by
  obtain ⟨a, b, c⟩ := okD_sound 60 x h
  exact ⟨by simp only [SeqAt.shaped, a, Bool.true_and, decide_eq_true_eq]; omega, c⟩
/-- == of values -/
def eqv (p q : PV) : Bool := PyData.eqv (toD p) (toD q)

/-! ### the operators over values -/
/-- the items of a tuple of either sort -/
def tupOf : PV → Option (List PV)
  | .tup xs => some xs
  | .fup xs => some xs
  | _ => none
def addF (p q : PV) : Option PV := match p, q with
  | .int i, .int j => some (.int (i + j))
  | .lst xs, .lst ys => if xs.length + ys.length ≤ sizeLine then some (.lst (xs ++ ys)) else none
  | .tup xs, .tup ys => if xs.length + ys.length ≤ sizeLine then some (.tup (xs ++ ys)) else none
  | _, _ => none
def intF (C : Int → Int → Bool) (g : Int → Int → Int) : PV → PV → Option PV
  | .int i, .int j => if C i j then some (.int (g i j)) else none
  | _, _ => none
abbrev subF := intF (fun _ _ => true) (fun i j => i - j)
abbrev mulF := intF (fun i j => decide (-(2 ^ 64) < i ∧ i < 2 ^ 64) || decide (-(2 ^ 64) < j ∧ j < 2 ^ 64)) (fun i j => i * j)
abbrev modF := intF (fun _ j => decide (0 < j)) (fun i j => i % j)
abbrev divF := intF (fun _ j => decide (0 < j ∧ j < 1073741824)) (fun i j => i / j)
abbrev powF := intF (fun i j => decide (0 ≤ j ∧ j ≤ 1000000 ∧ i.natAbs < 2 ^ 64)) (fun i j => i ^ j.toNat)
def cmpF (g : Int → Int → Bool) : PV → PV → Option PV
  | .int i, .int j => some (.bl (g i j))
  | _, _ => none
abbrev leF := cmpF fun i j => decide (i ≤ j)
abbrev gtF := cmpF fun i j => decide (j < i)
abbrev geF := cmpF fun i j => decide (j ≤ i)
def toInts : List PV → Option (List Int)
  | [] => some []
  | .int i :: r => (toInts r).map (i :: ·)
  | _ :: _ => none
def ltF (p q : PV) : Option PV := match p, q with
  | .int i, .int j => some (.bl (decide (i < j)))
  | p, q => (tupOf p).bind fun xs => (tupOf q).bind fun ys => (toInts xs).bind fun is => (toInts ys).map fun js => .bl (HT.lexLt is js)
def eqF (p q : PV) : Option PV := if okD 60 p && okD 60 q then some (.bl (eqv p q)) else none
def neF (p q : PV) : Option PV := if okD 60 p && okD 60 q then some (.bl (!eqv p q)) else none
def isNone : PV → Bool
  | .non => true
  | _ => false
def isNF (p q : PV) : Option PV := if isNone q then some (.bl (isNone p)) else none
def notNF (p q : PV) : Option PV := if isNone q then some (.bl (!isNone p)) else none

/-! ### dicts over values -/
def toKey : PV → Option Key
  | .int i => some (.inl i)
  | .str s => some (.inr s)
  | _ => none
def toKeys : List PV → Option (List Key)
  | [] => some []
  | x :: r => (toKey x).bind fun k => (toKeys r).map (k :: ·)
def lookP {κ : Type} [DecidableEq κ] (kvs : List (κ × PV)) (k : κ) : Option PV := (kvs.find? fun kv => decide (kv.1 = k)).map (·.2)
/-- what the dict holds at the key; none: not a key that it can have -/
def dgetF (d k : PV) : Option (Option PV) := match d with
  | .dk kvs => (toKey k).map fun k => lookP kvs k
  | .dt kvs => match k with
    | .tup ks => (toKeys ks).map fun k => lookP kvs k
    | _ => none
  | _ => none
def seqOf : PV → Option (List PV)
  | .lst xs => some xs
  | .tup xs => some xs
  | .fup xs => some xs
  | _ => none
def inF (p q : PV) : Option PV := match seqOf q with
  | some ys => if okD 60 p && okD 60 q then some (.bl (ys.any fun z => eqv z p)) else none
  | none => (dgetF q p).map fun o => .bl o.isSome
def notInF (p q : PV) : Option PV := match seqOf q with
  | some ys => if okD 60 p && okD 60 q then some (.bl (!ys.any fun z => eqv z p)) else none
  | none => (dgetF q p).map fun o => .bl (!o.isSome)

theorem RepL.ints {K : PySem.W.Frag} {F : Addr → Prop} {H : Hp} : ∀ {xs : List PV} {is : List Int} {vs : List V}, RepL K F H vs xs → toInts xs = some is → vs = is.map V.int
  | [], _, _, .nil, h => by cases h; rfl
  | x :: xs, is, _, .cons r t, h => by
    cases x <;> simp only [toInts] at h <;> try cases h
    obtain ⟨js, hj, e⟩ := Option.map_eq_some_iff.mp h
    subst e
    rw [RepL.ints t hj]
    cases r
    rfl
theorem RepL.keys {K : PySem.W.Frag} {F : Addr → Prop} {H : Hp} : ∀ {xs : List PV} {ks : List Key} {vs : List V}, RepL K F H vs xs → toKeys xs = some ks → vs = ks.map kV
  | [], _, _, .nil, h => by cases h; rfl
  | x :: xs, ks, _, .cons r t, h => by
    simp only [toKeys] at h
    obtain ⟨k, hk, h⟩ := Option.bind_eq_some_iff.mp h
    obtain ⟨js, hj, e⟩ := Option.map_eq_some_iff.mp h
    subst e
    rw [RepL.keys t hj]
    cases r <;> simp only [toKey] at hk <;> cases hk <;> rfl

section
variable {K : PySem.W.Frag} {F : Addr → Prop} {H : Hp}
theorem RepK.get (k : Key) : ∀ {kvs : List (Key × V)} {xs : List (Key × PV)}, RepK K F H kvs xs → (∀ y, lookP xs k = some y → ∃ v, valV kvs k = some v ∧ Rep K F H v y) ∧ (lookP xs k = none → valV kvs k = none)
  | _, _, .nil => ⟨fun y h => by simp [lookP] at h, fun _ => rfl⟩
  | _, _, .cons (k := k') (v := v) (x := x) (xs := xs') r t => by
    have ih := RepK.get k t
    by_cases e : k' = k
    · subst e
      refine ⟨fun y h => ?_, fun h => ?_⟩
      · simp [lookP, List.find?_cons] at h
        subst h
        exact ⟨v, valV_pos rfl, r⟩
      · simp [lookP, List.find?_cons] at h
    · have e' : lookP ((k', x) :: xs') k = lookP xs' k := by simp [lookP, List.find?_cons, e]
      rw [e', valV_neg (p := (k', v)) e]
      exact ih
theorem RepT.get (k : List Key) : ∀ {kvs : List (List Key × V)} {xs : List (List Key × PV)}, RepT K F H kvs xs → (∀ y, lookP xs k = some y → ∃ v, valV kvs k = some v ∧ Rep K F H v y) ∧ (lookP xs k = none → valV kvs k = none)
  | _, _, .nil => ⟨fun y h => by simp [lookP] at h, fun _ => rfl⟩
  | _, _, .cons (k := k') (v := v) (x := x) (xs := xs') r t => by
    have ih := RepT.get k t
    by_cases e : k' = k
    · subst e
      refine ⟨fun y h => ?_, fun h => ?_⟩
      · simp [lookP, List.find?_cons] at h
        subst h
        exact ⟨v, valV_pos rfl, r⟩
      · simp [lookP, List.find?_cons] at h
    · have e' : lookP ((k', x) :: xs') k = lookP xs' k := by simp [lookP, List.find?_cons, e]
      rw [e', valV_neg (p := (k', v)) e]
      exact ih

/-- a dict that is read: a value or one's own -/
inductive DicAt (K : PySem.W.Frag) (F : Addr → Prop) (H : Hp) (a : Addr) : PV → Prop
  | dk {kvs : List (Key × V)} {xs : List (Key × PV)} : H a = some (.dK kvs) → RepK K F H kvs xs → DicAt K F H a (.dk xs)
  | dt {kvs : List (List Key × V)} {xs : List (List Key × PV)} : H a = some (.dT kvs) → RepT K F H kvs xs → DicAt K F H a (.dt xs)
/-- a look-up -/
theorem DicAt.dget {a : Addr} {d k : PV} {v : V} {o : Option PV} (D : DicAt K F H a d) (r : BRep K F H v k) (h : dgetF d k = some o) : ∃ w, DGet H a v w ∧ (∀ y, o = some y → ∃ u, w = some u ∧ Rep K F H u y) ∧ (o = none → w = none) := by
  cases D with
  | dk e rk =>
    simp only [dgetF] at h
    obtain ⟨kk, hk, e2⟩ := Option.map_eq_some_iff.mp h
    subst e2
    cases k <;> simp only [toKey] at hk <;> cases hk
    · cases r.int
      obtain ⟨h1, h2⟩ := rk.get (.inl _)
      exact ⟨_, .k (k := .inl _) e, h1, h2⟩
    · cases r.str
      obtain ⟨h1, h2⟩ := rk.get (.inr _)
      exact ⟨_, .k (k := .inr _) e, h1, h2⟩
  | dt e rt =>
    simp only [dgetF] at h
    split at h
    · rename_i ks
      obtain ⟨kk, hkk, e2⟩ := Option.map_eq_some_iff.mp h
      subst e2
      obtain ⟨_, _, rfl, hb, rl⟩ := r.tup
      have e1 := rl.keys hkk
      subst e1
      obtain ⟨h1, h2⟩ := rt.get kk
      exact ⟨_, .t (k := kk) e hb, h1, h2⟩
    · cases h
def isDic : PV → Bool
  | .dk _ => true
  | .dt _ => true
  | _ => false
theorem BRep.dic {v : V} {d : PV} (r : BRep K F H v d) (h : isDic d = true) : ∃ p, v = .ref p ∧ DicAt K F H p d := by
  cases r with
  | rep r =>
    cases r <;> simp [isDic] at h
    · rename_i f e r; exact ⟨_, rfl, .dk e r⟩
    · rename_i f e r; exact ⟨_, rfl, .dt e r⟩
  | own o =>
    cases o <;> simp [isDic] at h
    · rename_i e r; exact ⟨_, rfl, .dk e r⟩
    · rename_i e r; exact ⟨_, rfl, .dt e r⟩
theorem dgetF_dic {d k : PV} {o : Option PV} (h : dgetF d k = some o) : isDic d = true := by
  cases d <;> simp [dgetF, isDic] at h ⊢
/-- the items of a sequence -/
theorem BRep.seq {v : V} {p : PV} {xs : List PV} (r : BRep K F H v p) (h : seqOf p = some xs) : ∃ a vs, v = .ref a ∧ (SqL K H a vs ∨ SqT K H a vs) ∧ RepL K F H vs xs := by
  cases p <;> simp only [seqOf] at h <;> cases h
  · obtain ⟨a, vs, e, h, r⟩ := r.tup; exact ⟨a, vs, e, .inr (SqT.of h), r⟩
  · obtain ⟨a, its, vs, e, h, r⟩ := r.fup; exact ⟨a, vs, e, .inr (.inl (.inr ⟨_, h⟩)), r⟩
  · obtain ⟨a, vs, e, h, r⟩ := r.lst; exact ⟨a, vs, e, .inl h, r⟩
theorem BRep.tupOf {v : V} {p : PV} {xs : List PV} (r : BRep K F H v p) (h : tupOf p = some xs) : ∃ a vs, v = .ref a ∧ SqT K H a vs ∧ RepL K F H vs xs := by
  cases p <;> simp only [PP.tupOf] at h <;> cases h
  · obtain ⟨a, vs, e, h, r⟩ := r.tup; exact ⟨a, vs, e, SqT.of h, r⟩
  · obtain ⟨a, its, vs, e, h, r⟩ := r.fup; exact ⟨a, vs, e, .inl (.inr ⟨_, h⟩), r⟩
end

/-! ### they are the machine's -/
section
variable {X : Cx}
theorem opB_of {g : Value → Value → Sem Value} {f : PV → PV → Option PV}
    (h : ∀ (pins : List (Addr × Obj)) (s : Shared) (σ : L2.St) (H : Hp) (x y : V) (v u : Value) (Q : VK) (F : Addr → Prop) (p q r : PV), Inv X pins σ H s → RelV x v → RelV y u → (∀ a, F a → ∃ o, H a = some o) → Sized H → BRep X.K F H x p → BRep X.K F H y q → f p q = some r →
      (∀ (z : V) (F' : Addr → Prop) (H' : Hp), Nw F H F' H' → Rep X.K F' H' z r → Q z H') → wpAny (model X.prog X.w) X.A (g v u) (EP X pins σ Q) X.xe s) : OpR X g (rB X.K f) := by
  intro pins s σ H x y v u Q I rx ry ⟨F, p, q, r, fz, sz, r1, r2, e, k⟩
  exact h pins s σ H x y v u Q F p q r I rx ry fz sz r1 r2 e k
theorem op_intF {g : Value → Value → Sem Value} {C : Int → Int → Prop} {C' : Int → Int → Bool} {k : Int → Int → Int} (ho : OpR X g (rI C fun i j => .int (k i j))) (hC : ∀ i j, C' i j = true → C i j) : OpR X g (rB X.K (intF C' k)) := by
  refine opB_of fun pins s σ H x y v u Q F p q r I rx ry fz sz r1 r2 e kk => ?_
  unfold intF at e
  split at e
  · split at e
    · rename_i hc
      cases e
      cases r1.int; cases r2.int
      exact ho pins s σ H _ _ v u Q I rx ry ⟨_, _, rfl, rfl, hC _ _ hc, kk _ F H (.refl fz) (.int _)⟩
    · cases e
  · cases e
theorem op_subF : OpR X (binaryOp .Sub) (rB X.K subF) := op_intF (C := fun _ _ => True) (fun pins s σ H x y v u Q I rx ry ⟨i, j, a, b, _, q⟩ => op_sub pins s σ H x y v u Q I rx ry ⟨i, j, a, b, q⟩) fun _ _ _ => trivial
theorem op_mulF : OpR X (binaryOp .Mult) (rB X.K mulF) := op_intF op_mul fun i j h => by simpa [CMul] using h
theorem op_modF : OpR X (binaryOp .Mod) (rB X.K modF) := op_intF op_mod fun i j h => by simpa using h
theorem op_divF : OpR X (binaryOp .FloorDiv) (rB X.K divF) := op_intF op_fdiv fun i j h => by simpa [CDiv] using h
theorem op_powF : OpR X (binaryOp .Pow) (rB X.K powF) := op_intF op_pow fun i j h => by simpa [CPow] using h
theorem op_cmpF {g : Value → Value → Sem Value} {k : Int → Int → Bool} (ho : OpR X g (rI0 fun i j => .bl (k i j))) : OpR X g (rB X.K (cmpF k)) := by
  refine opB_of fun pins s σ H x y v u Q F p q r I rx ry fz sz r1 r2 e kk => ?_
  unfold cmpF at e
  split at e
  · cases e
    cases r1.int; cases r2.int
    exact ho pins s σ H _ _ v u Q I rx ry ⟨_, _, rfl, rfl, kk _ F H (.refl fz) (.bl _)⟩
  · cases e
theorem op_leF : OpR X (compareOp .LtE) (rB X.K leF) := op_cmpF op_le
theorem op_gtF : OpR X (compareOp .Gt) (rB X.K gtF) := op_cmpF op_gt
theorem op_geF : OpR X (compareOp .GtE) (rB X.K geF) := op_cmpF op_ge
theorem op_ltF (hu : X.A.units < cLine) : OpR X (compareOp .Lt) (rB X.K ltF) := by
  refine opB_of fun pins s σ H x y v u Q F p q r I rx ry fz sz r1 r2 e kk => ?_
  unfold ltF at e
  split at e
  · cases e
    cases r1.int; cases r2.int
    exact op_lt pins s σ H _ _ v u Q I rx ry ⟨_, _, rfl, rfl, kk _ F H (.refl fz) (.bl _)⟩
  · obtain ⟨xs, t1, e⟩ := Option.bind_eq_some_iff.mp e
    obtain ⟨ys, t2, e⟩ := Option.bind_eq_some_iff.mp e
    obtain ⟨is, h1, e⟩ := Option.bind_eq_some_iff.mp e
    obtain ⟨js, h2, e⟩ := Option.map_eq_some_iff.mp e
    subst e
    obtain ⟨_, _, rfl, ha, ra⟩ := r1.tupOf t1
    obtain ⟨_, _, rfl, hb, rb⟩ := r2.tupOf t2
    have e1 := ra.ints h1
    have e2 := rb.ints h2
    subst e1 e2
    exact op_ltT hu pins s σ H _ _ v u Q I rx ry ⟨_, _, is, js, rfl, rfl, ha, hb, kk _ F H (.refl fz) (.bl _)⟩
theorem op_eqF (hu : X.A.units + 64 < cLine) : OpR X (compareOp .Eq) (rB X.K eqF) := by
  refine opB_of fun pins s σ H x y v u Q F p q r I rx ry fz sz r1 r2 e kk => ?_
  unfold eqF at e
  split at e
  · rename_i h
    cases e
    rw [Bool.and_eq_true] at h
    obtain ⟨s1, n1⟩ := okD_shaped h.1
    obtain ⟨s2, n2⟩ := okD_shaped h.2
    exact op_eqD hu pins s σ H _ _ v u Q I rx ry ⟨_, _, r1.dp n1, r2.dp n2, s1, s2, kk _ F H (.refl fz) (.bl _)⟩
  · cases e
theorem op_neF (hu : X.A.units + 64 < cLine) : OpR X (compareOp .NotEq) (rB X.K neF) := by
  refine opB_of fun pins s σ H x y v u Q F p q r I rx ry fz sz r1 r2 e kk => ?_
  unfold neF at e
  split at e
  · rename_i h
    cases e
    rw [Bool.and_eq_true] at h
    obtain ⟨s1, n1⟩ := okD_shaped h.1
    obtain ⟨s2, n2⟩ := okD_shaped h.2
    exact op_neD hu pins s σ H _ _ v u Q I rx ry ⟨_, _, r1.dp n1, r2.dp n2, s1, s2, kk _ F H (.refl fz) (.bl _)⟩
  · cases e
theorem BRep.non_iff {K : PySem.W.Frag} {F : Addr → Prop} {H : Hp} {v : V} {p : PV} (r : BRep K F H v p) : decide (v = .non) = isNone p := by
  cases r with
  | rep r => cases r <;> simp [isNone]
  | own o => cases o <;> simp [isNone]
theorem BRep.of_non {K : PySem.W.Frag} {F : Addr → Prop} {H : Hp} {v : V} {p : PV} (r : BRep K F H v p) (h : isNone p = true) : v = .non := by
  cases r with
  | rep r => cases r <;> simp [isNone] at h ⊢
  | own o => cases o <;> simp [isNone] at h
theorem op_isNF : OpR X (compareOp .Is) (rB X.K isNF) := by
  refine opB_of fun pins s σ H x y v u Q F p q r I rx ry fz sz r1 r2 e kk => ?_
  unfold isNF at e
  split at e
  · rename_i h
    cases e
    have e2 := r2.of_non h
    subst e2
    refine op_isN pins s σ H _ _ v u Q I rx ry ⟨rfl, ?_⟩
    rw [r1.non_iff]
    exact kk _ F H (.refl fz) (.bl _)
  · cases e
theorem op_notNF : OpR X (compareOp .IsNot) (rB X.K notNF) := by
  refine opB_of fun pins s σ H x y v u Q F p q r I rx ry fz sz r1 r2 e kk => ?_
  unfold notNF at e
  split at e
  · rename_i h
    cases e
    have e2 := r2.of_non h
    subst e2
    refine op_notN pins s σ H _ _ v u Q I rx ry ⟨rfl, ?_⟩
    rw [r1.non_iff]
    exact kk _ F H (.refl fz) (.bl _)
  · cases e
theorem in_data (hu : X.A.units + 65 < cLine) {pins : List (Addr × Obj)} {s : Shared} {σ : L2.St} {H : Hp} {x y : V} {v u : Value} {F : Addr → Prop} {p q : PV} {ys : List PV} (neg : Bool) {Q : VK} (I : Inv X pins σ H s) (rx : RelV x v) (ry : RelV y u) (r1 : BRep X.K F H x p) (r2 : BRep X.K F H y q)
    (hs : seqOf q = some ys) (h : (okD 60 p && okD 60 q) = true) (k : Q (.bl (if neg then !ys.any fun z => eqv z p else ys.any fun z => eqv z p)) H) : wpAny (model X.prog X.w) X.A (compareOp (if neg then .NotIn else .In) v u) (EP X pins σ Q) X.xe s := by
  rw [Bool.and_eq_true] at h
  obtain ⟨s1, n1⟩ := okD_shaped h.1
  obtain ⟨s2, n2⟩ := okD_shaped h.2
  obtain ⟨as, q1⟩ := Dp.reads I _ x v (r1.dp n1) rx
  obtain ⟨bs, q2⟩ := Dp.reads I _ y u (r2.dp n2) ry
  have key : ∀ zs : List PV, (toDs zs).any (fun z => PyData.eqv z (toD p)) = zs.any fun z => eqv z p := fun zs => by
    rw [toDs_map, List.any_map]; rfl
  rw [← key] at k
  cases q <;> simp only [seqOf] at hs <;> cases hs
  all_goals
    simp only [toD] at q2 s2
    cases neg
    · first
        | exact SeqAt.in_tuple_reads q2 q1 (by simpa [PyData.canLay0] using SeqAt.canLay_of_shaped s2) (SeqAt.canLay_of_shaped s1) (room_in_shaped s1 hu) ⟨.bl _, H, I, rfl, k⟩
        | exact SeqAt.in_list_reads q2 q1 (by simpa [PyData.canLay0] using SeqAt.canLay_of_shaped s2) (SeqAt.canLay_of_shaped s1) (room_in_shaped s1 hu) ⟨.bl _, H, I, rfl, k⟩
    · first
        | exact SeqAt.notIn_tuple_reads q2 q1 (by simpa [PyData.canLay0] using SeqAt.canLay_of_shaped s2) (SeqAt.canLay_of_shaped s1) (room_in_shaped s1 hu) ⟨.bl _, H, I, rfl, k⟩
        | exact SeqAt.notIn_list_reads q2 q1 (by simpa [PyData.canLay0] using SeqAt.canLay_of_shaped s2) (SeqAt.canLay_of_shaped s1) (room_in_shaped s1 hu) ⟨.bl _, H, I, rfl, k⟩
theorem op_inF (hu : X.A.units + 65 < cLine) : OpR X (compareOp .In) (rB X.K inF) := by
  refine opB_of fun pins s σ H x y v u Q F p q r I rx ry fz sz r1 r2 e kk => ?_
  unfold inF at e
  split at e
  · rename_i ys hs
    split at e
    · rename_i h
      cases e
      exact in_data hu false I rx ry r1 r2 hs h (kk _ F H (.refl fz) (.bl _))
    · cases e
  · obtain ⟨o, h, e⟩ := Option.map_eq_some_iff.mp e
    subst e
    obtain ⟨a, rfl, D⟩ := r2.dic (dgetF_dic h)
    obtain ⟨w, g, w1, w2⟩ := D.dget r1 h
    cases ry
    refine d_in (o := w) (by omega) I g rx fun s' I' => ⟨.bl _, H, I', rfl, ?_⟩
    cases o with
    | none => rw [w2 rfl]; exact kk _ F H (.refl fz) (.bl _)
    | some y => obtain ⟨u', e, _⟩ := w1 y rfl; rw [e]; exact kk _ F H (.refl fz) (.bl _)
theorem op_notInF (hu : X.A.units + 65 < cLine) : OpR X (compareOp .NotIn) (rB X.K notInF) := by
  refine opB_of fun pins s σ H x y v u Q F p q r I rx ry fz sz r1 r2 e kk => ?_
  unfold notInF at e
  split at e
  · rename_i ys hs
    split at e
    · rename_i h
      cases e
      exact in_data hu true I rx ry r1 r2 hs h (kk _ F H (.refl fz) (.bl _))
    · cases e
  · obtain ⟨o, h, e⟩ := Option.map_eq_some_iff.mp e
    subst e
    obtain ⟨a, rfl, D⟩ := r2.dic (dgetF_dic h)
    obtain ⟨w, g, w1, w2⟩ := D.dget r1 h
    cases ry
    refine d_notIn (o := w) (by omega) I g rx fun s' I' => ⟨.bl _, H, I', rfl, ?_⟩
    cases o with
    | none => rw [w2 rfl]; exact kk _ F H (.refl fz) (.bl _)
    | some y => obtain ⟨u', e, _⟩ := w1 y rfl; rw [e]; exact kk _ F H (.refl fz) (.bl _)
end
end PP

/-! PP, part d: +, built-ins on sequences, subscripts. -/
namespace PP
open PySem PySem.Spec PyProof.Rows L2

section
variable {X : Cx}
theorem call_of {g : Value} {f : List PV → Option PV}
    (h : ∀ (pins : List (Addr × Obj)) (s : Shared) (σ : L2.St) (H : Hp) (xs : List V) (us : List Value) (Q : VK) (F : Addr → Prop) (ps : List PV) (r : PV), Inv X pins σ H s → Vals xs us → (∀ a, F a → ∃ o, H a = some o) → Sized H → BRepL X.K F H xs ps → f ps = some r →
      (∀ (z : V) (F' : Addr → Prop) (H' : Hp), Nw F H F' H' → Rep X.K F' H' z r → Q z H') → wpAny (model X.prog X.w) X.A (call g us) (EP X pins σ Q) X.xe s) : CallR X g (rL X.K f) := by
  intro pins s σ H xs us Q I rx ⟨F, ps, r, fz, sz, r1, e, k⟩
  exact h pins s σ H xs us Q F ps r I rx fz sz r1 e k

/-- a new list at p -/
theorem new_list {K : PySem.W.Frag} {F : Addr → Prop} {H : Hp} {p : Addr} {vs : List V} {xs : List PV} (fz : ∀ a, F a → ∃ o, H a = some o) (np : H p = none) (r : RepL K F H vs xs) :
    Nw F H (fun b => F b ∨ b = p) (upd H p (.lst vs)) ∧ Rep K (fun b => F b ∨ b = p) (upd H p (.lst vs)) (.ref p) (.lst xs) := by
  have N : Nw F H (fun b => F b ∨ b = p) (upd H p (.lst vs)) := .fix np fz
  exact ⟨N, .lst (.inl ⟨.inr rfl, SqL.of upd_same⟩) (r.ex N.ex)⟩
theorem new_tup {K : PySem.W.Frag} {F : Addr → Prop} {H : Hp} {p : Addr} {vs : List V} {xs : List PV} (fz : ∀ a, F a → ∃ o, H a = some o) (np : H p = none) (r : RepL K F H vs xs) :
    Nw F H F (upd H p (.tup vs)) ∧ Rep K F (upd H p (.tup vs)) (.ref p) (.tup xs) := by
  have N : Nw F H F (upd H p (.tup vs)) := .upd np fz
  exact ⟨N, .tup upd_same (r.ex N.ex)⟩

/-- t + u of tuples, also where one is empty -/
theorem cat_tups {pins : List (Addr × Obj)} {σ : L2.St} {H : Hp} {s : Shared} {Q : VK} {a b : Addr} {xs ys : List V} (I : Inv X pins σ H s) (ha : H a = some (.tup xs)) (hb : H b = some (.tup ys)) (hl : xs.length + ys.length ≤ sizeLine)
    (h0 : xs = [] → Q (.ref b) H) (h1 : xs ≠ [] → ys = [] → Q (.ref a) H) (h2 : ∀ p, H p = none → Q (.ref p) (upd H p (.tup (xs ++ ys)))) : wpAny (model X.prog X.w) X.A (binaryOp .Add (.ref a) (.ref b)) (EP X pins σ Q) X.xe s := by
  obtain ⟨its, ra, ⟨⟨cls, dd, data, sl⟩, ho, hc, n, hd⟩, _⟩ := I.tuple (SqT.of ha)
  obtain ⟨its2, rb, ⟨⟨cls2, dd2, data2, sl2⟩, ho2, hc2, n2, hd2⟩, _⟩ := I.tuple (SqT.of hb)
  simp only at hc hd hc2 hd2
  subst hc hd hc2 hd2
  have e : its.toArray ++ its2.toArray = (its ++ its2).toArray := by simp
  have l1 := ra.length
  have l2 := rb.length
  by_cases hv : its = []
  · refine concat_meets ⟨_, ho, rfl⟩ ⟨_, ho2, rfl⟩ noFill_tuple_add seq_tuple_add PySem.F.slot_tuple_add PySem.F.entry_tuple_add (PySem.F.args_tuple_add_2 _ _)
      (tuple_addW0 a b its.toArray its2.toArray n n2 dd dd2 sl sl2 (by simp [hv])) ⟨ho, ho2, .ref b, H, I, rfl, h0 ?_⟩
    subst hv; cases ra; rfl
  · by_cases hw : its2 = []
    · refine concat_meets ⟨_, ho, rfl⟩ ⟨_, ho2, rfl⟩ noFill_tuple_add seq_tuple_add PySem.F.slot_tuple_add PySem.F.entry_tuple_add (PySem.F.args_tuple_add_2 _ _)
        (tuple_addW1 a b its.toArray its2.toArray n n2 dd dd2 sl sl2 (by simpa using hv) (by simp [hw])) ⟨ho, ho2, .ref a, H, I, rfl, h1 (fun z => ?_) ?_⟩
      · subst z; cases ra; exact hv rfl
      · subst hw; cases rb; rfl
    · refine concat_meets ⟨_, ho, rfl⟩ ⟨_, ho2, rfl⟩ noFill_tuple_add seq_tuple_add PySem.F.slot_tuple_add PySem.F.entry_tuple_add (PySem.F.args_tuple_add_2 _ _)
        (tuple_addW2 a b its.toArray its2.toArray n n2 dd dd2 sl sl2 (by simpa using hv) (by simpa using hw) (by rw [List.size_toArray, List.size_toArray]; omega)) ⟨ho, ho2, ?_⟩
      rw [e]
      have hf : H s.heap.objs.size = none := I.hok.fresh (Nat.le_refl _)
      refine ⟨.ref s.heap.objs.size, upd H s.heap.objs.size (.tup (xs ++ ys)), I.laid (t' := s.toks) (fun c u e => Heap.get?_push_of_some _ e) (Nat.le_refl _) ?_, rfl, h2 _ hf⟩
      exact ⟨by rw [List.length_append]; exact hl, its ++ its2, ra.append rb, ⟨_, Heap.get?_push_size _ rfl, rfl, _, rfl⟩⟩

/-- a list that is read, tracked or not: + takes tracked ones -/
theorem op_addF : OpR X (binaryOp .Add) (rB X.K addF) := by
  refine opB_of fun pins s σ H x y v u Q F p q r I rx ry fz sz r1 r2 e kk => ?_
  unfold addF at e
  split at e
  · cases e
    cases r1.int; cases r2.int
    exact op_add pins s σ H _ _ v u Q I rx ry ⟨_, _, rfl, rfl, kk _ F H (.refl fz) (.int _)⟩
  · split at e
    · rename_i hl
      cases e
      obtain ⟨a, vs, rfl, ha, ra⟩ := r1.lst
      obtain ⟨b, ws, rfl, hb, rb⟩ := r2.lst
      cases rx; cases ry
      obtain ⟨its, va, pl, _⟩ := I.list ha
      obtain ⟨its2, vb, pl2, _⟩ := I.list hb
      obtain ⟨⟨cls, dd, data, sl⟩, ho, hc, n, hd⟩ := pl.isList
      obtain ⟨⟨cls2, dd2, data2, sl2⟩, ho2, hc2, n2, hd2⟩ := pl2.isList
      simp only at hc hd hc2 hd2
      subst hc hd hc2 hd2
      have l1 := va.length
      have l2 := vb.length
      have l3 := ra.length
      have l4 := rb.length
      have hf : H s.heap.objs.size = none := I.hok.fresh (Nat.le_refl _)
      have e : its.toArray ++ its2.toArray = (its ++ its2).toArray := by simp
      refine concat_meets ⟨_, ho, rfl⟩ ⟨_, ho2, rfl⟩ noFill_list_add seq_list_add PySem.F.slot_list_add PySem.F.entry_list_add (PySem.F.args_list_add_2 _ _) (list_addW a b its.toArray its2.toArray n n2 dd dd2 sl sl2 (by rw [List.size_toArray, List.size_toArray]; omega)) ⟨ho, ho2, ?_⟩
      rw [e]
      obtain ⟨N, R⟩ := new_list fz hf (ra.append rb)
      exact ⟨.ref _, _, I.lnew (t' := s.toks) (va.append vb) (by rw [List.length_append]; omega), rfl, kk _ _ _ N R⟩
    · cases e
  · split at e
    · rename_i hl
      cases e
      obtain ⟨a, vs, rfl, ha, ra⟩ := r1.tup
      obtain ⟨b, ws, rfl, hb, rb⟩ := r2.tup
      cases rx; cases ry
      have l3 := ra.length
      have l4 := rb.length
      refine cat_tups I ha hb (by omega) (fun z => ?_) (fun _ z => ?_) fun p np => ?_
      · subst z
        cases ra
        exact kk _ F H (.refl fz) (.tup hb rb)
      · subst z
        cases rb
        rw [List.append_nil] at kk
        exact kk _ F H (.refl fz) (.tup ha ra)
      · obtain ⟨N, R⟩ := new_tup fz np (ra.append rb)
        exact kk _ _ _ N R
    · cases e
  · cases e
end
end PP

/-! PP, part e: built-ins by values. -/
namespace PP
open PySem PySem.Spec PyProof.Rows L2

def lenF : List PV → Option PV
  | [x] => (seqOf x).map fun xs => .int xs.length
  | _ => none
/-- tuple(..): a plain one -/
def tupleF : List PV → Option PV
  | [.lst xs] => some (.tup xs)
  | [.tup xs] => some (.tup xs)
  | _ => none
def listF : List PV → Option PV
  | [x] => (seqOf x).map fun xs => .lst xs
  | _ => none
def toBools : List PV → Option (List Bool)
  | [] => some []
  | .bl b :: r => (toBools r).map (b :: ·)
  | _ :: _ => none
def allF : List PV → Option PV
  | [.lst xs] => (toBools xs).map fun bs => .bl (bs.all id)
  | _ => none
def anyF : List PV → Option PV
  | [.lst xs] => (toBools xs).map fun bs => .bl (bs.any id)
  | _ => none
def sumF : List PV → Option PV
  | [.lst xs] => (toInts xs).map fun is => .int is.sum
  | _ => none
def absF : List PV → Option PV
  | [.int i] => some (.int (if i < 0 then -i else i))
  | _ => none
def intTF : List PV → Option PV
  | [.int i] => some (.int i)
  | [.bl b] => some (.int (if b then 1 else 0))
  | _ => none
def alikeB (xs : List PV) : Bool := xs.all fun x => xs.all fun y => PySem.W.alike (toD x) (toD y)
mutual
/-- nothing in it but None, bools, ints, texts, plain tuples, lists: it is what its data is -/
def plainP : PV → Bool
  | .fup _ => false
  | .dk _ => false
  | .dt _ => false
  | .lst xs => plainPs xs
  | .tup xs => plainPs xs
  | _ => true
def plainPs : List PV → Bool
  | [] => true
  | x :: xs => plainP x && plainPs xs
end
mutual
theorem toD_inj : ∀ {x y : PV}, plainP x = true → plainP y = true → toD x = toD y → x = y
  | .non, y, _, hy, e => by cases y <;> simp [toD, plainP] at e hy ⊢
  | .bl _, y, _, hy, e => by cases y <;> simp [toD, plainP] at e hy ⊢; exact e
  | .int _, y, _, hy, e => by cases y <;> simp [toD, plainP] at e hy ⊢; exact e
  | .str _, y, _, hy, e => by cases y <;> simp [toD, plainP] at e hy ⊢; exact e
  | .tup xs, y, hx, hy, e => by
    cases y <;> simp [toD, plainP] at e hy ⊢
    exact toDs_inj (by simpa [plainP] using hx) hy e
  | .lst xs, y, hx, hy, e => by
    cases y <;> simp [toD, plainP] at e hy ⊢
    exact toDs_inj (by simpa [plainP] using hx) hy e
  | .fup _, _, hx, _, _ => by simp [plainP] at hx
  | .dk _, _, hx, _, _ => by simp [plainP] at hx
  | .dt _, _, hx, _, _ => by simp [plainP] at hx
theorem toDs_inj : ∀ {xs ys : List PV}, plainPs xs = true → plainPs ys = true → toDs xs = toDs ys → xs = ys
  | [], ys, _, _, e => by cases ys <;> simp [toDs] at e ⊢
  | x :: xs, ys, hx, hy, e => by
    cases ys with
    | nil => simp [toDs] at e
    | cons y ys =>
      simp only [toDs, List.cons.injEq] at e
      simp only [plainPs, Bool.and_eq_true] at hx hy
      rw [toD_inj hx.1 hy.1 e.1, toDs_inj hx.2 hy.2 e.2]
end
theorem plainPs_all : ∀ xs : List PV, plainPs xs = xs.all plainP
  | [] => rfl
  | x :: xs => by simp [plainPs, plainPs_all xs]
def minP (x : PV) (xs : List PV) : PV := xs.foldl (fun a y => if PySem.W.dataLt (toD y) (toD a) then y else a) x
def maxP (x : PV) (xs : List PV) : PV := xs.foldl (fun a y => if PySem.W.dataLt (toD a) (toD y) then y else a) x
/-- they can be compared with one another -/
def comparable (xs : List PV) : Bool := xs.all (okD 60) && alikeB xs && plainPs xs && xs.all fun x => !isNone x
/-- the least (greatest) item; two ints -/
def minF : List PV → Option PV
  | [.int i, .int j] => some (.int (if j < i then j else i))
  | [.lst (x :: xs)] => if comparable (x :: xs) then some (minP x xs) else none
  | _ => none
def maxF : List PV → Option PV
  | [.int i, .int j] => some (.int (if j > i then j else i))
  | [.lst (x :: xs)] => if comparable (x :: xs) then some (maxP x xs) else none
  | _ => none
/-- the items can be sorted: all tuples that are not empty, or none a tuple; or there is one at most -/
def sortable (xs : List PV) : Bool := xs.all (fun x => match tupOf x with | some (_ :: _) => true | _ => false) || xs.all (fun x => (tupOf x).isNone) || decide (xs.length ≤ 1)
def leP (x y : PV) : Bool := PySem.W.dataLe false toD x y
def sortL (xs : List PV) : List PV := xs.mergeSort leP
def sortedF : List PV → Option PV
  | [.lst xs] => if comparable xs && sortable xs then some (.lst (sortL xs)) else none
  | _ => none

theorem RepL.bools {K : PySem.W.Frag} {F : Addr → Prop} {H : Hp} : ∀ {xs : List PV} {is : List Bool} {vs : List V}, RepL K F H vs xs → toBools xs = some is → vs = is.map V.bl
  | [], _, _, .nil, h => by cases h; rfl
  | x :: xs, is, _, .cons r t, h => by
    cases x <;> simp only [toBools] at h <;> try cases h
    obtain ⟨js, hj, e⟩ := Option.map_eq_some_iff.mp h
    subst e
    rw [RepL.bools t hj]
    cases r
    rfl
theorem BRepL.one {K : PySem.W.Frag} {F : Addr → Prop} {H : Hp} {vs : List V} {x : PV} (r : BRepL K F H vs [x]) : ∃ v, vs = [v] ∧ BRep K F H v x := by
  cases r with | cons r t => cases t; exact ⟨_, rfl, r⟩
theorem BRepL.two {K : PySem.W.Frag} {F : Addr → Prop} {H : Hp} {vs : List V} {x y : PV} (r : BRepL K F H vs [x, y]) : ∃ v w, vs = [v, w] ∧ BRep K F H v x ∧ BRep K F H w y := by
  cases r with | cons r t => cases t with | cons r2 t => cases t; exact ⟨_, _, rfl, r, r2⟩

theorem each_vals {K : PySem.W.Frag} {F : Addr → Prop} {H : Hp} : ∀ {vs : List V} {us : List Value} {xs : List PV}, Vals vs us → RepL K F H vs xs → PySem.W.EachIs (fun u x => ∃ v, RelV v u ∧ Rep K F H v x) us xs
  | _, _, _, .nil, .nil => .nil
  | _, _, _, .cons r t, .cons q s => .cons ⟨_, r, q⟩ (each_vals t s)
theorem vals_each {K : PySem.W.Frag} {F : Addr → Prop} {H : Hp} : ∀ {us : List Value} {xs : List PV}, PySem.W.EachIs (fun u x => ∃ v, RelV v u ∧ Rep K F H v x) us xs → ∃ vs, Vals vs us ∧ RepL K F H vs xs
  | _, _, .nil => ⟨[], .nil, .nil⟩
  | _, _, .cons ⟨v, r, q⟩ t => let ⟨vs, a, b⟩ := vals_each t; ⟨v :: vs, .cons r a, .cons q b⟩
theorem mem_get {K : PySem.W.Frag} {F : Addr → Prop} {H : Hp} : ∀ {vs : List V} {us : List Value} {xs : List PV}, Vals vs us → RepL K F H vs xs → ∀ (i : Nat) (u : Value), us[i]? = some u → ∃ v x, RelV v u ∧ Rep K F H v x ∧ xs[i]? = some x
  | _, _, _, .nil, .nil, i, u, h => by simp at h
  | _, _, _, .cons r t, .cons q s, 0, u, h => by simp at h; subst h; exact ⟨_, _, r, q, rfl⟩
  | _, _, _, .cons r t, .cons q s, i + 1, u, h => by
    obtain ⟨v, x, a, b, c⟩ := mem_get t s i u (by simpa using h)
    exact ⟨v, x, a, b, by simpa using c⟩

theorem alikeB_all {xs : List PV} (h : alikeB xs = true) : PySem.W.AllAlike (xs.map toD) := fun d hd d' hd' => by
  obtain ⟨x, hx, rfl⟩ := List.mem_map.mp hd
  obtain ⟨y, hy, rfl⟩ := List.mem_map.mp hd'
  unfold alikeB at h
  rw [List.all_eq_true] at h
  have h1 := h x hx
  rw [List.all_eq_true] at h1
  exact h1 y hy

section
variable {X : Cx}
theorem cr_lenF : CallR X (.builtin "len") (rL X.K lenF) := by
  refine call_of fun pins s σ H xs us Q F ps r I rx fz sz r1 e k => ?_
  unfold lenF at e
  split at e
  · obtain ⟨ys, hs, e⟩ := Option.map_eq_some_iff.mp e
    subst e
    obtain ⟨v, rfl, q1⟩ := r1.one
    obtain ⟨a, vs, rfl, h, r⟩ := q1.seq hs
    refine call_len_seq pins s σ H _ us Q I rx ⟨a, vs, rfl, h, ?_⟩
    rw [r.length]
    exact k _ F H (.refl fz) (.int _)
  · cases e
theorem cr_tupleF : CallR X (.type "tuple") (rL X.K tupleF) := by
  refine call_of fun pins s σ H xs us Q F ps r I rx fz sz r1 e k => ?_
  unfold tupleF at e
  split at e
  · cases e
    obtain ⟨v, rfl, q1⟩ := r1.one
    obtain ⟨a, vs, rfl, h, r⟩ := q1.lst
    refine call_tuple_of pins s σ H _ us Q I rx ⟨a, vs, rfl, .inl ⟨h, fun p np => ?_⟩⟩
    obtain ⟨N, R⟩ := new_tup fz np r
    exact k _ _ _ N R
  · cases e
    obtain ⟨v, rfl, q1⟩ := r1.one
    obtain ⟨a, vs, rfl, h, r⟩ := q1.tup
    exact call_tuple_of pins s σ H _ us Q I rx ⟨a, vs, rfl, .inr ⟨SqT.of h, k _ F H (.refl fz) (.tup h r)⟩⟩
  · cases e
theorem cr_listF : CallR X (.type "list") (rL X.K listF) := by
  refine call_of fun pins s σ H xs us Q F ps r I rx fz sz r1 e k => ?_
  unfold listF at e
  split at e
  · obtain ⟨ys, hs, e⟩ := Option.map_eq_some_iff.mp e
    subst e
    obtain ⟨v, rfl, q1⟩ := r1.one
    obtain ⟨a, vs, rfl, h, r⟩ := q1.seq hs
    refine call_list_of pins s σ H _ us Q I rx ⟨a, vs, rfl, h, fun p np => ?_⟩
    obtain ⟨N, R⟩ := new_list fz np r
    exact k _ _ _ N R
  · cases e
theorem cr_allF (hc : X.calm = true) : CallR X (.builtin "all") (rL X.K allF) := by
  refine call_of fun pins s σ H xs us Q F ps r I rx fz sz r1 e k => ?_
  unfold allF at e
  split at e
  · obtain ⟨bs, h, e⟩ := Option.map_eq_some_iff.mp e
    subst e
    obtain ⟨v, rfl, q1⟩ := r1.one
    obtain ⟨a, vs, rfl, ha, r⟩ := q1.lst
    have := r.bools h
    subst this
    exact cr_all hc pins s σ H _ us Q I rx ⟨a, bs, rfl, ha, k _ F H (.refl fz) (.bl _)⟩
  · cases e
theorem cr_anyF (hc : X.calm = true) : CallR X (.builtin "any") (rL X.K anyF) := by
  refine call_of fun pins s σ H xs us Q F ps r I rx fz sz r1 e k => ?_
  unfold anyF at e
  split at e
  · obtain ⟨bs, h, e⟩ := Option.map_eq_some_iff.mp e
    subst e
    obtain ⟨v, rfl, q1⟩ := r1.one
    obtain ⟨a, vs, rfl, ha, r⟩ := q1.lst
    have := r.bools h
    subst this
    exact cr_any hc pins s σ H _ us Q I rx ⟨a, bs, rfl, ha, k _ F H (.refl fz) (.bl _)⟩
  · cases e
theorem cr_sumF (hc : X.calm = true) : CallR X (.builtin "sum") (rL X.K sumF) := by
  refine call_of fun pins s σ H xs us Q F ps r I rx fz sz r1 e k => ?_
  unfold sumF at e
  split at e
  · obtain ⟨bs, h, e⟩ := Option.map_eq_some_iff.mp e
    subst e
    obtain ⟨v, rfl, q1⟩ := r1.one
    obtain ⟨a, vs, rfl, ha, r⟩ := q1.lst
    have := r.ints h
    subst this
    exact cr_sum hc pins s σ H _ us Q I rx ⟨a, bs, rfl, ha, k _ F H (.refl fz) (.int _)⟩
  · cases e
theorem cr_absF : CallR X (.builtin "abs") (rL X.K absF) := by
  refine call_of fun pins s σ H xs us Q F ps r I rx fz sz r1 e k => ?_
  unfold absF at e
  split at e
  · cases e
    obtain ⟨v, rfl, q1⟩ := r1.one
    cases q1.int
    exact call_abs pins s σ H _ us Q I rx ⟨_, rfl, k _ F H (.refl fz) (.int _)⟩
  · cases e
theorem cr_intTF : CallR X (.type "int") (rL X.K intTF) := by
  refine call_of fun pins s σ H xs us Q F ps r I rx fz sz r1 e k => ?_
  unfold intTF at e
  split at e
  · cases e
    obtain ⟨v, rfl, q1⟩ := r1.one
    cases q1.int
    exact call_int1 pins s σ H _ us Q I rx (.inl ⟨_, rfl, k _ F H (.refl fz) (.int _)⟩)
  · cases e
    obtain ⟨v, rfl, q1⟩ := r1.one
    cases q1.bl
    exact call_int1 pins s σ H _ us Q I rx (.inr ⟨_, rfl, k _ F H (.refl fz) (.int _)⟩)
  · cases e

theorem all_shaped {xs : List PV} (h : xs.all (okD 60) = true) : PyData.canLayAll0 (toDs xs) = true ∧ PyData.depthAll (toDs xs) ≤ 60 ∧ nodicL xs = true := okD_all (okD_sound 60) h
theorem comparable_ok {xs : List PV} (h : comparable xs = true) : xs.all (okD 60) = true ∧ alikeB xs = true ∧ plainPs xs = true ∧ ∀ x ∈ xs, isNone x = false := by
  unfold comparable at h
  simp only [Bool.and_eq_true, List.all_eq_true (p := fun x => !isNone x), Bool.not_eq_true'] at h
  exact ⟨h.1.1.1, h.1.1.2, h.1.2, h.2⟩
theorem mm_alike {xs : List PV} (h : comparable xs = true) : PySem.W.AlikeAll (xs.map toD) := by
  obtain ⟨h1, h2, h3, h4⟩ := comparable_ok h
  have ha := alikeB_all h2
  refine ⟨fun y hy z hz => ha y hy z hz, fun y hy z => ?_⟩
  obtain ⟨x, hx, rfl⟩ := List.mem_map.mp hy
  have := h4 x hx
  cases x <;> simp [toD, isNone] at this z
theorem reads_at {h : Heap} : ∀ {us : List Value} {xs : List PV} {as : List Addr}, ReadsAll h us (toDs xs) as → ∀ (i : Nat) (u : Value) (x : PV), us[i]? = some u → xs[i]? = some x → ∃ bs, Reads h u (toD x) bs
  | _, [], _, r, i, u, x, _, f => by simp at f
  | _, y :: ys, _, r, i, u, x, e, f => by
    unfold toDs at r
    cases r with
    | cons r t =>
      cases i with
      | zero => simp at e f; subst e f; exact ⟨_, r⟩
      | succ i => exact reads_at t i u x (by simpa using e) (by simpa using f)
/-- the item that was found is one of the items -/
theorem pick_rep {K : PySem.W.Frag} {F : Addr → Prop} {H : Hp} {h' : Heap} {vs : List V} {us : List Value} {xs : List PV} {i : Nat} {u : Value} {d : PV} {bs : List Addr} (hv : Vals vs us) (hr : RepL K F H vs xs) (hi : us[i]? = some u) (rd : Reads h' u (toD d) bs)
    (hx : ∀ x, xs[i]? = some x → ∃ as, Reads h' u (toD x) as) (hd : d ∈ xs) (al : alikeB xs = true) (pl : plainPs xs = true) : ∃ v, RelV v u ∧ Rep K F H v d := by
  obtain ⟨v, x, a, b, c⟩ := mem_get hv hr i u hi
  obtain ⟨as, r2⟩ := hx x c
  have hm := List.mem_of_getElem? c
  rw [plainPs_all, List.all_eq_true] at pl
  have e := PySem.W.alike_unique (toD x) (toD d) u as bs (alikeB_all al _ (List.mem_map_of_mem hm) _ (List.mem_map_of_mem hd)) r2 rd
  rw [← toD_inj (pl x hm) (pl d hd) e]
  exact ⟨v, a, b⟩
theorem minP_mem (x : PV) : ∀ xs : List PV, minP x xs ∈ x :: xs := by
  suffices h : ∀ (xs : List PV) (a : PV), List.foldl (fun a y => if PySem.W.dataLt (toD y) (toD a) then y else a) a xs ∈ a :: xs from fun xs => h xs x
  intro xs
  induction xs with
  | nil => intro a; simp
  | cons y ys ih =>
    intro a
    rw [List.foldl_cons]
    rcases List.mem_cons.mp (ih (if PySem.W.dataLt (toD y) (toD a) = true then y else a)) with h | h
    · rw [h]; split <;> simp
    · exact List.mem_cons_of_mem _ (List.mem_cons_of_mem _ h)
theorem maxP_mem (x : PV) : ∀ xs : List PV, maxP x xs ∈ x :: xs := by
  suffices h : ∀ (xs : List PV) (a : PV), List.foldl (fun a y => if PySem.W.dataLt (toD a) (toD y) then y else a) a xs ∈ a :: xs from fun xs => h xs x
  intro xs
  induction xs with
  | nil => intro a; simp
  | cons y ys ih =>
    intro a
    rw [List.foldl_cons]
    rcases List.mem_cons.mp (ih (if PySem.W.dataLt (toD a) (toD y) = true then y else a)) with h | h
    · rw [h]; split <;> simp
    · exact List.mem_cons_of_mem _ (List.mem_cons_of_mem _ h)
theorem minP_D (x : PV) (xs : List PV) : toD (minP x xs) = PySem.W.minD (toD x) (xs.map toD) := by
  unfold minP PySem.W.minD
  induction xs generalizing x with
  | nil => rfl
  | cons y ys ih =>
    rw [List.map_cons, List.foldl_cons, List.foldl_cons, ih]
    congr 1
    split <;> rfl
theorem maxP_D (x : PV) (xs : List PV) : toD (maxP x xs) = PySem.W.maxD (toD x) (xs.map toD) := by
  unfold maxP PySem.W.maxD
  induction xs generalizing x with
  | nil => rfl
  | cons y ys ih =>
    rw [List.map_cons, List.foldl_cons, List.foldl_cons, ih]
    congr 1
    split <;> rfl
theorem cr_minF (hc : X.calm = true) (hu : X.A.units + 100 < cLine) : CallR X (.builtin "min") (rL X.K minF) := by
  refine call_of fun pins s σ H xs us Q F ps r I rx fz sz r1 e k => ?_
  unfold minF at e
  split at e
  · cases e
    obtain ⟨v, w, rfl, q1, q2⟩ := r1.two
    cases q1.int; cases q2.int
    exact call_min2 hc pins s σ H _ us Q I rx ⟨_, _, rfl, k _ F H (.refl fz) (.int _)⟩
  · split at e
    · rename_i x xs h
      cases e
      obtain ⟨h1, h2, h3, h4⟩ := comparable_ok h
      obtain ⟨c1, c2, c3⟩ := all_shaped h1
      obtain ⟨v, rfl, q1⟩ := r1.one
      obtain ⟨a, vs, rfl, ha, ra⟩ := q1.lst
      obtain ⟨u, rfl, ru⟩ := rx.one
      cases ru
      obtain ⟨its, rv, pl, hz⟩ := I.list ha
      obtain ⟨as, rd⟩ := Dp.readsAll I _ _ its (RepL.dp c3 ra) rv
      have rd0 := rd
      rw [toDs_map] at rd c2
      refine PySem.W.min_list_data (I.ok.hd hc) pl.isList (x := toD x) (xs := xs.map toD) (by simpa using rd) (mm_alike h) (by have := c2; rw [List.map_cons] at this; omega) fun i v h' tk bs hv rd' keep => ?_
      rw [← minP_D] at rd'
      obtain ⟨z, rz, pz⟩ := pick_rep (h' := h') rv ra (by simpa using hv) rd' (fun y hy => by
        obtain ⟨bs, q⟩ := reads_at rd0 i v y (by simpa using hv) hy
        exact ⟨bs, Reads.keeps keep q⟩) (minP_mem x xs) h2 h3
      exact ⟨z, H, I.kept (t' := tk) keep, rz, k z F H (.refl fz) pz⟩
    · cases e
  · cases e
theorem cr_maxF (hc : X.calm = true) (hu : X.A.units + 100 < cLine) : CallR X (.builtin "max") (rL X.K maxF) := by
  refine call_of fun pins s σ H xs us Q F ps r I rx fz sz r1 e k => ?_
  unfold maxF at e
  split at e
  · cases e
    obtain ⟨v, w, rfl, q1, q2⟩ := r1.two
    cases q1.int; cases q2.int
    exact call_max2 hc pins s σ H _ us Q I rx ⟨_, _, rfl, k _ F H (.refl fz) (.int _)⟩
  · split at e
    · rename_i x xs h
      cases e
      obtain ⟨h1, h2, h3, h4⟩ := comparable_ok h
      obtain ⟨c1, c2, c3⟩ := all_shaped h1
      obtain ⟨v, rfl, q1⟩ := r1.one
      obtain ⟨a, vs, rfl, ha, ra⟩ := q1.lst
      obtain ⟨u, rfl, ru⟩ := rx.one
      cases ru
      obtain ⟨its, rv, pl, hz⟩ := I.list ha
      obtain ⟨as, rd⟩ := Dp.readsAll I _ _ its (RepL.dp c3 ra) rv
      have rd0 := rd
      rw [toDs_map] at rd c2
      refine PySem.W.max_list_data (I.ok.hd hc) pl.isList (x := toD x) (xs := xs.map toD) (by simpa using rd) (mm_alike h) (by have := c2; rw [List.map_cons] at this; omega) fun i v h' tk bs hv rd' keep => ?_
      rw [← maxP_D] at rd'
      obtain ⟨z, rz, pz⟩ := pick_rep (h' := h') rv ra (by simpa using hv) rd' (fun y hy => by
        obtain ⟨bs, q⟩ := reads_at rd0 i v y (by simpa using hv) hy
        exact ⟨bs, Reads.keeps keep q⟩) (maxP_mem x xs) h2 h3
      exact ⟨z, H, I.kept (t' := tk) keep, rz, k z F H (.refl fz) pz⟩
    · cases e
  · cases e
end
end PP

/-! PP, part f: sorted. -/
namespace PP
open PySem PySem.Spec PyProof.Rows L2
section
variable {prog : Program} {w : World} {A : Around} {s : Shared}
/-- one item, of whatever kind -/
theorem sortsAt_one {v : Value} {d : PyData} {as : List Addr} (rd : Reads s.heap v d as) (al : PySem.W.alike d d = true) (hn : d ≠ .none) (hu : A.units + d.depth < cLine) : PySem.W.SortsAt prog w A s (PySem.W.dataKind s.heap [d]) [v] := by
  have hal : PySem.W.AllAlike [d] := fun x hx y hy => by
    rw [List.mem_singleton] at hx hy
    subst hx hy
    exact al
  refine ⟨fun v' hv => ?_, ⟨general', fun E x y a b Q ha hb hq => ?_, fun h2 => absurd h2 (by simp)⟩⟩
  · rw [List.mem_singleton] at hv
    subst hv
    exact ⟨_, PySem.W.dataKind_some hal (List.mem_singleton.mpr rfl) rd⟩
  · obtain ⟨d1, as1, h1, r1, rfl⟩ := PySem.W.dataKind_inv ha
    obtain ⟨d2, as2, h2, r2, rfl⟩ := PySem.W.dataKind_inv hb
    rw [List.mem_singleton] at h1 h2
    subst h1 h2
    show wpAny (model prog w) A (oneLt' false x y) Q E s
    exact PySem.W.oneLt_alike (fun z => by cases z) r1 r2 al hn (Nat.lt_of_le_of_lt (Nat.add_le_add_left (Nat.min_le_left _ _) _) hu) hq
end
section
variable {X : Cx}
/-- the end of sorted: the new list stands -/
theorem sorted_end {pins : List (Addr × Obj)} {σ : L2.St} {H : Hp} {s : Shared} {Q : VK} {F : Addr → Prop} {us out : List Value} {xs : List PV} (I : Inv X pins σ H s) (fz : ∀ a, F a → ∃ o, H a = some o) (hl : out.length ≤ sizeLine)
    (e : PySem.W.EachIs (fun u x => ∃ v, RelV v u ∧ Rep X.K F H v x) out xs) (k : ∀ (z : V) (F' : Addr → Prop) (H' : Hp), Nw F H F' H' → Rep X.K F' H' z (.lst xs) → Q z H') :
    EP X pins σ Q (.ref (s.heap.objs.size + 1)) { s with heap := sortedAll s.heap us (List.toArray out) } := by
  obtain ⟨vs, va, ra⟩ := vals_each e
  obtain ⟨c, hc⟩ := sortedAll_at s.heap us out.toArray
  have np : H (s.heap.objs.size + 1) = none := I.hok.fresh (Nat.le_succ _)
  obtain ⟨N, R⟩ := new_list fz np ra
  refine ⟨.ref (s.heap.objs.size + 1), _, I.laid (t' := s.toks) (fun b u q => sortedAll_old q) (Nat.le_succ _) ?_, rfl, k _ _ _ N R⟩
  exact ⟨by rw [va.length]; exact hl, out, c, va, hc⟩
theorem sortable_ok {xs : List PV} (h : sortable xs = true) (hn : ∀ x ∈ xs, isNone x = false) : PySem.W.Sortable (xs.map toD) ∨ ∃ d, xs = [d] := by
  unfold sortable at h
  simp only [Bool.or_eq_true, List.all_eq_true, decide_eq_true_eq] at h
  rcases h with (h | h) | h
  · refine .inl (.inl fun d hd => ?_)
    obtain ⟨x, hx, rfl⟩ := List.mem_map.mp hd
    have := h x hx
    cases x <;> simp only [tupOf] at this <;> first | (cases this; done) | skip
    all_goals
      split at this
      · rename_i e
        cases e
        exact ⟨_, _, by simp only [toD, toDs]; rfl⟩
      · cases this
  · refine .inl (.inr fun d hd => ?_)
    obtain ⟨x, hx, rfl⟩ := List.mem_map.mp hd
    have := h x hx
    have h2 := hn x hx
    cases x <;> simp [tupOf, toD, isNone] at this h2 ⊢
  · match xs, h with
    | [], _ => exact .inl (.inl fun d hd => absurd hd (by simp))
    | [d], h => exact .inr ⟨d, rfl⟩
    | _ :: _ :: _, h => exact absurd h (by simp)
theorem depth_le {xs : List PyData} {n : Nat} (h : PyData.depthAll xs ≤ n) : ∀ x ∈ xs, x.depth ≤ n := by
  induction xs with
  | nil => intro x hx; simp at hx
  | cons y ys ih =>
    simp only [PyData.depthAll] at h
    intro x hx
    rcases List.mem_cons.mp hx with rfl | hx
    · omega
    · exact ih (by omega) x hx
theorem reads_each {h : Heap} : ∀ {us : List Value} {xs : List PV} {as : List Addr}, ReadsAll h us (toDs xs) as → PySem.W.EachIs (fun v b => ∃ as, Reads h v (toD b) as) us xs
  | _, [], _, r => by unfold toDs at r; cases r; exact .nil
  | _, x :: xs, _, r => by
    unfold toDs at r
    cases r with | cons r t => exact .cons ⟨_, r⟩ (reads_each t)
theorem cr_sortedF (hu : X.A.units + 100 < cLine) : CallR X (.builtin "sorted") (rL X.K sortedF) := by
  refine call_of fun pins s σ H xs us Q F ps r I rx fz sz r1 e k => ?_
  unfold sortedF at e
  split at e
  · split at e
    · rename_i xs h
      cases e
      rw [Bool.and_eq_true] at h
      obtain ⟨hc, h3⟩ := h
      obtain ⟨h1, h2, _, h4⟩ := comparable_ok hc
      obtain ⟨c1, c2, c3⟩ := all_shaped h1
      obtain ⟨v, rfl, q1⟩ := r1.one
      obtain ⟨u, rfl, ru⟩ := rx.one
      obtain ⟨a, vs, rfl, ha, ra⟩ := q1.lst
      cases ru
      obtain ⟨its, rv, pl, hz⟩ := I.list ha
      obtain ⟨as, rd⟩ := Dp.readsAll I _ _ its (RepL.dp c3 ra) rv
      have l1 := rv.length
      have l2 := ra.length
      have el := each_vals rv ra
      have er := reads_each rd
      have lm : (sortL xs).length = xs.length := List.length_mergeSort ..
      have dd : ∀ x ∈ xs, (toD x).depth ≤ 60 := fun x hx => depth_le (by rw [toDs_map] at c2; exact c2) _ (List.mem_map_of_mem hx)
      rcases sortable_ok h3 h4 with hs | ⟨d, rfl⟩
      · refine PySem.W.sorted_data (R := fun u x => ∃ v, RelV v u ∧ Rep X.K F H v x) (enc := toD) pl.isList el er (alikeB_all h2) hs (by omega) (fun b hb => by have := dd b hb; omega) fun out hl ho => ?_
        exact sorted_end I fz (by omega) ho k
      · have al : PySem.W.AllAlike ([d].map toD) := alikeB_all h2
        match its, rv, rd, el, er with
        | [u], rv, rd, el, er =>
          obtain ⟨bs, rdu⟩ : ∃ bs, Reads s.heap u (toD d) bs := by
            cases er with | cons r _ => exact r
          have rk : Reads (PySem.W.sortingHeap (PySem.W.copyHeap s.heap [u]) (s.heap.objs.size + 1) [u]) u (toD d) bs := Reads.keeps (fun _ _ => PySem.W.sorting_copy_old) rdu
          have dd := dd d (by simp)
          have hd : toD d ≠ .none := fun z => by
            have := h4 d (by simp)
            cases d <;> simp [toD, isNone] at z this
          refine PySem.W.sorted_vals pl.isList (sortsAt_one (s := { s with heap := PySem.W.sortingHeap (PySem.W.copyHeap s.heap [u]) (s.heap.objs.size + 1) [u] }) rk (al _ (by simp) _ (by simp)) hd (by show X.A.units + 1 + 1 + _ < _; omega)) (by simp; rw [sizeLine_eq]; omega) ?_
          have ek : PySem.W.EachIs (fun v b => ∃ as, Reads (PySem.W.sortingHeap (PySem.W.copyHeap s.heap [u]) (s.heap.objs.size + 1) [u]) v (toD b) as) [u] [d] := .cons ⟨bs, rk⟩ .nil
          have q := PySem.W.sortVals_data (R := fun u x => ∃ v, RelV v u ∧ Rep X.K F H v x) (enc := toD) false el ek al
          refine sorted_end I fz ?_ q k
          rw [PySem.W.sortVals_length false rfl]
          simp; rw [sizeLine_eq]; omega
        | [], rv, _, _, er => cases er
        | _ :: _ :: _, rv, _, _, er => cases er with | cons _ t => cases t
    · cases e
  · cases e
end
end PP

/-! PP, part g: subscripts, slices, get, index, isinstance, truth. -/
namespace PP
open PySem PySem.Spec PyProof.Rows L2

def getF (d k : PV) : Option PV := match seqOf d with
  | some xs => match k with
    | .int i => atI xs i
    | _ => none
  | none => (dgetF d k).bind id
theorem RepL.atI {K : PySem.W.Frag} {F : Addr → Prop} {H : Hp} {vs : List V} {xs : List PV} {i : Int} {x : PV} (r : RepL K F H vs xs) (h : L2.atI xs i = some x) : ∃ v, L2.atI vs i = some v ∧ Rep K F H v x := by
  unfold L2.atI at h ⊢
  rw [r.length]
  obtain ⟨j, hj, e⟩ := Option.bind_eq_some_iff.mp h
  obtain ⟨v, hv, rv⟩ := r.get e
  exact ⟨v, by rw [hj]; exact hv, rv⟩

section
variable {X : Cx} {a b e o : Expr} {da db : Den} {pos apos cpos : Pos}
theorem ix_getF (hu : X.A.units + 1 < cLine) : IxR X (rB X.K getF) := by
  intro value slice pins s σ H x y v u Q I rx ry ⟨F, p, q, r, fz, sz, r1, r2, e, k⟩ hs
  unfold getF at e
  split at e
  · rename_i xs hseq
    split at e
    · obtain ⟨a, vs, rfl, h, rl⟩ := r1.seq hseq
      cases r2.int
      obtain ⟨w, hw, rw'⟩ := rl.atI e
      rcases h with h | h
      · exact ix_list value slice pins s σ H _ _ v u Q I rx ry ⟨a, vs, _, w, rfl, rfl, h, hw, k w F H (.refl fz) rw'⟩ hs
      · exact ix_tup value slice pins s σ H _ _ v u Q I rx ry ⟨a, vs, _, w, rfl, rfl, h, hw, k w F H (.refl fz) rw'⟩ hs
    · cases e
  · obtain ⟨w, hg, e⟩ := Option.bind_eq_some_iff.mp e
    obtain rfl : w = some r := e
    obtain ⟨a, rfl, D⟩ := r1.dic (dgetF_dic hg)
    obtain ⟨w, g, w1, _⟩ := D.dget r2 hg
    obtain ⟨z, rfl, rz⟩ := w1 r rfl
    cases rx
    exact tail_any (dict_typeIs I g) PySem.F.slot_dict_getitem.lookup (d_getItem hu I g ry fun w' s' I' rw' => ⟨z, H, I', rw', k z F H (.refl fz) rz⟩) hs
theorem plainIx {b : Expr} (h : match b with | .Slice _ _ _ _ => False | _ => True) : PlainIx b := by
  intro o i
  cases b <;> first | rfl | exact h.elim
theorem ve_sub (hu : X.A.units + 1 < cLine) (hs : PlainIx b) (ha : VE X a da) (hb : VE X b db) : VE X (.Subscript a b pos) (dBin getF da db) :=
  pe_imp (pe_ix (ix_getF hu) ha hb hs) fun σ H Q sz ⟨F, env, r, env', R, hd, q⟩ => by
    unfold dBin at hd
    obtain ⟨⟨p, e1⟩, h1, hd⟩ := Option.bind_eq_some_iff.mp hd
    obtain ⟨⟨q', e2⟩, h2, hd⟩ := Option.bind_eq_some_iff.mp hd
    obtain ⟨z, h3, hz⟩ := Option.map_eq_some_iff.mp hd
    cases hz
    refine ⟨F, env, p, e1, R, h1, fun x F1 H1 R1 M1 r1 => ⟨F1, e1, q', e2, R1, h2, fun y F2 H2 R2 M2 r2 => ⟨F2, p, q', r, R2.fz, R2.sz, .rep (r1.ex (M2.ex R1)), .rep r2, h3, fun z F3 H3 N r3 s3 => ?_⟩⟩⟩
    exact q z F3 H3 (N.rel R2 s3) ((M1.trans M2).trans N.mv) r3
theorem ve_subL {i : Nat} (hu : X.A.units + 1 < cLine) (hs : PlainIx b) (ha : PE X a (tVar i)) (hb : VE X b db) : VE X (.Subscript a b pos) (dBinL getF i db) :=
  pe_imp (pe_ix (ix_getF hu) ha hb hs) fun σ H Q sz ⟨F, env, r, env', R, hd, q⟩ => by
    unfold dBinL at hd
    obtain ⟨_, h0, hd⟩ := Option.bind_eq_some_iff.mp hd
    obtain ⟨⟨p, e1⟩, h1, hd⟩ := Option.bind_eq_some_iff.mp hd
    obtain ⟨y, h2, hd⟩ := Option.bind_eq_some_iff.mp hd
    obtain ⟨z, h3, hz⟩ := Option.map_eq_some_iff.mp hd
    cases hz
    obtain ⟨x, sx, _⟩ := slotv_rep R h0
    refine ⟨x, sx, F, env, p, _, R, h1, fun x2 F1 H1 R1 M1 r1 => ?_⟩
    obtain ⟨x', sx', r'⟩ := slotv_rep R1 h2
    rw [sx] at sx'; cases sx'
    exact ⟨F1, y, p, r, R1.fz, R1.sz, r', .rep r1, h3, fun z F3 H3 N r3 s3 => q z F3 H3 (N.rel R1 s3) (M1.trans N.mv) r3⟩

/-! ### the receiver of a method: evaluated, or a slot that is only read -/
def dHead (o : Arg) : Den := fun e => match o with
  | .d a => a e
  | .b i => (slotv e i).map fun x => (x, e)
/-- the receiver as it stands when its method runs -/
def dBack (o : Arg) (p : PV) (e : PEn) : Option PV := match o with
  | .d _ => some p
  | .b i => slotv e i
/-- the sort of a value -/
def kind : PV → Nat
  | .lst _ => 1
  | .fup _ => 2
  | .dk _ => 3
  | .dt _ => 3
  | _ => 0
/-- a method: what the receiver is at first must pass the test g -/
def dRecv (g : PV → Bool) (o : Arg) (as : List Den) (f : PV → List PV → Option PV) : Den := fun e =>
  (dHead o e).bind fun p => if g p.1 then (dArgs as p.2).bind fun q => (dBack o p.1 q.2).bind fun y => if kind y = kind p.1 then (f y q.1).map fun z => (z, q.2) else none else none
/-- an argument as an expression -/
inductive VArg (X : Cx) : Expr → Arg → Prop
  | d {e : Expr} {da : Den} : VE X e da → VArg X e (.d da)
  | b {e : Expr} {i : Nat} : PE X e (tVar i) → VArg X e (.b i)
theorem head_run {ar : Arg} (h : VArg X o ar) {pins : List (Addr × Obj)} {s : Shared} {σ : L2.St} {H : Hp} {F : Addr → Prop} {env e1 : PEn} {p : PV} (I : Inv X pins σ H s) (R : Rel X.K F H env σ) (hd : dHead ar env = some (p, e1)) :
    wpAny (model X.prog X.w) X.A (eval o X.env) (fun u s1 => ∃ (x : V) (F1 : Addr → Prop) (H1 : Hp), Inv X pins σ H1 s1 ∧ RelV x u ∧ Rel X.K F1 H1 e1 σ ∧ Mv F H env σ F1 H1 e1 σ ∧ BRep X.K F1 H1 x p ∧
      ∀ (F2 : Addr → Prop) (H2 : Hp) (e2 : PEn) (y : PV), Rel X.K F2 H2 e2 σ → Mv F1 H1 e1 σ F2 H2 e2 σ → dBack ar p e2 = some y → BRep X.K F2 H2 x y) X.xe s := by
  cases h with
  | d h =>
    refine thn (h.run pins s σ H (fun x H1 => ∃ F1, Rel X.K F1 H1 e1 σ ∧ Mv F H env σ F1 H1 e1 σ ∧ Rep X.K F1 H1 x p) I ⟨F, env, p, e1, R, hd, fun x F1 H1 R1 M1 r1 => ⟨F1, R1, M1, r1⟩⟩) fun u s1 ⟨x, H1, I1, rx, F1, R1, M1, r1⟩ => ?_
    exact ⟨x, F1, H1, I1, rx, R1, M1, .rep r1, fun F2 H2 e2 y R2 M2 e => by cases e; exact .rep (r1.ex (M2.ex R1))⟩
  | b h =>
    obtain ⟨x0, hx, e⟩ := Option.map_eq_some_iff.mp hd
    cases e
    obtain ⟨x, sx, r⟩ := slotv_rep R hx
    refine thn (h.run pins s σ H (fun y H1 => y = x ∧ H1 = H) I ⟨x, sx, rfl, rfl⟩) fun u s1 ⟨y, H1, I1, rx, e1, e2⟩ => ?_
    subst e1 e2
    refine ⟨y, F, H1, I1, rx, R, .refl, r, fun F2 H2 e2 z R2 M2 e => ?_⟩
    obtain ⟨x', sx', r'⟩ := slotv_rep R2 e
    rw [sx] at sx'; cases sx'; exact r'
theorem args_run {es : List Expr} {ds : List Den} (h : VA X es (dArgs ds)) {pins : List (Addr × Obj)} {s : Shared} {σ : L2.St} {H : Hp} {F : Addr → Prop} {env e1 : PEn} {ps : List PV} (pos : Pos) (I : Inv X pins σ H s) (R : Rel X.K F H env σ) (hd : dArgs ds env = some (ps, e1)) :
    wpAny (model X.prog X.w) X.A (spliced (backTo pos (starEach es X.env))) (fun us s1 => ∃ (xs : List V) (F1 : Addr → Prop) (H1 : Hp), Inv X pins σ H1 s1 ∧ Vals xs us ∧ Rel X.K F1 H1 e1 σ ∧ Mv F H env σ F1 H1 e1 σ ∧ RepL X.K F1 H1 xs ps) X.xe s := by
  refine thn (h.run pos pins s σ H (fun xs H1 => ∃ F1, Rel X.K F1 H1 e1 σ ∧ Mv F H env σ F1 H1 e1 σ ∧ RepL X.K F1 H1 xs ps) I ⟨F, env, ps, e1, R, hd, fun x F1 H1 R1 M1 r1 => ⟨F1, R1, M1, r1⟩⟩) fun u s1 ⟨x, H1, I1, rx, F1, R1, M1, r1⟩ => ?_
  exact ⟨x, F1, H1, I1, rx, R1, M1, r1⟩

/-- what is seen of a method call's text -/
structure MCall (X : Cx) (o : Expr) (m : Str) (apos : Pos) (es : List Expr) (cpos : Pos) : Prop where
  base : attributeBase o m X.env (eval o X.env) = eval o X.env
  few : ((backTo cpos (starEach es X.env)).all (fun x => !x.1) && (backToKw cpos (keywordEach [] X.env)).all (fun x => x.1.isSome)
    && decide (es.length + ([] : List Keyword).length + (if ([] : List Keyword).isEmpty then 0 else 1) < 30)) = true
  line : (apos.endLine == cpos.line) = true
  star : es.all notStar = true
theorem starFew {env : Env} {pos : Pos} : ∀ {es : List Expr}, es.all notStar = true → (backTo pos (starEach es env)).all (fun x => !x.1) = true
  | [], _ => rfl
  | e :: es, h => by
    simp only [List.all_cons, Bool.and_eq_true] at h
    have ih := starFew (env := env) (pos := pos) h.2
    rw [starEach_cons h.1]
    simp only [backTo, List.map_cons, List.all_cons, Bool.not_false, Bool.true_and] at ih ⊢
    exact ih
def baseOk : Expr → Bool
  | .Call _ as _ _ => !as.isEmpty
  | _ => true
theorem mcall {m : Str} {es : List Expr} (hb : baseOk o = true) (hs : es.all notStar = true) (hl : es.length < 20) (line : (apos.endLine == cpos.line) = true) : MCall X o m apos es cpos where
  base := by
    cases o <;> first
      | rfl
      | (rename_i f as kw p
         cases as with
         | nil => simp [baseOk] at hb
         | cons a r => cases f <;> rfl)
  few := by
    rw [starFew hs]
    show (true && true && decide (es.length + 0 + 0 < 30)) = true
    simp; omega
  line := line
  star := hs

/-- a method of a built-in type, over values: what must be known of it -/
structure MFn (X : Cx) (m : Str) (g : PV → Bool) (f : PV → List PV → Option PV) : Prop where
  run : ∀ (pins : List (Addr × Obj)) (s : Shared) (σ : L2.St) (H : Hp) (x : V) (u : Value) (p : PV) (F : Addr → Prop), Inv X pins σ H s → RelV x u → BRep X.K F H x p → g p = true →
    ∃ T id, PlainAttrs T ∧ PySem.Slot T m id ∧ typeOf (.builtin id) = pure (.type "method_descriptor") ∧ s.TypeIs u T ∧ (∀ a, u = .ref a → ∃ ob, s.heap.get? a = some ob ∧ ob.dict = none) ∧
      ∀ (s2 : Shared) (H2 : Hp) (xs : List V) (us : List Value) (F2 : Addr → Prop) (y : PV) (ps : List PV) (r : PV) (Q : VK), Inv X pins σ H2 s2 → Vals xs us → (∀ a, F2 a → ∃ o, H2 a = some o) → Sized H2 → BRep X.K F2 H2 x y → kind y = kind p → RepL X.K F2 H2 xs ps → f y ps = some r →
        (∀ (z : V) (F' : Addr → Prop) (H' : Hp), Nw F2 H2 F' H' → Rep X.K F' H' z r → Q z H') → wpAny (model X.prog X.w) X.A (call (.builtin id) (u :: us)) (EP X pins σ Q) X.xe s2
theorem ve_meth {m : Str} {g : PV → Bool} {f : PV → List PV → Option PV} {ar : Arg} {es : List Expr} {ds : List Den} (hm : MFn X m g f) (mc : MCall X o m apos (e :: es) cpos) (ho : VArg X o ar) (ha : VA X (e :: es) (dArgs ds)) :
    VE X (.Call (.Attribute o m apos) (e :: es) [] cpos) (dRecv g ar ds f) := by
  refine ⟨fun pins s σ H Q I ⟨F, env, r, env', R, hd, q⟩ => ?_⟩
  unfold dRecv at hd
  obtain ⟨⟨p, e1⟩, h1, hd⟩ := Option.bind_eq_some_iff.mp hd
  split at hd
  · rename_i hg
    obtain ⟨⟨ps, e2⟩, h2, hd⟩ := Option.bind_eq_some_iff.mp hd
    obtain ⟨y, h3, hd⟩ := Option.bind_eq_some_iff.mp hd
    split at hd
    · rename_i hk
      obtain ⟨z, h4, hz⟩ := Option.map_eq_some_iff.mp hd
      cases hz
      refine wpAny_Call_method_late mc.base mc.few mc.line rfl (thn (head_run ho I R h1) fun u s1 ⟨x, F1, H1, I1, rx, R1, M1, r1, back⟩ => ?_)
      obtain ⟨T, id, pa, slot, hty, hT, hn, hc⟩ := hm.run pins s1 σ H1 x u p F1 I1 rx r1 hg
      refine ⟨T, id, pa, slot, hty, hT, hn, ?_⟩
      have hA := args_run ha cpos I1 R1 h2
      have hs := mc.star
      have h5 : es.all notStar = true := by simp only [List.all_cons, Bool.and_eq_true] at hs; exact hs.2
      have h6 : notStar e = true := List.all_eq_true.mp hs _ List.mem_cons_self
      rw [starEach_cons h6] at hA ⊢
      refine Calls.callWith_builtin (by show (false || (backTo cpos (starEach es X.env)).any (·.1)) = false; rw [star_plain h5 cpos]; rfl) (Calls.evalArgs_plain ?_)
      refine thn hA fun us s2 ⟨xs, F2, H2, I2, rxs, R2, M2, r2⟩ => ?_
      have rb := back F2 H2 e2 y R2 M2 h3
      refine thn (hc s2 H2 xs us F2 y ps _ (fun v H' => Sized H' → Q v H') I2 rxs R2.fz R2.sz rb hk r2 h4 fun v F3 H3 N r3 s3 => q v F3 H3 (N.rel R2 s3) ((M1.trans M2).trans N.mv) r3) fun u' s' ⟨v, H', I', rv, qv⟩ => ⟨v, H', I', rv, qv (sized_of I'.hok)⟩
    · cases hd
  · cases hd

/-! ### get, index -/
def mgetF (d : PV) (ks : List PV) : Option PV := match ks with
  | [k] => (dgetF d k).map fun o => o.getD .non
  | [k, x] => (dgetF d k).map fun o => o.getD x
  | _ => none
theorem RepL.one {K : PySem.W.Frag} {F : Addr → Prop} {H : Hp} {vs : List V} {x : PV} (r : RepL K F H vs [x]) : ∃ v, vs = [v] ∧ Rep K F H v x := by
  cases r with | cons r t => cases t; exact ⟨_, rfl, r⟩
theorem RepL.two {K : PySem.W.Frag} {F : Addr → Prop} {H : Hp} {vs : List V} {x y : PV} (r : RepL K F H vs [x, y]) : ∃ v w, vs = [v, w] ∧ Rep K F H v x ∧ Rep K F H w y := by
  cases r with | cons r t => cases t with | cons r2 t => cases t; exact ⟨_, _, rfl, r, r2⟩
theorem getD_rep {K : PySem.W.Frag} {F : Addr → Prop} {H : Hp} {o : Option PV} {w : Option V} {d : V} {x : PV} (h1 : ∀ y, o = some y → ∃ u, w = some u ∧ Rep K F H u y) (h2 : o = none → w = none) (rd : Rep K F H d x) : Rep K F H (w.getD d) (o.getD x) := by
  cases o with
  | none => rw [h2 rfl]; exact rd
  | some y => obtain ⟨u, e, r⟩ := h1 y rfl; rw [e]; exact r
theorem isD_of {K : PySem.W.Frag} {F : Addr → Prop} {H : Hp} {a : Addr} {d : PV} (D : DicAt K F H a d) : IsD H a := by
  cases D with
  | dk e _ => exact .inl ⟨_, .inl e⟩
  | dt e _ => exact .inr ⟨_, .inl e⟩
theorem m_get (hu : X.A.units + 1 < cLine) : MFn X "get" isDic mgetF := ⟨fun pins s σ H x u p F I rx r1 hg => by
  obtain ⟨a, rfl, D⟩ := r1.dic hg
  cases rx
  obtain ⟨t1, t2, _⟩ := isD_at I (isD_of D)
  refine ⟨"dict", _, PySem.F.plainAttrs_dict, PySem.F.slot_dict_get, PySem.F.type_dict_get, t1, t2, fun s2 H2 xs us F2 y ps r Q I2 rxs fz sz rb hk rl e k => ?_⟩
  unfold mgetF at e
  split at e
  · obtain ⟨o, h, e⟩ := Option.map_eq_some_iff.mp e
    subst e
    obtain ⟨v, rfl, q1⟩ := rl.one
    obtain ⟨a', e', D'⟩ := rb.dic (dgetF_dic h)
    cases e'
    obtain ⟨w, g, w1, w2⟩ := D'.dget (.rep q1) h
    obtain ⟨u1, rfl, ru⟩ := rxs.one
    exact d_get1 hu I2 g ru fun w' s' I' rw' => ⟨_, H2, I', rw', k _ F2 H2 (.refl fz) (getD_rep w1 w2 .non)⟩
  · obtain ⟨o, h, e⟩ := Option.map_eq_some_iff.mp e
    subst e
    obtain ⟨v, v2, rfl, q1, q2⟩ := rl.two
    obtain ⟨a', e', D'⟩ := rb.dic (dgetF_dic h)
    cases e'
    obtain ⟨w, g, w1, w2⟩ := D'.dget (.rep q1) h
    obtain ⟨u1, u2, rfl, ru, ru2⟩ := rxs.two
    exact d_get2 hu I2 g ru ru2 fun w' s' I' rw' => ⟨_, H2, I', rw', k _ F2 H2 (.refl fz) (getD_rep w1 w2 q2)⟩
  · cases e⟩
def isSeqI : PV → Bool
  | .lst _ => true
  | .fup _ => true
  | _ => false
/-- the first place of an equal item -/
def indexF (d : PV) (ks : List PV) : Option PV := match d, ks with
  | .lst xs, [k] => if okD 60 (.lst xs) && okD 60 k then (xs.findIdx? fun y => eqv y k).map fun j => .int (j : Nat) else none
  | .fup xs, [.int i] => (toInts xs).bind fun is => if i ∈ is then some (.int (is.idxOf i : Nat)) else none
  | _, _ => none
theorem m_index (hu : X.A.units + 65 < cLine) : MFn X "index" isSeqI indexF := ⟨fun pins s σ H x u p F I rx r1 hg => by
  cases p <;> simp [isSeqI] at hg
  · rename_i zs
    obtain ⟨a, its, vs, rfl, ha, ra⟩ := r1.fup
    cases rx
    obtain ⟨e1, _⟩ := I.hok a _ ha
    refine ⟨"tuple", _, PySem.F.plainAttrs_tuple, PySem.F.slot_tuple_index, PySem.F.type_tuple_index, ⟨_, e1, rfl⟩, fun b e => by cases e; exact ⟨_, e1, rfl⟩, fun s2 H2 xs us F2 y ps r Q I2 rxs fz sz rb hk rl e k => ?_⟩
    cases y <;> simp [kind] at hk
    unfold indexF at e
    split at e
    · rename_i h; cases h
    · rename_i ys i h
      cases h
      obtain ⟨is, h1, e⟩ := Option.bind_eq_some_iff.mp e
      split at e
      · rename_i hi
        cases e
        obtain ⟨a', its', vs', e', hb, rb'⟩ := rb.fup
        cases e'
        obtain ⟨v, rfl, q1⟩ := rl.one
        obtain ⟨u1, rfl, ru⟩ := rxs.one
        cases q1
        obtain ⟨t, rfl⟩ := ru
        obtain ⟨us2, rv, pl, _⟩ := I2.tuple (.inl (.inr ⟨_, hb⟩))
        have ei := rb'.ints h1
        subst ei
        exact PySem.SeqAt.tuple_index_ints (show s2.heap.IsTuple a us2.toArray from pl) (Vals.ints rv) hi ⟨.int _, H2, I2.tok _, ⟨_, rfl⟩, k _ F2 H2 (.refl fz) (.int _)⟩
      · cases e
    · cases e
  · rename_i zs
    obtain ⟨a, vs, rfl, ha, ra⟩ := r1.lst
    cases rx
    obtain ⟨_, _, pl, _⟩ := I.list ha
    refine ⟨"list", _, PySem.F.plainAttrs_list, PySem.F.slot_list_index, PySem.F.type_list_index, pl.isList.typeIs, fun b e => by cases e; obtain ⟨o, n, e, c, hd, _⟩ := pl; exact ⟨o, e, hd⟩, fun s2 H2 xs us F2 y ps r Q I2 rxs fz sz rb hk rl e k => ?_⟩
    cases y <;> simp [kind] at hk
    rename_i ys
    match ps, rl, e with
    | [], _, e => simp [indexF] at e
    | _ :: _ :: _, _, e => simp [indexF] at e
    | [i], rl, e =>
      simp only [indexF] at e
      split at e
      · rename_i h
        obtain ⟨j, hj, e⟩ := Option.map_eq_some_iff.mp e
        subst e
        rw [Bool.and_eq_true] at h
        obtain ⟨s1, n1⟩ := okD_shaped h.1
        obtain ⟨s2', n2⟩ := okD_shaped h.2
        obtain ⟨v, rfl, q1⟩ := rl.one
        have dl := rb.dp n1
        simp only [toD] at dl s1
        rw [List.findIdx?_eq_some_iff_getElem] at hj
        obtain ⟨hlt, he, hno⟩ := hj
        refine mt_indexD hu pins s2 σ H2 (.ref a) [v] _ us Q I2 rfl rxs ⟨a, v, toD i, toDs ys, j, toD ys[j], rfl, rfl, dl, q1.dp n2, s1, s2', ?_, he, fun m z' hm hz => ?_, k _ F2 H2 (.refl fz) (.int _)⟩
        · rw [toDs_map, List.getElem?_map, List.getElem?_eq_getElem hlt]; rfl
        · rw [toDs_map, List.getElem?_map] at hz
          obtain ⟨w, hw, ew⟩ := Option.map_eq_some_iff.mp hz
          subst ew
          obtain ⟨hm', ew⟩ := List.getElem?_eq_some_iff.mp hw
          subst ew
          have := hno m hm
          simpa [eqv] using this
      · cases e⟩

/-! ### isinstance -/
inductive TyN where
  | int | bool | str | tuple | list
  deriving DecidableEq
def TyN.name : TyN → String
  | .int => "int"
  | .bool => "bool"
  | .str => "str"
  | .tuple => "tuple"
  | .list => "list"
def tyName : PV → String
  | .non => "NoneType"
  | .bl _ => "bool"
  | .int _ => "int"
  | .str _ => "str"
  | .tup _ => "tuple"
  | .fup _ => "tuple"
  | .lst _ => "list"
  | .dk _ => "dict"
  | .dt _ => "dict"
def isTy (t : TyN) (p : PV) : Bool := match t, p with
  | .int, .int _ => true
  | .int, .bl _ => true
  | .bool, .bl _ => true
  | .str, .str _ => true
  | .tuple, .tup _ => true
  | .tuple, .fup _ => true
  | .list, .lst _ => true
  | _, _ => false
theorem isTy_kit (t : TyN) (p : PV) : kitB (tyName p) t.name = some (isTy t p) := by
  cases t <;> cases p <;> simp only [tyName, TyN.name, isTy] <;> decide +kernel
theorem tyX_of {F : Addr → Prop} {H : Hp} {x : V} {p : PV} (r : BRep X.K F H x p) : TyX X.K H x (.type (tyName p)) := by
  cases r with
  | rep r =>
    cases r with
    | non => exact .base .non
    | bl b => exact .base (.bl b)
    | int b => exact .base (.int b)
    | str b => exact .base (.str b)
    | tup h _ => exact .base (.tup h)
    | fup h _ => exact .fTuple h
    | lst h _ =>
      rcases h.seq with (h | ⟨o, h⟩) | ⟨o, its, n, h, c, _⟩
      · exact .base (.lst h)
      · exact .base (.frz h)
      · exact .kList h c
    | dk _ h _ => exact .base (.dK h)
    | dt _ h _ => exact .base (.dT h)
  | own o =>
    cases o with
    | lst h _ => exact .base (.lst h)
    | dk h _ => exact .base (.dK h)
    | dt h _ => exact .base (.dT h)
/-- isinstance(e, T) -/
def dIsI (t : TyN) (o : Arg) : Den := fun e => (dHead o e).map fun p => (.bl (isTy t p.1), p.2)
theorem ve_isi {ar : Arg} {x : Str} {t : TyN} {p pos' : Pos} (hg : Gl X "isinstance") (hm : X.mg "isinstance" = none) (hx : Gl X x) (hmx : X.mg x = none) (hv : bootBuiltins x = some (.type t.name)) (hn : x ≠ "__name__") (hdb : (x == ("__debug__" : Str)) = false)
    (hs : notStar e = true) (ho : VArg X e ar) : VE X (.Call (.Name "isinstance" p) [e, .Name x pos'] [] pos) (dIsI t ar) := by
  have hb : PE X (.Name x pos') (tC (.ty t.name)) := pe_bltn hx hmx hv rfl hn hdb
  have hb' : bootBuiltins "isinstance" = some (.builtin "isinstance") := by decide +kernel
  cases ho with
  | d h =>
    refine pe_imp (pe_callB call_isi hg hm hb' (pa_cons h (pa_cons hb pa_nil (starEach_cons rfl)) (starEach_cons hs)) (by decide) (by decide) (starEach_cons hs) (star_plain rfl pos)) fun σ H Q sz ⟨F, env, r, env', R, hd, q⟩ => ?_
    unfold dIsI dHead at hd
    obtain ⟨⟨y, e1⟩, h1, hz⟩ := Option.map_eq_some_iff.mp hd
    cases hz
    exact ⟨F, env, y, _, R, h1, fun x' F1 H1 R1 M1 r1 => ⟨x', _, _, _, _, rfl, .ty _, tyX_of (.rep r1), kit_ty (isTy_kit t y), fun _ => q _ F1 H1 R1 M1 (.bl _)⟩⟩
  | b h =>
    refine pe_imp (pe_callB call_isi hg hm hb' (pa_cons h (pa_cons hb pa_nil (starEach_cons rfl)) (starEach_cons hs)) (by decide) (by decide) (starEach_cons hs) (star_plain rfl pos)) fun σ H Q sz ⟨F, env, r, env', R, hd, q⟩ => ?_
    unfold dIsI dHead at hd
    obtain ⟨⟨y, e1⟩, h1, hz⟩ := Option.map_eq_some_iff.mp hd
    obtain ⟨y', h2, h3⟩ := Option.map_eq_some_iff.mp h1
    cases h3
    cases hz
    obtain ⟨x', sx, rx⟩ := slotv_rep R h2
    exact ⟨x', sx, x', _, _, _, _, rfl, .ty _, tyX_of rx, kit_ty (isTy_kit t y), fun _ => q _ F H R .refl (.bl _)⟩

/-! ### truth -/
def truthF : PV → Option Bool
  | .bl b => some b
  | .lst xs => some (!xs.isEmpty)
  | .tup xs => some (!xs.isEmpty)
  | .fup xs => some (!xs.isEmpty)
  | _ => none
theorem RepL.empty {K : PySem.W.Frag} {F : Addr → Prop} {H : Hp} {vs : List V} {xs : List PV} (r : RepL K F H vs xs) : vs.isEmpty = xs.isEmpty := by
  cases r <;> rfl
theorem truth_of {F : Addr → Prop} {H : Hp} {x : V} {p : PV} {b : Bool} (r : BRep X.K F H x p) (h : truthF p = some b) : TruV X.K x H b := by
  cases p <;> simp only [truthF] at h <;> cases h
  · cases r.bl; rfl
  · obtain ⟨a, vs, rfl, h, r⟩ := r.tup
    exact .inr (.inl ⟨vs, SqT.of h, by rw [r.empty]⟩)
  · obtain ⟨a, its, vs, rfl, h, r⟩ := r.fup
    exact .inr (.inl ⟨vs, .inl (.inr ⟨_, h⟩), by rw [r.empty]⟩)
  · obtain ⟨a, vs, rfl, h, r⟩ := r.lst
    exact .inl ⟨vs, h, by rw [r.empty]⟩
def dTruth (o : Arg) : DenT := fun e => (dHead o e).bind fun p => (truthF p.1).map fun b => (b, p.2)
theorem vt_truth {ar : Arg} (he : ∀ whole, isTrue e X.env whole = (do let v ← whole; standAt e.pos; holding [v] (truthy v))) (h : VArg X e ar) : VT X e (dTruth ar) := by
  cases h with
  | d h =>
    refine pt_imp (pt_truth h he) fun σ H Q sz ⟨F, env, r, env', R, hd, q⟩ => ?_
    unfold dTruth dHead at hd
    obtain ⟨⟨p, e1⟩, h1, hd⟩ := Option.bind_eq_some_iff.mp hd
    obtain ⟨b, h2, hz⟩ := Option.map_eq_some_iff.mp hd
    cases hz
    exact ⟨F, env, p, _, R, h1, fun x F1 H1 R1 M1 r1 => ⟨_, truth_of (.rep r1) h2, fun _ => q F1 H1 R1 M1⟩⟩
  | b h =>
    refine pt_imp (pt_truth h he) fun σ H Q sz ⟨F, env, r, env', R, hd, q⟩ => ?_
    unfold dTruth dHead at hd
    obtain ⟨⟨p, e1⟩, h1, hd⟩ := Option.bind_eq_some_iff.mp hd
    obtain ⟨y', h3, h4⟩ := Option.map_eq_some_iff.mp h1
    cases h4
    obtain ⟨b, h2, hz⟩ := Option.map_eq_some_iff.mp hd
    cases hz
    obtain ⟨x', sx, rx⟩ := slotv_rep R h3
    exact ⟨x', sx, _, truth_of rx h2, fun _ => q F H R .refl⟩
end
end PP

/-! PP, part h: and, or, not as values; chains; slices. -/
namespace PP
open PySem PySem.Spec PyProof.Rows L2
section
variable {X : Cx} {a b c e o : Expr} {da db dc : Den} {rest : List Expr} {pos p2 : Pos}
def dAndV (a b : Den) : Den := fun e => (a e).bind fun p => match p.1 with
  | .bl true => b p.2
  | .bl false => some (.bl false, p.2)
  | _ => none
def dOrV (a b : Den) : Den := fun e => (a e).bind fun p => match p.1 with
  | .bl false => b p.2
  | .bl true => some (.bl true, p.2)
  | _ => none
def notF : PV → Option PV
  | .bl b => some (.bl (!b))
  | _ => none
theorem ve_one {op : BoolOp} (h : VE X a da) : VE X (.BoolOp op [a] pos) da := pe_one h
theorem ve_and (ha : VE X a da) (hb : VE X (.BoolOp .And (b :: rest) pos) db) : VE X (.BoolOp .And (a :: b :: rest) pos) (dAndV da db) :=
  pe_imp (pe_and ha hb) fun σ H Q sz ⟨F, env, r, env', R, hd, q⟩ => by
    unfold dAndV at hd
    obtain ⟨⟨p, e1⟩, h1, hd⟩ := Option.bind_eq_some_iff.mp hd
    refine ⟨F, env, p, e1, R, h1, fun x F1 H1 R1 M1 r1 => ?_⟩
    cases p <;> simp only at hd <;> try cases hd
    rename_i k
    cases r1
    cases k with
    | true => exact ⟨true, rfl, by rw [if_pos rfl]; exact ⟨F1, e1, r, env', R1, hd, fun x F2 H2 R2 M2 r2 _ => q x F2 H2 R2 (M1.trans M2) r2⟩⟩
    | false =>
      cases hd
      exact ⟨false, rfl, by rw [if_neg Bool.false_ne_true]; exact fun _ => q _ F1 H1 R1 M1 (.bl _)⟩
theorem ve_or (ha : VE X a da) (hb : VE X (.BoolOp .Or (b :: rest) pos) db) : VE X (.BoolOp .Or (a :: b :: rest) pos) (dOrV da db) :=
  pe_imp (pe_or ha hb) fun σ H Q sz ⟨F, env, r, env', R, hd, q⟩ => by
    unfold dOrV at hd
    obtain ⟨⟨p, e1⟩, h1, hd⟩ := Option.bind_eq_some_iff.mp hd
    refine ⟨F, env, p, e1, R, h1, fun x F1 H1 R1 M1 r1 => ?_⟩
    cases p <;> simp only at hd <;> try cases hd
    rename_i k
    cases r1
    cases k with
    | false => exact ⟨false, rfl, by rw [if_neg Bool.false_ne_true]; exact ⟨F1, e1, r, env', R1, hd, fun x F2 H2 R2 M2 r2 _ => q x F2 H2 R2 (M1.trans M2) r2⟩⟩
    | true =>
      cases hd
      exact ⟨true, rfl, by rw [if_pos rfl]; exact fun _ => q _ F1 H1 R1 M1 (.bl _)⟩
theorem ve_not (ha : VE X a da) : VE X (.UnaryOp .Not a pos) (dUn notF da) :=
  pe_imp (pe_not ha) fun σ H Q sz ⟨F, env, r, env', R, hd, q⟩ => by
    unfold dUn at hd
    obtain ⟨⟨p, e1⟩, h1, hd⟩ := Option.bind_eq_some_iff.mp hd
    obtain ⟨z, h2, hz⟩ := Option.map_eq_some_iff.mp hd
    cases hz
    refine ⟨F, env, p, _, R, h1, fun x F1 H1 R1 M1 r1 => ?_⟩
    cases p <;> simp only [notF] at h2 <;> cases h2
    cases r1
    exact ⟨_, rfl, fun _ => q _ F1 H1 R1 M1 (.bl _)⟩
def negF : PV → Option PV
  | .int i => some (.int (-i))
  | _ => none
theorem un_negF : UnR X (unaryOp .USub) (rU1 X.K negF) := by
  intro pins s σ H x v Q I rx ⟨F, p, r, fz, sz, r1, e, k⟩
  cases p <;> simp only [negF] at e <;> cases e
  cases r1.int
  exact un_neg pins s σ H _ v Q I rx ⟨_, rfl, k _ F H (.refl fz) (.int _)⟩
theorem opr_sz {g : Value → Value → Sem Value} {r : R2} (h : OpR X g r) : OpR X g (fun x y H Q => r x y H fun v H' => Sized H' → Q v H') := fun pins s σ H x y v u Q I rx ry q =>
  thn (h pins s σ H x y v u _ I rx ry q) fun w s' ⟨z, H', I', r, k⟩ => ⟨z, H', I', r, k (sized_of I'.hok)⟩
/-- a op b op' c -/
def dChain (f g : PV → PV → Option PV) (a b c : Den) : Den := fun e => (a e).bind fun p => (b p.2).bind fun q => (f p.1 q.1).bind fun z => match z with
  | .bl true => (c q.2).bind fun r => (g q.1 r.1).map fun y => (y, r.2)
  | .bl false => some (.bl false, q.2)
  | _ => none
theorem ve_chain {op op' : CmpOp} {f g : PV → PV → Option PV} (ho : OpR X (compareOp op) (rB X.K f)) (ho' : OpR X (compareOp op') (rB X.K g)) (ha : VE X a da) (hb : VE X b db) (hc : VE X c dc) (hm : lastMarks [op, op'] [b, c] = false) :
    VE X (.Compare a [op, op'] [b, c] pos) (dChain f g da db dc) :=
  pe_imp (pe_chain (opr_sz ho) ho' ha hb hc hm) fun σ H Q sz ⟨F, env, r, env', R, hd, q⟩ => by
    unfold dChain at hd
    obtain ⟨⟨p, e1⟩, h1, hd⟩ := Option.bind_eq_some_iff.mp hd
    obtain ⟨⟨p2, e2⟩, h2, hd⟩ := Option.bind_eq_some_iff.mp hd
    obtain ⟨z, h3, hd⟩ := Option.bind_eq_some_iff.mp hd
    refine ⟨F, env, p, e1, R, h1, fun x F1 H1 R1 M1 r1 => ⟨F1, e1, p2, e2, R1, h2, fun y F2 H2 R2 M2 r2 => ⟨F2, p, p2, z, R2.fz, R2.sz, .rep (r1.ex (M2.ex R1)), .rep r2, h3, fun v F3 H3 N r3 s3 => ?_⟩⟩⟩
    cases z <;> simp only at hd <;> try cases hd
    rename_i k
    cases r3
    cases k with
    | false =>
      cases hd
      exact ⟨false, rfl, by
        rw [if_neg Bool.false_ne_true]
        exact fun _ => q _ F3 H3 (N.rel R2 s3) ((M1.trans M2).trans N.mv) (.bl _)⟩
    | true =>
      refine ⟨true, rfl, ?_⟩
      rw [if_pos rfl]
      obtain ⟨⟨p3, e3⟩, h4, hd⟩ := Option.bind_eq_some_iff.mp hd
      obtain ⟨y', h5, hz⟩ := Option.map_eq_some_iff.mp hd
      cases hz
      have R3 := N.rel R2 s3
      refine ⟨F3, e2, p3, e3, R3, h4, fun w F4 H4 R4 M4 r4 => ⟨F4, p2, p3, r, R4.fz, R4.sz, .rep (r2.ex (Ex.trans N.ex (M4.ex R3))), .rep r4, h5, fun v F5 H5 N5 r5 s5 => ?_⟩⟩
      exact q v F5 H5 (N5.rel R4 s5) (((M1.trans M2).trans N.mv).trans (M4.trans N5.mv)) r5

/-! ### slices -/
/-- the items xs[lo:hi] -/
def cutP (xs : List PV) (lo hi : Option Int) : List PV := (xs.drop (HT.sIx xs.length 0 lo)).take (HT.sIx xs.length xs.length hi - HT.sIx xs.length 0 lo)
/-- a slice of a list, of a tuple (not the whole of it) -/
def sliceF (p : PV) (lo hi : Option Int) : Option PV := match p with
  | .lst xs => some (.lst (cutP xs lo hi))
  | p => (tupOf p).bind fun xs => if HT.sIx xs.length 0 lo = 0 ∧ HT.sIx xs.length xs.length hi = xs.length then none else some (.tup (cutP xs lo hi))
abbrev DenO := PEn → Option (Option Int × PEn)
def dNoPart : DenO := fun e => some (none, e)
def dPart (a : Den) : DenO := fun e => (a e).bind fun p => match p.1 with
  | .int i => some (some i, p.2)
  | _ => none
def tO (K : PySem.W.Frag) (d : DenO) : TO := fun σ H Q => ∃ F env r env', Rel K F H env σ ∧ d env = some (r, env') ∧ ∀ (F' : Addr → Prop) (H' : Hp), Rel K F' H' env' σ → Mv F H env σ F' H' env' σ → Q r H'
theorem po_imp {lo : Option Expr} {t t' : TO} (h : PO X lo t) (i : ∀ σ H Q, Sized H → t' σ H Q → t σ H (fun v H' => Sized H' → Q v H')) : PO X lo t' := ⟨fun pins s σ H Q I hw =>
  thn (h.run pins s σ H _ I (i σ H Q (sized_of I.hok) hw)) fun u s' ⟨v, H', I', r, q⟩ => ⟨v, H', I', r, q (sized_of I'.hok)⟩⟩
theorem vo_none : PO X none (tO X.K dNoPart) := po_imp po_none fun σ H Q sz ⟨F, env, r, env', R, hd, q⟩ => by
  cases hd
  exact fun _ => q F H R .refl
theorem vo_some (h : VE X a da) : PO X (some a) (tO X.K (dPart da)) := po_imp (po_some h) fun σ H Q sz ⟨F, env, r, env', R, hd, q⟩ => by
  unfold dPart at hd
  obtain ⟨⟨p, e1⟩, h1, hd⟩ := Option.bind_eq_some_iff.mp hd
  refine ⟨F, env, p, e1, R, h1, fun x F1 H1 R1 M1 r1 => ?_⟩
  cases p <;> simp only at hd <;> cases hd
  cases r1
  exact ⟨_, rfl, fun _ => q F1 H1 R1 M1⟩
def dSlice (o : Arg) (lo hi : DenO) : Den := fun e => (dHead o e).bind fun p => (lo p.2).bind fun l => (hi l.2).bind fun h => (dBack o p.1 h.2).bind fun y => (sliceF y l.1 h.1).map fun z => (z, h.2)
/-- slices by values -/
theorem sl_any : SlR X (fun x lo hi H Q => ∃ (F : Addr → Prop) (p r : PV), (∀ a, F a → ∃ o, H a = some o) ∧ BRep X.K F H x p ∧ sliceF p lo hi = some r ∧ ∀ (z : V) (F' : Addr → Prop) (H' : Hp), Nw F H F' H' → Rep X.K F' H' z r → Q z H') := by
  intro pins s σ H x v vl vu lo hi sl Q I rx hs pl pu ⟨F, p, r, fz, r1, e, k⟩
  unfold sliceF at e
  split at e
  · rename_i xs
    cases e
    obtain ⟨a, vs, rfl, h, rl⟩ := r1.lst
    refine sl_list pins s σ H _ v vl vu lo hi sl Q I rx hs pl pu ⟨a, vs, rfl, h, fun p np => ?_⟩
    have e : RepL X.K F H (cutV vs lo hi) (cutP xs lo hi) := by
      unfold cutV cutP
      rw [rl.length]
      exact (rl.drop _).take _
    obtain ⟨N, R⟩ := new_list fz np e
    exact k _ _ _ N R
  · obtain ⟨xs, ht, e⟩ := Option.bind_eq_some_iff.mp e
    split at e
    · cases e
    · rename_i hw
      cases e
      obtain ⟨a, vs, rfl, h, rl⟩ := r1.tupOf ht
      refine sl_tup pins s σ H _ v vl vu lo hi sl Q I rx hs pl pu ⟨a, vs, rfl, h, by rw [rl.length]; exact hw, fun p np => ?_⟩
      have e : RepL X.K F H (cutV vs lo hi) (cutP xs lo hi) := by
        unfold cutV cutP
        rw [rl.length]
        exact (rl.drop _).take _
      obtain ⟨N, R⟩ := new_tup fz np e
      exact k _ _ _ N R
theorem ve_slice {lo hi : Option Expr} {dl dh : DenO} {ar : Arg} (ho : VArg X o ar) (hl : PO X lo (tO X.K dl)) (hh : PO X hi (tO X.K dh)) : VE X (.Subscript o (.Slice lo hi none p2) pos) (dSlice ar dl dh) := by
  have fin : ∀ {F F1 F2 F3 : Addr → Prop} {H H1 H2 H3 : Hp} {env e1 e2 e3 : PEn} {σ : L2.St} {Q : VK} {r : PV}, Mv F H env σ F1 H1 e1 σ → Mv F1 H1 e1 σ F2 H2 e2 σ → Mv F2 H2 e2 σ F3 H3 e3 σ → Rel X.K F3 H3 e3 σ →
      (∀ (x : V) (F' : Addr → Prop) (H' : Hp), Rel X.K F' H' e3 σ → Mv F H env σ F' H' e3 σ → Rep X.K F' H' x r → Q x H') → ∀ (z : V) (F' : Addr → Prop) (H' : Hp), Nw F3 H3 F' H' → Rep X.K F' H' z r → Sized H' → Q z H' :=
    fun m1 m2 m3 R3 q z F' H' N r s => q z F' H' (N.rel R3 s) ((m1.trans m2).trans (m3.trans N.mv)) r
  cases ho with
  | d h =>
    refine pe_imp (pe_slice sl_any h hl hh) fun σ H Q sz ⟨F, env, r, env', R, hd, q⟩ => ?_
    unfold dSlice at hd
    obtain ⟨⟨p, e1⟩, h1, hd⟩ := Option.bind_eq_some_iff.mp hd
    obtain ⟨⟨l, e2⟩, h2, hd⟩ := Option.bind_eq_some_iff.mp hd
    obtain ⟨⟨h', e3⟩, h3, hd⟩ := Option.bind_eq_some_iff.mp hd
    obtain ⟨y, h4, hd⟩ := Option.bind_eq_some_iff.mp hd
    obtain ⟨z, h5, hz⟩ := Option.map_eq_some_iff.mp hd
    cases hz
    cases h4
    exact ⟨F, env, p, e1, R, h1, fun x F1 H1 R1 M1 r1 => ⟨F1, e1, l, e2, R1, h2, fun F2 H2 R2 M2 => ⟨F2, e2, h', _, R2, h3, fun F3 H3 R3 M3 =>
      ⟨F3, p, r, R3.fz, .rep ((r1.ex (M2.ex R1)).ex (M3.ex R2)), h5, fun z F' H' N r s => fin M1 M2 M3 R3 q z F' H' N r s⟩⟩⟩⟩
  | b h =>
    refine pe_imp (pe_slice sl_any h hl hh) fun σ H Q sz ⟨F, env, r, env', R, hd, q⟩ => ?_
    unfold dSlice at hd
    obtain ⟨⟨p, e1⟩, h1, hd⟩ := Option.bind_eq_some_iff.mp hd
    obtain ⟨⟨l, e2⟩, h2, hd⟩ := Option.bind_eq_some_iff.mp hd
    obtain ⟨⟨h', e3⟩, h3, hd⟩ := Option.bind_eq_some_iff.mp hd
    obtain ⟨y, h4, hd⟩ := Option.bind_eq_some_iff.mp hd
    obtain ⟨z, h5, hz⟩ := Option.map_eq_some_iff.mp hd
    cases hz
    obtain ⟨y', hy, e⟩ := Option.map_eq_some_iff.mp h1
    cases e
    obtain ⟨x', sx, _⟩ := slotv_rep R hy
    refine ⟨x', sx, F, _, l, e2, R, h2, fun F2 H2 R2 M2 => ⟨F2, e2, h', _, R2, h3, fun F3 H3 R3 M3 => ?_⟩⟩
    obtain ⟨x2, sx2, r2⟩ := slotv_rep R3 h4
    rw [sx] at sx2; cases sx2
    exact ⟨F3, y, r, R3.fz, r2, h5, fun z F' H' N r s => fin .refl M2 M3 R3 q z F' H' N r s⟩
end
end PP

/-! PP, part i: targets, what is walked, comprehensions. -/
namespace PP
open PySem PySem.Spec PyProof.Rows L2

/-! ### targets -/
inductive Tgt where
  | nm (i : Nat) | tp (ts : List Tgt)
mutual
def tgtF : Tgt → PV → PEn → Option PEn
  | .nm i, x, e => if i < e.length then some (e.set i (.val x)) else none
  | .tp ts, x, e => match tupOf x with
    | some xs => tgtsF ts xs e
    | none => none
def tgtsF : List Tgt → List PV → PEn → Option PEn
  | [], [], e => some e
  | t :: ts, x :: xs, e => (tgtF t x e).bind fun e1 => tgtsF ts xs e1
  | _, _, _ => none
end
mutual
def Tgt.slots : Tgt → List Nat
  | .nm i => [i]
  | .tp ts => Tgt.slotss ts
def Tgt.slotss : List Tgt → List Nat
  | [] => []
  | t :: ts => t.slots ++ Tgt.slotss ts
end

section
variable {K : PySem.W.Frag} {F F' : Addr → Prop} {H H' : Hp} {env env' : PEn} {σ σ' : L2.St}
/-- a slot gets a value -/
theorem Rel.set (R : Rel K F H env σ) {i : Nat} {x : V} {p : PV} (hi : i < env.length) (r : Rep K F H x p) : Rel K F H (env.set i (.val p)) (σ.set i (some x)) := by
  have hs : i < σ.length := by rw [← R.len]; exact hi
  have ov : ∀ j v, (env.set i (.val p))[j]? = some (SlP.own v) → j ≠ i ∧ env[j]? = some (SlP.own v) := fun j v e => by
    by_cases hj : i = j
    · subst hj; rw [List.getElem?_set_self hi] at e; cases e
    · rw [List.getElem?_set_ne hj] at e; exact ⟨fun z => hj z.symm, e⟩
  refine ⟨by simpa using R.len, fun j v e => ?_, fun j v e => ?_, fun j k v w a e1 e2 s1 s2 => ?_, R.fz, R.sz⟩
  · by_cases hj : i = j
    · subst hj
      rw [List.getElem?_set_self hi] at e
      cases e
      exact ⟨x, List.getElem?_set_self hs, r⟩
    · rw [List.getElem?_set_ne hj] at e
      rw [List.getElem?_set_ne hj]
      exact R.val j v e
  · obtain ⟨hj, e⟩ := ov j v e
    rw [List.getElem?_set_ne (Ne.symm hj)]
    exact R.own j v e
  · obtain ⟨h1, e1⟩ := ov j v e1
    obtain ⟨h2, e2⟩ := ov k w e2
    rw [List.getElem?_set_ne (Ne.symm h1)] at s1
    rw [List.getElem?_set_ne (Ne.symm h2)] at s2
    exact R.apart j k v w a e1 e2 s1 s2
theorem Mv.set {i : Nat} {x : V} {p : PV} (hi : i < env.length) : Mv F H env σ F H (env.set i (.val p)) (σ.set i (some x)) :=
  ⟨fun _ h => h, fun _ _ h _ => h, fun _ h => .inl h, fun a ⟨j, v, e, s⟩ => by
    by_cases hj : i = j
    · subst hj; rw [List.getElem?_set_self hi] at e; cases e
    · rw [List.getElem?_set_ne hj] at e s; exact .inl ⟨j, v, e, s⟩, fun _ o h => ⟨o, h⟩⟩
end

/-- a target's reading -/
def tG (K : PySem.W.Frag) (t : Tgt) : TG := fun x σ H Q => ∃ F env p env', Rel K F H env σ ∧ Rep K F H x p ∧ tgtF t p env = some env' ∧
  ∀ (σ' : L2.St), Rel K F H env' σ' → Mv F H env σ F H env' σ' → (∀ i, i ∉ t.slots → σ'[i]? = σ[i]? ∧ env'[i]? = env[i]?) → Q σ' H
def tGs (K : PySem.W.Frag) (ts : List Tgt) : TGs := fun xs σ H Q => ∃ F env ps env', Rel K F H env σ ∧ RepL K F H xs ps ∧ tgtsF ts ps env = some env' ∧
  ∀ (σ' : L2.St), Rel K F H env' σ' → Mv F H env σ F H env' σ' → (∀ i, i ∉ Tgt.slotss ts → σ'[i]? = σ[i]? ∧ env'[i]? = env[i]?) → Q σ' H
section
variable {X : Cx} {e : Expr} {es : List Expr} {pos : Pos}
theorem pg_imp {t t' : TG} (h : PG X e t) (i : ∀ x σ H Q, t' x σ H Q → t x σ H Q) : PG X e t' := ⟨fun pins s σ H v u Q I r hw => h.run pins s σ H v u Q I r (i v σ H Q hw)⟩
theorem pgs_imp {t t' : TGs} (h : PGs X es t) (i : ∀ x σ H Q, t' x σ H Q → t x σ H Q) : PGs X es t' := ⟨fun pins s σ H v u Q I r hw => h.run pins s σ H v u Q I r (i v σ H Q hw)⟩
theorem vg_nm {i : Nat} (h : PG X e (gName i)) : PG X e (tG X.K (.nm i)) := pg_imp h fun x σ H Q ⟨F, env, p, env', R, r, hd, q⟩ => by
  unfold tgtF at hd
  split at hd
  · rename_i hi
    cases hd
    refine q _ (R.set hi r) (Mv.set hi) fun j hj => ?_
    simp only [Tgt.slots, List.mem_singleton] at hj
    rw [List.getElem?_set_ne (Ne.symm hj), List.getElem?_set_ne (Ne.symm hj)]
    exact ⟨rfl, rfl⟩
  · cases hd
theorem vgs_nil : PGs X [] (tGs X.K []) := pgs_imp pgs_nil fun xs σ H Q ⟨F, env, ps, env', R, r, hd, q⟩ => by
  cases ps with
  | nil =>
    cases r
    simp only [tgtsF] at hd
    cases hd
    exact ⟨rfl, q σ R .refl fun _ _ => ⟨rfl, rfl⟩⟩
  | cons _ _ => simp [tgtsF] at hd
theorem assignEach_len {env : Env} : ∀ es : List Expr, (assignEach es env).length = es.length
  | [] => rfl
  | e :: es => by
    have ih := assignEach_len (env := env) es
    cases e <;> simp [assignEach, ih]
theorem assignEach_cons {env : Env} (h : notStar e = true) : (assignEach (e :: es) env).map (·.2) = assign e env :: (assignEach es env).map (·.2) := by
  cases e <;> first | rfl | (cases h)
theorem assignEach_star {env : Env} : ∀ {es : List Expr}, es.all notStar = true → (assignEach es env).findIdx? (·.1) = none
  | [], _ => rfl
  | e :: es, h => by
    simp only [List.all_cons, Bool.and_eq_true] at h
    have ih := assignEach_star (env := env) h.2
    have e1 : assignEach (e :: es) env = (false, assign e env) :: assignEach es env := by
      cases e <;> first | rfl | (cases h.1)
    rw [e1, List.findIdx?_cons]
    simp [ih]
theorem vgs_cons {t : Tgt} {ts : List Tgt} (hn : notStar e = true) (h1 : PG X e (tG X.K t)) (h2 : PGs X es (tGs X.K ts)) : PGs X (e :: es) (tGs X.K (t :: ts)) :=
  pgs_imp (pgs_cons h1 h2 (assignEach_cons hn)) fun xs σ H Q ⟨F, env, ps, env', R, r, hd, q⟩ => by
    cases ps with
    | nil => simp [tgtsF] at hd
    | cons p ps =>
      cases r with
      | cons r rr =>
        simp only [tgtsF] at hd
        obtain ⟨e1, h1, h2⟩ := Option.bind_eq_some_iff.mp hd
        refine ⟨_, _, rfl, F, env, p, e1, R, r, h1, fun σ1 R1 M1 k1 => ⟨F, e1, ps, env', R1, rr, h2, fun σ2 R2 M2 k2 => ?_⟩⟩
        refine q σ2 R2 (M1.trans M2) fun i hi => ?_
        simp only [Tgt.slotss, List.mem_append, not_or] at hi
        obtain ⟨a, b⟩ := k1 i hi.1
        obtain ⟨c, d⟩ := k2 i hi.2
        exact ⟨c.trans a, d.trans b⟩
theorem tgts_len : ∀ {ts : List Tgt} {xs : List PV} {e e' : PEn}, tgtsF ts xs e = some e' → xs.length = ts.length
  | [], [], _, _, _ => rfl
  | [], _ :: _, _, _, h => by simp [tgtsF] at h
  | _ :: _, [], _, _, h => by simp [tgtsF] at h
  | t :: ts, x :: xs, _, _, h => by
    simp only [tgtsF] at h
    obtain ⟨e1, h1, h2⟩ := Option.bind_eq_some_iff.mp h
    simp [tgts_len h2]
theorem vg_tp {k : Nat} {ts : List Tgt} (hc : X.calm = true) (hn : es.all notStar = true) (hl : es.length = ts.length) (h : PGs X es (tGs X.K ts)) : PG X (.Tuple es k pos) (tG X.K (.tp ts)) :=
  pg_imp (pg_tup (n := es.length) hc h (assignEach_len es) (assignEach_star hn)) fun x σ H Q ⟨F, env, p, env', R, r, hd, q⟩ => by
    unfold tgtF at hd
    split at hd
    · rename_i xs hx
      obtain ⟨a, vs, rfl, hs, rl⟩ := (BRep.rep r).tupOf hx
      refine ⟨a, vs, rfl, hs, ?_, F, env, xs, env', R, rl, hd, fun σ' R' M' k' => q σ' R' M' ?_⟩
      · rw [rl.length, tgts_len hd, hl]
      · simpa [Tgt.slots] using k'
    · cases hd

/-! ### what is walked -/
abbrev DenI := PEn → Option (List PV × PEn)
/-- J walks the items, from H on -/
def Yld (K : PySem.W.Frag) (F : Addr → Prop) (H : Hp) (J : It) (items : List PV) : Prop :=
  ∀ (F2 : Addr → Prop) (H2 : Hp), Ex F H F2 H2 → (∀ a, F2 a → ∃ o, H2 a = some o) → ∀ i, (∀ p, items[i]? = some p → J.go i H2 ∧ ∀ x H3, J.yld i H2 x H3 → ∃ F3, Nw F2 H2 F3 H3 ∧ Rep K F3 H3 x p ∧ (Sized H2 → Sized H3)) ∧ (items.length ≤ i → J.stop i H2)
theorem Yld.ex {K : PySem.W.Frag} {F F' : Addr → Prop} {H H' : Hp} {J : It} {items : List PV} (y : Yld K F H J items) (e : Ex F H F' H') : Yld K F' H' J items := fun F2 H2 e2 fz => y F2 H2 (e.trans e2) fz
def tI (K : PySem.W.Frag) (d : DenI) : TI := fun σ H R => ∃ F env items env', Rel K F H env σ ∧ d env = some (items, env') ∧
  ∀ (J : It) (F' : Addr → Prop) (H' : Hp), Rel K F' H' env' σ → Mv F H env σ F' H' env' σ → Yld K F' H' J items → items.length ≤ sizeLine → R J H'
abbrev VI (X : Cx) (tg : Expr) (e : Expr) (d : DenI) : Prop := PI X tg e (tI X.K d)
variable {tg : Expr}
theorem pi_imp {t t' : TI} (h : PI X tg e t) (i : ∀ σ H R, Sized H → t' σ H R → t σ H (fun J H' => Sized H' → R J H')) : PI X tg e t' := ⟨fun pins s σ H R I hw =>
  thn (h.run pins s σ H _ I (i σ H R (sized_of I.hok) hw)) fun u s' h2 => thn h2 fun itv s2 ⟨it, fp, tn, J, H', e1, I', T, st, f, q⟩ => ⟨it, fp, tn, J, H', e1, I', T, st, f, q (sized_of I'.hok)⟩⟩
/-- over a list or a tuple -/
def iSq (K : PySem.W.Frag) (tl : TE) : TI := fun σ H R => tl σ H fun x H1 => ∃ a, x = .ref a ∧ ((∃ xs, SqL K H1 a xs ∧ R (Itl K a) H1) ∨ ∃ xs, SqT K H1 a xs ∧ R (Itt K a) H1)
theorem pi_sq {tl : TE} (hl : PE X e tl) : PI X tg e (iSq X.K tl) := by
  have h1 := pi_list (tg := tg) hl
  have h2 := pi_tup (tg := tg) hl
  refine ⟨fun pins s σ H R I h => ?_⟩
  refine thn (hl.run pins s σ H _ I h) fun v s1 ⟨x, H1, I1, r1, a, ea, q1⟩ => ?_
  subst ea
  cases r1
  rcases q1 with ⟨xs, hq, q⟩ | ⟨xs, hq, q⟩
  · obtain ⟨its, rv, p, hz⟩ := I1.list hq
    refine wpAny_pyIter_list p.isList ⟨s1.heap.objs.size, [s1.heap.objs.size], _, _, H1, rfl, I1.kept (t' := s1.toks) fun b o e => Heap.get?_push_of_some _ e, turn_list a _, ⟨_, Heap.get?_push_size _ rfl, rfl, rfl⟩, fun b hb => ?_, q⟩
    rw [List.mem_singleton] at hb
    rw [hb]
    exact I1.fpOk (Nat.le_refl _) (I1.hok.fresh (Nat.le_refl _))
  · obtain ⟨its, rv, p, hz⟩ := I1.tuple hq
    refine wpAny_pyIter_tuple (show s1.heap.IsTuple a its.toArray from p) ⟨s1.heap.objs.size, [s1.heap.objs.size], _, _, H1, rfl, I1.kept (t' := s1.toks) fun b o e => Heap.get?_push_of_some _ e, turn_tuple a _, ⟨_, Heap.get?_push_size _ rfl, rfl, rfl⟩, fun b hb => ?_, q⟩
    rw [List.mem_singleton] at hb
    rw [hb]
    exact I1.fpOk (Nat.le_refl _) (I1.hok.fresh (Nat.le_refl _))
def iSeq (a : Den) : DenI := fun e => (a e).bind fun p => (seqOf p.1).map fun xs => (xs, p.2)
theorem FzL.sql_ex {K : PySem.W.Frag} {F F' : Addr → Prop} {H H' : Hp} {a : Addr} {vs : List V} (h : FzL K F H a vs) (e : Ex F H F' H') : SqL K H' a vs := (h.ex e).seq
theorem yld_lst {K : PySem.W.Frag} {F : Addr → Prop} {H : Hp} {a : Addr} {vs : List V} {xs : List PV} (h : FzL K F H a vs) (r : RepL K F H vs xs) : Yld K F H (Itl K a) xs := fun F2 H2 e fz i => by
  have h2 := h.sql_ex e
  refine ⟨fun p hp => ?_, fun hi => ⟨vs, h2, by rw [r.length]; exact hi⟩⟩
  obtain ⟨v, hv, rv⟩ := r.get hp
  refine ⟨⟨vs, v, h2, hv⟩, fun x H3 ⟨e3, y⟩ => ?_⟩
  subst e3
  have := y vs h2
  rw [hv] at this; cases this
  exact ⟨F2, .refl fz, rv.ex e, fun s => s⟩
theorem yld_tup {K : PySem.W.Frag} {F : Addr → Prop} {H : Hp} {a : Addr} {vs : List V} {xs : List PV} (h : H a = some (.tup vs) ∨ ∃ o, H a = some (.frz o (.tup vs))) (r : RepL K F H vs xs) : Yld K F H (Itt K a) xs := fun F2 H2 e fz i => by
  have h2 : SqT K H2 a vs := by
    rcases h with h | ⟨o, h⟩
    · exact SqT.of (e.tups _ _ h)
    · exact .inl (.inr ⟨_, e.frzs _ _ _ h⟩)
  refine ⟨fun p hp => ?_, fun hi => ⟨vs, h2, by rw [r.length]; exact hi⟩⟩
  obtain ⟨v, hv, rv⟩ := r.get hp
  refine ⟨⟨vs, v, h2, hv⟩, fun x H3 ⟨e3, y⟩ => ?_⟩
  subst e3
  have := y vs h2
  rw [hv] at this; cases this
  exact ⟨F2, .refl fz, rv.ex e, fun s => s⟩
theorem sql_small {K : PySem.W.Frag} {H : Hp} {a : Addr} {vs : List V} (s : Sized H) (h : SqL K H a vs) : vs.length ≤ sizeLine := by
  rcases h with h | ⟨o, its, n, _, _, _, _, hz, r⟩
  · exact (s a).1 vs (.inl h)
  · have := r.length
    simp only [Array.length_toList] at this
    omega
theorem vi_seq {da : Den} (h : VE X e da) : VI X tg e (iSeq da) := pi_imp (pi_sq h) fun σ H R sz ⟨F, env, items, env', Rl, hd, q⟩ => by
  unfold iSeq at hd
  obtain ⟨⟨p, e1⟩, h1, hd⟩ := Option.bind_eq_some_iff.mp hd
  obtain ⟨xs, h2, hz⟩ := Option.map_eq_some_iff.mp hd
  cases hz
  refine ⟨F, env, p, _, Rl, h1, fun x F1 H1 R1 M1 r1 => ?_⟩
  cases p <;> simp only [seqOf] at h2 <;> cases h2
  · obtain ⟨a, vs, rfl, h, r⟩ := (BRep.rep r1).tup
    exact ⟨a, rfl, .inr ⟨vs, SqT.of h, fun _ => q _ F1 H1 R1 M1 (yld_tup (.inl h) r) (by rw [← r.length]; exact (R1.sz a).1 vs (.inr (.inl h)))⟩⟩
  · obtain ⟨a, its, vs, rfl, h, r⟩ := (BRep.rep r1).fup
    exact ⟨a, rfl, .inr ⟨vs, .inl (.inr ⟨_, h⟩), fun _ => q _ F1 H1 R1 M1 (yld_tup (.inr ⟨_, h⟩) r) (by rw [← r.length]; exact (R1.sz a).1 vs (.inr (.inr ⟨_, h⟩)))⟩⟩
  · cases r1 with
    | @lst a vs _ h r => exact ⟨a, rfl, .inl ⟨vs, h.seq, fun _ => q _ F1 H1 R1 M1 (yld_lst h r) (by rw [← r.length]; exact sql_small R1.sz h.seq)⟩⟩
/-- lo, lo + 1, .., n of them -/
def rngP (lo : Int) (n : Nat) : List PV := (List.range n).map fun i => .int (lo + (i : Nat))
theorem rngP_len (lo : Int) (n : Nat) : (rngP lo n).length = n := by simp [rngP]
def iRange (as : List Den) : DenI := fun e => (dArgs as e).bind fun p => match p.1 with
  | [.int j] => if -(2 ^ 62) ≤ j ∧ j ≤ 16777216 then some (rngP 0 j.toNat, p.2) else none
  | [.int i, .int j] => if -(2 ^ 62) ≤ i ∧ i < 2 ^ 62 ∧ -(2 ^ 62) ≤ j ∧ j < 2 ^ 62 ∧ j - i ≤ 16777216 then some (rngP i (j - i).toNat, p.2) else none
  | _ => none
theorem yld_rng {K : PySem.W.Frag} {F : Addr → Prop} {H : Hp} {lo : Int} {n : Nat} : Yld K F H (Itr lo n) (rngP lo n) := fun F2 H2 e fz i => by
  refine ⟨fun p hp => ?_, fun hi => by
    have : n ≤ i := by simpa [rngP] using hi
    exact this⟩
  unfold rngP at hp
  rw [List.getElem?_map] at hp
  obtain ⟨j, hj, e1⟩ := Option.map_eq_some_iff.mp hp
  have hlt : i < n := by
    have := (List.getElem?_eq_some_iff.mp hj).1
    simpa using this
  rw [List.getElem?_range hlt] at hj
  cases hj
  subst e1
  refine ⟨hlt, fun x H3 ⟨e3, e4⟩ => ?_⟩
  subst e3 e4
  exact ⟨F2, .refl fz, .int _, fun s => s⟩
theorem vi_range1 {a : Expr} {da : Den} {p : Pos} (hg : Gl X "range") (hm : X.mg "range" = none) (hs : notStar a = true) (ha : VE X a da) : VI X tg (.Call (.Name "range" p) [a] [] pos) (iRange [da]) :=
  pi_imp (pi_range1 hg hm (va_cons hs ha va_nil) (starEach_cons hs)) fun σ H R sz ⟨F, env, items, env', Rl, hd, q⟩ => by
    unfold iRange at hd
    obtain ⟨⟨ps, e1⟩, h1, hd⟩ := Option.bind_eq_some_iff.mp hd
    have hl := dArgs_len h1
    refine ⟨F, env, ps, e1, Rl, h1, fun xs F1 H1 R1 M1 r1 => ?_⟩
    simp only at hd
    split at hd
    · split at hd
      · rename_i h
        cases hd
        obtain ⟨v, rfl, rv⟩ := r1.one
        cases rv
        exact ⟨_, rfl, h.1, by omega, fun _ => q _ F1 H1 R1 M1 yld_rng (by rw [rngP_len, sizeLine_eq]; omega)⟩
      · cases hd
    · simp at hl
    · cases hd
theorem vi_range2 {a b : Expr} {da db : Den} {p : Pos} (hg : Gl X "range") (hm : X.mg "range" = none) (hs : notStar a = true) (hs2 : notStar b = true) (ha : VE X a da) (hb : VE X b db) : VI X tg (.Call (.Name "range" p) [a, b] [] pos) (iRange [da, db]) :=
  pi_imp (pi_range2 hg hm (va_cons hs ha (va_cons hs2 hb va_nil)) ((starEach_cons hs).trans (by rw [starEach_cons hs2]; rfl)) (starEach_cons hs2)) fun σ H R sz ⟨F, env, items, env', Rl, hd, q⟩ => by
    unfold iRange at hd
    obtain ⟨⟨ps, e1⟩, h1, hd⟩ := Option.bind_eq_some_iff.mp hd
    have hl := dArgs_len h1
    refine ⟨F, env, ps, e1, Rl, h1, fun xs F1 H1 R1 M1 r1 => ?_⟩
    simp only at hd
    split at hd
    · simp at hl
    · split at hd
      · rename_i h
        cases hd
        obtain ⟨v, w, rfl, rv, rw'⟩ := r1.two
        cases rv; cases rw'
        exact ⟨_, _, rfl, ⟨h.1, h.2.1, h.2.2.1, h.2.2.2.1⟩, fun _ => q _ F1 H1 R1 M1 yld_rng (by rw [rngP_len, sizeLine_eq]; omega)⟩
      · cases hd
    · cases hd
end
end PP

/-! PP, part j: list comprehensions of one clause. -/
namespace PP
open PySem PySem.Spec PyProof.Rows L2

def wipeE (e : PEn) : List Nat → PEn
  | [] => e
  | v :: vs => (wipeE e vs).set v .no
/-- what a slot keeps over a comprehension that uses its name -/
def keepV (orig : PEn) (v : Nat) : SlP := match orig[v]? with
  | some (.val x) => .val x
  | _ => .no
def restoreE (e orig : PEn) : List Nat → PEn
  | [] => e
  | v :: vs => (restoreE e orig vs).set v (keepV orig v)
def lcF (t : Tgt) (tt : DenT) (elt : Den) (vs : List Nat) : List PV → PEn → Option (List PV × PEn)
  | [], e => some ([], e)
  | x :: xs, e => (tgtF t x e).bind fun e1 => (tt e1).bind fun b => if b.1 then (elt b.2).bind fun y => (lcF t tt elt vs xs (wipeE y.2 vs)).map fun r => (y.1 :: r.1, r.2) else lcF t tt elt vs xs (wipeE b.2 vs)
def dLC (src : DenI) (vs : List Nat) (t : Tgt) (tt : DenT) (elt : Den) : Den := fun e => (src e).bind fun p => (lcF t tt elt vs p.1 (wipeE p.2 vs)).map fun q => (.lst q.1, restoreE q.2 p.2 vs)

theorem wipe_get (σ : L2.St) (i : Nat) : ∀ vs : List Nat, (wipe σ vs)[i]? = if i ∈ vs then (σ[i]?).map fun _ => none else σ[i]?
  | [] => by simp [wipe]
  | v :: vs => by
    unfold wipe
    have ih := wipe_get σ i vs
    by_cases hv : v = i
    · subst hv
      rw [List.getElem?_set]
      simp only [if_true, List.mem_cons, true_or, wipe_length]
      by_cases h : v < σ.length
      · simp [h]
      · simp [h]
    · rw [List.getElem?_set_ne hv, ih]
      have : i ≠ v := fun e => hv e.symm
      simp [this]
theorem wipe_congr {σ σ' : L2.St} {vs : List Nat} (h : ∀ i, i ∉ vs → σ'[i]? = σ[i]?) (l : σ'.length = σ.length) : wipe σ' vs = wipe σ vs := by
  apply List.ext_getElem?
  intro i
  rw [wipe_get, wipe_get]
  by_cases hi : i ∈ vs
  · rw [if_pos hi, if_pos hi]
    by_cases hl : i < σ.length
    · rw [List.getElem?_eq_getElem hl, List.getElem?_eq_getElem (by omega)]; rfl
    · rw [List.getElem?_eq_none (by omega), List.getElem?_eq_none (by omega)]
  · rw [if_neg hi, if_neg hi, h i hi]
theorem wipeE_len (e : PEn) : ∀ vs : List Nat, (wipeE e vs).length = e.length
  | [] => rfl
  | v :: vs => by simp [wipeE, wipeE_len e vs]
theorem wipeE_get (e : PEn) (i : Nat) : ∀ vs : List Nat, (wipeE e vs)[i]? = if i ∈ vs then (e[i]?).map fun _ => SlP.no else e[i]?
  | [] => by simp [wipeE]
  | v :: vs => by
    unfold wipeE
    have ih := wipeE_get e i vs
    by_cases hv : v = i
    · subst hv
      rw [List.getElem?_set]
      simp only [if_true, List.mem_cons, true_or, wipeE_len]
      by_cases h : v < e.length
      · simp [h]
      · simp [h]
    · rw [List.getElem?_set_ne hv, ih]
      have : i ≠ v := fun e => hv e.symm
      simp [this]
theorem restoreE_len (e o : PEn) : ∀ vs : List Nat, (restoreE e o vs).length = e.length
  | [] => rfl
  | v :: vs => by simp [restoreE, restoreE_len e o vs]
theorem restoreE_get (e o : PEn) (i : Nat) : ∀ vs : List Nat, (restoreE e o vs)[i]? = if i ∈ vs then (e[i]?).map fun _ => keepV o i else e[i]?
  | [] => by simp [restoreE]
  | v :: vs => by
    unfold restoreE
    have ih := restoreE_get e o i vs
    by_cases hv : v = i
    · subst hv
      rw [List.getElem?_set]
      simp only [if_true, List.mem_cons, true_or, restoreE_len]
      by_cases h : v < e.length
      · simp [h]
      · simp [h]
    · rw [List.getElem?_set_ne hv, ih]
      have : i ≠ v := fun e => hv e.symm
      simp [this]

section
variable {K : PySem.W.Frag} {F F' : Addr → Prop} {H H' : Hp} {env env' : PEn} {σ σ' : L2.St} {vs : List Nat}
theorem own_wipe {j : Nat} {v : PV} (e : (wipeE env vs)[j]? = some (SlP.own v)) : j ∉ vs ∧ env[j]? = some (SlP.own v) := by
  rw [wipeE_get] at e
  split at e
  · obtain ⟨_, _, e⟩ := Option.map_eq_some_iff.mp e
    cases e
  · rename_i h; exact ⟨h, e⟩
theorem val_wipe {j : Nat} {v : PV} (e : (wipeE env vs)[j]? = some (SlP.val v)) : j ∉ vs ∧ env[j]? = some (SlP.val v) := by
  rw [wipeE_get] at e
  split at e
  · obtain ⟨_, _, e⟩ := Option.map_eq_some_iff.mp e
    cases e
  · rename_i h; exact ⟨h, e⟩
theorem wipe_off {j : Nat} (h : j ∉ vs) : (wipe σ vs)[j]? = σ[j]? := by rw [wipe_get, if_neg h]
theorem Rel.wipe (R : Rel K F H env σ) (vs : List Nat) : Rel K F H (wipeE env vs) (L2.wipe σ vs) where
  len := by rw [wipeE_len, wipe_length]; exact R.len
  val := fun j v e => by obtain ⟨h, e⟩ := val_wipe e; rw [wipe_off h]; exact R.val j v e
  own := fun j v e => by obtain ⟨h, e⟩ := own_wipe e; rw [wipe_off h]; exact R.own j v e
  apart := fun j k v w a e1 e2 s1 s2 => by
    obtain ⟨h1, e1⟩ := own_wipe e1
    obtain ⟨h2, e2⟩ := own_wipe e2
    rw [wipe_off h1] at s1
    rw [wipe_off h2] at s2
    exact R.apart j k v w a e1 e2 s1 s2
  fz := R.fz
  sz := R.sz
theorem own_unwipe {a : Addr} (o : Own (wipeE env vs) (L2.wipe σ vs) a) : Own env σ a := by
  obtain ⟨j, v, e, s⟩ := o
  obtain ⟨h, e⟩ := own_wipe e
  rw [wipe_off h] at s
  exact ⟨j, v, e, s⟩
theorem Mv.wipe (vs : List Nat) : Mv F H env σ F H (wipeE env vs) (L2.wipe σ vs) :=
  ⟨fun _ h => h, fun _ _ h _ => h, fun _ h => .inl h, fun a o => .inl (own_unwipe o), fun _ o h => ⟨o, h⟩⟩
/-- behind a comprehension: the names as they were -/
theorem Rel.restore {F1 : Addr → Prop} {H1 : Hp} {orig : PEn} (R0 : Rel K F H orig σ) (R : Rel K F1 H1 env (L2.wipe σ vs)) (ex : Ex F H F1 H1) (hw : ∀ i, i ∈ vs → ∀ v, env[i]? ≠ some (SlP.own v)) : Rel K F1 H1 (restoreE env orig vs) σ where
  len := by rw [restoreE_len, R.len, wipe_length]
  val := fun j v e => by
    rw [restoreE_get] at e
    split at e
    · rename_i hj
      obtain ⟨_, _, e⟩ := Option.map_eq_some_iff.mp e
      unfold keepV at e
      split at e
      · rename_i w ew
        cases e
        obtain ⟨x, sx, r⟩ := R0.val j _ ew
        exact ⟨x, sx, r.ex ex⟩
      · cases e
    · rename_i hj
      obtain ⟨x, sx, r⟩ := R.val j v e
      rw [wipe_off hj] at sx
      exact ⟨x, sx, r⟩
  own := fun j v e => by
    rw [restoreE_get] at e
    split at e
    · obtain ⟨_, _, e⟩ := Option.map_eq_some_iff.mp e
      unfold keepV at e
      split at e <;> cases e
    · rename_i hj
      obtain ⟨x, sx, r⟩ := R.own j v e
      rw [wipe_off hj] at sx
      exact ⟨x, sx, r⟩
  apart := fun j k v w a e1 e2 s1 s2 => by
    rw [restoreE_get] at e1 e2
    split at e1
    · obtain ⟨_, _, e⟩ := Option.map_eq_some_iff.mp e1
      unfold keepV at e
      split at e <;> cases e
    · rename_i h1
      split at e2
      · obtain ⟨_, _, e⟩ := Option.map_eq_some_iff.mp e2
        unfold keepV at e
        split at e <;> cases e
      · rename_i h2
        exact R.apart j k v w a e1 e2 (by rw [wipe_off h1]; exact s1) (by rw [wipe_off h2]; exact s2)
  fz := R.fz
  sz := R.sz
theorem own_restore {orig : PEn} {a : Addr} (o : Own (restoreE env orig vs) σ a) : Own env (L2.wipe σ vs) a := by
  obtain ⟨j, v, e, s⟩ := o
  rw [restoreE_get] at e
  split at e
  · obtain ⟨_, _, e⟩ := Option.map_eq_some_iff.mp e
    unfold keepV at e
    split at e <;> cases e
  · rename_i hj
    exact ⟨j, v, e, by rw [wipe_off hj]; exact s⟩
theorem wipeE_noown (e : PEn) (vs : List Nat) : ∀ i, i ∈ vs → ∀ v, (wipeE e vs)[i]? ≠ some (SlP.own v) := fun i hi v q => (own_wipe q).1 hi
end

mutual
theorem tgt_len : ∀ {t : Tgt} {x : PV} {e e' : PEn}, tgtF t x e = some e' → e'.length = e.length
  | .nm i, x, e, e', h => by
    unfold tgtF at h
    split at h
    · cases h; simp
    · cases h
  | .tp ts, x, e, e', h => by
    unfold tgtF at h
    split at h
    · exact tgts_elen h
    · cases h
theorem tgts_elen : ∀ {ts : List Tgt} {xs : List PV} {e e' : PEn}, tgtsF ts xs e = some e' → e'.length = e.length
  | [], [], _, _, h => by simp only [tgtsF] at h; cases h; rfl
  | [], _ :: _, _, _, h => by simp [tgtsF] at h
  | _ :: _, [], _, _, h => by simp [tgtsF] at h
  | t :: ts, x :: xs, _, _, h => by
    simp only [tgtsF] at h
    obtain ⟨e1, h1, h2⟩ := Option.bind_eq_some_iff.mp h
    rw [tgts_elen h2, tgt_len h1]
end
theorem ex_off {F : Addr → Prop} {H : Hp} {D : Addr} {acc : List V} {o : HO} (nF : ¬ F D) (hD : H D = some (.lst acc)) : Ex F H F (upd H D o) :=
  ⟨fun _ h => h, fun a u f e => by rw [upd_ne (fun z => nF (by rw [← z]; exact f))]; exact e, fun a vs e => by rw [upd_ne (ne_of e hD (by intro z; cases z))]; exact e, fun a u w e => by rw [upd_ne (ne_of e hD (by intro z; cases z))]; exact e⟩
/-- an expression that makes a new container, not yet frozen -/
def tF (K : PySem.W.Frag) (d : Den) : TE := fun σ H Q => ∃ F env r env', Rel K F H env σ ∧ d env = some (r, env') ∧ ∀ (a : Addr) (F' : Addr → Prop) (H' : Hp), Rel K F' H' env' σ → Mv F H env σ F' H' env' σ → ¬ F' a → ¬ Own env' σ a → H a = none → OwnAt K F' H' a r → Q (.ref a) H'
abbrev VF (X : Cx) (e : Expr) (d : Den) : Prop := PE X e (tF X.K d)
/-- frozen, what is nobody's own is a value -/
theorem freeze_new {K : PySem.W.Frag} {F : Addr → Prop} {H : Hp} {env : PEn} {σ : L2.St} {a : Addr} {r : PV} (R : Rel K F H env σ) (nF : ¬ F a) (nO : ¬ Own env σ a) (o : OwnAt K F H a r) :
    Rel K (fun b => F b ∨ b = a) H env σ ∧ Rep K (fun b => F b ∨ b = a) H (.ref a) r := by
  have ex : Ex F H (fun b => F b ∨ b = a) H := ⟨fun _ h => .inl h, fun _ _ _ h => h, fun _ _ h => h, fun _ _ _ h => h⟩
  refine ⟨⟨R.len, fun j w e => ?_, fun j w e => ?_, R.apart, fun b f => ?_, R.sz⟩, o.rep ex (.inr rfl)⟩
  · obtain ⟨z, sz, rz⟩ := R.val j w e; exact ⟨z, sz, rz.ex ex⟩
  · obtain ⟨b, sb, nb, ob⟩ := R.own j w e
    refine ⟨b, sb, fun f => ?_, ob.ex ex rfl⟩
    rcases f with f | f
    · exact nb f
    · exact nO ⟨j, w, e, by rw [← f]; exact sb⟩
  · rcases f with f | f
    · exact R.fz b f
    · subst f; obtain ⟨u, hu, _⟩ := o.some; exact ⟨u, hu⟩
theorem vf_ve {X : Cx} {e : Expr} {d : Den} (h : VF X e d) : VE X e d := pe_imp h fun σ H Q sz ⟨F, env, r, env', R, hd, q⟩ =>
  ⟨F, env, r, env', R, hd, fun a F' H' R' M' nF nO hn o _ => by
    obtain ⟨R2, rp⟩ := freeze_new R' nF nO o
    exact q _ _ H' R2 ⟨fun b f => .inl (M'.sub b f), M'.frame, fun b f => by
      rcases f with f | f
      · exact M'.fnew b f
      · subst f; exact .inr (.inr hn), M'.onew, M'.there⟩ rp⟩
/-- lcF keeps own slots of the names out -/
theorem lcF_noown {t : Tgt} {tt : DenT} {elt : Den} {vs : List Nat} : ∀ {xs : List PV} {e e' : PEn} {ys : List PV}, lcF t tt elt vs xs e = some (ys, e') → (∀ i, i ∈ vs → ∀ v, e[i]? ≠ some (SlP.own v)) → ∀ i, i ∈ vs → ∀ v, e'[i]? ≠ some (SlP.own v)
  | [], _, _, _, h, q => by cases h; exact q
  | x :: xs, e, e', ys, h, q => by
    unfold lcF at h
    obtain ⟨e1, _, h⟩ := Option.bind_eq_some_iff.mp h
    obtain ⟨b, _, h⟩ := Option.bind_eq_some_iff.mp h
    split at h
    · obtain ⟨y, _, h⟩ := Option.bind_eq_some_iff.mp h
      obtain ⟨r, h', e⟩ := Option.map_eq_some_iff.mp h
      cases e
      exact lcF_noown h' (wipeE_noown _ _)
    · exact lcF_noown h (wipeE_noown _ _)

section
variable {X : Cx} {elt tg iter : Expr} {ifs : List Expr} {scope : Scope} {own : List (Str × Nat)} {pos : Pos} {src : DenI} {t : Tgt} {tt : DenT} {de : Den}
/-- the reading of a comprehension gives its word -/
theorem lc_imp (hsub : ∀ i, i ∈ t.slots → i ∈ own.map (·.2)) {σ : L2.St} {H : Hp} {Q : VK} (h : tF X.K (dLC src (own.map (·.2)) t tt de) σ H Q) :
    tLc (tI X.K src) (tG X.K t) (tT X.K tt) (tE X.K de) (own.map (·.2)) σ H (fun v H' => Sized H' → Q v H') := by
  obtain ⟨F, env, r, env', R, hd, q⟩ := h
  generalize own.map (·.2) = vs at *
  unfold dLC at hd
  obtain ⟨⟨items, e1⟩, h1, hd⟩ := Option.bind_eq_some_iff.mp hd
  obtain ⟨⟨ys, e2⟩, h2, hz⟩ := Option.map_eq_some_iff.mp hd
  cases hz
  refine ⟨F, env, items, e1, R, h1, fun J F1 H1 R1 M1 Y hlen => fun D hD => ?_⟩
  have R1w := R1.wipe vs
  refine ⟨fun i m H2 => m = items.length - i ∧ i ≤ items.length ∧ ∃ F2 ei acc done rest, Rel X.K F2 H2 ei (wipe σ vs) ∧ lcF t tt de vs (items.drop i) ei = some (rest, e2) ∧ done ++ rest = ys ∧ H2 D = some (.lst acc) ∧ RepL X.K F2 H2 acc done ∧ done.length ≤ i ∧
    ¬ F2 D ∧ ¬ Own ei (wipe σ vs) D ∧ Mv F1 H1 (wipeE e1 vs) (wipe σ vs) F2 H2 ei (wipe σ vs), ⟨items.length, by simp, Nat.zero_le _, F1, wipeE e1 vs, [], [], ys, ?_, by simpa using h2, rfl, upd_same, .nil, Nat.le_refl _, ?_, ?_, ?_⟩, ?_⟩
  · have N : Nw F1 H1 F1 (upd H1 D (.lst [])) := .upd hD R1.fz
    exact N.rel R1w (R1.sz.upd (Nat.zero_le _))
  · intro f
    obtain ⟨o, e⟩ := R1.fz D f
    rw [hD] at e; cases e
  · intro o
    obtain ⟨v, ov⟩ := R1w.ownAt o
    obtain ⟨u, e, _⟩ := ov.some
    rw [hD] at e; cases e
  · exact (Nw.upd (o := .lst []) hD R1.fz).mv
  · rintro i m H2 ⟨rfl, hi, F2, ei, acc, done, rest, R2, hl, hdone, hDa, ra, hdl, nF, nO, M2⟩
    have ex2 : Ex F1 H1 F2 H2 := M2.ex R1w
    obtain ⟨go, stop⟩ := Y F2 H2 ex2 R2.fz i
    by_cases hlt : i < items.length
    · have hx : items[i]? = some items[i] := List.getElem?_eq_getElem hlt
      obtain ⟨g, yl⟩ := go _ hx
      refine .inr ⟨g, fun H' => i + 1 ≤ items.length ∧ ∃ F2 ei acc done rest, Rel X.K F2 H' ei (wipe σ vs) ∧ lcF t tt de vs (items.drop (i + 1)) ei = some (rest, e2) ∧ done ++ rest = ys ∧ H' D = some (.lst acc) ∧ RepL X.K F2 H' acc done ∧ done.length ≤ i + 1 ∧
        ¬ F2 D ∧ ¬ Own ei (wipe σ vs) D ∧ Mv F1 H1 (wipeE e1 vs) (wipe σ vs) F2 H' ei (wipe σ vs), fun H' n => ⟨items.length - (i + 1), by omega, rfl, n⟩, fun x H3 hy => ?_⟩
      obtain ⟨F3, N3, rx, s3⟩ := yl x H3 hy
      have R3 := N3.rel R2 (s3 R2.sz)
      have hD3 : H3 D = some (.lst acc) := N3.same D _ hDa
      have nF3 : ¬ F3 D := fun f => (N3.fnew D f).elim nF fun z => by rw [hDa] at z; cases z
      rw [List.drop_eq_getElem_cons hlt] at hl
      unfold lcF at hl
      obtain ⟨et, ht, hl⟩ := Option.bind_eq_some_iff.mp hl
      obtain ⟨⟨b, eb⟩, hb, hl⟩ := Option.bind_eq_some_iff.mp hl
      refine ⟨F3, ei, _, et, R3, rx, ht, fun σ4 R4 M4 k4 => ⟨?_, ?_⟩⟩
      · refine (wipe_congr (fun j hj => (k4 j fun z => hj (hsub j z)).1) (by rw [← R4.len, ← R3.len]; exact tgt_len ht)).trans ?_
        apply List.ext_getElem?
        intro j
        rw [wipe_get, wipe_get]
        by_cases hj : j ∈ vs
        · rw [if_pos hj, if_pos hj]
          cases σ[j]? <;> rfl
        · rw [if_neg hj, if_neg hj]
      · refine ⟨F3, et, b, eb, R4, hb, fun F5 H5 R5 M5 => ?_⟩
        have noO4 : ¬ Own et σ4 D := fun o => (M4.onew D o).elim nO fun z => by rw [hD3] at z; cases z
        have hD5 : H5 D = some (.lst acc) := M5.frame D _ hD3 noO4
        have nF5 : ¬ F5 D := fun f => by
          rcases M5.fnew D f with z | z | z
          · exact nF3 z
          · exact noO4 z
          · rw [hD3] at z; cases z
        have noO5 : ¬ Own eb σ4 D := fun o => (M5.onew D o).elim noO4 fun z => by rw [hD3] at z; cases z
        have back : ∀ {Fk : Addr → Prop} {Hk : Hp} {ek : PEn}, Rel X.K Fk Hk ek σ4 → Rel X.K Fk Hk (wipeE ek vs) (wipe σ vs) := fun {Fk Hk ek} Rk => by
          have q := Rk.wipe vs
          have e : wipe σ4 vs = wipe σ vs := by
            refine (wipe_congr (fun j hj => (k4 j fun z => hj (hsub j z)).1) (by rw [← R4.len, ← R3.len]; exact tgt_len ht)).trans ?_
            apply List.ext_getElem?
            intro j
            rw [wipe_get, wipe_get]
            by_cases hj : j ∈ vs
            · rw [if_pos hj, if_pos hj]
              cases σ[j]? <;> rfl
            · rw [if_neg hj, if_neg hj]
          rw [e] at q
          exact q
        have ew : wipe σ4 vs = wipe σ vs := by
          refine (wipe_congr (fun j hj => (k4 j fun z => hj (hsub j z)).1) (by rw [← R4.len, ← R3.len]; exact tgt_len ht)).trans ?_
          apply List.ext_getElem?
          intro j
          rw [wipe_get, wipe_get]
          by_cases hj : j ∈ vs
          · rw [if_pos hj, if_pos hj]
            cases σ[j]? <;> rfl
          · rw [if_neg hj, if_neg hj]
        have M05 : Mv F1 H1 (wipeE e1 vs) (wipe σ vs) F5 H5 eb σ4 := (M2.trans N3.mv).trans (M4.trans M5)
        cases b with
        | false =>
          simp only [Bool.false_eq_true, if_false] at hl
          refine iteF ⟨by omega, F5, wipeE eb vs, acc, done, rest, back R5, hl, hdone, hD5, ?_, by omega, nF5, ?_, ?_⟩
          · exact (ra.ex N3.ex).ex ((M4.trans M5).ex R3)
          · intro o; rw [← ew] at o; exact noO5 (own_unwipe o)
          · have := M05.trans (Mv.wipe vs); rw [ew] at this; exact this
        | true =>
          simp only [if_true] at hl
          refine iteT ?_
          obtain ⟨⟨y, ey⟩, hy2, hl⟩ := Option.bind_eq_some_iff.mp hl
          obtain ⟨⟨r1, r2⟩, hl', e⟩ := Option.map_eq_some_iff.mp hl
          cases e
          refine ⟨F5, eb, y, ey, R5, hy2, fun v F6 H6 R6 M6 r6 => ?_⟩
          have hD6 : H6 D = some (.lst acc) := M6.frame D _ hD5 noO5
          have nF6 : ¬ F6 D := fun f => by
            rcases M6.fnew D f with z | z | z
            · exact nF5 z
            · exact noO5 z
            · rw [hD5] at z; cases z
          have noO6 : ¬ Own ey σ4 D := fun o => (M6.onew D o).elim noO5 fun z => by rw [hD5] at z; cases z
          have la : acc.length = done.length := ra.length
          have hsz : acc.length < sizeLine := by omega
          refine ⟨acc, hD6, hsz, by omega, F6, wipeE ey vs, acc ++ [v], done ++ [y], r1, ?_, hl', by rw [List.append_assoc]; exact hdone, upd_same, ?_, by rw [List.length_append]; simp; omega, nF6, ?_, ?_⟩
          · -- D is nobody's
            have RD : Rel X.K F6 (upd H6 D (.lst (acc ++ [v]))) ey σ4 := by
              refine ⟨R6.len, fun j w e => ?_, fun j w e => ?_, R6.apart, fun a f => ?_, R6.sz.upd (by show (acc ++ [v]).length ≤ _; rw [List.length_append]; exact hsz)⟩
              · obtain ⟨z, sz, rz⟩ := R6.val j w e
                exact ⟨z, sz, rz.ex (ex_off nF6 hD6)⟩
              · obtain ⟨a, sa, na, oa⟩ := R6.own j w e
                have hne : a ≠ D := fun z => noO6 ⟨j, w, e, by rw [← z]; exact sa⟩
                exact ⟨a, sa, na, oa.ex (ex_off nF6 hD6) (upd_ne hne)⟩
              · have hne : a ≠ D := fun z => nF6 (by rw [← z]; exact f)
                rw [upd_ne hne]; exact R6.fz a f
            exact back RD
          · have r := ((ra.ex N3.ex).ex ((M4.trans M5).ex R3)).ex (M6.ex R5)
            exact (r.append (.cons r6 .nil)).ex (ex_off nF6 hD6)
          · intro o; rw [← ew] at o; exact noO6 (own_unwipe o)
          · have m6 := M05.trans M6
            have m7 : Mv F1 H1 (wipeE e1 vs) (wipe σ vs) F6 (upd H6 D (.lst (acc ++ [v]))) ey σ4 :=
              ⟨m6.sub, fun c o hc n => by rw [upd_ne (ne_of_none hc hD)]; exact m6.frame c o hc n, m6.fnew, m6.onew, fun c o hc => by rw [upd_ne (ne_of_none hc hD)]; exact m6.there c o hc⟩
            have := m7.trans (Mv.wipe vs); rw [ew] at this; exact this
    · have hie : i = items.length := by omega
      subst hie
      simp only [List.drop_length, lcF] at hl
      cases hl
      refine .inl ⟨stop (Nat.le_refl _), fun sz => ?_⟩
      rw [List.append_nil] at hdone
      subst hdone
      have noown := lcF_noown h2 (wipeE_noown _ _)
      refine q D F2 H2 (R1.restore R2 ex2 noown) (M1.trans ?_) nF (fun o => nO (own_restore o)) (M1.back hD) (.lst hDa ra)
      refine ⟨M2.sub, fun c o hc n => M2.frame c o hc fun z => n (own_unwipe z), fun a f => ?_, fun a o => ?_, M2.there⟩
      · rcases M2.fnew a f with z | z | z
        · exact .inl z
        · exact .inr (.inl (own_unwipe z))
        · exact .inr (.inr z)
      · rcases M2.onew a (own_restore o) with z | z
        · exact .inl (own_unwipe z)
        · exact .inr z
end
end PP

/-! PP, part k: statements. -/
namespace PP
open PySem PySem.Spec PyProof.Rows L2

inductive Fl where
  | nx (e : PEn) | rt (v : PV) (e : PEn) | bk (e : PEn) | ct (e : PEn)
abbrev DenS := PEn → Option Fl
/-- the slots that stay (what is handed in by reference) -/
def Keep (refs : List Nat) (σ σ' : L2.St) : Prop := ∀ i ∈ refs, σ'[i]? = σ[i]?
theorem Keep.refl {refs : List Nat} {σ : L2.St} : Keep refs σ σ := fun _ _ => rfl
theorem Keep.trans {refs : List Nat} {σ σ1 σ2 : L2.St} (a : Keep refs σ σ1) (b : Keep refs σ1 σ2) : Keep refs σ σ2 := fun i h => (b i h).trans (a i h)
/-- what is wanted behind a flow -/
def FlOk (K : PySem.W.Frag) (refs : List Nat) (F : Addr → Prop) (H : Hp) (env : PEn) (σ : L2.St) (D : Ends) : Fl → Prop
  | .nx e' => ∀ (σ' : L2.St) (F' : Addr → Prop) (H' : Hp), Rel K F' H' e' σ' → Mv F H env σ F' H' e' σ' → Keep refs σ σ' → D.nx σ' H'
  | .bk e' => ∀ (σ' : L2.St) (F' : Addr → Prop) (H' : Hp), Rel K F' H' e' σ' → Mv F H env σ F' H' e' σ' → Keep refs σ σ' → D.bk σ' H'
  | .ct e' => ∀ (σ' : L2.St) (F' : Addr → Prop) (H' : Hp), Rel K F' H' e' σ' → Mv F H env σ F' H' e' σ' → Keep refs σ σ' → D.ct σ' H'
  | .rt v e' => ∀ (x : V) (σ' : L2.St) (F' : Addr → Prop) (H' : Hp), Rel K F' H' e' σ' → Mv F H env σ F' H' e' σ' → Keep refs σ σ' → Rep K F' H' x v → D.rt x H'
def tS (K : PySem.W.Frag) (refs : List Nat) (d : DenS) : TS := fun D σ H => ∃ F env fl, Rel K F H env σ ∧ d env = some fl ∧ FlOk K refs F H env σ D fl
abbrev VS (X : Cx) (refs : List Nat) (st : Stmt) (d : DenS) : Prop := PS X st (tS X.K refs d)
abbrev VSs (X : Cx) (refs : List Nat) (sts : List Stmt) (d : DenS) : Prop := PSs X sts (tS X.K refs d)
def szD (D : Ends) : Ends := { nx := fun σ H => Sized H → D.nx σ H, rt := fun v H => Sized H → D.rt v H, bk := fun σ H => Sized H → D.bk σ H, ct := fun σ H => Sized H → D.ct σ H }
/-- a flow's end carried over a move ahead of it -/
theorem FlOk.after {K : PySem.W.Frag} {refs : List Nat} {F F1 : Addr → Prop} {H H1 : Hp} {env e1 : PEn} {σ σ1 : L2.St} {D : Ends} {fl : Fl} (q : FlOk K refs F H env σ D fl) (m : Mv F H env σ F1 H1 e1 σ1) (k : Keep refs σ σ1) : FlOk K refs F1 H1 e1 σ1 D fl := by
  cases fl with
  | nx e' => exact fun σ' F' H' R M k' => q σ' F' H' R (m.trans M) (k.trans k')
  | bk e' => exact fun σ' F' H' R M k' => q σ' F' H' R (m.trans M) (k.trans k')
  | ct e' => exact fun σ' F' H' R M k' => q σ' F' H' R (m.trans M) (k.trans k')
  | rt v e' => exact fun x σ' F' H' R M k' r => q x σ' F' H' R (m.trans M) (k.trans k') r
theorem FlOk.sz {K : PySem.W.Frag} {refs : List Nat} {F : Addr → Prop} {H : Hp} {env : PEn} {σ : L2.St} {D : Ends} {fl : Fl} (q : FlOk K refs F H env σ D fl) : FlOk K refs F H env σ (szD D) fl := by
  cases fl with
  | nx e' => exact fun σ' F' H' R M k' _ => q σ' F' H' R M k'
  | bk e' => exact fun σ' F' H' R M k' _ => q σ' F' H' R M k'
  | ct e' => exact fun σ' F' H' R M k' _ => q σ' F' H' R M k'
  | rt v e' => exact fun x σ' F' H' R M k' r _ => q x σ' F' H' R M k' r

section
variable {X : Cx} {refs : List Nat} {st : Stmt} {sts rest : List Stmt} {e c : Expr} {de : Den} {dt : DenT} {d d1 d2 : DenS} {pos : Pos}
theorem ps_imp {t t' : TS} (h : PS X st t) (i : ∀ D σ H, Sized H → t' D σ H → t (szD D) σ H) : PS X st t' := ⟨fun pins s σ H D I hw =>
  thn (h.run pins s σ H _ I (i D σ H (sized_of I.hok) hw)) fun f s' q => by
    cases f with
    | next => obtain ⟨σ', H', I', q⟩ := q; exact ⟨σ', H', I', q (sized_of I'.hok)⟩
    | brk => obtain ⟨σ', H', I', q⟩ := q; exact ⟨σ', H', I', q (sized_of I'.hok)⟩
    | cont => obtain ⟨σ', H', I', q⟩ := q; exact ⟨σ', H', I', q (sized_of I'.hok)⟩
    | ret u => obtain ⟨v, σ', H', I', r, q⟩ := q; exact ⟨v, σ', H', I', r, q (sized_of I'.hok)⟩⟩
theorem pss_imp {t t' : TS} (h : PSs X sts t) (i : ∀ D σ H, Sized H → t' D σ H → t (szD D) σ H) : PSs X sts t' := ⟨fun pins s σ H D I hw =>
  thn (h.run pins s σ H _ I (i D σ H (sized_of I.hok) hw)) fun f s' q => by
    cases f with
    | next => obtain ⟨σ', H', I', q⟩ := q; exact ⟨σ', H', I', q (sized_of I'.hok)⟩
    | brk => obtain ⟨σ', H', I', q⟩ := q; exact ⟨σ', H', I', q (sized_of I'.hok)⟩
    | cont => obtain ⟨σ', H', I', q⟩ := q; exact ⟨σ', H', I', q (sized_of I'.hok)⟩
    | ret u => obtain ⟨v, σ', H', I', r, q⟩ := q; exact ⟨v, σ', H', I', r, q (sized_of I'.hok)⟩⟩

/-! ### blocks -/
def sNil : DenS := fun e => some (.nx e)
def sSeq (a b : DenS) : DenS := fun e => (a e).bind fun f => match f with
  | .nx e1 => b e1
  | f => some f
theorem vss_nil : VSs X refs [] sNil := pss_imp pss_nil fun D σ H sz ⟨F, env, fl, R, hd, q⟩ => by
  cases hd
  exact fun _ => q σ F H R .refl .refl
theorem vss_cons (h1 : VS X refs st d1) (h2 : VSs X refs rest d2) : VSs X refs (st :: rest) (sSeq d1 d2) := pss_imp (pss_cons h1 h2) fun D σ H sz ⟨F, env, fl, R, hd, q⟩ => by
  unfold sSeq at hd
  obtain ⟨f, h1, hd⟩ := Option.bind_eq_some_iff.mp hd
  refine ⟨F, env, f, R, h1, ?_⟩
  cases f with
  | nx e1 => exact fun σ' F' H' R' M' k' => ⟨F', e1, fl, R', hd, (q.after M' k').sz⟩
  | bk e1 => cases hd; exact q.sz
  | ct e1 => cases hd; exact q.sz
  | rt v e1 => cases hd; exact q.sz
theorem vs_pass : VS X refs (.Pass pos) sNil := ps_imp ps_pass fun D σ H sz ⟨F, env, fl, R, hd, q⟩ => by
  cases hd
  exact fun _ => q σ F H R .refl .refl
def sBreak : DenS := fun e => some (.bk e)
theorem vs_break : VS X refs (.Break pos) sBreak := ps_imp ps_break fun D σ H sz ⟨F, env, fl, R, hd, q⟩ => by
  cases hd
  exact fun _ => q σ F H R .refl .refl
/-- what is never reached -/
def sNever : DenS := fun _ => none
theorem vs_never : VS X refs st sNever := ps_imp ps_never fun D σ H sz ⟨F, env, fl, R, hd, q⟩ => by cases hd
def sDrop (a : Den) : DenS := fun e => (a e).map fun p => .nx p.2
theorem vs_drop (hs : swapsWith e none pos.line X.env = pure false) (h : VE X e de) : VS X refs (.Expr e pos) (sDrop de) := ps_imp (ps_expr h hs) fun D σ H sz ⟨F, env, fl, R, hd, q⟩ => by
  unfold sDrop at hd
  obtain ⟨p, h1, hz⟩ := Option.map_eq_some_iff.mp hd
  subst hz
  exact ⟨F, env, p.1, p.2, R, h1, fun x F1 H1 R1 M1 r1 _ => q σ F1 H1 R1 M1 .refl⟩
def sRet (a : Den) : DenS := fun e => (a e).map fun p => .rt p.1 p.2
theorem vs_ret (h : VE X e de) : VS X refs (.Return (some e) pos) (sRet de) := ps_imp (ps_ret h) fun D σ H sz ⟨F, env, fl, R, hd, q⟩ => by
  unfold sRet at hd
  obtain ⟨p, h1, hz⟩ := Option.map_eq_some_iff.mp hd
  subst hz
  exact ⟨F, env, p.1, p.2, R, h1, fun x F1 H1 R1 M1 r1 _ => q x σ F1 H1 R1 M1 .refl r1⟩
def sRetN : DenS := fun e => some (.rt .non e)
theorem vs_retN : VS X refs (.Return none pos) sRetN := ps_imp ps_retN fun D σ H sz ⟨F, env, fl, R, hd, q⟩ => by
  cases hd
  exact fun _ => q .non σ F H R .refl .refl .non
def sIf (t : DenT) (a b : DenS) : DenS := fun e => (t e).bind fun p => if p.1 then a p.2 else b p.2
theorem vs_if {a b : List Stmt} (hc : VT X c dt) (ha : VSs X refs a d1) (hb : VSs X refs b d2) : VS X refs (.If c a b pos) (sIf dt d1 d2) := ps_imp (ps_if hc ha hb) fun D σ H sz ⟨F, env, fl, R, hd, q⟩ => by
  unfold sIf at hd
  obtain ⟨⟨p, e1⟩, h1, hd⟩ := Option.bind_eq_some_iff.mp hd
  refine ⟨F, env, p, e1, R, h1, fun F1 H1 R1 M1 => ?_⟩
  cases p with
  | true => exact iteT ⟨F1, e1, fl, R1, by simpa using hd, (q.after M1 .refl).sz⟩
  | false => exact iteF ⟨F1, e1, fl, R1, by simpa using hd, (q.after M1 .refl).sz⟩

/-! ### assignments -/
theorem keep_set {σ σ' : L2.St} {t : Tgt} (h : ∀ i, i ∉ t.slots → σ'[i]? = σ[i]?) (hr : ∀ i ∈ refs, i ∉ t.slots) : Keep refs σ σ' := fun i hi => h i (hr i hi)
def sAsg (t : Tgt) (a : Den) : DenS := fun e => (a e).bind fun p => (tgtF t p.1 p.2).map fun e' => .nx e'
theorem asg_imp {t : Tgt} (hr : ∀ i ∈ refs, i ∉ t.slots) {D : Ends} {σ : L2.St} {H : Hp} (h : tS X.K refs (sAsg t de) D σ H) : tAsg (tE X.K de) (tG X.K t) (szD D) σ H := by
  obtain ⟨F, env, fl, R, hd, q⟩ := h
  unfold sAsg at hd
  obtain ⟨⟨p, e1⟩, h1, hd⟩ := Option.bind_eq_some_iff.mp hd
  obtain ⟨e', h2, hz⟩ := Option.map_eq_some_iff.mp hd
  subst hz
  exact ⟨F, env, p, e1, R, h1, fun x F1 H1 R1 M1 r1 => ⟨F1, e1, p, e', R1, r1, h2, fun σ' R' M' k' _ => q σ' F1 H1 R' (M1.trans M') (keep_set (fun i hi => (k' i hi).1) hr)⟩⟩
theorem vs_asg {tg : Expr} {t : Tgt} (hr : ∀ i ∈ refs, i ∉ t.slots) (he : VE X e de) (hg : PG X tg (tG X.K t)) (hs : swapsWithSole [tg] e pos.line X.env = pure false) (hw : swappedStores [tg] e X.env = pure none) (h1 : (assignEach [tg] X.env).map (·.2) = [assign tg X.env]) :
    VS X refs (.Assign [tg] e pos) (sAsg t de) := ps_imp (ps_asg he hg hs hw h1) fun D σ H sz h => asg_imp hr h
theorem vs_set {i : Nat} {x : Str} {pos' : Pos} (hr : i ∉ refs) (hN : X.N.Nodup) (hi : X.N[i]? = some x) (hx : Loc X.env.scope x) (he : VE X e de) (hs : swapsWith e (some (.Name x pos')) pos.line X.env = pure false) (hf : X.fn x = true ∨ X.env.scope.names.lookup x = some .local) :
    VS X refs (.Assign [.Name x pos'] e pos) (sAsg (.nm i) de) := ps_imp (ps_set (pos' := pos') hN hi hx he hs hf) fun D σ H sz h => by
  have := asg_imp (t := .nm i) (fun j hj z => by simp only [Tgt.slots, List.mem_singleton] at z; subst z; exact hr hj) h
  obtain ⟨F, env, p, e1, R, h1, k⟩ := this
  refine ⟨F, env, p, e1, R, h1, fun x' F1 H1 R1 M1 r1 => ?_⟩
  obtain ⟨F2, env2, p2, e2, R2, r2, h2, k2⟩ := k x' F1 H1 R1 M1 r1
  unfold tgtF at h2
  split at h2
  · rename_i hi'
    cases h2
    refine k2 _ (R2.set hi' r2) (Mv.set hi') fun j hj => ?_
    simp only [Tgt.slots, List.mem_singleton] at hj
    rw [List.getElem?_set_ne (Ne.symm hj), List.getElem?_set_ne (Ne.symm hj)]
    exact ⟨rfl, rfl⟩
  · cases h2
/-- a slot gets a new container of its own -/
def sOwn (i : Nat) (a : Den) : DenS := fun e => (a e).bind fun p => if i < p.2.length then some (.nx (p.2.set i (.own p.1))) else none
theorem Rel.setOwn {K : PySem.W.Frag} {F : Addr → Prop} {H : Hp} {env : PEn} {σ : L2.St} (R : Rel K F H env σ) {i : Nat} {a : Addr} {p : PV} (hi : i < env.length) (nF : ¬ F a) (nO : ¬ Own env σ a) (o : OwnAt K F H a p) : Rel K F H (env.set i (.own p)) (σ.set i (some (.ref a))) := by
  have hs : i < σ.length := by rw [← R.len]; exact hi
  refine ⟨by simpa using R.len, fun j v e => ?_, fun j v e => ?_, fun j k v w b e1 e2 s1 s2 => ?_, R.fz, R.sz⟩
  · by_cases hj : i = j
    · subst hj; rw [List.getElem?_set_self hi] at e; cases e
    · rw [List.getElem?_set_ne hj] at e
      rw [List.getElem?_set_ne hj]
      exact R.val j v e
  · by_cases hj : i = j
    · subst hj
      rw [List.getElem?_set_self hi] at e
      cases e
      exact ⟨a, List.getElem?_set_self hs, nF, o⟩
    · rw [List.getElem?_set_ne hj] at e
      rw [List.getElem?_set_ne hj]
      exact R.own j v e
  · by_cases hj : i = j
    · subst hj
      by_cases hk : i = k
      · exact hk
      · rw [List.getElem?_set_self hs] at s1
        cases s1
        rw [List.getElem?_set_ne hk] at e2 s2
        exact absurd ⟨k, w, e2, s2⟩ nO
    · rw [List.getElem?_set_ne hj] at e1 s1
      by_cases hk : i = k
      · subst hk
        rw [List.getElem?_set_self hs] at s2
        cases s2
        exact absurd ⟨j, v, e1, s1⟩ nO
      · rw [List.getElem?_set_ne hk] at e2 s2
        exact R.apart j k v w b e1 e2 s1 s2
theorem own_imp {i : Nat} (hr : i ∉ refs) {D : Ends} {σ : L2.St} {H : Hp} (h : tS X.K refs (sOwn i de) D σ H) : tAsg (tF X.K de) (gName i) (szD D) σ H := by
  obtain ⟨F, env, fl, R, hd, q⟩ := h
  unfold sOwn at hd
  obtain ⟨⟨p, e1⟩, h1, hd⟩ := Option.bind_eq_some_iff.mp hd
  split at hd
  · rename_i hi
    cases hd
    refine ⟨F, env, p, e1, R, h1, fun a F1 H1 R1 M1 nF nO hn o _ => q _ F1 H1 (R1.setOwn hi nF nO o) ⟨M1.sub, M1.frame, M1.fnew, fun b ⟨j, v, e, s⟩ => ?_, M1.there⟩ fun j hj => ?_⟩
    · by_cases hj : i = j
      · subst hj
        rw [List.getElem?_set_self (by rw [← R1.len]; exact hi)] at s
        cases s
        exact .inr hn
      · rw [List.getElem?_set_ne hj] at e s
        exact M1.onew b ⟨j, v, e, s⟩
    · have hne : i ≠ j := fun z => hr (by rw [z]; exact hj)
      rw [List.getElem?_set_ne hne]
  · cases hd
theorem vs_own {i : Nat} {x : Str} {pos' : Pos} (hr : i ∉ refs) (hN : X.N.Nodup) (hi : X.N[i]? = some x) (hx : Loc X.env.scope x) (he : VF X e de) (hs : swapsWith e (some (.Name x pos')) pos.line X.env = pure false) (hf : X.fn x = true ∨ X.env.scope.names.lookup x = some .local) :
    VS X refs (.Assign [.Name x pos'] e pos) (sOwn i de) := ps_imp (ps_set (pos' := pos') hN hi hx he hs hf) fun D σ H sz h => own_imp hr h
/-! ### loops -/
def whF (t : DenT) (b : DenS) : Nat → DenS
  | 0 => fun _ => none
  | n + 1 => fun e => (t e).bind fun p => if p.1 then (b p.2).bind fun f => match f with
      | .nx e1 => whF t b n e1
      | .ct e1 => whF t b n e1
      | .bk e1 => some (.nx e1)
      | .rt v e1 => some (.rt v e1)
    else some (.nx p.2)
def sWhile (n : Nat) (t : DenT) (b : DenS) : DenS := whF t b n
theorem vs_while {n : Nat} {body : List Stmt} (hp : PassesOwn (model X.prog X.w) X.A X.env X.xe) (hc : VT X c dt) (hb : VSs X refs body d1) : VS X refs (.While c body [] pos) (sWhile n dt d1) := ps_imp (ps_while hp hc hb) fun D σ H sz ⟨F, env, fl, R, hd, q⟩ => by
  refine ⟨fun m σ1 H1 => ∃ F1 e1, Rel X.K F1 H1 e1 σ1 ∧ whF dt d1 m e1 = some fl ∧ Mv F H env σ F1 H1 e1 σ1 ∧ Keep refs σ σ1, ⟨n, F, env, R, hd, .refl, .refl⟩, ?_⟩
  rintro m σ1 H1 ⟨F1, e1, R1, hw, M1, k1⟩
  cases m with
  | zero => cases hw
  | succ m =>
    unfold whF at hw
    obtain ⟨⟨b, e2⟩, h2, hw⟩ := Option.bind_eq_some_iff.mp hw
    refine ⟨F1, e1, b, e2, R1, h2, fun F2 H2 R2 M2 => ?_⟩
    cases b with
    | false =>
      simp only [Bool.false_eq_true, if_false] at hw
      cases hw
      exact iteF (fun _ => q σ1 F2 H2 R2 (M1.trans M2) k1)
    | true =>
      simp only [if_true] at hw
      refine iteT ?_
      obtain ⟨f, h3, hw⟩ := Option.bind_eq_some_iff.mp hw
      refine ⟨fun σ' H' => ∃ F1 e1, Rel X.K F1 H' e1 σ' ∧ whF dt d1 m e1 = some fl ∧ Mv F H env σ F1 H' e1 σ' ∧ Keep refs σ σ', fun σ' H' h => ⟨m, Nat.lt_succ_self m, h⟩, F2, e2, f, R2, h3, ?_⟩
      cases f with
      | nx e3 => exact fun σ' F' H' R' M' k' => ⟨F', e3, R', hw, (M1.trans M2).trans M', k1.trans k'⟩
      | ct e3 => exact fun σ' F' H' R' M' k' => ⟨F', e3, R', hw, (M1.trans M2).trans M', k1.trans k'⟩
      | bk e3 => cases hw; exact fun σ' F' H' R' M' k' _ => q σ' F' H' R' ((M1.trans M2).trans M') (k1.trans k')
      | rt v e3 => cases hw; exact fun x σ' F' H' R' M' k' r _ => q x σ' F' H' R' ((M1.trans M2).trans M') (k1.trans k') r
def forF (t : Tgt) (b : DenS) : List PV → DenS
  | [] => fun e => some (.nx e)
  | x :: xs => fun e => (tgtF t x e).bind fun e1 => (b e1).bind fun f => match f with
      | .nx e2 => forF t b xs e2
      | .ct e2 => forF t b xs e2
      | .bk e2 => some (.nx e2)
      | .rt v e2 => some (.rt v e2)
def sFor (src : DenI) (t : Tgt) (b : DenS) : DenS := fun e => (src e).bind fun p => forF t b p.1 p.2
theorem vs_for {iter tg : Expr} {body : List Stmt} {src : DenI} {t : Tgt} (hp : PassesOwn (model X.prog X.w) X.A X.env X.xe) (hc : X.calm = true) (hr : ∀ i ∈ refs, i ∉ t.slots) (hi : VI X tg iter src) (hg : PG X tg (tG X.K t)) (hb : VSs X refs body d1)
    (hs : ∀ x, foldedSetIterable iter X.env x = pure x) : VS X refs (.For tg iter body [] pos) (sFor src t d1) := ps_imp (ps_for hp hc hi hg hb hs) fun D σ H sz ⟨F, env, fl, R, hd, q⟩ => by
  unfold sFor at hd
  obtain ⟨⟨items, e0⟩, h0, hd⟩ := Option.bind_eq_some_iff.mp hd
  refine ⟨F, env, items, e0, R, h0, fun J F0 H0 R0 M0 Y hlen => ?_⟩
  refine ⟨fun i m σ1 H1 => m = items.length - i ∧ i ≤ items.length ∧ ∃ F1 e1, Rel X.K F1 H1 e1 σ1 ∧ forF t d1 (items.drop i) e1 = some fl ∧ Mv F0 H0 e0 σ F1 H1 e1 σ1 ∧ Keep refs σ σ1, ⟨items.length, by simp, Nat.zero_le _, F0, e0, R0, by simpa using hd, .refl, .refl⟩, ?_⟩
  rintro i m σ1 H1 ⟨rfl, hi, F1, e1, R1, hf, M1, k1⟩
  obtain ⟨go, stop⟩ := Y F1 H1 (M1.ex R0) R1.fz i
  by_cases hlt : i < items.length
  · obtain ⟨g, yl⟩ := go _ (List.getElem?_eq_getElem hlt)
    rw [List.drop_eq_getElem_cons hlt] at hf
    unfold forF at hf
    obtain ⟨et, ht, hf⟩ := Option.bind_eq_some_iff.mp hf
    obtain ⟨f, h3, hf⟩ := Option.bind_eq_some_iff.mp hf
    refine .inr ⟨g, fun σ' H' => i + 1 ≤ items.length ∧ ∃ F1 e1, Rel X.K F1 H' e1 σ' ∧ forF t d1 (items.drop (i + 1)) e1 = some fl ∧ Mv F0 H0 e0 σ F1 H' e1 σ' ∧ Keep refs σ σ', fun σ' H' n => ⟨items.length - (i + 1), by omega, rfl, n⟩, fun x H2 hy => ?_⟩
    obtain ⟨F2, N2, rx, s2⟩ := yl x H2 hy
    have R2 := N2.rel R1 (s2 R1.sz)
    refine ⟨F2, e1, _, et, R2, rx, ht, fun σ3 R3 M3 k3 => ?_⟩
    have kk : Keep refs σ σ3 := k1.trans (keep_set (fun j hj => (k3 j hj).1) hr)
    have MM : Mv F0 H0 e0 σ F2 H2 et σ3 := (M1.trans N2.mv).trans M3
    refine ⟨F2, et, f, R3, h3, ?_⟩
    cases f with
    | nx e3 => exact fun σ' F' H' R' M' k' => ⟨hlt, F', e3, R', hf, MM.trans M', kk.trans k'⟩
    | ct e3 => exact fun σ' F' H' R' M' k' => ⟨hlt, F', e3, R', hf, MM.trans M', kk.trans k'⟩
    | bk e3 => cases hf; exact fun σ' F' H' R' M' k' _ => q σ' F' H' R' ((M0.trans MM).trans M') (kk.trans k')
    | rt v e3 => cases hf; exact fun x σ' F' H' R' M' k' r _ => q x σ' F' H' R' ((M0.trans MM).trans M') (kk.trans k') r
  · have e : i = items.length := by omega
    subst e
    simp only [List.drop_length, forF] at hf
    cases hf
    exact .inl ⟨stop (Nat.le_refl _), fun _ => q σ1 F1 H1 R1 (M0.trans M1) k1⟩
end
end PP

/-! PP, part l: what is done to containers of one's own; new containers. -/
namespace PP
open PySem PySem.Spec PyProof.Rows L2

section
variable {K : PySem.W.Frag} {F : Addr → Prop} {H : Hp} {env : PEn} {σ : L2.St}
theorem ex_own {a : Addr} {o : HO} {v : PV} (nF : ¬ F a) (O : OwnAt K F H a v) : Ex F H F (upd H a o) := by
  obtain ⟨u, hu, n1, n2⟩ := O.some
  exact ⟨fun _ h => h, fun b w f e => by rw [upd_ne (fun z => nF (by rw [← z]; exact f))]; exact e,
    fun b vs e => by rw [upd_ne (fun z => by rw [z, hu] at e; cases e; exact n1 _ rfl)]; exact e,
    fun b w x e => by rw [upd_ne (fun z => by rw [z, hu] at e; cases e; exact n2 _ _ rfl)]; exact e⟩
theorem Rel.mutate (R : Rel K F H env σ) {i : Nat} {a : Addr} {v w : PV} {o : HO} (e : env[i]? = some (SlP.own v)) (s : σ[i]? = some (some (V.ref a))) (sm : PP.HO.small o) (O : OwnAt K F (upd H a o) a w) :
    Rel K F (upd H a o) (env.set i (.own w)) σ ∧ Mv F H env σ F (upd H a o) (env.set i (.own w)) σ := by
  obtain ⟨a', s', nF, Ov⟩ := R.own i v e
  rw [s] at s'; cases s'
  have ex : Ex F H F (upd H a o) := ex_own nF Ov
  refine ⟨⟨by simpa using R.len, fun j u ej => ?_, fun j u ej => ?_, fun j k u u' b ej ek sj sk => ?_, fun b f => ?_, R.sz.upd sm⟩, ⟨fun _ h => h, fun b u hb n => ?_, fun b f => .inl f, fun b ⟨j, u, ej, sj⟩ => ?_, fun b u hb => ?_⟩⟩
  · by_cases hj : i = j
    · subst hj; rw [set_len e] at ej; cases ej
    · rw [List.getElem?_set_ne hj] at ej
      obtain ⟨x, sx, r⟩ := R.val j u ej
      exact ⟨x, sx, r.ex ex⟩
  · by_cases hj : i = j
    · subst hj; rw [set_len e] at ej; cases ej; exact ⟨a, s, nF, O⟩
    · rw [List.getElem?_set_ne hj] at ej
      obtain ⟨b, sb, nb, ob⟩ := R.own j u ej
      have hne : b ≠ a := fun z => hj (R.apart i j _ _ _ e ej s (by rw [← z]; exact sb))
      exact ⟨b, sb, nb, ob.ex ex (upd_ne hne)⟩
  · have back : ∀ (j : Nat) (u : PV), (env.set i (SlP.own w))[j]? = some (SlP.own u) → ∃ u', env[j]? = some (SlP.own u') := fun j u ej => by
      by_cases hj : i = j
      · subst hj; exact ⟨v, e⟩
      · rw [List.getElem?_set_ne hj] at ej; exact ⟨u, ej⟩
    obtain ⟨u1, e1⟩ := back j u ej
    obtain ⟨u2, e2⟩ := back k u' ek
    exact R.apart j k u1 u2 b e1 e2 sj sk
  · obtain ⟨u, hu⟩ := R.fz b f
    exact ⟨u, by rw [upd_ne (fun z => nF (by rw [← z]; exact f))]; exact hu⟩
  · rw [upd_ne (fun z => n ⟨i, v, e, by rw [z]; exact s⟩)]; exact hb
  · by_cases hj : i = j
    · subst hj; exact .inl ⟨i, v, e, sj⟩
    · rw [List.getElem?_set_ne hj] at ej; exact .inl ⟨j, u, ej, sj⟩
  · by_cases hb' : b = a
    · subst hb'; exact ⟨o, upd_same⟩
    · exact ⟨u, by rw [upd_ne hb']; exact hb⟩
end

/-! ### methods that change a list of one's own -/
structure MMut (X : Cx) (m : Str) (f : List PV → List PV → Option (PV × List PV)) : Prop where
  run : ∃ id, PySem.Slot "list" m id ∧ typeOf (.builtin id) = pure (.type "method_descriptor") ∧
    ∀ (pins : List (Addr × Obj)) (s : Shared) (σ : L2.St) (H : Hp) (a : Addr) (vs args : List V) (us : List Value) (xs ps ws : List PV) (r : PV) (F : Addr → Prop) (Q : VK), Inv X pins σ H s → H a = some (.lst vs) → RepL X.K F H vs xs → Vals args us → RepL X.K F H args ps → f xs ps = some (r, ws) → Sized H →
      (∀ (z : V) (vs' : List V), Rep X.K F H z r → RepL X.K F H vs' ws → vs'.length ≤ sizeLine → Q z (upd H a (.lst vs'))) → wpAny (model X.prog X.w) X.A (call (.builtin id) (.ref a :: us)) (EP X pins σ Q) X.xe s
def dMut (f : List PV → List PV → Option (PV × List PV)) (i : Nat) (ds : List Den) : Den := fun e => match e[i]? with
  | some (.own (.lst _)) => (dArgs ds e).bind fun q => match q.2[i]? with
    | some (.own (.lst xs)) => (f xs q.1).map fun z => (z.1, q.2.set i (.own (.lst z.2)))
    | _ => none
  | _ => none
section
variable {X : Cx} {o : Expr} {m : Str} {apos cpos : Pos} {es : List Expr} {ds : List Den}
/-- the end of such a call -/
theorem mut_fin {f : List PV → List PV → Option (PV × List PV)} {id : String} {i : Nat} {a : Addr} {pins : List (Addr × Obj)} {s2 : Shared} {σ : L2.St} {H1 H2 : Hp} {F1 F2 : Addr → Prop} {e1 e2 : PEn} {as : List V} {us : List Value} {xs ps ws : List PV} {z : PV} {Q : VK}
    (hrun : ∀ (pins : List (Addr × Obj)) (s : Shared) (σ : L2.St) (H : Hp) (a : Addr) (vs args : List V) (us : List Value) (xs ps ws : List PV) (r : PV) (F : Addr → Prop) (Q : VK), Inv X pins σ H s → H a = some (.lst vs) → RepL X.K F H vs xs → Vals args us → RepL X.K F H args ps → f xs ps = some (r, ws) → Sized H →
      (∀ (z : V) (vs' : List V), Rep X.K F H z r → RepL X.K F H vs' ws → vs'.length ≤ sizeLine → Q z (upd H a (.lst vs'))) → wpAny (model X.prog X.w) X.A (call (.builtin id) (.ref a :: us)) (EP X pins σ Q) X.xe s)
    (I2 : Inv X pins σ H2 s2) (sa : σ[i]? = some (some (V.ref a))) (rxs : Vals as us) (R2 : Rel X.K F2 H2 e2 σ) (M : Mv F1 H1 e1 σ F2 H2 e2 σ) (r2 : RepL X.K F2 H2 as ps) (eo : e2[i]? = some (SlP.own (.lst xs))) (h2 : f xs ps = some (z, ws))
    (q : ∀ (x : V) (F' : Addr → Prop) (H' : Hp), Rel X.K F' H' (e2.set i (.own (.lst ws))) σ → Mv F1 H1 e1 σ F' H' (e2.set i (.own (.lst ws))) σ → Rep X.K F' H' x z → Q x H') :
    wpAny (model X.prog X.w) X.A (call (.builtin id) (.ref a :: us)) (EP X pins σ Q) X.xe s2 := by
  obtain ⟨a', sa', nF2, O2⟩ := R2.own i _ eo
  rw [sa] at sa'; cases sa'
  cases O2 with
  | @lst vs _ hH r1 =>
    refine hrun pins s2 σ H2 a vs as us xs ps ws z F2 Q I2 hH r1 rxs r2 h2 R2.sz fun zv vs' rz rws hl => ?_
    have ex2 : Ex F2 H2 F2 (upd H2 a (.lst vs')) := ex_own nF2 (OwnAt.lst hH r1)
    obtain ⟨R3, M3⟩ := R2.mutate (w := .lst ws) (o := .lst vs') eo sa hl (.lst upd_same (rws.ex ex2))
    exact q zv F2 _ R3 (M.trans M3) (rz.ex ex2)
theorem ve_mut {f : List PV → List PV → Option (PV × List PV)} {i : Nat} {e : Expr} (hm : MMut X m f) (mc : MCall X o m apos (e :: es) cpos) (ho : PE X o (tVar i)) (ha : VA X (e :: es) (dArgs ds)) : VE X (.Call (.Attribute o m apos) (e :: es) [] cpos) (dMut f i ds) := by
  refine ⟨fun pins s σ H Q I ⟨F, env, r, env', R, hd, q⟩ => ?_⟩
  unfold dMut at hd
  split at hd
  · rename_i xs0 e0
    obtain ⟨⟨ps, e1⟩, h1, hd⟩ := Option.bind_eq_some_iff.mp hd
    split at hd
    · rename_i xs e2
      obtain ⟨⟨z, ws⟩, h2, hz⟩ := Option.map_eq_some_iff.mp hd
      cases hz
      obtain ⟨a, sa, nF, O⟩ := R.own i _ e0
      refine wpAny_Call_method_late mc.base mc.few mc.line rfl (thn (ho.run pins s σ H (fun y H1 => y = .ref a ∧ H1 = H) I ⟨.ref a, sa, rfl, rfl⟩) fun u s1 ⟨y, H1, I1, rx, ey, eH⟩ => ?_)
      subst ey eH
      cases rx
      obtain ⟨id, slot, hty, hrun⟩ := hm.run
      cases O with
      | @lst vs0 _ hH0 r0 =>
        obtain ⟨t1, t2⟩ := tyV_is (x := .ref a) (T := "list") I1 rfl (.inl ⟨rfl, vs0, SqL.of hH0⟩)
        refine ⟨"list", id, PySem.F.plainAttrs_list, slot, hty, t1, t2, ?_⟩
        have hs := mc.star
        have h5 : es.all notStar = true := by simp only [List.all_cons, Bool.and_eq_true] at hs; exact hs.2
        have h6 : notStar e = true := List.all_eq_true.mp hs _ List.mem_cons_self
        have hA := args_run ha cpos I1 R h1
        rw [starEach_cons h6] at hA ⊢
        refine Calls.callWith_builtin (by show (false || (backTo cpos (starEach es X.env)).any (·.1)) = false; rw [star_plain h5 cpos]; rfl) (Calls.evalArgs_plain ?_)
        exact thn hA fun us s2 ⟨as, F2, H2, I2, rxs, R2, M2, r2⟩ => mut_fin hrun I2 sa rxs R2 M2 r2 e2 h2 q
    · cases hd
  · cases hd
theorem ve_mut0 {f : List PV → List PV → Option (PV × List PV)} {i : Nat} (hm : MMut X m f) (mc : MCall X o m apos [] cpos) (ho : PE X o (tVar i)) : VE X (.Call (.Attribute o m apos) [] [] cpos) (dMut f i []) := by
  refine ⟨fun pins s σ H Q I ⟨F, env, r, env', R, hd, q⟩ => ?_⟩
  unfold dMut at hd
  split at hd
  · rename_i xs0 e0
    obtain ⟨⟨ps, e1⟩, h1, hd⟩ := Option.bind_eq_some_iff.mp hd
    cases h1
    split at hd
    · rename_i xs e2
      obtain ⟨⟨z, ws⟩, h2, hz⟩ := Option.map_eq_some_iff.mp hd
      cases hz
      obtain ⟨a, sa, nF, O⟩ := R.own i _ e0
      refine wpAny_Call_method_late mc.base mc.few mc.line rfl (thn (ho.run pins s σ H (fun y H1 => y = .ref a ∧ H1 = H) I ⟨.ref a, sa, rfl, rfl⟩) fun u s1 ⟨y, H1, I1, rx, ey, eH⟩ => ?_)
      subst ey eH
      cases rx
      obtain ⟨id, slot, hty, hrun⟩ := hm.run
      cases O with
      | @lst vs0 _ hH0 r0 =>
        obtain ⟨t1, t2⟩ := tyV_is (x := .ref a) (T := "list") I1 rfl (.inl ⟨rfl, vs0, SqL.of hH0⟩)
        refine ⟨"list", id, PySem.F.plainAttrs_list, slot, hty, t1, t2, ?_⟩
        exact Calls.callWith_builtin rfl (PyProof.Rows.evalArgs_nil3 (mut_fin hrun I1 sa .nil R .refl .nil e2 h2 q))
    · cases hd
  · cases hd
def appendF : List PV → List PV → Option (PV × List PV) := fun xs ps => match ps with
  | [y] => if xs.length < 1000000 then some (.non, xs ++ [y]) else none
  | _ => none
def popF : List PV → List PV → Option (PV × List PV) := fun xs ps => match ps with
  | [] => xs.getLast?.map fun y => (y, xs.dropLast)
  | [.int i] => (ixN xs.length i).bind fun k => (xs[k]?).map fun y => (y, xs.eraseIdx k)
  | _ => none
def removeF : List PV → List PV → Option (PV × List PV) := fun xs ps => match ps with
  | [.int k] => (toInts xs).bind fun is => if k ∈ is then some (.non, (is.erase k).map PV.int) else none
  | _ => none
theorem mm_append : MMut X "append" appendF := ⟨⟨_, PySem.F.slot_list_append, PySem.F.type_list_append, fun pins s σ H a vs args us xs ps ws r F Q I hH rv rx rp hf sz k => by
  unfold appendF at hf
  split at hf
  · split at hf
    · rename_i hl
      cases hf
      obtain ⟨v, rfl, q1⟩ := rp.one
      have l := rv.length
      refine mt_append pins s σ H (.ref a) [v] _ us Q I rfl rx ⟨a, vs, v, rfl, rfl, hH, by rw [sizeLine_eq]; omega, k _ _ .non (rv.append (.cons q1 .nil)) ?_⟩
      rw [List.length_append, sizeLine_eq]; simp; omega
    · cases hf
  · cases hf⟩⟩
theorem mm_pop : MMut X "pop" popF := ⟨⟨_, PySem.F.slot_list_pop, PySem.F.type_list_pop, fun pins s σ H a vs args us xs ps ws r F Q I hH rv rx rp hf sz k => by
  unfold popF at hf
  have l := rv.length
  have hz := (sz a).1 vs (.inl (.inl hH))
  split at hf
  · obtain ⟨y, hy, e⟩ := Option.map_eq_some_iff.mp hf
    cases e
    cases rp
    rw [List.getLast?_eq_getElem?] at hy
    obtain ⟨v, hv, r1⟩ := rv.get hy
    refine mt_pop pins s σ H (.ref a) [] _ us Q I rfl rx ⟨a, vs, v, rfl, rfl, hH, by rw [l]; exact hv, k _ _ r1 rv.dropLast ?_⟩
    rw [List.length_dropLast]; omega
  · rename_i i
    obtain ⟨j, hj, hf⟩ := Option.bind_eq_some_iff.mp hf
    obtain ⟨y, hy, e⟩ := Option.map_eq_some_iff.mp hf
    cases e
    obtain ⟨v, rfl, q1⟩ := rp.one
    cases q1
    obtain ⟨w, hw, r1⟩ := rv.get hy
    obtain ⟨h1, h2, h3, h4⟩ := ixN_seq hj
    have hn := line63
    refine mt_popAt pins s σ H (.ref a) _ _ us Q I rfl rx ⟨a, vs, i, j, w, rfl, rfl, hH, by omega, by omega, by rw [l]; exact h1, hw, k _ _ r1 (rv.eraseIdx j) ?_⟩
    have := len_erase vs j
    omega
  · cases hf⟩⟩

/-! ### x[i] = v -/
def putP {κ : Type} [DecidableEq κ] (kvs : List (κ × PV)) (k : κ) (v : PV) : List (κ × PV) :=
  if (kvs.any fun kv => decide (kv.1 = k)) = true then kvs.map (fun kv => if kv.1 = k then (kv.1, v) else kv) else kvs ++ [(k, v)]
def setF (d k v : PV) : Option PV := match d with
  | .lst xs => match k with
    | .int i => (ixN xs.length i).map fun j => .lst (xs.set j v)
    | _ => none
  | .dk kvs => if kvs.length < 1000000 then (toKey k).map fun q => .dk (putP kvs q v) else none
  | .dt kvs => match k with
    | .tup ks => if kvs.length < 1000000 then (toKeys ks).map fun q => .dt (putP kvs q v) else none
    | _ => none
  | _ => none
end
section
variable {K : PySem.W.Frag} {F : Addr → Prop} {H : Hp}
theorem RepK.length : ∀ {kvs : List (Key × V)} {xs : List (Key × PV)}, RepK K F H kvs xs → kvs.length = xs.length
  | _, _, .nil => rfl
  | _, _, .cons _ t => by simp [RepK.length t]
theorem RepT.length : ∀ {kvs : List (List Key × V)} {xs : List (List Key × PV)}, RepT K F H kvs xs → kvs.length = xs.length
  | _, _, .nil => rfl
  | _, _, .cons _ t => by simp [RepT.length t]
theorem RepK.any {p : Key → Bool} : ∀ {kvs : List (Key × V)} {xs : List (Key × PV)}, RepK K F H kvs xs → kvs.any (fun kv => p kv.1) = xs.any (fun kv => p kv.1)
  | _, _, .nil => rfl
  | _, _, .cons _ t => by simp only [List.any_cons, RepK.any t]
theorem RepT.any {p : List Key → Bool} : ∀ {kvs : List (List Key × V)} {xs : List (List Key × PV)}, RepT K F H kvs xs → kvs.any (fun kv => p kv.1) = xs.any (fun kv => p kv.1)
  | _, _, .nil => rfl
  | _, _, .cons _ t => by simp only [List.any_cons, RepT.any t]
theorem RepK.over {k : Key} {v : V} {x : PV} (r : Rep K F H v x) : ∀ {kvs : List (Key × V)} {xs : List (Key × PV)}, RepK K F H kvs xs → RepK K F H (kvs.map fun kv => if kv.1 = k then (kv.1, v) else kv) (xs.map fun kv => if kv.1 = k then (kv.1, x) else kv)
  | _, _, .nil => .nil
  | _, _, @RepK.cons _ _ _ k' _ _ _ _ q t => by
    simp only [List.map_cons]
    by_cases h : k' = k
    · rw [if_pos h, if_pos h]; exact .cons r (RepK.over r t)
    · rw [if_neg h, if_neg h]; exact .cons q (RepK.over r t)
theorem RepT.over {k : List Key} {v : V} {x : PV} (r : Rep K F H v x) : ∀ {kvs : List (List Key × V)} {xs : List (List Key × PV)}, RepT K F H kvs xs → RepT K F H (kvs.map fun kv => if kv.1 = k then (kv.1, v) else kv) (xs.map fun kv => if kv.1 = k then (kv.1, x) else kv)
  | _, _, .nil => .nil
  | _, _, @RepT.cons _ _ _ k' _ _ _ _ q t => by
    simp only [List.map_cons]
    by_cases h : k' = k
    · rw [if_pos h, if_pos h]; exact .cons r (RepT.over r t)
    · rw [if_neg h, if_neg h]; exact .cons q (RepT.over r t)
theorem RepK.append : ∀ {kvs ws : List (Key × V)} {xs ys : List (Key × PV)}, RepK K F H kvs xs → RepK K F H ws ys → RepK K F H (kvs ++ ws) (xs ++ ys)
  | _, _, _, _, .nil, s => s
  | _, _, _, _, .cons r t, s => .cons r (RepK.append t s)
theorem RepT.append : ∀ {kvs ws : List (List Key × V)} {xs ys : List (List Key × PV)}, RepT K F H kvs xs → RepT K F H ws ys → RepT K F H (kvs ++ ws) (xs ++ ys)
  | _, _, _, _, .nil, s => s
  | _, _, _, _, .cons r t, s => .cons r (RepT.append t s)
theorem RepK.put {k : Key} {v : V} {x : PV} {kvs : List (Key × V)} {xs : List (Key × PV)} (R : RepK K F H kvs xs) (r : Rep K F H v x) : RepK K F H (putK kvs k v) (putP xs k x) := by
  unfold putK putP
  rw [R.any (p := fun q => decide (q = k))]
  split
  · exact R.over r
  · exact R.append (.cons r .nil)
theorem RepT.put {k : List Key} {v : V} {x : PV} {kvs : List (List Key × V)} {xs : List (List Key × PV)} (R : RepT K F H kvs xs) (r : Rep K F H v x) : RepT K F H (putK kvs k v) (putP xs k x) := by
  unfold putK putP
  rw [R.any (p := fun q => decide (q = k))]
  split
  · exact R.over r
  · exact R.append (.cons r .nil)
theorem toKey_rep {v : V} {x : PV} {k : Key} (r : Rep K F H v x) (h : toKey x = some k) : v = kV k := by
  cases r <;> simp only [toKey] at h <;> cases h <;> rfl
end
/-- what a store does to a container of one's own -/
theorem set_own {X : Cx} (hu : X.A.units + 1 < cLine) {pins : List (Addr × Obj)} {s : Shared} {σ : L2.St} {H : Hp} {F : Addr → Prop} {a : Addr} {d k v d' : PV} {y x : V} {iv u : Value} {Q : Hp → Prop} (I : Inv X pins σ H s) (nF : ¬ F a) (O : OwnAt X.K F H a d) (sz : Sized H)
    (rk : Rep X.K F H y k) (rv : Rep X.K F H x v) (ry : RelV y iv) (rx : RelV x u) (h : setF d k v = some d') (q : ∀ o, PP.HO.small o → OwnAt X.K F (upd H a o) a d' → Q (upd H a o)) :
    wpAny (model X.prog X.w) X.A (setItem (.ref a) iv u) (fun _ s' => ∃ H', Inv X pins σ H' s' ∧ Q H') X.xe s := by
  cases O with
  | @lst vs xs hH r =>
    simp only [setF] at h
    split at h
    · rename_i i
      obtain ⟨j, hj, e⟩ := Option.map_eq_some_iff.mp h
      subst e
      cases rk
      have hz := (sz a).1 vs (.inl (.inl hH))
      refine set_list pins s σ H (.ref a) _ x _ iv u _ I rfl ry rx ⟨a, vs, i, j, rfl, rfl, hH, by rw [r.length]; exact hj, ?_⟩
      refine q _ (by show (vs.set j x).length ≤ _; rw [List.length_set]; exact hz) (.lst upd_same ?_)
      exact (r.set rv j).ex (ex_own nF (OwnAt.lst hH r))
    · cases h
  | @dk kvs xs hH r =>
    simp only [setF] at h
    split at h
    · rename_i hl
      obtain ⟨kk, hk, e⟩ := Option.map_eq_some_iff.mp h
      subst e
      have l := r.length
      have e1 := toKey_rep rk hk
      have l2 := length_putK kvs kk x
      refine d_setItem hu I (.inl ⟨kvs, kk, hH, e1, by rw [sizeLine_eq]; omega, rfl⟩) ry rx fun s' I' => ⟨_, I', q _ (by show (putK kvs kk x).length ≤ _; rw [sizeLine_eq]; omega) (.dk upd_same ?_)⟩
      exact (r.put rv).ex (ex_own nF (OwnAt.dk hH r))
    · cases h
  | @dt kvs xs hH r =>
    simp only [setF] at h
    split at h
    · split at h
      · rename_i hl
        obtain ⟨kk, hk, e⟩ := Option.map_eq_some_iff.mp h
        subst e
        have l := r.length
        have l2 := length_putK kvs kk x
        cases rk with
        | @tup b ks _ hb rb =>
          have e1 := rb.keys hk
          subst e1
          refine d_setItem hu I (.inr ⟨kvs, kk, b, hH, rfl, hb, by rw [sizeLine_eq]; omega, rfl⟩) ry rx fun s' I' => ⟨_, I', q _ (by show (putK kvs kk x).length ≤ _; rw [sizeLine_eq]; omega) (.dt upd_same ?_)⟩
          exact (r.put rv).ex (ex_own nF (OwnAt.dt hH r))
      · cases h
    · cases h
/-- x[i] = e, x a container of one's own -/
def sStore (i : Nat) (ix : Den) (a : Den) : DenS := fun e => (a e).bind fun p => match p.2[i]? with
  | some (.own _) => (ix p.2).bind fun k => match k.2[i]? with
    | some (.own d) => (setF d k.1 p.1).map fun d' => .nx (k.2.set i (.own d'))
    | _ => none
  | _ => none
section
variable {X : Cx} {refs : List Nat} {o ie e : Expr} {de dix : Den} {i : Nat} {pos pos' : Pos}
def rStore (K : PySem.W.Frag) (d k v d' : PV) (i : Nat) (σ : L2.St) : TSet := fun o y x H Q => ∃ F a, o = .ref a ∧ ¬ F a ∧ OwnAt K F H a d ∧ Sized H ∧ Rep K F H y k ∧ Rep K F H x v ∧ setF d k v = some d' ∧ ∀ o, PP.HO.small o → OwnAt K F (upd H a o) a d' → Q (upd H a o)
theorem vs_store (hu : X.A.units + 1 < cLine) (ho : PE X o (tVar i)) (hi : VE X ie dix) (he : VE X e de) (hs : swapsWithSole [.Subscript o ie pos'] e pos.line X.env = pure false) (hw : swappedStores [.Subscript o ie pos'] e X.env = pure none)
    (h1 : (assignEach [.Subscript o ie pos'] X.env).map (·.2) = [assign (.Subscript o ie pos') X.env])
    (ha : ∀ v, assign (.Subscript o ie pos') X.env v = (do
      let ov ← holding [v] (eval o X.env)
      let iv ← holding [v, ov] (eval ie X.env)
      standAt pos'
      holding [v, ov, iv] (setItem ov iv v)
      release [v, ov, iv] [])) : VS X refs (.Assign [.Subscript o ie pos'] e pos) (sStore i dix de) := by
  have hset : PSet X (fun o y x H Q => ∃ F a d k v d', o = .ref a ∧ ¬ F a ∧ OwnAt X.K F H a d ∧ Sized H ∧ Rep X.K F H y k ∧ Rep X.K F H x v ∧ setF d k v = some d' ∧ ∀ o, PP.HO.small o → OwnAt X.K F (upd H a o) a d' → Q (upd H a o)) := by
    intro pins s σ H o y x ov iv u Q I ro ry rx ⟨F, a, d, k, v, d', eo, nF, O, sz, rk, rv, h, q⟩
    subst eo
    cases ro
    exact set_own hu I nF O sz rk rv ry rx h q
  refine ps_imp (ps_asg he (pg_sub ho hi hset ha) hs hw h1) fun D σ H sz ⟨F, env, fl, R, hd, q⟩ => ?_
  unfold sStore at hd
  obtain ⟨⟨p, e1⟩, h1, hd⟩ := Option.bind_eq_some_iff.mp hd
  split at hd
  · rename_i v0 eo0
    obtain ⟨⟨k, e2⟩, h2, hd⟩ := Option.bind_eq_some_iff.mp hd
    split at hd
    · rename_i d eo
      obtain ⟨d', h3, hz⟩ := Option.map_eq_some_iff.mp hd
      subst hz
      refine ⟨F, env, p, e1, R, h1, fun x F1 H1 R1 M1 r1 => ?_⟩
      obtain ⟨a, sa, nF, O⟩ := R1.own i _ eo0
      refine ⟨.ref a, sa, F1, e1, k, e2, R1, h2, fun y F2 H2 R2 M2 r2 => ?_⟩
      obtain ⟨a', sa', nF2, O2⟩ := R2.own i _ eo
      rw [sa] at sa'; cases sa'
      refine ⟨F2, a, d, k, p, d', rfl, nF2, O2, R2.sz, r2, r1.ex (M2.ex R1), h3, fun w sm O3 _ => ?_⟩
      obtain ⟨R3, M3⟩ := R2.mutate eo sa sm O3
      exact q σ F2 _ R3 ((M1.trans M2).trans M3) .refl
    · cases hd
  · cases hd
end

/-! ### new containers -/
section
variable {X : Cx} {e elt tg iter : Expr} {es ifs : List Expr} {pos : Pos} {ds : List Den}
theorem own_new {K : PySem.W.Frag} {F : Addr → Prop} {H : Hp} {env : PEn} {σ : L2.St} {p : Addr} (R : Rel K F H env σ) (np : H p = none) : ¬ F p ∧ ¬ Own env σ p := by
  refine ⟨fun f => ?_, fun o => ?_⟩
  · obtain ⟨u, hu⟩ := R.fz p f; rw [np] at hu; cases hu
  · obtain ⟨v, O⟩ := R.ownAt o
    obtain ⟨u, hu, _⟩ := O.some
    rw [np] at hu; cases hu
theorem vf_lst (hl : ds.length ≤ 1000) (h : VA X es (dArgs ds)) : VF X (.List es pos) (dLst ds) :=
  pe_imp (pe_lst h) fun σ H Q sz ⟨F, env, r, env', R, hd, q⟩ => by
    unfold dLst at hd
    obtain ⟨⟨ps, e1⟩, h1, hz⟩ := Option.map_eq_some_iff.mp hd
    cases hz
    refine ⟨F, env, ps, _, R, h1, fun xs F1 H1 R1 M1 r1 => ⟨?_, fun p np sz' => ?_⟩⟩
    · rw [r1.length, dArgs_len h1]; exact Nat.le_of_lt (small1000 hl)
    · have N : Nw F1 H1 F1 (upd H1 p (.lst xs)) := .upd np R1.fz
      obtain ⟨a1, a2⟩ := own_new R1 np
      exact q p F1 _ (N.rel R1 sz') (M1.trans N.mv) a1 a2 (M1.back np) (.lst upd_same (r1.ex N.ex))
theorem vf_dk : VF X (.Dict [] [] pos) (dC (.dk [])) :=
  pe_imp pe_dnewK fun σ H Q sz ⟨F, env, r, env', R, hd, q⟩ => by
    cases hd
    intro p np sz'
    have N : Nw F H F (upd H p (.dK [])) := .upd np R.fz
    obtain ⟨a1, a2⟩ := own_new R np
    exact q p F _ (N.rel R sz') N.mv a1 a2 np (.dk upd_same .nil)
theorem vf_dt : VF X (.Dict [] [] pos) (dC (.dt [])) :=
  pe_imp pe_dnewT fun σ H Q sz ⟨F, env, r, env', R, hd, q⟩ => by
    cases hd
    intro p np sz'
    have N : Nw F H F (upd H p (.dT [])) := .upd np R.fz
    obtain ⟨a1, a2⟩ := own_new R np
    exact q p F _ (N.rel R sz') N.mv a1 a2 np (.dt upd_same .nil)
/-- list(range(..)) -/
def rngArg (as : List Den) : PEn → Option ((Int × Int) × PEn) := fun e => (dArgs as e).bind fun p => match p.1 with
  | [.int j] => if -(2 ^ 62) ≤ j ∧ j ≤ 16777216 then some ((0, j), p.2) else none
  | [.int i, .int j] => if -(2 ^ 62) ≤ i ∧ i < 2 ^ 62 ∧ -(2 ^ 62) ≤ j ∧ j < 2 ^ 62 ∧ j - i ≤ 16777216 then some ((i, j), p.2) else none
  | _ => none
def dListRg (as : List Den) : Den := fun e => (rngArg as e).map fun p => (.lst (rngP p.1.1 (p.1.2 - p.1.1).toNat), p.2)
def dTupRg (as : List Den) : Den := fun e => (rngArg as e).map fun p => (.tup (rngP p.1.1 (p.1.2 - p.1.1).toNat), p.2)
theorem rgV_rep {K : PySem.W.Frag} {F : Addr → Prop} {H : Hp} (i j : Int) : RepL K F H (rgV i j) (rngP i (j - i).toNat) := by
  unfold rgV rngP
  generalize List.range (j - i).toNat = l
  induction l with
  | nil => exact .nil
  | cons a l ih => exact .cons (.int _) ih
def tRgE (K : PySem.W.Frag) (as : List Den) : L2.St → Hp → (Int → Int → Hp → Prop) → Prop := fun σ H Q => ∃ F env r env', Rel K F H env σ ∧ rngArg as env = some (r, env') ∧ ∀ (F' : Addr → Prop) (H' : Hp), Rel K F' H' env' σ → Mv F H env σ F' H' env' σ → Q r.1 r.2 H'
theorem prg_imp {e : Expr} {t t' : L2.St → Hp → (Int → Int → Hp → Prop) → Prop} (h : PRg X e t) (i : ∀ σ H Q, Sized H → t' σ H Q → t σ H (fun a b H' => Q a b H')) : PRg X e t' := fun pins s σ H Q I hw => h pins s σ H Q I (i σ H Q (sized_of I.hok) hw)
theorem prg_one {a : Expr} {da : Den} {p : Pos} (hg : Gl X "range") (hm : X.mg "range" = none) (hs : notStar a = true) (ha : VE X a da) : PRg X (.Call (.Name "range" p) [a] [] pos) (tRgE X.K [da]) :=
  prg_imp (prg_1 hg hm ha (starEach_cons hs)) fun σ H Q sz ⟨F, env, r, env', R, hd, q⟩ => by
    unfold rngArg at hd
    obtain ⟨⟨ps, e1⟩, h1, hd⟩ := Option.bind_eq_some_iff.mp hd
    unfold dArgs at h1
    obtain ⟨⟨p0, e2⟩, h2, h1⟩ := Option.bind_eq_some_iff.mp h1
    obtain ⟨⟨p1, e3⟩, h3, h1⟩ := Option.map_eq_some_iff.mp h1
    cases h3
    cases h1
    simp only at hd
    refine ⟨F, env, p0, e2, R, h2, fun x F1 H1 R1 M1 r1 => ?_⟩
    split at hd
    · rename_i j ej
      cases ej
      split at hd
      · cases hd
        cases r1
        exact ⟨j, rfl, q F1 H1 R1 M1⟩
      · cases hd
    · rename_i ej; cases ej
    · cases hd
theorem prg_two {a b : Expr} {da db : Den} {p : Pos} (hg : Gl X "range") (hm : X.mg "range" = none) (hs : notStar a = true) (hs2 : notStar b = true) (ha : VE X a da) (hb : VE X b db) : PRg X (.Call (.Name "range" p) [a, b] [] pos) (tRgE X.K [da, db]) :=
  prg_imp (prg_2 hg hm ha hb (starEach_cons hs) (starEach_cons hs2) (by rw [starEach_cons hs2]; rfl)) fun σ H Q sz ⟨F, env, r, env', R, hd, q⟩ => by
    unfold rngArg at hd
    obtain ⟨⟨ps, e1⟩, h1, hd⟩ := Option.bind_eq_some_iff.mp hd
    unfold dArgs at h1
    obtain ⟨⟨p0, e2⟩, h2, h1⟩ := Option.bind_eq_some_iff.mp h1
    obtain ⟨⟨p1, e3⟩, h3, h1⟩ := Option.map_eq_some_iff.mp h1
    cases h1
    unfold dArgs at h3
    obtain ⟨⟨p4, e4⟩, h4, h3⟩ := Option.bind_eq_some_iff.mp h3
    obtain ⟨⟨p5, e5⟩, h5, h3⟩ := Option.map_eq_some_iff.mp h3
    cases h5
    cases h3
    simp only at hd
    refine ⟨F, env, p0, e2, R, h2, fun x F1 H1 R1 M1 r1 => ⟨F1, e2, p4, _, R1, h4, fun y F2 H2 R2 M2 r2 => ?_⟩⟩
    split at hd
    · rename_i ej; cases ej
    · rename_i i j ej
      cases ej
      split at hd
      · cases hd
        cases r1
        cases r2
        exact ⟨i, j, rfl, rfl, q F2 H2 R2 (M1.trans M2)⟩
      · cases hd
    · cases hd
theorem rngArg_ok {as : List Den} {env env' : PEn} {r : Int × Int} (h : rngArg as env = some (r, env')) : RgOk r.1 r.2 := by
  unfold rngArg at h
  obtain ⟨⟨ps, e1⟩, h1, hd⟩ := Option.bind_eq_some_iff.mp h
  simp only at hd
  split at hd
  · split at hd
    · cases hd; exact ⟨by show -(2 ^ 62) ≤ (0 : Int); decide, by show (0 : Int) < 2 ^ 62; decide, by show -(2 ^ 62) ≤ _; omega, by omega, by show (_ - (0 : Int)).toNat ≤ 2 ^ 24; omega⟩
    · cases hd
  · split at hd
    · cases hd
      rename_i hh
      exact ⟨hh.1, hh.2.1, hh.2.2.1, hh.2.2.2.1, by omega⟩
    · cases hd
  · cases hd
theorem vf_listRg {as : List Den} {p : Pos} (hc : X.calm = true) (hg : Gl X "list") (hm : X.mg "list" = none) (hs : notStar e = true) (h : PRg X e (tRgE X.K as)) : VF X (.Call (.Name "list" p) [e] [] pos) (dListRg as) :=
  pe_imp (pe_listRg hc hg hm h (starEach_cons hs)) fun σ H Q sz ⟨F, env, r, env', R, hd, q⟩ => by
    unfold dListRg at hd
    obtain ⟨⟨⟨a, b⟩, e1⟩, h1, hz⟩ := Option.map_eq_some_iff.mp hd
    cases hz
    refine ⟨F, env, (a, b), _, R, h1, fun F1 H1 R1 M1 => ⟨rngArg_ok h1, fun p np sz' => ?_⟩⟩
    have N : Nw F1 H1 F1 (upd H1 p (.lst (rgV a b))) := .upd np R1.fz
    obtain ⟨a1, a2⟩ := own_new R1 np
    exact q p F1 _ (N.rel R1 sz') (M1.trans N.mv) a1 a2 (M1.back np) (.lst upd_same (rgV_rep a b))
theorem ve_tupRg {as : List Den} {p : Pos} (hc : X.calm = true) (hg : Gl X "tuple") (hm : X.mg "tuple" = none) (hs : notStar e = true) (h : PRg X e (tRgE X.K as)) : VE X (.Call (.Name "tuple" p) [e] [] pos) (dTupRg as) :=
  pe_imp (pe_tupRg hc hg hm h (starEach_cons hs)) fun σ H Q sz ⟨F, env, r, env', R, hd, q⟩ => by
    unfold dTupRg at hd
    obtain ⟨⟨⟨a, b⟩, e1⟩, h1, hz⟩ := Option.map_eq_some_iff.mp hd
    cases hz
    refine ⟨F, env, (a, b), _, R, h1, fun F1 H1 R1 M1 => ⟨rngArg_ok h1, fun p np sz' => ?_⟩⟩
    have N : Nw F1 H1 F1 (upd H1 p (.tup (rgV a b))) := .upd np R1.fz
    exact q _ F1 _ (N.rel R1 sz') (M1.trans N.mv) (.tup upd_same (rgV_rep a b))
end
end PP

/-! PP, part m: comprehensions, zip, sorted(dict), tuples that are known. -/
namespace PP
open PySem PySem.Spec PyProof.Rows L2

section
variable {X : Cx} {refs : List Nat} {elt tg iter : Expr} {ifs : List Expr} {scope : Scope} {own : List (Str × Nat)} {pos spos py : Pos} {src : DenI} {t : Tgt} {tt : DenT} {de : Den}
abbrev VTs (X : Cx) (ifs : List Expr) (d : DenT) : Prop := PTs X ifs (tT X.K d)
def dYes : DenT := fun e => some (true, e)
theorem pts_imp {t t' : TT} (h : PTs X ifs t) (i : ∀ σ H Q, Sized H → t' σ H Q → t σ H (fun v H' => Sized H' → Q v H')) : PTs X ifs t' := ⟨fun pins s σ H Q I hw =>
  thn (h.run pins s σ H _ I (i σ H Q (sized_of I.hok) hw)) fun u s' ⟨H', I', q⟩ => ⟨H', I', q (sized_of I'.hok)⟩⟩
theorem vts_nil : VTs X [] dYes := pts_imp pts_nil fun σ H Q sz ⟨F, env, r, env', R, hd, q⟩ => by
  cases hd
  exact fun _ => q F H R .refl
theorem vts_one {c : Expr} (h : VT X c tt) : VTs X [c] tt := pts_one h
theorem tF_sz {K : PySem.W.Frag} {d : Den} {σ : L2.St} {H : Hp} {Q : VK} (h : tF K d σ H (fun v H' => Sized H' → Q v H')) : tF K d σ H Q := by
  obtain ⟨F, env, r, env', R, hd, q⟩ := h
  exact ⟨F, env, r, env', R, hd, fun a F' H' R' M n1 n2 hn O => q a F' H' R' M n1 n2 hn O R'.sz⟩
/-- the block of a comprehension is told -/
structure LcOk (X : Cx) (elt tg iter : Expr) (ifs : List Expr) (scope : Scope) (own : List (Str × Nat)) (src : DenI) (t : Tgt) (tt : DenT) (de : Den) : Prop where
  it : VI X tg iter src
  ok : BlkOk X.N X.env.scope scope own
  tg : ∀ (s : Shared) (H : Hp) (C : Addr) (cl : List (Str × Addr)) (fp : List Addr), PG (X.blk s H scope (compEnvC scope cl C X.env) fp) tg (tG X.K t)
  ts : ∀ (s : Shared) (H : Hp) (C : Addr) (cl : List (Str × Addr)) (fp : List Addr), PTs (X.blk s H scope (compEnvC scope cl C X.env) fp) ifs (tT X.K tt)
  el : ∀ (s : Shared) (H : Hp) (C : Addr) (cl : List (Str × Addr)) (fp : List Addr), PE (X.blk s H scope (compEnvC scope cl C X.env) fp) elt (tE X.K de)
  sub : ∀ i, i ∈ t.slots → i ∈ own.map (·.2)
  fs : ∀ x, foldedSetIterable iter X.env x = pure x
theorem vf_lc (hc : X.calm = true) (hN : X.N.Nodup) (l : LcOk X elt tg iter ifs scope own src t tt de) : VF X (.ListComp elt [⟨tg, iter, ifs, 0⟩] scope pos) (dLC src (own.map (·.2)) t tt de) :=
  pe_imp (pe_lc hc hN l.it l.ok l.tg l.ts l.el l.fs) fun σ H Q sz h => lc_imp l.sub h
theorem vs_ownLc {i : Nat} {y : Str} (hr : i ∉ refs) (hc : X.calm = true) (hN : X.N.Nodup) (hy : X.N[i]? = some y) (hyl : X.env.scope.names.lookup y = some .local)
    (hsw : swapsWith (.ListComp elt [⟨tg, iter, ifs, 0⟩] scope pos) (some (.Name y py)) spos.line X.env = pure true) (l : LcOk X elt tg iter ifs scope own src t tt de) :
    VS X refs (.Assign [.Name y py] (.ListComp elt [⟨tg, iter, ifs, 0⟩] scope pos) spos) (sOwn i (dLC src (own.map (·.2)) t tt de)) :=
  ps_imp (ps_setLc hc hN hy hyl hsw l.it l.ok l.tg l.ts l.el l.fs) fun D σ H sz h => by
    have h1 := own_imp hr h
    have h2 := tF_sz (Q := fun x H1 => D.nx (σ.set i (some x)) H1) h1
    exact lc_imp l.sub h2
end

/-! ### zip -/
section
variable {X : Cx} {e e2 : Expr} {pos p tpos : Pos} {da db : Den}
def zipP : List PV → List PV → List PV
  | x :: xs, y :: ys => .tup [x, y] :: zipP xs ys
  | _, _ => []
theorem zipP_len : ∀ xs ys : List PV, (zipP xs ys).length = min xs.length ys.length
  | x :: xs, y :: ys => by simp only [zipP, List.length_cons, zipP_len xs ys]; omega
  | [], ys => by simp [zipP]
  | x :: xs, [] => by simp [zipP]
theorem zipP_get : ∀ (xs ys : List PV) (i : Nat) (q : PV), (zipP xs ys)[i]? = some q → ∃ x y, xs[i]? = some x ∧ ys[i]? = some y ∧ q = .tup [x, y]
  | x :: xs, y :: ys, 0, q, h => by simp [zipP] at h; exact ⟨x, y, rfl, rfl, h.symm⟩
  | x :: xs, y :: ys, i + 1, q, h => by
    obtain ⟨a, b, h1, h2, h3⟩ := zipP_get xs ys i q (by simpa [zipP] using h)
    exact ⟨a, b, by simpa using h1, by simpa using h2, h3⟩
  | [], ys, i, q, h => by simp [zipP] at h
  | x :: xs, [], i, q, h => by simp [zipP] at h
def zipF (a b : PV) : Option (List PV) := match a, b with
  | .lst xs, .lst ys => some (zipP xs ys)
  | a, b => (tupOf a).bind fun xs => (tupOf b).map fun ys => zipP xs ys
def iZip2 (a b : Den) : DenI := fun e => (dArgs [a, b] e).bind fun p => match p.1 with
  | [x, y] => (zipF x y).map fun l => (l, p.2)
  | _ => none
theorem Rep.tupAt {K : PySem.W.Frag} {F : Addr → Prop} {H : Hp} {v : V} {p : PV} {xs : List PV} (r : Rep K F H v p) (h : tupOf p = some xs) : ∃ a vs, v = .ref a ∧ (H a = some (.tup vs) ∨ ∃ o, H a = some (.frz o (.tup vs))) ∧ RepL K F H vs xs := by
  cases p <;> simp only [PP.tupOf] at h <;> cases h
  · obtain ⟨a, vs, e, h, r⟩ := (BRep.rep r).tup; exact ⟨a, vs, e, .inl h, r⟩
  · obtain ⟨a, its, vs, e, h, r⟩ := (BRep.rep r).fup; exact ⟨a, vs, e, .inr ⟨_, h⟩, r⟩
theorem tupAt_sq {K : PySem.W.Frag} {F F2 : Addr → Prop} {H H2 : Hp} {a : Addr} {vs : List V} (h : H a = some (.tup vs) ∨ ∃ o, H a = some (.frz o (.tup vs))) (e : Ex F H F2 H2) : SqT K H2 a vs := by
  rcases h with h | ⟨o, h⟩
  · exact SqT.of (e.tups _ _ h)
  · exact .inl (.inr ⟨_, e.frzs _ _ _ h⟩)
theorem yld_zip {K : PySem.W.Frag} {F : Addr → Prop} {H : Hp} {J : It} {vs ws : List V} {xs ys : List PV} (r1 : RepL K F H vs xs) (r2 : RepL K F H ws ys)
    (go : ∀ (F2 : Addr → Prop) (H2 : Hp) (i : Nat) (x y : V), Ex F H F2 H2 → vs[i]? = some x → ws[i]? = some y → J.go i H2 ∧ ∀ v H3, J.yld i H2 v H3 → ∃ T, v = .ref T ∧ H2 T = none ∧ H3 = upd H2 T (.tup [x, y]))
    (stop : ∀ (F2 : Addr → Prop) (H2 : Hp) (i : Nat), Ex F H F2 H2 → (vs.length ≤ i ∨ ws.length ≤ i) → J.stop i H2) : Yld K F H J (zipP xs ys) := fun F2 H2 ex fz i => by
  refine ⟨fun q hq => ?_, fun hi => stop F2 H2 i ex ?_⟩
  · obtain ⟨x, y, h1, h2, rfl⟩ := zipP_get xs ys i q hq
    obtain ⟨v, hv, rv⟩ := r1.get h1
    obtain ⟨w, hw, rw'⟩ := r2.get h2
    obtain ⟨g, yl⟩ := go F2 H2 i v w ex hv hw
    refine ⟨g, fun z H3 hy => ?_⟩
    obtain ⟨T, rfl, hT, rfl⟩ := yl z H3 hy
    have N : Nw F2 H2 F2 (upd H2 T (.tup [v, w])) := .upd hT fz
    refine ⟨F2, N, .tup upd_same (.cons ((rv.ex ex).ex N.ex) (.cons ((rw'.ex ex).ex N.ex) .nil)), fun s => s.upd ?_⟩
    show 2 ≤ sizeLine
    rw [sizeLine_eq]; omega
  · rw [zipP_len] at hi
    rw [r1.length, r2.length]; omega
theorem vi_zip {elts : List Expr} {kk : Nat} (hg : Gl X "zip") (hm : X.mg "zip" = none) (hs : notStar e = true) (hs2 : notStar e2 = true) (ha : VE X e da) (hb : VE X e2 db) :
    VI X (.Tuple elts kk tpos) (.Call (.Name "zip" p) [e, e2] [] pos) (iZip2 da db) :=
  pi_imp (RZ.pi_zipA hg hm (va_cons hs ha (va_cons hs2 hb va_nil)) (starEach_cons hs) (by rw [starEach_cons hs2]; rfl)) fun σ H R sz ⟨F, env, items, env', Rl, hd, q⟩ => by
    unfold iZip2 at hd
    obtain ⟨⟨ps, e1⟩, h1, hd⟩ := Option.bind_eq_some_iff.mp hd
    refine ⟨F, env, ps, e1, Rl, h1, fun vs F1 H1 R1 M1 r1 => ?_⟩
    simp only at hd
    split at hd
    · rename_i x y
      obtain ⟨l, h2, hz⟩ := Option.map_eq_some_iff.mp hd
      cases hz
      obtain ⟨v, w, rfl, rx, ry⟩ := r1.two
      unfold zipF at h2
      split at h2
      · rename_i xs ys
        cases h2
        obtain ⟨a, vs, rfl, ha, r1⟩ := (BRep.rep rx).lst
        obtain ⟨b, ws, rfl, hb, r2⟩ := (BRep.rep ry).lst
        cases rx with
        | @lst _ vs _ fa r1 =>
          cases ry with
          | @lst _ ws _ fb r2 =>
            refine ⟨a, b, vs, ws, rfl, .inl ⟨fa.seq, fb.seq, fun _ => q _ F1 H1 R1 M1 (yld_zip r1 r2 (fun F2 H2 i x y ex hx hy => ⟨⟨vs, ws, x, y, fa.sql_ex ex, fb.sql_ex ex, hx, hy⟩, fun v H3 hv => ?_⟩) (fun F2 H2 i ex h => ⟨vs, ws, fa.sql_ex ex, fb.sql_ex ex, h⟩)) ?_⟩⟩
            · obtain ⟨T, x', y', e1, e2, e3, f1, f2⟩ := hv
              have g1 := f1 vs (fa.sql_ex ex)
              have g2 := f2 ws (fb.sql_ex ex)
              rw [hx] at g1; rw [hy] at g2
              cases g1; cases g2
              exact ⟨T, e1, e2, e3⟩
            · rw [zipP_len, ← r1.length]
              have := sql_small R1.sz fa.seq
              omega
      · rename_i hno
        obtain ⟨xs, hx, h2⟩ := Option.bind_eq_some_iff.mp h2
        obtain ⟨ys, hy, e⟩ := Option.map_eq_some_iff.mp h2
        subst e
        obtain ⟨a, vs, rfl, fa, ra⟩ := rx.tupAt hx
        obtain ⟨b, ws, rfl, fb, rb⟩ := ry.tupAt hy
        refine ⟨a, b, vs, ws, rfl, .inr ⟨tupAt_sq fa (.refl (F := F1)), tupAt_sq fb (.refl (F := F1)), fun _ => q _ F1 H1 R1 M1 (yld_zip ra rb (fun F2 H2 i x y ex hx hy => ⟨⟨vs, ws, x, y, tupAt_sq fa ex, tupAt_sq fb ex, hx, hy⟩, fun v H3 hv => ?_⟩) (fun F2 H2 i ex h => ⟨vs, ws, tupAt_sq fa ex, tupAt_sq fb ex, h⟩)) ?_⟩⟩
        · obtain ⟨T, x', y', e1, e2, e3, f1, f2⟩ := hv
          have g1 := f1 vs (tupAt_sq fa ex)
          have g2 := f2 ws (tupAt_sq fb ex)
          rw [hx] at g1; rw [hy] at g2
          cases g1; cases g2
          exact ⟨T, e1, e2, e3⟩
        · rw [zipP_len, ← ra.length]
          have : vs.length ≤ sizeLine := by
            rcases fa with h | ⟨o, h⟩
            · exact (R1.sz a).1 vs (.inr (.inl h))
            · exact (R1.sz a).1 vs (.inr (.inr ⟨_, h⟩))
          omega
    · cases hd
end

/-! ### a new tuple, its object known -/
section
variable {X : Cx}
def tupleZF (ps : List PV) : Option PV := match ps with
  | [.lst xs] => some (.fup xs)
  | [.fup xs] => some (.fup xs)
  | _ => none
theorem cr_tupleZF : CallR X (.type "tuple") (rL X.K tupleZF) := by
  refine call_of fun pins s σ H xs us Q F ps r I rx fz sz r1 e k => ?_
  unfold tupleZF at e
  split at e
  · cases e
    obtain ⟨v, rfl, q1⟩ := r1.one
    obtain ⟨a, vs, rfl, h, r⟩ := q1.lst
    obtain ⟨u, rfl, rv⟩ := rx.one
    cases rv
    obtain ⟨its, r', pl, hz⟩ := I.list h
    have hlen := r'.length
    refine call_tuple_list pl.isList (fun h' kp => ?_) (by simp only [List.size_toArray] <;> omega)
    have I1 : Inv X pins σ H { s with heap := h' } := I.kept (t' := s.toks) kp
    have np : H h'.objs.size = none := I1.hok.fresh (Nat.le_refl _)
    have I2 : Inv X pins σ (upd H h'.objs.size (.frz (tupObj its) (.tup vs))) { s with heap := h'.push (tupObj its) } :=
      I1.laid (t' := s.toks) (fun b o e => Heap.get?_push_of_some _ e) (Nat.le_refl _) ⟨Heap.get?_push_size _ rfl, hz, its, r', IsTup.new _ _⟩
    have N : Nw F H F (upd H h'.objs.size (.frz (tupObj its) (.tup vs))) := .upd np fz
    exact ⟨.ref h'.objs.size, _, I2, rfl, k _ _ _ N (.fup upd_same (r.ex N.ex))⟩
  · cases e
    obtain ⟨v, rfl, q1⟩ := r1.one
    obtain ⟨a, its, vs, rfl, h, r⟩ := q1.fup
    exact call_tuple_of pins s σ H _ us Q I rx ⟨a, vs, rfl, .inr ⟨.inl (.inr ⟨_, h⟩), k _ F H (.refl fz) (.fup h r)⟩⟩
  · cases e

/-! ### sorted of the keys -/
def intKeys : List (Key × PV) → Option (List Int)
  | [] => some []
  | (.inl i, _) :: r => (intKeys r).map fun l => i :: l
  | _ => none
def insI (x : Int) : List Int → List Int
  | [] => [x]
  | y :: r => if x ≤ y then x :: y :: r else y :: insI x r
def sortI : List Int → List Int
  | [] => []
  | x :: r => insI x (sortI r)
theorem insI_perm (x : Int) : ∀ l : List Int, (insI x l).Perm (x :: l)
  | [] => .refl _
  | y :: r => by
    unfold insI
    split
    · exact .refl _
    · exact ((insI_perm x r).cons y).trans (.swap x y r)
theorem sortI_perm : ∀ l : List Int, (sortI l).Perm l
  | [] => .refl _
  | x :: r => (insI_perm x _).trans ((sortI_perm r).cons x)
theorem insI_sorted (x : Int) : ∀ {l : List Int}, l.Pairwise (· ≤ ·) → (insI x l).Pairwise (· ≤ ·)
  | [], _ => by simp [insI]
  | y :: r, h => by
    rw [List.pairwise_cons] at h
    unfold insI
    split
    · rename_i hxy
      rw [List.pairwise_cons]
      refine ⟨fun z hz => ?_, List.pairwise_cons.mpr h⟩
      rcases List.mem_cons.mp hz with e | hz
      · omega
      · have := h.1 z hz; omega
    · rename_i hxy
      rw [List.pairwise_cons]
      refine ⟨fun z hz => ?_, insI_sorted x h.2⟩
      rcases List.mem_cons.mp ((insI_perm x r).mem_iff.mp hz) with e | hz
      · omega
      · exact h.1 z hz
theorem sortI_sorted : ∀ l : List Int, (sortI l).Pairwise (· ≤ ·)
  | [] => .nil
  | x :: r => insI_sorted x (sortI_sorted r)
theorem sorted_uniq : ∀ {l k : List Int}, l.Perm k → l.Pairwise (· ≤ ·) → k.Pairwise (· ≤ ·) → l = k := fun p h1 h2 =>
  p.eq_of_pairwise (fun a b _ _ h1 h2 => by omega) h1 h2
def sortedDF (ps : List PV) : Option PV := match ps with
  | [.dk kvs] => (intKeys kvs).bind fun is => if is.length < 64 then some (.lst ((sortI is).map PV.int)) else none
  | _ => none
theorem RepK.intKeys {K : PySem.W.Frag} {F : Addr → Prop} {H : Hp} : ∀ {kvs : List (Key × V)} {xs : List (Key × PV)} {is : List Int}, RepK K F H kvs xs → PP.intKeys xs = some is → kvs.map (·.1) = is.map Sum.inl
  | _, _, _, .nil, h => by cases h; rfl
  | _, _, _, @RepK.cons _ _ _ k _ _ _ _ r t, h => by
    cases k with
    | inl i =>
      simp only [PP.intKeys] at h
      obtain ⟨l, hl, e⟩ := Option.map_eq_some_iff.mp h
      subst e
      simp [RepK.intKeys t hl]
    | inr s => simp [PP.intKeys] at h
theorem intsL_rep {K : PySem.W.Frag} {F : Addr → Prop} {H : Hp} : ∀ is : List Int, RepL K F H (is.map V.int) (is.map PV.int)
  | [] => .nil
  | i :: is => .cons (.int i) (intsL_rep is)
theorem cr_sortedDF (hc : X.calm = true) : CallR X (.builtin "sorted") (rL X.K sortedDF) := by
  refine call_of fun pins s σ H xs us Q F ps r I rx fz sz r1 e k => ?_
  unfold sortedDF at e
  split at e
  · rename_i kvs
    obtain ⟨is, hi, e⟩ := Option.bind_eq_some_iff.mp e
    split at e
    · rename_i hl
      cases e
      obtain ⟨v, rfl, q1⟩ := r1.one
      obtain ⟨a, rfl, D⟩ := q1.dic rfl
      cases D with
      | @dk ws _ hH rk =>
        refine call_sortedDI hc pins s σ H _ us Q I rx ⟨a, ws, is, rfl, .inl hH, rk.intKeys hi, hl, fun ys p pm so np => ?_⟩
        have ey : ys = sortI is := sorted_uniq (pm.trans (sortI_perm is).symm) so (sortI_sorted is)
        subst ey
        obtain ⟨N, R⟩ := new_list (xs := (sortI is).map PV.int) fz np (intsL_rep _)
        exact k _ _ _ N R
    · cases e
  · cases e
end
end PP

/-! PP, part n: defs and calls. -/
namespace PP
open PySem PySem.Spec PyProof.Rows L2

/-- what a def does: the arguments, then the word and the arguments as they are behind it -/
abbrev Sem := List PV → Option (PV × List PV)
/-- the slots of the parameters; ms tells which are by reference -/
def argE : List Bool → List PV → PEn
  | [], ps => ps.map .val
  | _ :: _, [] => []
  | b :: bs, p :: ps => (if b then .own p else .val p) :: argE bs ps
def outsP (e : PEn) : Nat → List Bool → List PV → Option (List PV)
  | _, [], ps => some ps
  | _, _ :: _, [] => some []
  | k, b :: bs, p :: ps => (if b then (match e[k]? with | some (.own w) => some w | _ => none) else some p).bind fun w => (outsP e (k + 1) bs ps).map (w :: ·)
def runF (ms : List Bool) (m : Nat) (d : DenS) : Sem := fun ps => (d (argE ms ps ++ List.replicate m .no)).bind fun fl => match fl with
  | .nx e => (outsP e 0 ms ps).map fun w => (.non, w)
  | .rt v e => (outsP e 0 ms ps).map fun w => (v, w)
  | _ => none
def spOf (K : PySem.W.Frag) (n : Nat) (ms : List Bool) (sem : Sem) : Sp := fun vs H Q _ => ∃ F ps r ws, vs.length = n ∧ Rel K F H (argE ms ps) (vs.map some) ∧ sem ps = some (r, ws) ∧ (∀ (x : V) (F' : Addr → Prop) (H' : Hp), ws.length = ps.length → Rel K F' H' (argE ms ws) (vs.map some) → Mv F H (argE ms ps) (vs.map some) F' H' (argE ms ws) (vs.map some) → Rep K F' H' x r → Q x H')

theorem argE_get : ∀ (ms : List Bool) (ps : List PV) (i : Nat), (argE ms ps)[i]? = (ps[i]?).map fun p => if ms.getD i false then SlP.own p else SlP.val p
  | [], ps, i => by simp [argE]
  | _ :: _, [], i => by simp [argE]
  | b :: bs, p :: ps, 0 => by cases b <;> simp [argE]
  | b :: bs, p :: ps, i + 1 => by simpa [argE] using argE_get bs ps i
theorem argE_len (ms : List Bool) (ps : List PV) : (argE ms ps).length = ps.length := by
  induction ms generalizing ps with
  | nil => simp [argE]
  | cons b bs ih => cases ps <;> simp [argE, ih]
theorem argE_own {ms : List Bool} {ps : List PV} {i : Nat} {v : PV} (h : (argE ms ps)[i]? = some (SlP.own v)) : ms.getD i false = true ∧ ps[i]? = some v := by
  rw [argE_get] at h
  obtain ⟨p, hp, e⟩ := Option.map_eq_some_iff.mp h
  split at e <;> cases e
  exact ⟨by assumption, hp⟩
theorem argE_val {ms : List Bool} {ps : List PV} {i : Nat} {v : PV} (h : (argE ms ps)[i]? = some (SlP.val v)) : ms.getD i false = false ∧ ps[i]? = some v := by
  rw [argE_get] at h
  obtain ⟨p, hp, e⟩ := Option.map_eq_some_iff.mp h
  split at e <;> cases e
  rename_i h
  exact ⟨by simpa using h, hp⟩
theorem outsP_get {e : PEn} : ∀ {k : Nat} {ms : List Bool} {ps ws : List PV}, outsP e k ms ps = some ws → ws.length = ps.length ∧ ∀ (i : Nat) (w : PV), ws[i]? = some w → if ms.getD i false then e[k + i]? = some (SlP.own w) else ps[i]? = some w
  | k, [], ps, ws, h => by cases h; exact ⟨rfl, fun i w hw => by simpa using hw⟩
  | k, _ :: _, [], ws, h => by cases h; exact ⟨rfl, fun i w hw => by simp at hw⟩
  | k, b :: bs, p :: ps, ws, h => by
    unfold outsP at h
    obtain ⟨w, hw, h⟩ := Option.bind_eq_some_iff.mp h
    obtain ⟨t, ht, e1⟩ := Option.map_eq_some_iff.mp h
    subst e1
    obtain ⟨l, g⟩ := outsP_get ht
    refine ⟨by simp [l], fun i u hu => ?_⟩
    cases i with
    | zero =>
      simp at hu
      subst hu
      cases b with
      | false => simp at hw ⊢; exact hw
      | true =>
        simp only [if_true] at hw
        simp only [List.getD_cons_zero, if_true, Nat.add_zero]
        split at hw
        · rename_i e2; cases hw; exact e2
        · cases hw
    | succ i =>
      have := g i u (by simpa using hu)
      simp only [List.getD_cons_succ, List.getElem?_cons_succ]
      rw [show k + (i + 1) = k + 1 + i by omega]
      exact this

section
variable {K : PySem.W.Frag} {F F' : Addr → Prop} {H H' : Hp} {env e' : PEn} {σ σ' : L2.St} {refs : List Nat} {ms : List Bool} {ps ws : List PV} {vs : List V}
theorem pad_own {m n : Nat} {i : Nat} {v : PV} (h : (env ++ List.replicate m SlP.no)[i]? = some (SlP.own v)) : env[i]? = some (SlP.own v) ∧ i < env.length := by
  by_cases hi : i < env.length
  · rw [List.getElem?_append_left hi] at h; exact ⟨h, hi⟩
  · rw [List.getElem?_append_right (by omega), List.getElem?_replicate] at h
    split at h <;> cases h
theorem pad_val {m : Nat} {i : Nat} {v : PV} (h : (env ++ List.replicate m SlP.no)[i]? = some (SlP.val v)) : env[i]? = some (SlP.val v) ∧ i < env.length := by
  by_cases hi : i < env.length
  · rw [List.getElem?_append_left hi] at h; exact ⟨h, hi⟩
  · rw [List.getElem?_append_right (by omega), List.getElem?_replicate] at h
    split at h <;> cases h
theorem Rel.pad (R : Rel K F H env σ) (m : Nat) : Rel K F H (env ++ List.replicate m SlP.no) (σ ++ List.replicate m none) where
  len := by simp [R.len]
  val := fun i v e => by
    obtain ⟨e, hi⟩ := pad_val e
    rw [List.getElem?_append_left (by rw [← R.len]; exact hi)]
    exact R.val i v e
  own := fun i v e => by
    obtain ⟨e, hi⟩ := pad_own (n := m) e
    rw [List.getElem?_append_left (by rw [← R.len]; exact hi)]
    exact R.own i v e
  apart := fun i j v w a e1 e2 s1 s2 => by
    obtain ⟨e1, h1⟩ := pad_own (n := m) e1
    obtain ⟨e2, h2⟩ := pad_own (n := m) e2
    rw [List.getElem?_append_left (by rw [← R.len]; exact h1)] at s1
    rw [List.getElem?_append_left (by rw [← R.len]; exact h2)] at s2
    exact R.apart i j v w a e1 e2 s1 s2
  fz := R.fz
  sz := R.sz
theorem own_pad {m : Nat} {a : Addr} (l : env.length = σ.length) : Own (env ++ List.replicate m SlP.no) (σ ++ List.replicate m none) a → Own env σ a := fun ⟨i, v, e, s⟩ => by
  obtain ⟨e, h⟩ := pad_own (n := m) e
  rw [List.getElem?_append_left (by rw [← l]; exact h)] at s
  exact ⟨i, v, e, s⟩
/-- behind a body: the parameters by reference -/
theorem fn_end {m : Nat} (R0 : Rel K F H (argE ms ps) (vs.map some)) (hr : ∀ i, ms.getD i false = true → i ∈ refs) (R : Rel K F' H' e' σ') (M : Mv F H (argE ms ps ++ List.replicate m SlP.no) (vs.map some ++ List.replicate m none) F' H' e' σ') (k : Keep refs (vs.map some ++ List.replicate m none) σ')
    (ho : outsP e' 0 ms ps = some ws) : ws.length = ps.length ∧ Rel K F' H' (argE ms ws) (vs.map some) ∧ Mv F H (argE ms ps) (vs.map some) F' H' (argE ms ws) (vs.map some) := by
  obtain ⟨l, g⟩ := outsP_get ho
  have ll : ps.length = vs.length := by have := R0.len; rw [argE_len] at this; simpa using this
  have back : ∀ (i : Nat) (w : PV), (argE ms ws)[i]? = some (SlP.own w) → e'[i]? = some (SlP.own w) ∧ (∀ a, σ'[i]? = some (some (V.ref a)) → (vs.map some)[i]? = some (some (V.ref a))) := fun i w e => by
    obtain ⟨h1, h2⟩ := argE_own e
    have := g i w h2
    rw [if_pos h1, Nat.zero_add] at this
    refine ⟨this, fun a s => ?_⟩
    rw [k i (hr i h1)] at s
    have hi : i < ws.length := (List.getElem?_eq_some_iff.mp h2).1
    rw [List.getElem?_append_left (by simp; omega)] at s
    exact s
  have bck : ∀ (i : Nat) (w : PV), (argE ms ws)[i]? = some (SlP.own w) → ∀ a, (vs.map some)[i]? = some (some (V.ref a)) → σ'[i]? = some (some (V.ref a)) := fun i w e a s => by
    obtain ⟨h1, h2⟩ := argE_own e
    rw [k i (hr i h1)]
    have hi : i < ws.length := (List.getElem?_eq_some_iff.mp h2).1
    rw [List.getElem?_append_left (by simp; omega)]
    exact s
  refine ⟨l, ⟨by rw [argE_len, l, ll]; simp, fun i v e => ?_, fun i v e => ?_, fun i j v w a e1 e2 s1 s2 => ?_, R.fz, R.sz⟩, ⟨M.sub, fun b o hb n => M.frame b o hb fun z => n (own_pad R0.len z), fun a f => ?_, fun a ⟨i, v, e, s⟩ => ?_, M.there⟩⟩
  · obtain ⟨h1, h2⟩ := argE_val e
    have := g i v h2
    rw [h1] at this
    simp only [Bool.false_eq_true, if_false] at this
    obtain ⟨x, sx, r⟩ := R0.val i v (by rw [argE_get, this, h1]; rfl)
    exact ⟨x, sx, r.ex (M.ex (R0.pad m))⟩
  · obtain ⟨e1, e2⟩ := back i v e
    obtain ⟨a, sa, nF, O⟩ := R.own i v e1
    exact ⟨a, e2 a sa, nF, O⟩
  · exact R.apart i j v w a (back i v e1).1 (back j w e2).1 (bck i v e1 a s1) (bck j w e2 a s2)
  · rcases M.fnew a f with z | z | z
    · exact .inl z
    · exact .inr (.inl (own_pad R0.len z))
    · exact .inr (.inr z)
  · rcases M.onew a ⟨i, v, (back i v e).1, bck i v e a s⟩ with z | z
    · exact .inl (own_pad R0.len z)
    · exact .inr z
/-- a body's reading from what the def does -/
theorem fn_body {N : List Str} {n m : Nat} {d : DenS} {Q : VK} {E : XK} (hm : N.length - n = m) (hr : ∀ i, ms.getD i false = true → i ∈ refs) (h : spOf K n ms (runF ms m d) vs H Q E) : tS K refs d { nx := fun _ H' => Q .non H', rt := Q } (L2.start N vs) H := by
  obtain ⟨F, ps, r, ws, hl, R, hs, q⟩ := h
  unfold runF at hs
  obtain ⟨fl, h1, h2⟩ := Option.bind_eq_some_iff.mp hs
  unfold L2.start
  rw [hl, hm]
  refine ⟨F, _, fl, R.pad m, h1, ?_⟩
  cases fl with
  | nx e =>
    obtain ⟨w, hw, e1⟩ := Option.map_eq_some_iff.mp h2
    cases e1
    intro σ' F' H' R' M k
    obtain ⟨a, b, c⟩ := fn_end R hr R' M k hw
    exact q .non F' H' a b c .non
  | rt v e =>
    obtain ⟨w, hw, e1⟩ := Option.map_eq_some_iff.mp h2
    cases e1
    intro x σ' F' H' R' M k rx
    obtain ⟨a, b, c⟩ := fn_end R hr R' M k hw
    exact q x F' H' a b c rx
  | bk e => cases h2
  | ct e => cases h2
end
/-- a def keeps what its body's denotation says -/
theorem fn_ok {P : Program} {w : World} {K : PySem.W.Frag} {mg : Str → Option Value} {base : Heap} {x qual : Str} {params : Arguments} {body : List Stmt} {scope : Scope} {dvs : List V} {kws : List (Str × V)} {f : Addr} {fd : FuncData} {N ps : List Str} {k m : Nat} {ms : List Bool} {refs : List Nat} {d : DenS}
    (Fn : FunD K x qual params body scope dvs kws f fd) (S : FnScope N ps scope) (hm : N.length - ps.length = m) (hr : ∀ i, ms.getD i false = true → i ∈ refs)
    (hb : ∀ (cdv : Value) (A : Around) (outer : List Env) (s : Shared) (H : Hp) (E : XK), Room k (A.deeper (envOfC qual scope s.heap.objs.size f cdv)) → VSs (cxOf CX0 P w K mg base N qual scope f cdv A outer s H E).nox refs body d) :
    FnOk P w K mg base CX0 (k + 1) f fd ps (spOf K ps.length ms (runF ms m d)) :=
  Fn.ok S (fun vs H Q E ⟨_, _, _, _, h, _⟩ => h) fun cdv A outer s H vs Q E hroom h => ⟨_, PSs.nox (hb cdv A outer s H E hroom), fn_body hm hr h⟩

/-! ### calls -/
def isB : Arg → Bool
  | .d _ => false
  | .b _ => true
def slotsB : List Arg → List Nat
  | [] => []
  | .d _ :: r => slotsB r
  | .b i :: r => i :: slotsB r
def cArgs : List Arg → DenA
  | [] => fun e => some ([], e)
  | .d a :: r => fun e => (a e).bind fun p => (cArgs r p.2).map fun q => (p.1 :: q.1, q.2)
  | .b i :: r => fun e => (slotv e i).bind fun _ => (cArgs r e).bind fun q => match q.2[i]? with
    | some (.own v) => some (v :: q.1, q.2)
    | _ => none
def backE : List Arg → List PV → PEn → PEn
  | .b i :: as, p :: ps, e => backE as ps (e.set i (.own p))
  | .d _ :: as, _ :: ps, e => backE as ps e
  | _, _, e => e
def dCall (sem : Sem) (as : List Arg) : Den := fun e => (cArgs as e).bind fun p => (sem p.1).map fun r => (r.1, backE as r.2 p.2)
/-- the arguments as they lie -/
structure ArgRep (K : PySem.W.Frag) (F : Addr → Prop) (H : Hp) (env : PEn) (σ : L2.St) (as : List Arg) (xs : List V) (ps : List PV) : Prop where
  l1 : xs.length = as.length
  l2 : ps.length = as.length
  d : ∀ (j : Nat) (a : Den), as[j]? = some (.d a) → ∃ x p, xs[j]? = some x ∧ ps[j]? = some p ∧ Rep K F H x p
  b : ∀ (j i : Nat), as[j]? = some (.b i) → ∃ x p, xs[j]? = some x ∧ ps[j]? = some p ∧ σ[i]? = some (some x) ∧ env[i]? = some (SlP.own p)
def tC (K : PySem.W.Frag) (as : List Arg) : TA := fun σ H Q => ∃ F env r env', Rel K F H env σ ∧ cArgs as env = some (r, env') ∧ ∀ (xs : List V) (F' : Addr → Prop) (H' : Hp), Rel K F' H' env' σ → Mv F H env σ F' H' env' σ → ArgRep K F' H' env' σ as xs r → Q xs H'
abbrev VC (X : Cx) (es : List Expr) (as : List Arg) : Prop := PA X es (tC X.K as)
section
variable {X : Cx} {e : Expr} {es : List Expr} {as : List Arg} {da : Den}
theorem vc_nil : VC X [] [] := pa_imp pa_nil fun σ H Q sz ⟨F, env, r, env', R, hd, q⟩ => by
  cases hd
  exact fun _ => q [] F H R .refl ⟨rfl, rfl, fun j a h => by simp at h, fun j i h => by simp at h⟩
theorem vc_d (hn : notStar e = true) (ha : VE X e da) (hr : VC X es as) : VC X (e :: es) (.d da :: as) :=
  pa_imp (pa_cons ha hr (starEach_cons hn)) fun σ H Q sz ⟨F, env, r, env', R, hd, q⟩ => by
    unfold cArgs at hd
    obtain ⟨⟨p, e1⟩, h1, hd⟩ := Option.bind_eq_some_iff.mp hd
    obtain ⟨⟨ps, e2⟩, h2, hz⟩ := Option.map_eq_some_iff.mp hd
    cases hz
    refine ⟨F, env, p, e1, R, h1, fun x F1 H1 R1 M1 r1 => ⟨F1, e1, ps, e2, R1, h2, fun xs F2 H2 R2 M2 A => ?_⟩⟩
    refine fun _ => q (x :: xs) F2 H2 R2 (M1.trans M2) ⟨by simp [A.l1], by simp [A.l2], fun j a h => ?_, fun j i h => ?_⟩
    · cases j with
      | zero => exact ⟨x, p, rfl, rfl, r1.ex (M2.ex R1)⟩
      | succ j => obtain ⟨y, z, h1, h2, h3⟩ := A.d j a (by simpa using h); exact ⟨y, z, by simpa using h1, by simpa using h2, h3⟩
    · cases j with
      | zero => simp at h
      | succ j => obtain ⟨y, z, h1, h2, h3⟩ := A.b j i (by simpa using h); exact ⟨y, z, by simpa using h1, by simpa using h2, h3⟩
theorem vc_b {i : Nat} (hn : notStar e = true) (ha : PE X e (tVar i)) (hr : VC X es as) : VC X (e :: es) (.b i :: as) :=
  pa_imp (pa_cons ha hr (starEach_cons hn)) fun σ H Q sz ⟨F, env, r, env', R, hd, q⟩ => by
    unfold cArgs at hd
    obtain ⟨v0, h0, hd⟩ := Option.bind_eq_some_iff.mp hd
    obtain ⟨⟨ps, e1⟩, h1, hd⟩ := Option.bind_eq_some_iff.mp hd
    simp only at hd
    split at hd
    · rename_i v ev
      cases hd
      obtain ⟨x, sx, _⟩ := slotv_rep R h0
      refine ⟨x, sx, F, env, ps, _, R, h1, fun xs F2 H2 R2 M2 A => ?_⟩
      refine fun _ => q (x :: xs) F2 H2 R2 M2 ⟨by simp [A.l1], by simp [A.l2], fun j a h => ?_, fun j i' h => ?_⟩
      · cases j with
        | zero => simp at h
        | succ j => obtain ⟨y, z, h1, h2, h3⟩ := A.d j a (by simpa using h); exact ⟨y, z, by simpa using h1, by simpa using h2, h3⟩
      · cases j with
        | zero => simp at h; subst h; exact ⟨x, v, rfl, rfl, sx, ev⟩
        | succ j => obtain ⟨y, z, h1, h2, h3⟩ := A.b j i' (by simpa using h); exact ⟨y, z, by simpa using h1, by simpa using h2, h3⟩
    · cases hd
theorem backE_len : ∀ (as : List Arg) (ps : List PV) (e : PEn), (backE as ps e).length = e.length
  | .b i :: as, p :: ps, e => by simp [backE, backE_len as ps]
  | .d _ :: as, _ :: ps, e => by simp [backE, backE_len as ps]
  | [], _, e => by simp [backE]
  | .b _ :: _, [], e => by simp [backE]
  | .d _ :: _, [], e => by simp [backE]
theorem mem_slots : ∀ {as : List Arg} {i : Nat}, i ∈ slotsB as ↔ ∃ j : Nat, as[j]? = some (Arg.b i)
  | [], i => by simp [slotsB]
  | .d a :: as, i => by
    rw [slotsB, mem_slots]
    refine ⟨fun ⟨j, h⟩ => ⟨j + 1, by simpa using h⟩, fun ⟨j, h⟩ => ?_⟩
    cases j with
    | zero => simp at h
    | succ j => exact ⟨j, by simpa using h⟩
  | .b k :: as, i => by
    rw [slotsB, List.mem_cons, mem_slots]
    refine ⟨fun h => ?_, fun ⟨j, h⟩ => ?_⟩
    · rcases h with h | ⟨j, h⟩
      · subst h; exact ⟨0, rfl⟩
      · exact ⟨j + 1, by simpa using h⟩
    · cases j with
      | zero => simp at h; exact .inl h.symm
      | succ j => exact .inr ⟨j, by simpa using h⟩
theorem backE_off : ∀ {as : List Arg} {ps : List PV} {e : PEn} {i : Nat}, i ∉ slotsB as → (backE as ps e)[i]? = e[i]?
  | .b k :: as, p :: ps, e, i, h => by
    rw [slotsB, List.mem_cons, not_or] at h
    rw [backE, backE_off h.2, List.getElem?_set_ne (Ne.symm h.1)]
  | .d _ :: as, _ :: ps, e, i, h => by rw [slotsB] at h; rw [backE, backE_off h]
  | [], _, e, i, h => by simp [backE]
  | .b _ :: _, [], e, i, h => by simp [backE]
  | .d _ :: _, [], e, i, h => by simp [backE]
theorem backE_at : ∀ {as : List Arg} {ps : List PV} {e : PEn} {i j : Nat} {w : PV}, (slotsB as).Nodup → as[j]? = some (.b i) → ps[j]? = some w → i < e.length → (backE as ps e)[i]? = some (SlP.own w)
  | .b k :: as, p :: ps, e, i, 0, w, nd, h1, h2, hi => by
    simp at h1 h2
    subst h1 h2
    rw [slotsB, List.nodup_cons] at nd
    rw [backE, backE_off nd.1, List.getElem?_set_self hi]
  | .b k :: as, p :: ps, e, i, j + 1, w, nd, h1, h2, hi => by
    rw [slotsB, List.nodup_cons] at nd
    rw [backE]
    exact backE_at nd.2 (by simpa using h1) (by simpa using h2) (by simpa using hi)
  | .d _ :: as, _ :: ps, e, i, 0, w, nd, h1, h2, hi => by simp at h1
  | .d _ :: as, _ :: ps, e, i, j + 1, w, nd, h1, h2, hi => by
    rw [slotsB] at nd
    rw [backE]
    exact backE_at nd (by simpa using h1) (by simpa using h2) hi
  | [], _, e, i, j, w, nd, h1, h2, hi => by simp at h1
  | _ :: _, [], e, i, j, w, nd, h1, h2, hi => by simp at h2
theorem slots_inj : ∀ {as : List Arg} {i j k : Nat}, (slotsB as).Nodup → as[j]? = some (.b i) → as[k]? = some (.b i) → j = k
  | [], i, j, k, nd, h1, h2 => by simp at h1
  | .d _ :: as, i, j, k, nd, h1, h2 => by
    rw [slotsB] at nd
    cases j with
    | zero => simp at h1
    | succ j =>
      cases k with
      | zero => simp at h2
      | succ k => exact congrArg Nat.succ (slots_inj nd (by simpa using h1) (by simpa using h2))
  | .b q :: as, i, j, k, nd, h1, h2 => by
    rw [slotsB, List.nodup_cons] at nd
    cases j with
    | zero =>
      cases k with
      | zero => rfl
      | succ k =>
        simp at h1
        subst h1
        exact absurd (mem_slots.mpr ⟨k, by simpa using h2⟩) nd.1
    | succ j =>
      cases k with
      | zero =>
        simp at h2
        subst h2
        exact absurd (mem_slots.mpr ⟨j, by simpa using h1⟩) nd.1
      | succ k => exact congrArg Nat.succ (slots_inj nd.2 (by simpa using h1) (by simpa using h2))
end
section
variable {K : PySem.W.Frag} {F F' : Addr → Prop} {H H' : Hp} {env : PEn} {σ : L2.St} {ms : List Bool} {as : List Arg} {ps ws : List PV} {xs : List V}
def mskOk (as : List Arg) (ms : List Bool) : Prop := as.map isB = ms ++ List.replicate (as.length - ms.length) false
theorem msk_get (h : mskOk as ms) {j : Nat} {a : Arg} (ha : as[j]? = some a) : ms.getD j false = isB a := by
  have h1 : (as.map isB)[j]? = some (isB a) := by rw [List.getElem?_map, ha]; rfl
  rw [h] at h1
  rw [List.getD_eq_getElem?_getD]
  by_cases hj : j < ms.length
  · rw [List.getElem?_append_left hj] at h1; rw [h1]; rfl
  · rw [List.getElem?_append_right (by omega), List.getElem?_replicate] at h1
    rw [List.getElem?_eq_none (by omega)]
    split at h1
    · simpa using h1
    · cases h1
theorem arg_at {j : Nat} {p : PV} (A : ArgRep K F H env σ as xs ps) (hp : ps[j]? = some p) : ∃ a, as[j]? = some a := by
  have : j < as.length := by rw [← A.l2]; exact (List.getElem?_eq_some_iff.mp hp).1
  exact ⟨_, List.getElem?_eq_getElem this⟩
/-- a call's arguments are the parameters -/
theorem arg_rel (R : Rel K F H env σ) (A : ArgRep K F H env σ as xs ps) (hk : mskOk as ms) (nd : (slotsB as).Nodup) : Rel K F H (argE ms ps) (xs.map some) where
  len := by rw [argE_len, A.l2, ← A.l1]; simp
  val := fun j v e => by
    obtain ⟨h1, h2⟩ := argE_val e
    obtain ⟨a, ha⟩ := arg_at A h2
    have := msk_get hk ha
    cases a with
    | b i => rw [h1] at this; cases this
    | d a =>
      obtain ⟨x, p, hx, hp, r⟩ := A.d j a ha
      rw [h2] at hp; cases hp
      exact ⟨x, by rw [List.getElem?_map, hx]; rfl, r⟩
  own := fun j v e => by
    obtain ⟨h1, h2⟩ := argE_own e
    obtain ⟨a, ha⟩ := arg_at A h2
    have := msk_get hk ha
    cases a with
    | d a => rw [h1] at this; cases this
    | b i =>
      obtain ⟨x, p, hx, hp, sx, ep⟩ := A.b j i ha
      rw [h2] at hp; cases hp
      obtain ⟨a, sa, nF, O⟩ := R.own i _ ep
      rw [sx] at sa; cases sa
      exact ⟨a, by rw [List.getElem?_map, hx]; rfl, nF, O⟩
  apart := fun j k v w a e1 e2 s1 s2 => by
    have go : ∀ (j : Nat) (v : PV), (argE ms ps)[j]? = some (SlP.own v) → (xs.map some)[j]? = some (some (V.ref a)) → ∃ i, as[j]? = some (.b i) ∧ σ[i]? = some (some (V.ref a)) ∧ ∃ p, env[i]? = some (SlP.own p) := fun j v e s => by
      obtain ⟨h1, h2⟩ := argE_own e
      obtain ⟨b, hb⟩ := arg_at A h2
      have := msk_get hk hb
      cases b with
      | d _ => rw [h1] at this; cases this
      | b i =>
        obtain ⟨x, p, hx, hp, sx, ep⟩ := A.b j i hb
        rw [List.getElem?_map, hx] at s
        cases s
        exact ⟨i, hb, sx, p, ep⟩
    obtain ⟨i1, a1, s1, p1, q1⟩ := go j v e1 s1
    obtain ⟨i2, a2, s2, p2, q2⟩ := go k w e2 s2
    have := R.apart i1 i2 p1 p2 a q1 q2 s1 s2
    subst this
    exact slots_inj nd a1 a2
  fz := R.fz
  sz := R.sz
theorem own_arg (A : ArgRep K F H env σ as xs ps) (hk : mskOk as ms) {a : Addr} (o : Own (argE ms ps) (xs.map some) a) : ∃ i, i ∈ slotsB as ∧ σ[i]? = some (some (V.ref a)) ∧ ∃ p, env[i]? = some (SlP.own p) := by
  obtain ⟨j, v, e, s⟩ := o
  obtain ⟨h1, h2⟩ := argE_own e
  obtain ⟨b, hb⟩ := arg_at A h2
  have := msk_get hk hb
  cases b with
  | d _ => rw [h1] at this; cases this
  | b i =>
    obtain ⟨x, p, hx, hp, sx, ep⟩ := A.b j i hb
    rw [List.getElem?_map, hx] at s
    cases s
    exact ⟨i, mem_slots.mpr ⟨j, hb⟩, sx, p, ep⟩
/-- behind the call -/
theorem arg_back (R : Rel K F H env σ) (A : ArgRep K F H env σ as xs ps) (hk : mskOk as ms) (nd : (slotsB as).Nodup) (hl : ws.length = ps.length) (R2 : Rel K F' H' (argE ms ws) (xs.map some)) (M : Mv F H (argE ms ps) (xs.map some) F' H' (argE ms ws) (xs.map some)) :
    Rel K F' H' (backE as ws env) σ ∧ Mv F H env σ F' H' (backE as ws env) σ := by
  have R1 := arg_rel R A hk nd
  have ex := M.ex R1
  -- a slot by reference
  have inn : ∀ i, i ∈ slotsB as → ∃ a w, σ[i]? = some (some (V.ref a)) ∧ (backE as ws env)[i]? = some (SlP.own w) ∧ ¬ F' a ∧ OwnAt K F' H' a w ∧ Own (argE ms ws) (xs.map some) a ∧ ∃ p, env[i]? = some (SlP.own p) := fun i hi => by
    obtain ⟨j, hj⟩ := mem_slots.mp hi
    obtain ⟨x, p, hx, hp, sx, ep⟩ := A.b j i hj
    have hjl : j < ws.length := by rw [hl]; exact (List.getElem?_eq_some_iff.mp hp).1
    have hw : ws[j]? = some ws[j] := List.getElem?_eq_getElem hjl
    have hm := msk_get hk hj
    have e : (argE ms ws)[j]? = some (SlP.own ws[j]) := by rw [argE_get, hw, hm]; rfl
    obtain ⟨a, sa, nF, O⟩ := R2.own j _ e
    have sa' := sa
    rw [List.getElem?_map, hx] at sa
    cases sa
    exact ⟨a, ws[j], sx, backE_at nd hj hw (List.getElem?_eq_some_iff.mp ep).1, nF, O, ⟨j, _, e, sa'⟩, p, ep⟩
  -- one that is none
  have out : ∀ (i : Nat) (v : PV) (a : Addr), i ∉ slotsB as → env[i]? = some (SlP.own v) → σ[i]? = some (some (V.ref a)) → ¬ Own (argE ms ps) (xs.map some) a := fun i v a hi e s o => by
    obtain ⟨i', h1, h2, p, h3⟩ := own_arg A hk o
    have := R.apart i i' v p a e h3 s h2
    subst this
    exact hi h1
  have ownE : ∀ (a : Addr), Own (argE ms ps) (xs.map some) a → Own env σ a := fun a o => by
    obtain ⟨i, h1, h2, p, h3⟩ := own_arg A hk o
    exact ⟨i, p, h3, h2⟩
  refine ⟨⟨by rw [backE_len]; exact R.len, fun i v e => ?_, fun i v e => ?_, fun i j v w a e1 e2 s1 s2 => ?_, R2.fz, R2.sz⟩, ⟨M.sub, fun b o hb n => M.frame b o hb fun z => n (ownE b z), fun a f => ?_, fun a ⟨i, v, e, s⟩ => ?_, M.there⟩⟩
  · by_cases hi : i ∈ slotsB as
    · obtain ⟨a, w, _, e2, _⟩ := inn i hi
      rw [e] at e2; cases e2
    · rw [backE_off hi] at e
      obtain ⟨x, sx, r⟩ := R.val i v e
      exact ⟨x, sx, r.ex ex⟩
  · by_cases hi : i ∈ slotsB as
    · obtain ⟨a, w, s, e2, nF, O, _⟩ := inn i hi
      rw [e] at e2; cases e2
      exact ⟨a, s, nF, O⟩
    · rw [backE_off hi] at e
      obtain ⟨a, s, nF, O⟩ := R.own i v e
      have no := out i v a hi e s
      obtain ⟨u, hu, _⟩ := O.some
      refine ⟨a, s, fun f => ?_, O.ex ex ((M.frame a u hu no).trans hu.symm)⟩
      rcases M.fnew a f with z | z | z
      · exact nF z
      · exact no z
      · rw [hu] at z; cases z
  · have back : ∀ (i : Nat) (v : PV), (backE as ws env)[i]? = some (SlP.own v) → ∃ p, env[i]? = some (SlP.own p) := fun i v e => by
      by_cases hi : i ∈ slotsB as
      · obtain ⟨_, _, _, _, _, _, _, p, hp⟩ := inn i hi; exact ⟨p, hp⟩
      · rw [backE_off hi] at e; exact ⟨v, e⟩
    obtain ⟨p1, q1⟩ := back i v e1
    obtain ⟨p2, q2⟩ := back j w e2
    exact R.apart i j p1 p2 a q1 q2 s1 s2
  · rcases M.fnew a f with z | z | z
    · exact .inl z
    · exact .inr (.inl (ownE a z))
    · exact .inr (.inr z)
  · by_cases hi : i ∈ slotsB as
    · obtain ⟨_, _, _, _, _, _, _, p, hp⟩ := inn i hi; exact .inl ⟨i, p, hp, s⟩
    · rw [backE_off hi] at e; exact .inl ⟨i, v, e, s⟩
end
section
variable {X : Cx} {e : Expr} {es : List Expr} {as : List Arg} {k n : Nat} {f : Addr} {fd : FuncData} {ps : List Str} {ms : List Bool} {sem : Sem} {x : Str} {p pos : Pos}
theorem call_imp (hk : mskOk as ms) (nd : (slotsB as).Nodup) (hn : as.length = n) {σ : L2.St} {H : Hp} {Q : VK} (h : tE X.K (dCall sem as) σ H Q) : tCall (spOf X.K n ms sem) [] E0 (tC X.K as) σ H Q := by
  obtain ⟨F, env, r, env', R, hd, q⟩ := h
  unfold dCall at hd
  obtain ⟨⟨ps, e1⟩, h1, hd⟩ := Option.bind_eq_some_iff.mp hd
  obtain ⟨⟨z, ws⟩, h2, hz⟩ := Option.map_eq_some_iff.mp hd
  cases hz
  refine ⟨F, env, ps, e1, R, h1, fun xs F1 H1 R1 M1 A => ?_⟩
  show spOf X.K n ms sem (xs ++ []) H1 Q E0
  rw [List.append_nil]
  refine ⟨F1, ps, z, ws, by rw [A.l1]; exact hn, arg_rel R1 A hk nd, h2, fun y F2 H2 hl R2 M2 r2 => ?_⟩
  obtain ⟨R3, M3⟩ := arg_back R1 A hk nd hl R2 M2
  exact q y F2 H2 R3 (M1.trans M3) r2
/-- f(e, ..) -/
theorem ve_call (G : FnOk X.prog X.w X.K X.mg X.base CX0 k f fd ps (spOf X.K n ms sem)) (hr : Room k X.A) (hg : Gl X x) (hm : X.mg x = some (.ref f)) (kp : PySem.W.keepIn X.K (.ref f) = true) (hb : Binds X.K fd ps []) (hdb : (x == ("__debug__" : Str)) = false)
    (hs : (e :: es).all notStar = true) (hk : mskOk as ms) (nd : (slotsB as).Nodup) (hn : as.length = n) (ha : VC X (e :: es) as) : VE X (.Call (.Name x p) (e :: es) [] pos) (dCall sem as) :=
  pe_imp (pe_call G hr hg hm kp hb .nil pass0 ha hdb (starEach_cons (List.all_eq_true.mp hs _ List.mem_cons_self)) (star_plain (by simp only [List.all_cons, Bool.and_eq_true] at hs; exact hs.2) pos)) fun σ H Q sz h =>
    call_imp hk nd hn (Q := fun v H' => Sized H' → Q v H') (by obtain ⟨F, env, r, env', R, hd, q⟩ := h; exact ⟨F, env, r, env', R, hd, fun y F' H' R' M' r' _ => q y F' H' R' M' r'⟩)
end
end PP

/-! PP, part o: contexts, names, the forms that a printed proof uses. -/
namespace PP
open PySem PySem.Spec PyProof.Rows L2

abbrev Nms := List (Str × NameKind)
/-- a frame, a comprehension's block: what is known of its names -/
structure Cn (X : Cx) (N : List Str) (raw nm : Nms) (k : Nat) : Prop where
  calm : X.calm = true
  eN : X.N = N
  nd : N.Nodup
  nm : X.env.scope.names = nm
  kind : X.env.scope.kind = .function
  room : Room k X.A
  xe : PassesOwn (model X.prog X.w) X.A X.env X.xe
  st : ∀ x, raw.lookup x = some .local ∨ raw.lookup x = some .cell → Loc X.env.scope x ∧ (X.fn x = true ∨ X.env.scope.names.lookup x = some .local)
def relN (outer : Nms) (names : Nms) : Nms := names.map fun p => if (p.2 == NameKind.free && outer.lookup p.1 == some .cell) then (p.1, .cell) else p
theorem relN_lookup {outer : Nms} {x : Str} {k : NameKind} (hk : k ≠ .free) : ∀ {names : Nms}, names.lookup x = some k → (relN outer names).lookup x = some k
  | [], h => by simp at h
  | (n, k') :: r, h => by
    unfold relN
    rw [List.map_cons]
    by_cases e : x = n
    · subst e
      rw [List.lookup_cons_self] at h
      cases h
      rw [if_neg (by intro z; simp only [Bool.and_eq_true, beq_iff_eq] at z; exact hk z.1)]
      exact List.lookup_cons_self
    · have e1 : (x == n) = false := by simpa using e
      have h' : r.lookup x = some k := by rw [List.lookup_cons, e1] at h; exact h
      have ih := relN_lookup (outer := outer) hk h'
      unfold relN at ih
      split <;> (rw [List.lookup_cons, e1]; exact ih)
section
variable {X : Cx} {N : List Str} {raw nm : Nms} {k : Nat}
theorem Cn.blk (c : Cn X N raw nm k) (s : Shared) (H : Hp) (scope : Scope) (C : Addr) (cl : List (Str × Addr)) (fp : List Addr) (hk : scope.kind = .function) : Cn (X.blk s H scope (compEnvC scope cl C X.env) fp) N scope.names (relN nm scope.names) k where
  calm := c.calm
  eN := c.eN
  nd := c.nd
  nm := by
    show (relabel scope X.env).names = _
    unfold relabel relN
    simp only [c.kind, Env.kindOf, c.nm]
    first | rfl | (apply List.map_congr_left; intro p hp; obtain ⟨a, b⟩ := p; simp)
  kind := hk
  room := c.room
  xe := PassesOwn.never
  st := fun x h => by
    have hn : (relabel scope X.env).names = relN nm scope.names := by
      unfold relabel relN
      simp only [c.kind, Env.kindOf, c.nm]
      first | rfl | (apply List.map_congr_left; intro p hp; obtain ⟨a, b⟩ := p; simp)
    rcases h with h | h
    · have := relN_lookup (outer := nm) (by decide) h
      exact ⟨.inl (by show (relabel scope X.env).names.lookup x = _; rw [hn]; exact this), .inr (by show (relabel scope X.env).names.lookup x = _; rw [hn]; exact this)⟩
    · have := relN_lookup (outer := nm) (by decide) h
      exact ⟨.inr (by show (relabel scope X.env).names.lookup x = _; rw [hn]; exact this), .inl (by show (scope.names.lookup x == some NameKind.cell) = true; rw [h]; rfl)⟩
def varC (N : List Str) (nm : Nms) (i : Nat) (x : Str) : Bool := decide (N[i]? = some x) && (match nm.lookup x with | some .local => true | some .cell => true | some .free => true | _ => false) && decide ((x == ("__debug__" : Str)) = false) && decide ((x == ("__classdict__" : Str)) = false)
theorem Cn.var (c : Cn X N raw nm k) {i : Nat} {x : Str} (h : varC N nm i x = true) (pos : Pos) : PE X (.Name x pos) (tVar i) := by
  unfold varC at h
  simp only [Bool.and_eq_true, decide_eq_true_eq] at h
  obtain ⟨⟨⟨h1, h2⟩, h3⟩, h4⟩ := h
  refine pe_var (by rw [c.eN]; exact h1) ?_ h3 h4
  unfold Vis
  rw [c.nm]
  split at h2 <;> first | exact .inl (by assumption) | exact .inr (.inl (by assumption)) | exact .inr (.inr (by assumption)) | cases h2
def stoC (N : List Str) (raw : Nms) (i : Nat) (x : Str) : Bool := decide (N[i]? = some x) && (match raw.lookup x with | some .local => true | some .cell => true | _ => false)
theorem stoC_ok (c : Cn X N raw nm k) {i : Nat} {x : Str} (h : stoC N raw i x = true) : X.N.Nodup ∧ X.N[i]? = some x ∧ Loc X.env.scope x ∧ (X.fn x = true ∨ X.env.scope.names.lookup x = some .local) := by
  unfold stoC at h
  simp only [Bool.and_eq_true, decide_eq_true_eq] at h
  obtain ⟨h1, h2⟩ := h
  have h3 : raw.lookup x = some .local ∨ raw.lookup x = some .cell := by
    split at h2 <;> first | exact .inl (by assumption) | exact .inr (by assumption) | cases h2
  obtain ⟨a, b⟩ := c.st x h3
  exact ⟨by rw [c.eN]; exact c.nd, by rw [c.eN]; exact h1, a, b⟩
theorem Cn.tgt (c : Cn X N raw nm k) {i : Nat} {x : Str} (h : stoC N raw i x = true) (pos : Pos) : PG X (.Name x pos) (tG X.K (.nm i)) := by
  obtain ⟨a1, a2, a3, a4⟩ := stoC_ok c h
  exact vg_nm (pg_name a1 a2 a3 a4)
/-- a built-in's name -/
structure Bi (X : Cx) (x : Str) (v : Value) : Prop where
  gl : Gl X x
  mg : X.mg x = none
  boot : bootBuiltins x = some v
  ne : x ≠ "__name__"
  db : (x == ("__debug__" : Str)) = false
/-- the module's names -/
structure GF (mg : Str → Option Value) (free : List Str) (nts : List (Str × Int)) : Prop where
  free : ∀ x ∈ free, mg x = none
  nts : ∀ p ∈ nts, ∃ t, mg p.1 = some (.int p.2 t)
def biC (nm : Nms) (free : List Str) (x : Str) (v : Value) : Bool := decide (nm.lookup x = some .globalImplicit) && decide (x ∈ free) && decide (bootBuiltins x = some v) && decide (x ≠ "__name__") && decide ((x == ("__debug__" : Str)) = false)
theorem Cn.bi (c : Cn X N raw nm k) {free : List Str} {nts : List (Str × Int)} (g : GF X.mg free nts) {x : Str} {v : Value} (h : biC nm free x v = true) : Bi X x v := by
  unfold biC at h
  simp only [Bool.and_eq_true, decide_eq_true_eq] at h
  obtain ⟨⟨⟨⟨h1, h2⟩, h3⟩, h4⟩, h5⟩ := h
  exact ⟨by show X.env.scope.names.lookup x = _; rw [c.nm]; exact h1, g.free x h2, h3, h4, h5⟩
def inC (nm : Nms) (nts : List (Str × Int)) (x : Str) (i : Int) : Bool := decide (nm.lookup x = some .globalImplicit) && decide ((x, i) ∈ nts) && decide ((x == ("__debug__" : Str)) = false)
theorem Cn.int (c : Cn X N raw nm k) {free : List Str} {nts : List (Str × Int)} (g : GF X.mg free nts) {x : Str} {i : Int} (h : inC nm nts x i = true) (pos : Pos) : VE X (.Name x pos) (dC (.int i)) := by
  unfold inC at h
  simp only [Bool.and_eq_true, decide_eq_true_eq] at h
  obtain ⟨⟨h1, h2⟩, h5⟩ := h
  obtain ⟨t, e⟩ := g.nts (x, i) h2
  exact ve_c (pe_glob (v := .int i) (by show X.env.scope.names.lookup x = _; rw [c.nm]; exact h1) e ⟨t, rfl⟩ h5) fun F H => .int i
/-- a def of the module -/
def Fav (P : Program) (w : World) (K : PySem.W.Frag) (mg : Str → Option Value) (base : Heap) (k : Nat) (x : Str) (n : Nat) (ms : List Bool) (sem : Sem) : Prop :=
  ∃ (f : Addr) (fd : FuncData) (ps : List Str), FnOk P w K mg base CX0 k f fd ps (spOf K n ms sem) ∧ mg x = some (.ref f) ∧ PySem.W.keepIn K (.ref f) = true ∧ Binds K fd ps []
abbrev FavX (X : Cx) (k : Nat) (x : Str) (n : Nat) (ms : List Bool) (sem : Sem) : Prop := Fav X.prog X.w X.K X.mg X.base k x n ms sem
def fvC (nm : Nms) (x : Str) : Bool := decide (nm.lookup x = some .globalImplicit) && decide ((x == ("__debug__" : Str)) = false)
theorem Cn.call (c : Cn X N raw nm k) {j n : Nat} {x : Str} {ms : List Bool} {sem : Sem} {e : Expr} {es : List Expr} {as : List Arg} {p pos : Pos} (G : FavX X j x n ms sem) (hj : j ≤ k) (h : fvC nm x = true) (hs : (e :: es).all notStar = true) (hk : mskOk as ms) (nd : (slotsB as).Nodup) (hn : as.length = n) (ha : VC X (e :: es) as) :
    VE X (.Call (.Name x p) (e :: es) [] pos) (dCall sem as) := by
  unfold fvC at h
  simp only [Bool.and_eq_true, decide_eq_true_eq] at h
  obtain ⟨f, fd, ps, F, hm, kp, hb⟩ := G
  exact ve_call F (c.room.mono hj) (by show X.env.scope.names.lookup x = _; rw [c.nm]; exact h.1) hm kp hb h.2 hs hk nd hn ha
theorem Cn.hu (c : Cn X N raw nm k) : X.A.units + 100 < cLine := by have := c.room.un; omega
theorem Cn.hu1 (c : Cn X N raw nm k) : X.A.units + 1 < cLine := by have := c.room.un; omega
theorem Cn.hu0 (c : Cn X N raw nm k) : X.A.units < cLine := by have := c.room.un; omega
theorem Cn.hu64 (c : Cn X N raw nm k) : X.A.units + 64 < cLine := by have := c.room.un; omega
theorem Cn.hu65 (c : Cn X N raw nm k) : X.A.units + 65 < cLine := by have := c.room.un; omega
end
section
variable {X : Cx} {N : List Str} {raw nm : Nms} {k : Nat} {a b c' e elt tg iter : Expr} {es ifs : List Expr} {da db dc de : Den} {tt : DenT} {src : DenI} {t : Tgt} {own : List (Str × Nat)} {scope : Scope} {refs : List Nat} {p pos spos py : Pos} {as : List Arg} {x : Str} {T : String}
theorem Bi.app {f : List PV → Option PV} (B : Bi X x (.builtin T)) (hc : CallR X (.builtin T) (rL X.K f)) (hs : (e :: es).all notStar = true) (h : VAB X (e :: es) (bArgs as)) : VE X (.Call (.Name x p) (e :: es) [] pos) (dApp f as) := ve_app hc B.gl B.mg B.boot B.ne B.db hs h
theorem Bi.appTy {f : List PV → Option PV} (B : Bi X x (.type T)) (hc : CallR X (.type T) (rL X.K f)) (hs : (e :: es).all notStar = true) (h : VAB X (e :: es) (bArgs as)) : VE X (.Call (.Name x p) (e :: es) [] pos) (dApp f as) := ve_appTy hc B.gl B.mg B.boot B.ne B.db hs h
theorem Bi.isi {ar : Arg} {ty : TyN} {pos' : Pos} (B : Bi X "isinstance" (.builtin "isinstance")) (B2 : Bi X x (.type ty.name)) (hs : notStar e = true) (ho : VArg X e ar) : VE X (.Call (.Name "isinstance" p) [e, .Name x pos'] [] pos) (dIsI ty ar) := ve_isi B.gl B.mg B2.gl B2.mg B2.boot B2.ne B2.db hs ho
theorem Bi.range1 (B : Bi X "range" (.type "range")) (hs : notStar a = true) (ha : VE X a da) : VI X tg (.Call (.Name "range" p) [a] [] pos) (iRange [da]) := vi_range1 B.gl B.mg hs ha
theorem Bi.range2 (B : Bi X "range" (.type "range")) (hs : notStar a = true) (hs2 : notStar b = true) (ha : VE X a da) (hb : VE X b db) : VI X tg (.Call (.Name "range" p) [a, b] [] pos) (iRange [da, db]) := vi_range2 B.gl B.mg hs hs2 ha hb
theorem Bi.prg1 (B : Bi X "range" (.type "range")) (hs : notStar a = true) (ha : VE X a da) : PRg X (.Call (.Name "range" p) [a] [] pos) (tRgE X.K [da]) := prg_one B.gl B.mg hs ha
theorem Bi.prg2 (B : Bi X "range" (.type "range")) (hs : notStar a = true) (hs2 : notStar b = true) (ha : VE X a da) (hb : VE X b db) : PRg X (.Call (.Name "range" p) [a, b] [] pos) (tRgE X.K [da, db]) := prg_two B.gl B.mg hs hs2 ha hb
theorem Bi.zip {elts : List Expr} {kk : Nat} {tpos : Pos} (B : Bi X "zip" (.type "zip")) (hs : notStar a = true) (hs2 : notStar b = true) (ha : VE X a da) (hb : VE X b db) : VI X (.Tuple elts kk tpos) (.Call (.Name "zip" p) [a, b] [] pos) (iZip2 da db) := vi_zip B.gl B.mg hs hs2 ha hb
theorem Bi.listRg {as : List Den} (B : Bi X "list" (.type "list")) (hc : X.calm = true) (hs : notStar e = true) (h : PRg X e (tRgE X.K as)) : VF X (.Call (.Name "list" p) [e] [] pos) (dListRg as) := vf_listRg hc B.gl B.mg hs h
theorem Bi.tupRg {as : List Den} (B : Bi X "tuple" (.type "tuple")) (hc : X.calm = true) (hs : notStar e = true) (h : PRg X e (tRgE X.K as)) : VE X (.Call (.Name "tuple" p) [e] [] pos) (dTupRg as) := ve_tupRg hc B.gl B.mg hs h

def asBl (v : PV) : Option Bool := match v with | .bl b => some b | _ => none
def dB (d : Den) : DenT := fun e => (d e).bind fun p => (asBl p.1).map fun z => (z, p.2)
theorem vt_val (he : ∀ whole, isTrue e X.env whole = (do let v ← whole; standAt e.pos; holding [v] (truthy v))) (h : VE X e da) : VT X e (dB da) :=
  pt_imp (pt_val h he) fun σ H Q sz ⟨F, env, r, env', R, hd, q⟩ => by
    unfold dB at hd
    obtain ⟨⟨p, e1⟩, h1, hd⟩ := Option.bind_eq_some_iff.mp hd
    obtain ⟨z, h3, hz⟩ := Option.map_eq_some_iff.mp hd
    cases hz
    refine ⟨F, env, p, _, R, h1, fun x F1 H1 R1 M1 r1 => ?_⟩
    unfold asBl at h3
    dsimp only at h3
    split at h3
    · cases h3
      cases r1
      exact ⟨_, rfl, fun _ => q F1 H1 R1 M1⟩
    · cases h3
theorem vt_cmp {op : CmpOp} {f : PV → PV → Option PV} (ho : OpR X (compareOp op) (rB X.K f)) (hm : behindInMarks op b = false) (ha : VE X a da) (hb : VE X b db) : VT X (.Compare a [op] [b] pos) (dB (dBin f da db)) :=
  pt_imp (pt_cmpR (opr_sz ho) ha hb hm) fun σ H Q sz ⟨F, env, r, env', R, hd, q⟩ => by
    unfold dB dBin at hd
    obtain ⟨⟨z, e0⟩, h0, hd⟩ := Option.bind_eq_some_iff.mp hd
    obtain ⟨⟨p, e1⟩, h1, h0⟩ := Option.bind_eq_some_iff.mp h0
    obtain ⟨⟨q', e2⟩, h2, h0⟩ := Option.bind_eq_some_iff.mp h0
    obtain ⟨z', h3, hz⟩ := Option.map_eq_some_iff.mp h0
    cases hz
    obtain ⟨b', h4, hz⟩ := Option.map_eq_some_iff.mp hd
    cases hz
    refine ⟨F, env, p, e1, R, h1, fun x F1 H1 R1 M1 r1 => ⟨F1, e1, q', _, R1, h2, fun y F2 H2 R2 M2 r2 => ⟨F2, p, q', _, R2.fz, R2.sz, .rep (r1.ex (M2.ex R1)), .rep r2, h3, fun v F3 H3 N r3 s3 => ?_⟩⟩⟩
    unfold asBl at h4
    dsimp only at h4
    split at h4
    · cases h4
      cases r3
      exact ⟨_, rfl, fun _ => q F3 H3 (N.rel R2 s3) ((M1.trans M2).trans N.mv)⟩
    · cases h4
theorem vt_cmpR {op : CmpOp} {f : PV → PV → Option PV} {i : Nat} (ho : OpR X (compareOp op) (rB X.K f)) (hm : behindInMarks op b = false) (ha : VE X a da) (hb : PE X b (tVar i)) : VT X (.Compare a [op] [b] pos) (dB (dBinR f da i)) :=
  pt_imp (pt_cmpR (opr_sz ho) ha hb hm) fun σ H Q sz ⟨F, env, r, env', R, hd, q⟩ => by
    unfold dB dBinR at hd
    obtain ⟨⟨z, e0⟩, h0, hd⟩ := Option.bind_eq_some_iff.mp hd
    obtain ⟨⟨p, e1⟩, h1, h0⟩ := Option.bind_eq_some_iff.mp h0
    obtain ⟨y, h2, h0⟩ := Option.bind_eq_some_iff.mp h0
    obtain ⟨z', h3, hz⟩ := Option.map_eq_some_iff.mp h0
    cases hz
    obtain ⟨b', h4, hz⟩ := Option.map_eq_some_iff.mp hd
    cases hz
    refine ⟨F, env, p, _, R, h1, fun x F1 H1 R1 M1 r1 => ?_⟩
    obtain ⟨x', sx', r'⟩ := slotv_rep R1 h2
    refine ⟨x', sx', F1, p, y, _, R1.fz, R1.sz, .rep r1, r', h3, fun v F3 H3 N r3 s3 => ?_⟩
    unfold asBl at h4
    dsimp only at h4
    split at h4
    · cases h4
      cases r3
      exact ⟨_, rfl, fun _ => q F3 H3 (N.rel R1 s3) (M1.trans N.mv)⟩
    · cases h4
theorem chain_imp {f g : PV → PV → Option PV} {σ : L2.St} {H : Hp} {Q : VK} (h : tE X.K (dChain f g da db dc) σ H Q) :
    tChain (fun x y H Q => rB X.K f x y H fun v H' => Sized H' → Q v H') (fun x y H Q => rB X.K g x y H fun v H' => Sized H' → Q v H') (tE X.K da) (tE X.K db) (tE X.K dc) σ H Q := by
  obtain ⟨F, env, r, env', R, hd, q⟩ := h
  unfold dChain at hd
  obtain ⟨⟨p, e1⟩, h1, hd⟩ := Option.bind_eq_some_iff.mp hd
  obtain ⟨⟨p2, e2⟩, h2, hd⟩ := Option.bind_eq_some_iff.mp hd
  obtain ⟨z, h3, hd⟩ := Option.bind_eq_some_iff.mp hd
  refine ⟨F, env, p, e1, R, h1, fun x F1 H1 R1 M1 r1 => ⟨F1, e1, p2, e2, R1, h2, fun y F2 H2 R2 M2 r2 => ⟨F2, p, p2, z, R2.fz, R2.sz, .rep (r1.ex (M2.ex R1)), .rep r2, h3, fun v F3 H3 N r3 s3 => ?_⟩⟩⟩
  cases z <;> simp only at hd <;> try cases hd
  rename_i k
  cases r3
  cases k with
  | false =>
    cases hd
    exact ⟨false, rfl, by
      rw [if_neg Bool.false_ne_true]
      exact q _ F3 H3 (N.rel R2 s3) ((M1.trans M2).trans N.mv) (.bl _)⟩
  | true =>
    refine ⟨true, rfl, ?_⟩
    rw [if_pos rfl]
    obtain ⟨⟨p3, e3⟩, h4, hd⟩ := Option.bind_eq_some_iff.mp hd
    obtain ⟨y', h5, hz⟩ := Option.map_eq_some_iff.mp hd
    cases hz
    have R3 := N.rel R2 s3
    refine ⟨F3, e2, p3, e3, R3, h4, fun w F4 H4 R4 M4 r4 => ⟨F4, p2, p3, r, R4.fz, R4.sz, .rep (r2.ex (Ex.trans N.ex (M4.ex R3))), .rep r4, h5, fun v F5 H5 N5 r5 s5 => ?_⟩⟩
    exact q v F5 H5 (N5.rel R4 s5) (((M1.trans M2).trans N.mv).trans (M4.trans N5.mv)) r5
theorem vt_chain {op op' : CmpOp} {f g : PV → PV → Option PV} (ho : OpR X (compareOp op) (rB X.K f)) (ho' : OpR X (compareOp op') (rB X.K g)) (ha : VE X a da) (hb : VE X b db) (hc : VE X c' dc) (hm : lastMarks [op, op'] [b, c'] = false) :
    VT X (.Compare a [op, op'] [b, c'] pos) (dB (dChain f g da db dc)) :=
  pt_imp (pt_chain (opr_sz ho) (opr_sz ho') ha hb hc hm) fun σ H Q sz ⟨F, env, r, env', R, hd, q⟩ => by
    unfold dB at hd
    obtain ⟨⟨z, e0⟩, h0, hd⟩ := Option.bind_eq_some_iff.mp hd
    obtain ⟨b', h4, hz⟩ := Option.map_eq_some_iff.mp hd
    cases hz
    refine chain_imp ⟨F, env, z, _, R, h0, fun v F1 H1 R1 M1 r1 => ?_⟩
    unfold asBl at h4
    dsimp only at h4
    split at h4
    · cases h4
      cases r1
      exact ⟨_, rfl, fun _ => q F1 H1 R1 M1⟩
    · cases h4
/-- comprehensions -/
theorem Cn.lc (c : Cn X N raw nm k) (it : VI X tg iter src) (hok : blkC N { kind := .function, names := nm, isGenerator := false, isCoroutine := false } scope own = true) (hk : scope.kind = .function) (sub : (t.slots.all fun i => decide (i ∈ own.map (·.2))) = true) (fs : ∀ x, foldedSetIterable iter X.env x = pure x)
    (bd : ∀ (s : Shared) (H : Hp) (C : Addr) (cl : List (Str × Addr)) (fp : List Addr), Cn (X.blk s H scope (compEnvC scope cl C X.env) fp) N scope.names (relN nm scope.names) k →
      PG (X.blk s H scope (compEnvC scope cl C X.env) fp) tg (tG X.K t) ∧ PTs (X.blk s H scope (compEnvC scope cl C X.env) fp) ifs (tT X.K tt) ∧ PE (X.blk s H scope (compEnvC scope cl C X.env) fp) elt (tE X.K de)) : LcOk X elt tg iter ifs scope own src t tt de where
  it := it
  ok := by
    have := blkOk_by hok
    exact ⟨this.kind, this.uniq, by rw [c.eN]; exact this.ix, fun y hy e => by rw [c.nm]; exact this.free y hy e, by rw [c.eN]; exact this.own⟩
  tg := fun s H C cl fp => (bd s H C cl fp (c.blk s H scope C cl fp hk)).1
  ts := fun s H C cl fp => (bd s H C cl fp (c.blk s H scope C cl fp hk)).2.1
  el := fun s H C cl fp => (bd s H C cl fp (c.blk s H scope C cl fp hk)).2.2
  sub := fun i hi => by simpa using List.all_eq_true.mp sub i hi
  fs := fs
theorem Cn.vf (c : Cn X N raw nm k) (l : LcOk X elt tg iter ifs scope own src t tt de) : VF X (.ListComp elt [⟨tg, iter, ifs, 0⟩] scope pos) (dLC src (own.map (·.2)) t tt de) := vf_lc c.calm (by rw [c.eN]; exact c.nd) l
def swC (nm : Nms) (scope : Scope) (y : Str) (l1 l2 : Nat) : Bool := nm.lookup y == some .local && l1 == l2 && !(scope.names.any fun p => p.1 == y && (p.2 == .local || p.2 == .cell))
theorem Cn.bk (c : Cn X N raw nm k) : X.env.blockKind = .function := by unfold Env.blockKind; rw [c.kind]; rfl
theorem Cn.sw (c : Cn X N raw nm k) {gens : List Comprehension} {y : Str} {line : Nat} : swapsWith (.ListComp elt gens scope pos) (some (.Name y py)) line X.env = pure (swC nm scope y py.line pos.line) := by
  show (pure _ : PySem.Sem Bool) = _
  congr 1
  unfold swC
  rw [c.bk]
  show (ScopeKind.function == ScopeKind.function && X.env.scope.names.lookup y == _ && _ && _) = _
  rw [c.nm]
  rfl
theorem Cn.ownLc (c : Cn X N raw nm k) {i : Nat} {y : Str} (hr : (refs.all fun j => j != i) = true) (hs : stoC N raw i y = true) (hl : decide (nm.lookup y = some .local) = true) (hw : swC nm scope y py.line pos.line = true) (l : LcOk X elt tg iter ifs scope own src t tt de) :
    VS X refs (.Assign [.Name y py] (.ListComp elt [⟨tg, iter, ifs, 0⟩] scope pos) spos) (sOwn i (dLC src (own.map (·.2)) t tt de)) := by
  obtain ⟨a1, a2, a3, a4⟩ := stoC_ok c hs
  refine vs_ownLc (fun h => ?_) c.calm a1 a2 (by rw [c.nm]; simpa using hl) (by rw [c.sw, hw]) l
  have := List.all_eq_true.mp hr i h
  simp at this
theorem Cn.ownLc0 (c : Cn X N raw nm k) {i : Nat} {y : Str} (hr : (refs.all fun j => j != i) = true) (hs : stoC N raw i y = true) (hw : swC nm scope y py.line pos.line = false) (l : LcOk X elt tg iter ifs scope own src t tt de) :
    VS X refs (.Assign [.Name y py] (.ListComp elt [⟨tg, iter, ifs, 0⟩] scope pos) spos) (sOwn i (dLC src (own.map (·.2)) t tt de)) := by
  obtain ⟨a1, a2, a3, a4⟩ := stoC_ok c hs
  refine vs_own (fun h => ?_) a1 a2 a3 (c.vf l) (by rw [c.sw, hw]) a4
  have := List.all_eq_true.mp hr i h
  simp at this
theorem Cn.set (c : Cn X N raw nm k) {i : Nat} {y : Str} (hr : (refs.all fun j => j != i) = true) (hs : stoC N raw i y = true) (he : VE X e de) (hw : swapsWith e (some (.Name y py)) pos.line X.env = pure false) : VS X refs (.Assign [.Name y py] e pos) (sAsg (.nm i) de) := by
  obtain ⟨a1, a2, a3, a4⟩ := stoC_ok c hs
  refine vs_set (fun h => ?_) a1 a2 a3 he hw a4
  have := List.all_eq_true.mp hr i h
  simp at this
theorem Cn.ownF (c : Cn X N raw nm k) {i : Nat} {y : Str} (hr : (refs.all fun j => j != i) = true) (hs : stoC N raw i y = true) (he : VF X e de) (hw : swapsWith e (some (.Name y py)) pos.line X.env = pure false) : VS X refs (.Assign [.Name y py] e pos) (sOwn i de) := by
  obtain ⟨a1, a2, a3, a4⟩ := stoC_ok c hs
  refine vs_own (fun h => ?_) a1 a2 a3 he hw a4
  have := List.all_eq_true.mp hr i h
  simp at this
theorem refs_tgt (h : (refs.all fun j => decide (j ∉ t.slots)) = true) : ∀ i ∈ refs, i ∉ t.slots := fun i hi => by simpa using List.all_eq_true.mp h i hi
/-- a slot as a value that keeps it a container of one's own: frozen where it is read otherwise -/
theorem pe_iv {i : Int} {j : Nat} : VE X (.Constant (.int i) j pos) (dC (.int i)) := ve_c pe_int fun _ _ => .int i
theorem pe_bv {b : Bool} {j : Nat} : VE X (.Constant (.bool b) j pos) (dC (.bl b)) := ve_c pe_bl fun _ _ => .bl b
theorem pe_nv {j : Nat} : VE X (.Constant .none j pos) (dC .non) := ve_c pe_non fun _ _ => .non
theorem pe_sv {x : Str} {j : Nat} : VE X (.Constant (.str x) j pos) (dC (.str x)) := ve_c pe_str fun _ _ => .str x
end
end PP

/-! PP, part p: defs of the module, one that makes a list of its own. -/
namespace PP
open PySem PySem.Spec PyProof.Rows L2

section
variable {P : Program} {w : World} {K : PySem.W.Frag} {mg : Str → Option Value} {base : Heap} {x qual : Str} {params : Arguments} {body : List Stmt} {scope : Scope} {f : Addr} {fd : FuncData} {N ps : List Str} {k m : Nat}
theorem cn_body {cdv : Value} {A : Around} {outer : List Env} {s : Shared} {H : Hp} {E : XK} (S : FnScope N ps scope) (hr : Room k (A.deeper (envOfC qual scope s.heap.objs.size f cdv))) :
    Cn (cxOf CX0 P w K mg base N qual scope f cdv A outer s H E).nox N scope.names scope.names k where
  calm := rfl
  eN := rfl
  nd := S.nd
  nm := rfl
  kind := S.kind
  room := hr
  xe := PassesOwn.never
  st := fun x h => ⟨h, .inl rfl⟩
theorem fav_of {ms : List Bool} {refs : List Nat} {d : DenS} (Fn : FunD K x qual params body scope [] [] f fd) (hm : mg x = some (.ref f)) (S : FnScope N ps scope) (hl : N.length - ps.length = m) (hr : (ms.zipIdx.all fun p => !p.1 || decide (p.2 ∈ refs)) = true)
    (hb : ∀ (kV doc pm : Value) (an : Option Addr) (cdv ct : Value) (us : List Value), us.length = ps.length → bindArgs (PySem.W.fnOf x qual params body scope .none kV doc pm an cdv ct) ⟨us, []⟩ = pure (ps.zip us))
    (h : ∀ (cdv : Value) (A : Around) (outer : List Env) (s : Shared) (H : Hp) (E : XK), Cn (cxOf CX0 P w K mg base N qual scope f cdv A outer s H E).nox N scope.names scope.names k → VSs (cxOf CX0 P w K mg base N qual scope f cdv A outer s H E).nox refs body d) :
    Fav P w K mg base (k + 1) x ps.length ms (runF ms m d) := by
  refine ⟨f, fd, ps, fn_ok Fn S hl (fun i hi => ?_) fun cdv A outer s H E hroom => h cdv A outer s H E (cn_body S hroom), hm, Fn.kp, Fn.bindsN hb⟩
  have hlt : i < ms.length := by
    by_cases hlt : i < ms.length
    · exact hlt
    · rw [List.getD_eq_getElem?_getD, List.getElem?_eq_none (by omega)] at hi; cases hi
  have := List.all_eq_true.mp hr (ms[i], i) (by rw [List.mem_zipIdx_iff_getElem?]; exact List.getElem?_eq_getElem hlt)
  rw [List.getD_eq_getElem?_getD, List.getElem?_eq_getElem hlt] at hi
  simp only [Option.getD_some] at hi
  rw [hi] at this
  simpa using this

/-! ### a def whose one statement returns a new container -/
abbrev FSemN := List PV → Option PV
def spF (K : PySem.W.Frag) (n : Nat) (sem : FSemN) : Sp := fun vs H Q _ => ∃ F ps r, vs.length = n ∧ Rel K F H (argE [] ps) (vs.map some) ∧ sem ps = some r ∧
  ∀ (a : Addr) (F' : Addr → Prop) (H' : Hp), Nw F H F' H' → Sized H' → ¬ F' a → H a = none → OwnAt K F' H' a r → Q (.ref a) H'
def runFN (m : Nat) (d : Den) : FSemN := fun ps => (d (argE [] ps ++ List.replicate m .no)).map (·.1)
def FavN (P : Program) (w : World) (K : PySem.W.Frag) (mg : Str → Option Value) (base : Heap) (k : Nat) (x : Str) (n : Nat) (sem : FSemN) : Prop :=
  ∃ (f : Addr) (fd : FuncData) (ps : List Str), FnOk P w K mg base CX0 k f fd ps (spF K n sem) ∧ mg x = some (.ref f) ∧ PySem.W.keepIn K (.ref f) = true ∧ Binds K fd ps []
theorem favN_of {e : Expr} {pos : Pos} {d : Den} (Fn : FunD K x qual params [.Return (some e) pos] scope [] [] f fd) (hm : mg x = some (.ref f)) (S : FnScope N ps scope) (hl : N.length - ps.length = m)
    (hb : ∀ (kV doc pm : Value) (an : Option Addr) (cdv ct : Value) (us : List Value), us.length = ps.length → bindArgs (PySem.W.fnOf x qual params [.Return (some e) pos] scope .none kV doc pm an cdv ct) ⟨us, []⟩ = pure (ps.zip us))
    (h : ∀ (cdv : Value) (A : Around) (outer : List Env) (s : Shared) (H : Hp) (E : XK), Cn (cxOf CX0 P w K mg base N qual scope f cdv A outer s H E).nox N scope.names scope.names k → VF (cxOf CX0 P w K mg base N qual scope f cdv A outer s H E).nox e d) :
    FavN P w K mg base (k + 1) x ps.length (runFN m d) := by
  refine ⟨f, fd, ps, Fn.ok S (fun vs H Q E ⟨_, _, _, h, _⟩ => h) (fun cdv A outer s H vs Q E hroom hsp => ?_), hm, Fn.kp, Fn.bindsN hb⟩
  obtain ⟨F, us, r, hvl, R, hs, q⟩ := hsp
  refine ⟨_, PSs.nox (pss_one (ps_ret (h cdv A outer s H E (cn_body S hroom)))), ?_⟩
  unfold runFN at hs
  obtain ⟨⟨r', e'⟩, h1, h2⟩ := Option.map_eq_some_iff.mp hs
  cases h2
  unfold L2.start
  rw [hvl, hl]
  have no : ∀ a, ¬ Own (argE [] us ++ List.replicate m SlP.no) (vs.map some ++ List.replicate m none) a := fun a o => by
    obtain ⟨i, v, e1, _⟩ := own_pad R.len o
    have := (argE_own e1).1
    simp at this
  refine ⟨F, _, r', e', R.pad m, h1, fun a F' H' R' M nF nO hn O => ?_⟩
  exact q a F' H' ⟨M.sub, fun b o hb => M.frame b o hb (no b), fun b fb => by
    rcases M.fnew b fb with z | z | z
    · exact .inl z
    · exact absurd z (no b)
    · exact .inr z, R'.fz⟩ R'.sz nF hn O
end
def dCallN (sem : FSemN) (ds : List Den) : Den := fun e => (dArgs ds e).bind fun p => (sem p.1).map fun r => (r, p.2)
section
variable {X : Cx} {N : List Str} {raw nm : Nms} {k : Nat}
theorem repL_at {K : PySem.W.Frag} {F : Addr → Prop} {H : Hp} {vs : List V} {ps : List PV} (r : RepL K F H vs ps) {env : PEn} {σ : L2.St} (R : Rel K F H env σ) : Rel K F H (argE [] ps) (vs.map some) where
  len := by rw [argE_len, ← r.length]; simp
  val := fun i v e => by
    obtain ⟨_, h⟩ := argE_val e
    obtain ⟨x, hx, rx⟩ := r.get h
    exact ⟨x, by rw [List.getElem?_map, hx]; rfl, rx⟩
  own := fun i v e => by have := (argE_own e).1; simp at this
  apart := fun i j v w a e1 _ _ _ => by have := (argE_own e1).1; simp at this
  fz := R.fz
  sz := R.sz
theorem Cn.callN (c : Cn X N raw nm k) {j n : Nat} {x : Str} {sem : FSemN} {e : Expr} {es : List Expr} {ds : List Den} {p pos : Pos} (G : FavN X.prog X.w X.K X.mg X.base j x n sem) (hj : j ≤ k) (h : fvC nm x = true) (hs : (e :: es).all notStar = true) (hn : ds.length = n) (ha : VA X (e :: es) (dArgs ds)) :
    VF X (.Call (.Name x p) (e :: es) [] pos) (dCallN sem ds) := by
  unfold fvC at h
  simp only [Bool.and_eq_true, decide_eq_true_eq] at h
  obtain ⟨f, fd, ps, F, hm, kp, hb⟩ := G
  refine pe_imp (pe_call F (c.room.mono hj) (by show X.env.scope.names.lookup x = _; rw [c.nm]; exact h.1) hm kp hb .nil pass0 ha h.2 (starEach_cons (List.all_eq_true.mp hs _ List.mem_cons_self)) (star_plain (by simp only [List.all_cons, Bool.and_eq_true] at hs; exact hs.2) pos)) fun σ H Q sz ⟨F, env, r, env', R, hd, q⟩ => ?_
  unfold dCallN at hd
  obtain ⟨⟨ps, e1⟩, h1, hd⟩ := Option.bind_eq_some_iff.mp hd
  obtain ⟨z, h2, hz⟩ := Option.map_eq_some_iff.mp hd
  cases hz
  refine ⟨F, env, ps, _, R, h1, fun xs F1 H1 R1 M1 r1 => ?_⟩
  show spF X.K n sem (xs ++ []) H1 _ E0
  rw [List.append_nil]
  refine ⟨F1, ps, _, by rw [r1.length, dArgs_len h1]; exact hn, repL_at r1 R1, h2, fun a F' H' Nn sz' nF hn' O _ => ?_⟩
  have R2 := Nn.rel R1 sz'
  refine q a F' H' R2 (M1.trans Nn.mv) nF (fun o => ?_) (M1.back hn') O
  obtain ⟨v, Ov⟩ := R1.ownAt o
  obtain ⟨u, hu, _⟩ := Ov.some
  rw [hn'] at hu; cases hu
end
end PP

/-! PP, part q: the law itself. -/
namespace PP
open PySem PySem.Spec PyProof.Rows L2

/-- a promise over heaps of small lists -/
def spZ (K : PySem.W.Frag) (n : Nat) (ms : List Bool) (sem : Sem) : Sp := fun vs H Q E => vs.length = n ∧ (Sized H → spOf K n ms sem vs H Q E)
def tZ (t : TS) : TS := fun D σ H => Sized H → t D σ H
theorem fnZ_ok {P : Program} {w : World} {K : PySem.W.Frag} {mg : Str → Option Value} {base : Heap} {x qual : Str} {params : Arguments} {body : List Stmt} {scope : Scope} {f : Addr} {fd : FuncData} {N ps : List Str} {k m : Nat} {ms : List Bool} {refs : List Nat} {d : DenS}
    (Fn : FunD K x qual params body scope [] [] f fd) (S : FnScope N ps scope) (hm : N.length - ps.length = m) (hr : (ms.zipIdx.all fun p => !p.1 || decide (p.2 ∈ refs)) = true)
    (hb : ∀ (cdv : Value) (A : Around) (outer : List Env) (s : Shared) (H : Hp) (E : XK), Room k (A.deeper (envOfC qual scope s.heap.objs.size f cdv)) → VSs (cxOf CX0 P w K mg base N qual scope f cdv A outer s H E).nox refs body d) :
    FnOk P w K mg base CX0 (k + 1) f fd ps (spZ K ps.length ms (runF ms m d)) :=
  Fn.ok S (fun vs H Q E ⟨h, _⟩ => h) fun cdv A outer s H vs Q E hroom ⟨_, h⟩ => ⟨tZ (tS K refs d), PSs.nox (pss_imp (hb cdv A outer s H E hroom) fun D σ H sz ht => by
    obtain ⟨F, env, fl, R, hd, q⟩ := ht sz
    exact ⟨F, env, fl, R, hd, q.sz⟩), fun sz => fn_body hm (fun i hi => by
    have hlt : i < ms.length := by
      by_cases hlt : i < ms.length
      · exact hlt
      · rw [List.getD_eq_getElem?_getD, List.getElem?_eq_none (by omega)] at hi; cases hi
    have := List.all_eq_true.mp hr (ms[i], i) (by rw [List.mem_zipIdx_iff_getElem?]; exact List.getElem?_eq_getElem hlt)
    rw [List.getD_eq_getElem?_getD, List.getElem?_eq_getElem hlt] at hi
    simp only [Option.getD_some] at hi
    rw [hi] at this
    simpa using this) (h sz)⟩
theorem law_sp {K : PySem.W.Frag} {H : Hp} {a : Addr} {ns : List Int} {sem : Sem} {E : XK} (hS : SqL K H a (ns.map V.int)) (h : ∃ ws, sem [.lst (ns.map PV.int)] = some (.bl true, ws)) : spZ K 1 [] sem [.ref a] H (fun v _ => v = .bl true) E := by
  obtain ⟨ws, h⟩ := h
  refine ⟨rfl, fun sz => ?_⟩
  refine ⟨fun b => ∃ o, H b = some o, _, _, ws, rfl, ?_, h, fun x F' H' _ _ _ r => by cases r; rfl⟩
  have rp : Rep K (fun b => ∃ o, H b = some o) H (.ref a) (.lst (ns.map PV.int)) := by
    refine .lst ?_ (intsL_rep ns)
    cases e : H a with
    | some o => exact .inl ⟨⟨o, e⟩, hS⟩
    | none =>
      right
      rcases hS with (z | ⟨o, z⟩) | z
      · rw [e] at z; cases z
      · rw [e] at z; cases z
      · exact .inr z
  refine ⟨rfl, fun i v e => ?_, fun i v e => ?_, fun i j v w b e1 _ _ _ => ?_, fun b hb => hb, sz⟩
  · obtain ⟨_, h2⟩ := argE_val e
    cases i with
    | zero => simp at h2; subst h2; exact ⟨_, rfl, rp⟩
    | succ i => simp at h2
  · have := (argE_own e).1; simp at this
  · have := (argE_own e1).1; simp at this
theorem gf_of {K : PySem.W.Frag} {h : Heap} {mg : Str → Option Value} {fa : List He.Fa} {fn : List He.DefD} {free : List Str} {nts : List (Str × Int)} (X : K.In h) (G : h.Ns mainGlobals mg) (c : He.SaysD fa fn K) (h1 : ∀ x ∈ free, He.Fa.free x ∈ fa) (h2 : ∀ p ∈ nts, He.Fa.int p.1 p.2 ∈ fa) : GF mg free nts := by
  refine ⟨fun x hx => ?_, fun p hp => ?_⟩
  · obtain ⟨i, hi⟩ := List.mem_iff_getElem?.mp (h1 x hx)
    exact He.free_ok X G (c.fact i hi)
  · obtain ⟨i, hi⟩ := List.mem_iff_getElem?.mp (h2 p hp)
    exact He.int_ok X G (c.fact i hi)
end PP

/-! PP, part r: evaluation by rewriting, from the left. -/
namespace PP
open L2 (atI ixN)

/-! what goes on behind a part: no lambda is seen -/
section
variable {e e1 e2 : PEn} {a b c : Den} {t u : DenT} {x y : DenS}
def kR (o : Option PV) (e : PEn) : Option (PV × PEn) := o.map fun z => (z, e)
@[simp] theorem kR_s {z : PV} : kR (some z) e = some (z, e) := id rfl
def kSeq (o : Option Fl) (y : DenS) : Option Fl := o.bind fun f => match f with | .nx e1 => y e1 | f => some f
@[simp] theorem kSeq_nx : kSeq (some (.nx e)) y = y e := id rfl
@[simp] theorem kSeq_rt {v : PV} : kSeq (some (.rt v e)) y = some (.rt v e) := id rfl
@[simp] theorem kSeq_bk : kSeq (some (.bk e)) y = some (.bk e) := id rfl
@[simp] theorem sSeq_ev : sSeq x y e = kSeq (x e) y := id rfl
@[simp] theorem sNil_ev : sNil e = some (.nx e) := id rfl
def kRet (o : Option (PV × PEn)) : Option Fl := o.map fun p => .rt p.1 p.2
@[simp] theorem kRet_s {v : PV} : kRet (some (v, e)) = some (.rt v e) := id rfl
@[simp] theorem sRet_ev : sRet a e = kRet (a e) := id rfl
@[simp] theorem sRetN_ev : sRetN e = some (.rt .non e) := id rfl
@[simp] theorem sBreak_ev : sBreak e = some (.bk e) := id rfl
def kDrop (o : Option (PV × PEn)) : Option Fl := o.map fun p => .nx p.2
@[simp] theorem kDrop_s {v : PV} : kDrop (some (v, e)) = some (.nx e) := id rfl
@[simp] theorem sDrop_ev : sDrop a e = kDrop (a e) := id rfl
def kIf (o : Option (Bool × PEn)) (x y : DenS) : Option Fl := o.bind fun p => if p.1 then x p.2 else y p.2
@[simp] theorem kIf_t : kIf (some (true, e)) x y = x e := id rfl
@[simp] theorem kIf_f : kIf (some (false, e)) x y = y e := id rfl
@[simp] theorem sIf_ev : sIf t x y e = kIf (t e) x y := id rfl
def kNx (o : Option PEn) : Option Fl := o.map fun e' => .nx e'
@[simp] theorem kNx_s : kNx (some e) = some (.nx e) := id rfl
def kAsg (g : Tgt) (o : Option (PV × PEn)) : Option Fl := o.bind fun p => (tgtF g p.1 p.2).map fun e' => .nx e'
@[simp] theorem kAsg_s {g : Tgt} {v : PV} : kAsg g (some (v, e)) = kNx (tgtF g v e) := id rfl
@[simp] theorem sAsg_ev {g : Tgt} : sAsg g a e = kAsg g (a e) := id rfl
def kOwn (i : Nat) (o : Option (PV × PEn)) : Option Fl := o.bind fun p => if i < p.2.length then some (.nx (p.2.set i (.own p.1))) else none
@[simp] theorem kOwn_s {i : Nat} {v : PV} : kOwn i (some (v, e)) = if i < e.length then some (.nx (e.set i (.own v))) else none := id rfl
@[simp] theorem sOwn_ev {i : Nat} : sOwn i a e = kOwn i (a e) := id rfl
def kFor (g : Tgt) (x : DenS) (o : Option (List PV × PEn)) : Option Fl := o.bind fun p => forF g x p.1 p.2
@[simp] theorem kFor_s {g : Tgt} {xs : List PV} : kFor g x (some (xs, e)) = forF g x xs e := id rfl
@[simp] theorem sFor_ev {s : DenI} {g : Tgt} : sFor s g x e = kFor g x (s e) := id rfl
@[simp] theorem dC_ev {v : PV} : dC v e = some (v, e) := id rfl
def kUn (f : PV → Option PV) (o : Option (PV × PEn)) : Option (PV × PEn) := o.bind fun p => (f p.1).map fun z => (z, p.2)
@[simp] theorem kUn_s {f : PV → Option PV} {v : PV} : kUn f (some (v, e)) = kR (f v) e := id rfl
@[simp] theorem dUn_ev {f : PV → Option PV} : dUn f a e = kUn f (a e) := id rfl
def kB2 (f : PV → PV → Option PV) (p : PV) (o : Option (PV × PEn)) : Option (PV × PEn) := o.bind fun q => (f p q.1).map fun z => (z, q.2)
@[simp] theorem kB2_s {f : PV → PV → Option PV} {p q : PV} : kB2 f p (some (q, e)) = kR (f p q) e := id rfl
def kB1 (f : PV → PV → Option PV) (b : Den) (o : Option (PV × PEn)) : Option (PV × PEn) := o.bind fun p => (b p.2).bind fun q => (f p.1 q.1).map fun z => (z, q.2)
@[simp] theorem kB1_s {f : PV → PV → Option PV} {p : PV} : kB1 f b (some (p, e)) = kB2 f p (b e) := id rfl
@[simp] theorem dBin_ev {f : PV → PV → Option PV} : dBin f a b e = kB1 f b (a e) := id rfl
def kBR2 (f : PV → PV → Option PV) (p : PV) (o : Option PV) (e : PEn) : Option (PV × PEn) := o.bind fun y => (f p y).map fun z => (z, e)
@[simp] theorem kBR2_s {f : PV → PV → Option PV} {p q : PV} : kBR2 f p (some q) e = kR (f p q) e := id rfl
def kBR (f : PV → PV → Option PV) (i : Nat) (o : Option (PV × PEn)) : Option (PV × PEn) := o.bind fun p => (slotv p.2 i).bind fun y => (f p.1 y).map fun z => (z, p.2)
@[simp] theorem kBR_s {f : PV → PV → Option PV} {i : Nat} {p : PV} : kBR f i (some (p, e)) = kBR2 f p (slotv e i) e := id rfl
@[simp] theorem dBinR_ev {f : PV → PV → Option PV} {i : Nat} : dBinR f a i e = kBR f i (a e) := id rfl
def kBL3 (f : PV → PV → Option PV) (q : PV) (o : Option PV) (e : PEn) : Option (PV × PEn) := o.bind fun x => (f x q).map fun z => (z, e)
@[simp] theorem kBL3_s {f : PV → PV → Option PV} {p q : PV} : kBL3 f q (some p) e = kR (f p q) e := id rfl
def kBL2 (f : PV → PV → Option PV) (i : Nat) (o : Option (PV × PEn)) : Option (PV × PEn) := o.bind fun q => (slotv q.2 i).bind fun x => (f x q.1).map fun z => (z, q.2)
@[simp] theorem kBL2_s {f : PV → PV → Option PV} {i : Nat} {q : PV} : kBL2 f i (some (q, e)) = kBL3 f q (slotv e i) e := id rfl
def kBL (f : PV → PV → Option PV) (i : Nat) (b : Den) (o : Option PV) (e : PEn) : Option (PV × PEn) := o.bind fun _ => (b e).bind fun q => (slotv q.2 i).bind fun x => (f x q.1).map fun z => (z, q.2)
@[simp] theorem kBL_s {f : PV → PV → Option PV} {i : Nat} {q : PV} : kBL f i b (some q) e = kBL2 f i (b e) := id rfl
@[simp] theorem dBinL_ev {f : PV → PV → Option PV} {i : Nat} : dBinL f i b e = kBL f i b (slotv e i) e := id rfl
/-! arguments -/
def kA2 (p : PV) (o : Option (List PV × PEn)) : Option (List PV × PEn) := o.map fun q => (p :: q.1, q.2)
@[simp] theorem kA2_s {p : PV} {q : List PV} : kA2 p (some (q, e)) = some (p :: q, e) := id rfl
def kA1 (r : List Den) (o : Option (PV × PEn)) : Option (List PV × PEn) := o.bind fun p => (dArgs r p.2).map fun q => (p.1 :: q.1, q.2)
@[simp] theorem kA1_s {r : List Den} {p : PV} : kA1 r (some (p, e)) = kA2 p (dArgs r e) := id rfl
@[simp] theorem dArgs_nil : dArgs [] e = some ([], e) := id rfl
@[simp] theorem dArgs_cons {r : List Den} : dArgs (a :: r) e = kA1 r (a e) := id rfl
def kAd (r : List Arg) (o : Option (PV × PEn)) : Option (List PV × PEn) := o.bind fun p => (bArgs r p.2).map fun q => (p.1 :: q.1, q.2)
@[simp] theorem kAd_s {r : List Arg} {p : PV} : kAd r (some (p, e)) = kA2 p (bArgs r e) := id rfl
def kAb3 (q : List PV) (o : Option PV) (e : PEn) : Option (List PV × PEn) := o.map fun v => (v :: q, e)
@[simp] theorem kAb3_s {q : List PV} {v : PV} : kAb3 q (some v) e = some (v :: q, e) := id rfl
def kAb2 (i : Nat) (o : Option (List PV × PEn)) : Option (List PV × PEn) := o.bind fun q => (slotv q.2 i).map fun v => (v :: q.1, q.2)
@[simp] theorem kAb2_s {i : Nat} {q : List PV} : kAb2 i (some (q, e)) = kAb3 q (slotv e i) e := id rfl
def kAb (i : Nat) (r : List Arg) (o : Option PV) (e : PEn) : Option (List PV × PEn) := o.bind fun _ => (bArgs r e).bind fun q => (slotv q.2 i).map fun v => (v :: q.1, q.2)
@[simp] theorem kAb_s {i : Nat} {r : List Arg} {v : PV} : kAb i r (some v) e = kAb2 i (bArgs r e) := id rfl
@[simp] theorem bArgs_nil : bArgs [] e = some ([], e) := id rfl
@[simp] theorem bArgs_d {r : List Arg} : bArgs (.d a :: r) e = kAd r (a e) := id rfl
@[simp] theorem bArgs_b {r : List Arg} {i : Nat} : bArgs (.b i :: r) e = kAb i r (slotv e i) e := id rfl
def ownv (e : PEn) (i : Nat) : Option PV := match e[i]? with
  | some (.own v) => some v
  | _ => none
theorem ownv_match {α : Type} {e : PEn} {i : Nat} {F : PV → Option α} : (match e[i]? with | some (.own v) => F v | _ => none) = (ownv e i).bind F := by
  unfold ownv
  split <;> first | rfl | (split <;> first | rfl | (rename_i h _ h2; exact absurd h2 (h _)))
def kCd (r : List Arg) (o : Option (PV × PEn)) : Option (List PV × PEn) := o.bind fun p => (cArgs r p.2).map fun q => (p.1 :: q.1, q.2)
@[simp] theorem kCd_s {r : List Arg} {p : PV} : kCd r (some (p, e)) = kA2 p (cArgs r e) := id rfl
def kCb2 (i : Nat) (o : Option (List PV × PEn)) : Option (List PV × PEn) := o.bind fun q => (ownv q.2 i).map fun v => (v :: q.1, q.2)
@[simp] theorem kCb2_s {i : Nat} {q : List PV} : kCb2 i (some (q, e)) = kAb3 q (ownv e i) e := id rfl
def kCb (i : Nat) (r : List Arg) (o : Option PV) (e : PEn) : Option (List PV × PEn) := o.bind fun _ => kCb2 i (cArgs r e)
@[simp] theorem kCb_s {i : Nat} {r : List Arg} {v : PV} : kCb i r (some v) e = kCb2 i (cArgs r e) := id rfl
@[simp] theorem cArgs_nil : cArgs [] e = some ([], e) := id rfl
@[simp] theorem cArgs_d {r : List Arg} : cArgs (.d a :: r) e = kCd r (a e) := id rfl
@[simp] theorem cArgs_b {r : List Arg} {i : Nat} : cArgs (.b i :: r) e = kCb i r (slotv e i) e := by
  show ((slotv e i).bind fun _ => (cArgs r e).bind fun q => match q.2[i]? with | some (.own v) => some (v :: q.1, q.2) | _ => none) = _
  unfold kCb kCb2
  congr 1; funext v
  congr 1; funext q
  exact (ownv_match (e := q.2) (F := fun v => some (v :: q.1, q.2))).trans (by cases ownv q.2 i <;> rfl)
def kApp (f : List PV → Option PV) (o : Option (List PV × PEn)) : Option (PV × PEn) := o.bind fun p => (f p.1).map fun z => (z, p.2)
@[simp] theorem kApp_s {f : List PV → Option PV} {ps : List PV} : kApp f (some (ps, e)) = kR (f ps) e := id rfl
@[simp] theorem dApp_ev {f : List PV → Option PV} {as : List Arg} : dApp f as e = kApp f (bArgs as e) := id rfl
def kCall2 (as : List Arg) (e : PEn) (o : Option (PV × List PV)) : Option (PV × PEn) := o.map fun r => (r.1, backE as r.2 e)
@[simp] theorem kCall2_s {as : List Arg} {z : PV} {ws : List PV} : kCall2 as e (some (z, ws)) = some (z, backE as ws e) := id rfl
def kCall (f : Sem) (as : List Arg) (o : Option (List PV × PEn)) : Option (PV × PEn) := o.bind fun p => (f p.1).map fun r => (r.1, backE as r.2 p.2)
@[simp] theorem kCall_s {f : Sem} {as : List Arg} {ps : List PV} : kCall f as (some (ps, e)) = kCall2 as e (f ps) := id rfl
@[simp] theorem dCall_ev {f : Sem} {as : List Arg} : dCall f as e = kCall f as (cArgs as e) := id rfl
@[simp] theorem dCallN_ev {f : FSemN} {ds : List Den} : dCallN f ds e = kApp f (dArgs ds e) := id rfl
@[simp] theorem backE_nil {ps : List PV} : backE [] ps e = e := by cases ps <;> rfl
@[simp] theorem backE_d {as : List Arg} {p : PV} {ps : List PV} : backE (.d a :: as) (p :: ps) e = backE as ps e := id rfl
@[simp] theorem backE_b {as : List Arg} {i : Nat} {p : PV} {ps : List PV} : backE (.b i :: as) (p :: ps) e = backE as ps (e.set i (.own p)) := id rfl
def kTup (o : Option (List PV × PEn)) : Option (PV × PEn) := o.map fun p => (.tup p.1, p.2)
@[simp] theorem kTup_s {ps : List PV} : kTup (some (ps, e)) = some (.tup ps, e) := id rfl
@[simp] theorem dTup_ev {ds : List Den} : dTup ds e = kTup (dArgs ds e) := id rfl
def kLst (o : Option (List PV × PEn)) : Option (PV × PEn) := o.map fun p => (.lst p.1, p.2)
@[simp] theorem kLst_s {ps : List PV} : kLst (some (ps, e)) = some (.lst ps, e) := id rfl
@[simp] theorem dLst_ev {ds : List Den} : dLst ds e = kLst (dArgs ds e) := id rfl
/-! tests -/
def kT2 (o : Option Bool) (e : PEn) : Option (Bool × PEn) := o.map fun z => (z, e)
@[simp] theorem kT2_s {k : Bool} : kT2 (some k) e = some (k, e) := id rfl
def kDB (o : Option (PV × PEn)) : Option (Bool × PEn) := o.bind fun p => (asBl p.1).map fun z => (z, p.2)
@[simp] theorem kDB_s {v : PV} : kDB (some (v, e)) = kT2 (asBl v) e := id rfl
@[simp] theorem dB_ev : dB a e = kDB (a e) := id rfl
@[simp] theorem asBl_ev {k : Bool} : asBl (.bl k) = some k := id rfl
def kNot (o : Option (Bool × PEn)) : Option (Bool × PEn) := o.map fun p => (!p.1, p.2)
@[simp] theorem kNot_s {k : Bool} : kNot (some (k, e)) = some (!k, e) := id rfl
@[simp] theorem dNot_ev : dNot t e = kNot (t e) := id rfl
def kAnd (o : Option (Bool × PEn)) (u : DenT) : Option (Bool × PEn) := o.bind fun p => if p.1 then u p.2 else some (false, p.2)
@[simp] theorem kAnd_t : kAnd (some (true, e)) u = u e := id rfl
@[simp] theorem kAnd_f : kAnd (some (false, e)) u = some (false, e) := id rfl
@[simp] theorem dAnd_ev : dAnd t u e = kAnd (t e) u := id rfl
def kOr (o : Option (Bool × PEn)) (u : DenT) : Option (Bool × PEn) := o.bind fun p => if p.1 then some (true, p.2) else u p.2
@[simp] theorem kOr_t : kOr (some (true, e)) u = some (true, e) := id rfl
@[simp] theorem kOr_f : kOr (some (false, e)) u = u e := id rfl
@[simp] theorem dOr_ev : dOr t u e = kOr (t e) u := id rfl
def kIfE (o : Option (Bool × PEn)) (a b : Den) : Option (PV × PEn) := o.bind fun p => if p.1 then a p.2 else b p.2
@[simp] theorem kIfE_t : kIfE (some (true, e)) a b = a e := id rfl
@[simp] theorem kIfE_f : kIfE (some (false, e)) a b = b e := id rfl
@[simp] theorem dIf_ev : dIf t a b e = kIfE (t e) a b := id rfl
@[simp] theorem dYes_ev : dYes e = some (true, e) := id rfl
def kTr (o : Option (PV × PEn)) : Option (Bool × PEn) := o.bind fun p => (truthF p.1).map fun b => (b, p.2)
@[simp] theorem kTr_s {v : PV} : kTr (some (v, e)) = kT2 (truthF v) e := id rfl
@[simp] theorem dTruth_ev {o : Arg} : dTruth o e = kTr (dHead o e) := id rfl
@[simp] theorem dHead_d : dHead (.d a) e = a e := id rfl
@[simp] theorem dHead_b {i : Nat} : dHead (.b i) e = kR (slotv e i) e := id rfl
@[simp] theorem dBack_d {p : PV} : dBack (.d a) p e = some p := id rfl
@[simp] theorem dBack_b {i : Nat} {p : PV} : dBack (.b i) p e = slotv e i := id rfl
def kIs (k : TyN) (o : Option (PV × PEn)) : Option (PV × PEn) := o.map fun p => (.bl (isTy k p.1), p.2)
@[simp] theorem kIs_s {k : TyN} {v : PV} : kIs k (some (v, e)) = some (.bl (isTy k v), e) := id rfl
@[simp] theorem dIsI_ev {k : TyN} {o : Arg} : dIsI k o e = kIs k (dHead o e) := id rfl
def kAV (o : Option (PV × PEn)) (b : Den) : Option (PV × PEn) := o.bind fun p => match p.1 with
  | .bl true => b p.2
  | .bl false => some (.bl false, p.2)
  | _ => none
@[simp] theorem kAV_t : kAV (some (.bl true, e)) b = b e := id rfl
@[simp] theorem kAV_f : kAV (some (.bl false, e)) b = some (.bl false, e) := id rfl
@[simp] theorem dAndV_ev : dAndV a b e = kAV (a e) b := id rfl
def kOV (o : Option (PV × PEn)) (b : Den) : Option (PV × PEn) := o.bind fun p => match p.1 with
  | .bl false => b p.2
  | .bl true => some (.bl true, p.2)
  | _ => none
@[simp] theorem kOV_f : kOV (some (.bl false, e)) b = b e := id rfl
@[simp] theorem kOV_t : kOV (some (.bl true, e)) b = some (.bl true, e) := id rfl
@[simp] theorem dOrV_ev : dOrV a b e = kOV (a e) b := id rfl
@[simp] theorem notF_ev {k : Bool} : notF (.bl k) = some (.bl (!k)) := id rfl
def kC3 (g : PV → PV → Option PV) (c : Den) (q : PV) (e : PEn) (o : Option PV) : Option (PV × PEn) := o.bind fun z => match z with
  | .bl true => (c e).bind fun r => (g q r.1).map fun y => (y, r.2)
  | .bl false => some (.bl false, e)
  | _ => none
@[simp] theorem kC3_t {g : PV → PV → Option PV} {q : PV} : kC3 g c q e (some (.bl true)) = kB2 g q (c e) := id rfl
@[simp] theorem kC3_f {g : PV → PV → Option PV} {q : PV} : kC3 g c q e (some (.bl false)) = some (.bl false, e) := id rfl
def kC2 (f g : PV → PV → Option PV) (c : Den) (p : PV) (o : Option (PV × PEn)) : Option (PV × PEn) := o.bind fun q => kC3 g c q.1 q.2 (f p q.1)
@[simp] theorem kC2_s {f g : PV → PV → Option PV} {p q : PV} : kC2 f g c p (some (q, e)) = kC3 g c q e (f p q) := id rfl
def kC1 (f g : PV → PV → Option PV) (b c : Den) (o : Option (PV × PEn)) : Option (PV × PEn) := o.bind fun p => kC2 f g c p.1 (b p.2)
@[simp] theorem kC1_s {f g : PV → PV → Option PV} {p : PV} : kC1 f g b c (some (p, e)) = kC2 f g c p (b e) := id rfl
@[simp] theorem dChain_ev {f g : PV → PV → Option PV} : dChain f g a b c e = kC1 f g b c (a e) := id rfl
/-! containers of one's own -/
def ownL (e : PEn) (i : Nat) : Option (List PV) := match e[i]? with
  | some (.own (.lst xs)) => some xs
  | _ => none
theorem ownL_match {α : Type} {e : PEn} {i : Nat} {F : List PV → Option α} : (match e[i]? with | some (.own (.lst v)) => F v | _ => none) = (ownL e i).bind F := by
  unfold ownL
  split <;> first | rfl | (split <;> first | rfl | (rename_i h _ _ h2; exact absurd h2 (h _)))
def kM4 (i : Nat) (e : PEn) (o : Option (PV × List PV)) : Option (PV × PEn) := o.map fun z => (z.1, e.set i (.own (.lst z.2)))
@[simp] theorem kM4_s {i : Nat} {z : PV} {ws : List PV} : kM4 i e (some (z, ws)) = some (z, e.set i (.own (.lst ws))) := id rfl
def kM3 (f : List PV → List PV → Option (PV × List PV)) (i : Nat) (q : List PV) (e : PEn) (o : Option (List PV)) : Option (PV × PEn) := o.bind fun xs => kM4 i e (f xs q)
@[simp] theorem kM3_s {f : List PV → List PV → Option (PV × List PV)} {i : Nat} {q xs : List PV} : kM3 f i q e (some xs) = kM4 i e (f xs q) := id rfl
def kM2 (f : List PV → List PV → Option (PV × List PV)) (i : Nat) (o : Option (List PV × PEn)) : Option (PV × PEn) := o.bind fun q => kM3 f i q.1 q.2 (ownL q.2 i)
@[simp] theorem kM2_s {f : List PV → List PV → Option (PV × List PV)} {i : Nat} {q : List PV} : kM2 f i (some (q, e)) = kM3 f i q e (ownL e i) := id rfl
def kM (f : List PV → List PV → Option (PV × List PV)) (i : Nat) (ds : List Den) (o : Option (List PV)) (e : PEn) : Option (PV × PEn) := o.bind fun _ => kM2 f i (dArgs ds e)
@[simp] theorem kM_s {f : List PV → List PV → Option (PV × List PV)} {i : Nat} {ds : List Den} {xs : List PV} : kM f i ds (some xs) e = kM2 f i (dArgs ds e) := id rfl
@[simp] theorem dMut_ev {f : List PV → List PV → Option (PV × List PV)} {i : Nat} {ds : List Den} : dMut f i ds e = kM f i ds (ownL e i) e := by
  refine (ownL_match (e := e) (i := i) (F := fun _ => (dArgs ds e).bind (fun (q : List PV × PEn) => (match q.2[i]? with | some (.own (.lst xs)) => (f xs q.1).map (fun (z : PV × List PV) => (z.1, q.2.set i (.own (.lst z.2)))) | _ => none)))).trans ?_
  unfold kM kM2 kM3 kM4
  congr 1; funext _
  congr 1; funext q
  exact ownL_match (F := fun xs => (f xs q.1).map fun (z : PV × List PV) => (z.1, q.2.set i (.own (.lst z.2))))
def kS5 (i : Nat) (e : PEn) (o : Option PV) : Option Fl := o.map fun d' => .nx (e.set i (.own d'))
@[simp] theorem kS5_s {i : Nat} {d : PV} : kS5 i e (some d) = some (.nx (e.set i (.own d))) := id rfl
def kS4 (i : Nat) (v k : PV) (e : PEn) (o : Option PV) : Option Fl := o.bind fun d => kS5 i e (setF d k v)
@[simp] theorem kS4_s {i : Nat} {v k d : PV} : kS4 i v k e (some d) = kS5 i e (setF d k v) := id rfl
def kS3 (i : Nat) (v : PV) (o : Option (PV × PEn)) : Option Fl := o.bind fun k => kS4 i v k.1 k.2 (ownv k.2 i)
@[simp] theorem kS3_s {i : Nat} {v k : PV} : kS3 i v (some (k, e)) = kS4 i v k e (ownv e i) := id rfl
def kS2 (i : Nat) (a : Den) (v : PV) (o : Option PV) (e : PEn) : Option Fl := o.bind fun _ => kS3 i v (a e)
@[simp] theorem kS2_s {i : Nat} {v d : PV} : kS2 i a v (some d) e = kS3 i v (a e) := id rfl
def kS (i : Nat) (a : Den) (o : Option (PV × PEn)) : Option Fl := o.bind fun p => kS2 i a p.1 (ownv p.2 i) p.2
@[simp] theorem kS_s {i : Nat} {v : PV} : kS i a (some (v, e)) = kS2 i a v (ownv e i) e := id rfl
@[simp] theorem sStore_ev {i : Nat} : sStore i a b e = kS i a (b e) := by
  show ((b e).bind fun p => match p.2[i]? with | some (.own _) => (a p.2).bind (fun k => (match k.2[i]? with | some (.own d) => (setF d k.1 p.1).map (fun d' => Fl.nx (k.2.set i (.own d'))) | _ => none)) | _ => none) = _
  unfold kS kS2 kS3 kS4 kS5
  congr 1; funext p
  rw [ownv_match (F := fun _ => (a p.2).bind (fun k => (match k.2[i]? with | some (.own d) => (setF d k.1 p.1).map (fun d' => Fl.nx (k.2.set i (.own d'))) | _ => none)))]
  congr 1; funext _
  congr 1; funext k
  exact ownv_match (F := fun d => (setF d k.1 p.1).map fun d' => Fl.nx (k.2.set i (.own d')))
def kRv3 (f : PV → List PV → Option PV) (q : List PV) (p : PV) (e : PEn) (o : Option PV) : Option (PV × PEn) := o.bind fun y => if kind y = kind p then (f y q).map fun z => (z, e) else none
@[simp] theorem kRv3_s {f : PV → List PV → Option PV} {q : List PV} {p y : PV} : kRv3 f q p e (some y) = if kind y = kind p then kR (f y q) e else none := id rfl
def kRv2 (f : PV → List PV → Option PV) (o : Arg) (p : PV) (r : Option (List PV × PEn)) : Option (PV × PEn) := r.bind fun q => kRv3 f q.1 p q.2 (dBack o p q.2)
@[simp] theorem kRv2_s {f : PV → List PV → Option PV} {o : Arg} {p : PV} {q : List PV} : kRv2 f o p (some (q, e)) = kRv3 f q p e (dBack o p e) := id rfl
def kRv (g : PV → Bool) (o : Arg) (as : List Den) (f : PV → List PV → Option PV) (r : Option (PV × PEn)) : Option (PV × PEn) := r.bind fun p => if g p.1 then kRv2 f o p.1 (dArgs as p.2) else none
@[simp] theorem kRv_s {g : PV → Bool} {o : Arg} {as : List Den} {f : PV → List PV → Option PV} {p : PV} : kRv g o as f (some (p, e)) = if g p then kRv2 f o p (dArgs as e) else none := id rfl
@[simp] theorem dRecv_ev {g : PV → Bool} {o : Arg} {as : List Den} {f : PV → List PV → Option PV} : dRecv g o as f e = kRv g o as f (dHead o e) := id rfl
def kLR (o : Option ((Int × Int) × PEn)) : Option (PV × PEn) := o.map fun p => (.lst (rngP p.1.1 (p.1.2 - p.1.1).toNat), p.2)
@[simp] theorem kLR_s {i j : Int} : kLR (some ((i, j), e)) = some (.lst (rngP i (j - i).toNat), e) := id rfl
@[simp] theorem dListRg_ev {as : List Den} : dListRg as e = kLR (rngArg as e) := id rfl
def kSq2 (o : Option (List PV)) (e : PEn) : Option (List PV × PEn) := o.map fun xs => (xs, e)
@[simp] theorem kSq2_s {xs : List PV} : kSq2 (some xs) e = some (xs, e) := id rfl
def kSq (o : Option (PV × PEn)) : Option (List PV × PEn) := o.bind fun p => (seqOf p.1).map fun xs => (xs, p.2)
@[simp] theorem kSq_s {v : PV} : kSq (some (v, e)) = kSq2 (seqOf v) e := id rfl
@[simp] theorem iSeq_ev : iSeq a e = kSq (a e) := id rfl
def kLC2 (vs : List Nat) (e : PEn) (o : Option (List PV × PEn)) : Option (PV × PEn) := o.map fun q => (.lst q.1, restoreE q.2 e vs)
@[simp] theorem kLC2_s {vs : List Nat} {ys : List PV} : kLC2 vs e (some (ys, e1)) = some (.lst ys, restoreE e1 e vs) := id rfl
def kLC (g : Tgt) (t : DenT) (a : Den) (vs : List Nat) (o : Option (List PV × PEn)) : Option (PV × PEn) := o.bind fun p => (lcF g t a vs p.1 (wipeE p.2 vs)).map fun q => (.lst q.1, restoreE q.2 p.2 vs)
@[simp] theorem kLC_s {g : Tgt} {vs : List Nat} {xs : List PV} : kLC g t a vs (some (xs, e)) = kLC2 vs e (lcF g t a vs xs (wipeE e vs)) := id rfl
@[simp] theorem dLC_ev {s : DenI} {vs : List Nat} {g : Tgt} : dLC s vs g t a e = kLC g t a vs (s e) := id rfl
@[simp] theorem wipeE_nil : wipeE e [] = e := id rfl
@[simp] theorem wipeE_cons {v : Nat} {vs : List Nat} : wipeE e (v :: vs) = (wipeE e vs).set v .no := id rfl
@[simp] theorem restoreE_nil {o : PEn} : restoreE e o [] = e := id rfl
@[simp] theorem restoreE_cons {v : Nat} {vs : List Nat} {o : PEn} : restoreE e o (v :: vs) = (restoreE e o vs).set v (keepV o v) := id rfl
@[simp] theorem tgt_nm {i : Nat} {v : PV} : tgtF (.nm i) v e = if i < e.length then some (e.set i (.val v)) else none := by unfold tgtF; exact id rfl
def kTp (ts : List Tgt) (e : PEn) (o : Option (List PV)) : Option PEn := o.bind fun xs => tgtsF ts xs e
@[simp] theorem kTp_s {ts : List Tgt} {xs : List PV} : kTp ts e (some xs) = tgtsF ts xs e := id rfl
@[simp] theorem tgt_tp {ts : List Tgt} {v : PV} : tgtF (.tp ts) v e = kTp ts e (tupOf v) := by
  unfold tgtF kTp
  cases tupOf v <;> rfl
@[simp] theorem tgts_nil : tgtsF [] [] e = some e := by unfold tgtsF; exact id rfl
def kTs (ts : List Tgt) (vs : List PV) (o : Option PEn) : Option PEn := o.bind fun e1 => tgtsF ts vs e1
@[simp] theorem kTs_s {ts : List Tgt} {vs : List PV} : kTs ts vs (some e) = tgtsF ts vs e := id rfl
@[simp] theorem tgts_cons {g : Tgt} {ts : List Tgt} {v : PV} {vs : List PV} : tgtsF (g :: ts) (v :: vs) e = kTs ts vs (tgtF g v e) := by
  unfold kTs
  conv => lhs; unfold tgtsF
@[simp] theorem tupOf_tup {xs : List PV} : tupOf (.tup xs) = some xs := id rfl
@[simp] theorem tupOf_fup {xs : List PV} : tupOf (.fup xs) = some xs := id rfl
@[simp] theorem seqOf_tup {xs : List PV} : seqOf (.tup xs) = some xs := id rfl
@[simp] theorem seqOf_fup {xs : List PV} : seqOf (.fup xs) = some xs := id rfl
@[simp] theorem seqOf_lst {xs : List PV} : seqOf (.lst xs) = some xs := id rfl
/-! slots of a written environment -/
def kV (s : SlP) (o : Option (PV × PEn)) : Option (PV × PEn) := o.map fun p => (p.1, s :: p.2)
@[simp] theorem kV_s {s : SlP} {v : PV} : kV s (some (v, e)) = some (v, s :: e) := id rfl
@[simp] theorem dVar_0v {v : PV} {r : PEn} : dVar 0 (.val v :: r) = some (v, .val v :: r) := id rfl
@[simp] theorem dVar_0o {v : PV} {r : PEn} : dVar 0 (.own v :: r) = some (v, .val v :: r) := id rfl
@[simp] theorem dVar_s {i : Nat} {s : SlP} {r : PEn} : dVar (i + 1) (s :: r) = kV s (dVar i r) := by
  unfold dVar kV
  rw [List.getElem?_cons_succ]
  cases h : r[i]? with
  | none => rfl
  | some x => cases x <;> rfl
@[simp] theorem slotv_0v {v : PV} {r : PEn} : slotv (.val v :: r) 0 = some v := id rfl
@[simp] theorem slotv_0o {v : PV} {r : PEn} : slotv (.own v :: r) 0 = some v := id rfl
@[simp] theorem slotv_s {i : Nat} {s : SlP} {r : PEn} : slotv (s :: r) (i + 1) = slotv r i := id rfl
@[simp] theorem ownv_0 {v : PV} {r : PEn} : ownv (.own v :: r) 0 = some v := id rfl
@[simp] theorem ownv_s {i : Nat} {s : SlP} {r : PEn} : ownv (s :: r) (i + 1) = ownv r i := id rfl
@[simp] theorem ownL_0 {v : List PV} {r : PEn} : ownL (.own (.lst v) :: r) 0 = some v := id rfl
@[simp] theorem ownL_s {i : Nat} {s : SlP} {r : PEn} : ownL (s :: r) (i + 1) = ownL r i := id rfl
@[simp] theorem keepV_0v {v : PV} {r : PEn} : keepV (.val v :: r) 0 = .val v := id rfl
@[simp] theorem keepV_0o {v : PV} {r : PEn} : keepV (.own v :: r) 0 = .no := id rfl
@[simp] theorem keepV_0n {r : PEn} : keepV (.no :: r) 0 = .no := id rfl
@[simp] theorem keepV_s {i : Nat} {s : SlP} {r : PEn} : keepV (s :: r) (i + 1) = keepV r i := id rfl
@[simp] theorem argE_nil {ps : List PV} : argE [] ps = ps.map .val := id rfl
@[simp] theorem argE_t {ms : List Bool} {p : PV} {ps : List PV} : argE (true :: ms) (p :: ps) = .own p :: argE ms ps := id rfl
@[simp] theorem argE_f {ms : List Bool} {p : PV} {ps : List PV} : argE (false :: ms) (p :: ps) = .val p :: argE ms ps := id rfl
def kO2 (w : PV) (o : Option (List PV)) : Option (List PV) := o.map (w :: ·)
@[simp] theorem kO2_s {w : PV} {ws : List PV} : kO2 w (some ws) = some (w :: ws) := id rfl
def kO1 (e : PEn) (k : Nat) (ms : List Bool) (ps : List PV) (o : Option PV) : Option (List PV) := o.bind fun w => kO2 w (outsP e k ms ps)
@[simp] theorem kO1_s {k : Nat} {ms : List Bool} {ps : List PV} {w : PV} : kO1 e k ms ps (some w) = kO2 w (outsP e k ms ps) := id rfl
@[simp] theorem outsP_nil {k : Nat} {ps : List PV} : outsP e k [] ps = some ps := id rfl
@[simp] theorem outsP_t {k : Nat} {ms : List Bool} {p : PV} {ps : List PV} : outsP e k (true :: ms) (p :: ps) = kO1 e (k + 1) ms ps (ownv e k) := id rfl
@[simp] theorem outsP_f {k : Nat} {ms : List Bool} {p : PV} {ps : List PV} : outsP e k (false :: ms) (p :: ps) = kO2 p (outsP e (k + 1) ms ps) := id rfl
end
/-- what a run of a body ends in -/
def kE2 (v : PV) (o : Option (List PV)) : Option (PV × List PV) := o.map fun w => (v, w)
@[simp] theorem kE2_s {v : PV} {ws : List PV} : kE2 v (some ws) = some (v, ws) := id rfl
def kEnd (ms : List Bool) (ps : List PV) (o : Option Fl) : Option (PV × List PV) := o.bind fun fl => match fl with
  | .nx e => (outsP e 0 ms ps).map fun w => (.non, w)
  | .rt v e => (outsP e 0 ms ps).map fun w => (v, w)
  | _ => none
@[simp] theorem kEnd_nx {ms : List Bool} {ps : List PV} {e : PEn} : kEnd ms ps (some (.nx e)) = kE2 .non (outsP e 0 ms ps) := id rfl
@[simp] theorem kEnd_rt {ms : List Bool} {ps : List PV} {v : PV} {e : PEn} : kEnd ms ps (some (.rt v e)) = kE2 v (outsP e 0 ms ps) := id rfl
theorem runF_ev {ms : List Bool} {m : Nat} {d : DenS} {ps : List PV} : runF ms m d ps = kEnd ms ps (d (argE ms ps ++ List.replicate m .no)) := rfl
/-! numbers -/
theorem okD_int (n : Nat) (i : Int) : okD n (.int i) = true := by cases n <;> rfl
@[simp] theorem addF_int (i j : Int) : addF (.int i) (.int j) = some (.int (i + j)) := id rfl
@[simp] theorem subF_int (i j : Int) : subF (.int i) (.int j) = some (.int (i - j)) := id rfl
@[simp] theorem leF_int (i j : Int) : leF (.int i) (.int j) = some (.bl (decide (i ≤ j))) := id rfl
@[simp] theorem gtF_int (i j : Int) : gtF (.int i) (.int j) = some (.bl (decide (j < i))) := id rfl
@[simp] theorem geF_int (i j : Int) : geF (.int i) (.int j) = some (.bl (decide (j ≤ i))) := id rfl
@[simp] theorem ltF_int (i j : Int) : ltF (.int i) (.int j) = some (.bl (decide (i < j))) := id rfl
@[simp] theorem eqF_int (i j : Int) : eqF (.int i) (.int j) = some (.bl (decide (i = j))) := by
  simp only [eqF, okD_int, eqv, toD, PySem.PyData.eqv, Bool.and_self, if_true]
  congr 2
@[simp] theorem neF_int (i j : Int) : neF (.int i) (.int j) = some (.bl (!decide (i = j))) := by
  simp only [neF, okD_int, eqv, toD, PySem.PyData.eqv, Bool.and_self, if_true]
  congr 2
@[simp] theorem intTF_int (i : Int) : intTF [.int i] = some (.int i) := id rfl
@[simp] theorem intTF_bl (k : Bool) : intTF [.bl k] = some (.int (if k then 1 else 0)) := id rfl
@[simp] theorem lenF_lst (xs : List PV) : lenF [.lst xs] = some (.int xs.length) := id rfl
@[simp] theorem lenF_tup (xs : List PV) : lenF [.tup xs] = some (.int xs.length) := id rfl
@[simp] theorem lenF_fup (xs : List PV) : lenF [.fup xs] = some (.int xs.length) := id rfl
@[simp] theorem tupleF_lst (xs : List PV) : tupleF [.lst xs] = some (.tup xs) := id rfl
@[simp] theorem tupleZF_lst (xs : List PV) : tupleZF [.lst xs] = some (.fup xs) := id rfl
@[simp] theorem listF_lst (xs : List PV) : listF [.lst xs] = some (.lst xs) := id rfl
@[simp] theorem truthF_bl (k : Bool) : truthF (.bl k) = some k := id rfl
@[simp] theorem isNF_non (p : PV) : isNF p .non = some (.bl (isNone p)) := id rfl
@[simp] theorem notNF_non (p : PV) : notNF p .non = some (.bl (!isNone p)) := id rfl
@[simp] theorem isNone_non : isNone .non = true := id rfl
@[simp] theorem isNone_int (i : Int) : isNone (.int i) = false := id rfl
theorem modF_nat (a b : Nat) (h : 0 < b) : modF (.int a) (.int b) = some (.int ((a % b : Nat) : Int)) := by
  simp only [modF, intF, decide_eq_true_eq]
  rw [if_pos (by simpa using h)]
  rfl
theorem divF_nat (a b : Nat) (h : 0 < b) (h2 : b < 1000000) : divF (.int a) (.int b) = some (.int ((a / b : Nat) : Int)) := by
  simp only [divF, intF, decide_eq_true_eq]
  rw [if_pos (by omega)]
  rfl
theorem mulF_nat (a b : Nat) (h : a < 2 ^ 60) : mulF (.int a) (.int b) = some (.int ((a * b : Nat) : Int)) := by
  simp only [mulF, intF]
  rw [if_pos (by simp; left; omega)]
  simp
theorem getF_seq {d : PV} {xs : List PV} {k : Nat} {x : PV} (hs : seqOf d = some xs) (h : xs[k]? = some x) : getF d (.int k) = some x := by
  have hk : k < xs.length := (List.getElem?_eq_some_iff.mp h).1
  simp only [getF, hs, atI, ixN]
  rw [if_pos (by omega), if_pos (by omega)]
  simpa using h
@[simp] theorem getF_l0 (x : PV) (xs : List PV) : getF (.lst (x :: xs)) (.int 0) = some x := getF_seq (k := 0) rfl rfl
@[simp] theorem getF_l1 (x y : PV) (xs : List PV) : getF (.lst (x :: y :: xs)) (.int 1) = some y := getF_seq (k := 1) rfl rfl
@[simp] theorem getF_l2 (x y z : PV) (xs : List PV) : getF (.lst (x :: y :: z :: xs)) (.int 2) = some z := getF_seq (k := 2) rfl rfl
@[simp] theorem getF_t0 (x : PV) (xs : List PV) : getF (.tup (x :: xs)) (.int 0) = some x := getF_seq (k := 0) rfl rfl
@[simp] theorem getF_t1 (x y : PV) (xs : List PV) : getF (.tup (x :: y :: xs)) (.int 1) = some y := getF_seq (k := 1) rfl rfl
@[simp] theorem getF_t2 (x y z : PV) (xs : List PV) : getF (.tup (x :: y :: z :: xs)) (.int 2) = some z := getF_seq (k := 2) rfl rfl
@[simp] theorem setF_l1 (x y v : PV) (xs : List PV) : setF (.lst (x :: y :: xs)) (.int 1) v = some (.lst (x :: v :: xs)) := by
  simp only [setF, ixN, List.length_cons]
  rw [if_pos (by decide), if_pos (by omega)]
  rfl
@[simp] theorem setF_l2 (x y z v : PV) (xs : List PV) : setF (.lst (x :: y :: z :: xs)) (.int 2) v = some (.lst (x :: y :: v :: xs)) := by
  simp only [setF, ixN, List.length_cons]
  rw [if_pos (by decide), if_pos (by omega)]
  rfl
end PP

/-! PP, part s: loops and comprehensions by invariants. -/
namespace PP
/-- a loop that ends behind its last item -/
theorem forF_suf {t : Tgt} {b : DenS} {P : List PV → PEn → Prop} (step : ∀ x xs e, P (x :: xs) e → ∃ e1 e2, tgtF t x e = some e1 ∧ b e1 = some (.nx e2) ∧ P xs e2) : ∀ xs e, P xs e → ∃ e', forF t b xs e = some (.nx e') ∧ P [] e'
  | [], e, h => ⟨e, by unfold forF; rfl, h⟩
  | x :: xs, e, h => by
    obtain ⟨e1, e2, h1, h2, h3⟩ := step x xs e h
    obtain ⟨e', h4, h5⟩ := forF_suf step xs e2 h3
    refine ⟨e', ?_, h5⟩
    unfold forF
    rw [h1, Option.bind_some, h2]
    exact h4
/-- .. or leaves by a return -/
theorem forF_ret {t : Tgt} {b : DenS} {P : List PV → PEn → Prop} {R : PV → PEn → Prop} (step : ∀ x xs e, P (x :: xs) e → ∃ e1, tgtF t x e = some e1 ∧ ((∃ e2, b e1 = some (.nx e2) ∧ P xs e2) ∨ ∃ v e2, b e1 = some (.rt v e2) ∧ R v e2)) :
    ∀ xs e, P xs e → (∃ e', forF t b xs e = some (.nx e') ∧ P [] e') ∨ ∃ v e', forF t b xs e = some (.rt v e') ∧ R v e'
  | [], e, h => .inl ⟨e, by unfold forF; rfl, h⟩
  | x :: xs, e, h => by
    obtain ⟨e1, h1, h2⟩ := step x xs e h
    rcases h2 with ⟨e2, h2, h3⟩ | ⟨v, e2, h2, h3⟩
    · rcases forF_ret step xs e2 h3 with ⟨e', h4, h5⟩ | ⟨v, e', h4, h5⟩
      · refine .inl ⟨e', ?_, h5⟩
        unfold forF
        rw [h1, Option.bind_some, h2]
        exact h4
      · refine .inr ⟨v, e', ?_, h5⟩
        unfold forF
        rw [h1, Option.bind_some, h2]
        exact h4
    · refine .inr ⟨v, e2, ?_, h3⟩
      unfold forF
      rw [h1, Option.bind_some, h2]
      rfl
/-- a comprehension that leaves the slots as they are -/
theorem lcF_pure {t : Tgt} {tt : DenT} {elt : Den} {vs : List Nat} {e : PEn} {p : PV → Bool} {f : PV → PV} : ∀ {xs : List PV}, (∀ x ∈ xs, ∃ e1 e2, tgtF t x e = some e1 ∧ tt e1 = some (p x, e2) ∧ (p x = false → wipeE e2 vs = e) ∧ (p x = true → ∃ e3, elt e2 = some (f x, e3) ∧ wipeE e3 vs = e)) →
    lcF t tt elt vs xs e = some ((xs.filter p).map f, e)
  | [], _ => by unfold lcF; rfl
  | x :: xs, h => by
    obtain ⟨e1, e2, h1, h2, h3, h4⟩ := h x List.mem_cons_self
    have ih := lcF_pure (p := p) (f := f) fun y hy => h y (List.mem_cons_of_mem _ hy)
    unfold lcF
    rw [h1, Option.bind_some, h2, Option.bind_some]
    cases hp : p x with
    | false =>
      rw [if_neg (by simp), h3 hp, ih, List.filter_cons_of_neg (by simp [hp])]
    | true =>
      obtain ⟨e3, h5, h6⟩ := h4 hp
      rw [if_pos (by rfl), h5, Option.bind_some]
      show Option.map _ (lcF t tt elt vs xs (wipeE e3 vs)) = _
      rw [h6, ih, List.filter_cons_of_pos hp]
      rfl
/-- some of the items, each with what is made of it -/
inductive Made (G : PV → PV → Prop) : List PV → List PV → Prop
  | nil : Made G [] []
  | skip {x : PV} {xs ys : List PV} : Made G xs ys → Made G (x :: xs) ys
  | take {x y : PV} {xs ys : List PV} : G x y → Made G xs ys → Made G (x :: xs) (y :: ys)
theorem lcF_made {t : Tgt} {tt : DenT} {elt : Den} {vs : List Nat} {P : PEn → Prop} {G : PV → PV → Prop} : ∀ {xs : List PV} {e : PEn}, (∀ x ∈ xs, ∀ e, P e → ∃ e1 b e2, tgtF t x e = some e1 ∧ tt e1 = some (b, e2) ∧ (b = false → P (wipeE e2 vs)) ∧ (b = true → ∃ y e3, elt e2 = some (y, e3) ∧ G x y ∧ P (wipeE e3 vs))) → P e →
    ∃ ys e', lcF t tt elt vs xs e = some (ys, e') ∧ P e' ∧ Made G xs ys
  | [], e, _, hp => ⟨[], e, by unfold lcF; rfl, hp, .nil⟩
  | x :: xs, e, h, hp => by
    obtain ⟨e1, b, e2, h1, h2, h3, h4⟩ := h x List.mem_cons_self e hp
    have hh : ∀ y ∈ xs, _ := fun y hy => h y (List.mem_cons_of_mem _ hy)
    cases b with
    | false =>
      obtain ⟨ys, e', a1, a2, a3⟩ := lcF_made hh (h3 rfl)
      refine ⟨ys, e', ?_, a2, .skip a3⟩
      unfold lcF
      rw [h1, Option.bind_some, h2, Option.bind_some, if_neg (by simp), a1]
    | true =>
      obtain ⟨y, e3, h5, h6, h7⟩ := h4 rfl
      obtain ⟨ys, e', a1, a2, a3⟩ := lcF_made hh h7
      refine ⟨y :: ys, e', ?_, a2, .take h6 a3⟩
      unfold lcF
      rw [h1, Option.bind_some, h2, Option.bind_some, if_pos (by rfl), h5, Option.bind_some]
      show Option.map _ (lcF t tt elt vs xs (wipeE e3 vs)) = _
      rw [a1]
      rfl
/-- each item with what is made of it: none is left out -/
inductive Each (G : PV → PV → Prop) : List PV → List PV → Prop
  | nil : Each G [] []
  | cons {x y : PV} {xs ys : List PV} : G x y → Each G xs ys → Each G (x :: xs) (y :: ys)
theorem lcF_each {t : Tgt} {elt : Den} {vs : List Nat} {P : PEn → Prop} {G : PV → PV → Prop} : ∀ {xs : List PV} {e : PEn}, (∀ x ∈ xs, ∀ e, P e → ∃ e1 y e3, tgtF t x e = some e1 ∧ elt e1 = some (y, e3) ∧ G x y ∧ P (wipeE e3 vs)) → P e →
    ∃ ys e', lcF t dYes elt vs xs e = some (ys, e') ∧ P e' ∧ Each G xs ys
  | [], e, _, hp => ⟨[], e, by unfold lcF; rfl, hp, .nil⟩
  | x :: xs, e, h, hp => by
    obtain ⟨e1, y, e3, h1, h5, h6, h7⟩ := h x List.mem_cons_self e hp
    obtain ⟨ys, e', a1, a2, a3⟩ := lcF_each (fun y hy => h y (List.mem_cons_of_mem _ hy)) h7
    refine ⟨y :: ys, e', ?_, a2, .cons h6 a3⟩
    unfold lcF
    rw [h1, Option.bind_some, dYes_ev, Option.bind_some, if_pos (by rfl), h5, Option.bind_some]
    show Option.map _ (lcF t dYes elt vs xs (wipeE e3 vs)) = _
    rw [a1]
    rfl
theorem iRange_1 {a : Den} {e e1 : PEn} {n : Nat} (h : a e = some (.int n, e1)) (hn : n ≤ 16777216) : iRange [a] e = some (rngP 0 n, e1) := by
  unfold iRange
  rw [dArgs_cons, h, kA1_s, dArgs_nil, kA2_s, Option.bind_some]
  show (if -(2 ^ 62) ≤ (n : Int) ∧ (n : Int) ≤ 16777216 then some (rngP 0 (n : Int).toNat, e1) else none) = _
  rw [if_pos (by omega)]
  rfl
theorem iRange_2 {a b : Den} {e e1 e2 : PEn} {i j : Int} (h : a e = some (.int i, e1)) (h2 : b e1 = some (.int j, e2)) (hi : 0 ≤ i ∧ i ≤ 1000000) (hj : 0 ≤ j ∧ j ≤ 1000000) : iRange [a, b] e = some (rngP i (j - i).toNat, e2) := by
  unfold iRange
  rw [dArgs_cons, h, kA1_s, dArgs_cons, h2, kA1_s, dArgs_nil, kA2_s, kA2_s, Option.bind_some]
  show (if -(2 ^ 62) ≤ i ∧ i < 2 ^ 62 ∧ -(2 ^ 62) ≤ j ∧ j < 2 ^ 62 ∧ j - i ≤ 16777216 then some (rngP i (j - i).toNat, e2) else none) = _
  rw [if_pos (by omega)]
theorem rngP_mem {lo : Int} {n : Nat} {x : PV} (h : x ∈ rngP lo n) : ∃ i : Nat, i < n ∧ x = .int (lo + i) := by
  unfold rngP at h
  obtain ⟨i, hi, e⟩ := List.mem_map.mp h
  exact ⟨i, by simpa using hi, e.symm⟩
theorem rngP_succ (lo : Int) (n : Nat) : rngP lo (n + 1) = .int lo :: rngP (lo + 1) n := by
  unfold rngP
  rw [List.range_succ_eq_map, List.map_cons, List.map_map]
  congr 1
  · simp
  · apply List.map_congr_left
    intro i _
    show PV.int _ = PV.int _
    congr 1
    push_cast
    omega
theorem rngP_zero (lo : Int) : rngP lo 0 = [] := rfl
end PP

/-! PP, part t: sorting of numbers and of tuples of numbers. -/
namespace PP
theorem sortL_perm (xs : List PV) : (sortL xs).Perm xs := List.mergeSort_perm xs leP
theorem sortL_pw (xs : List PV) : (sortL xs).Pairwise fun a b => leP a b = true := by
  have T := PySem.W.sortLe_total (PyProof.Rows.listOrd PyProof.Rows.itemOrd) false fun b => PySem.W.keyToks (toD b)
  exact List.pairwise_mergeSort (fun a b c h1 h2 => T.trans a b c h1 h2) (fun a b => by simpa using T.total a b) xs
theorem lex_cons {a b : Int} {l m : List (Int ⊕ List Nat)} : PyProof.Rows.lexLt PyProof.Rows.itemOrd (.inl a :: l) (.inl b :: m) = if a = b then PyProof.Rows.lexLt PyProof.Rows.itemOrd l m else decide (a < b) := by
  by_cases h : a = b
  · subst h
    rw [if_pos rfl]
    exact PyProof.Rows.lex_self (O := PyProof.Rows.itemOrd) _ l m
  · rw [if_neg h]
    refine (PyProof.Rows.lex_diff (O := PyProof.Rows.itemOrd) (by simpa using h)).trans ?_
    rfl
theorem lex_toks : ∀ (a b : List Int), PyProof.Rows.lexLt PyProof.Rows.itemOrd (PySem.W.keyToksAll (a.map PySem.PyData.int)) (PySem.W.keyToksAll (b.map PySem.PyData.int)) = HT.lexLt a b
  | [], [] => by
    show PyProof.Rows.lexLt PyProof.Rows.itemOrd [.inl 0] [.inl 0] = _
    rw [lex_cons, if_pos rfl]
    rfl
  | [], y :: ys => by
    simp only [List.map_nil, List.map_cons, PySem.W.keyToksAll]
    rw [lex_cons]
    rfl
  | x :: xs, [] => by
    simp only [List.map_nil, List.map_cons, PySem.W.keyToksAll]
    rw [lex_cons]
    rfl
  | x :: xs, y :: ys => by
    simp only [List.map_cons, PySem.W.keyToksAll, PySem.W.keyToks, List.cons_append, List.nil_append]
    rw [lex_cons, if_pos rfl, lex_cons, lex_toks xs ys, HT.lexLt_cons]
theorem toDs_ints (a : List Int) : toDs (a.map PV.int) = a.map PySem.PyData.int := by
  rw [toDs_map, List.map_map]
  apply List.map_congr_left
  intro i _
  simp [toD]
theorem leP_tup (a b : List Int) : leP (.tup (a.map PV.int)) (.tup (b.map PV.int)) = !HT.lexLt b a := by
  show (!PyProof.Rows.lexLt PyProof.Rows.itemOrd (PySem.W.keyToks (toD (.tup (b.map PV.int)))) (PySem.W.keyToks (toD (.tup (a.map PV.int))))) = _
  simp only [toD, PySem.W.keyToks, toDs_ints]
  rw [lex_toks]
theorem leP_int (i j : Int) : leP (.int i) (.int j) = decide (i ≤ j) := by
  show (!PyProof.Rows.lexLt PyProof.Rows.itemOrd (PySem.W.keyToks (toD (.int j))) (PySem.W.keyToks (toD (.int i)))) = _
  simp only [toD, PySem.W.keyToks]
  rw [lex_cons]
  by_cases h : j = i
  · subst h
    rw [if_pos rfl]
    simp [PyProof.Rows.lexLt]
  · rw [if_neg h]
    by_cases h2 : j < i
    · simp [h2]
    · simp [h2]; omega
/-! numbers -/
theorem comparable_ints (l : List Int) : comparable (l.map PV.int) = true := by
  unfold comparable
  simp only [Bool.and_eq_true, List.all_eq_true, List.mem_map]
  refine ⟨⟨⟨?_, ?_⟩, ?_⟩, ?_⟩
  · rintro x ⟨i, _, rfl⟩; exact okD_int _ _
  · unfold alikeB
    simp only [List.all_eq_true, List.mem_map]
    rintro x ⟨i, _, rfl⟩ y ⟨j, _, rfl⟩
    simp [toD, PySem.W.alike]
  · rw [plainPs_all]
    simp only [List.all_eq_true, List.mem_map]
    rintro x ⟨i, _, rfl⟩
    simp [plainP]
  · rintro x ⟨i, _, rfl⟩; rfl
theorem sortable_ints (l : List Int) : sortable (l.map PV.int) = true := by
  unfold sortable
  simp only [Bool.or_eq_true, List.all_eq_true, List.mem_map]
  left; right
  rintro x ⟨i, _, rfl⟩
  rfl
/-- of a sorting of f's values: f's arguments -/
theorem perm_map {α : Type} {f : α → PV} {g : PV → α} (hg : ∀ a, g (f a) = a) {l : List α} {ys : List PV} (h : ys.Perm (l.map f)) : ys = (ys.map g).map f ∧ (ys.map g).Perm l := by
  refine ⟨?_, ?_⟩
  · rw [List.map_map]
    conv => lhs; rw [← List.map_id ys]
    apply List.map_congr_left
    intro y hy
    obtain ⟨a, _, e⟩ := List.mem_map.mp (h.mem_iff.mp hy)
    subst e
    simp [hg]
  · have := h.map g
    rwa [List.map_map, show g ∘ f = id from funext hg, List.map_id] at this
def unI : PV → Int
  | .int i => i
  | _ => 0
theorem sortL_ints (l : List Int) : sortL (l.map PV.int) = (sortI l).map PV.int := by
  obtain ⟨h1, h2⟩ := perm_map (g := unI) (fun i => rfl) (sortL_perm (l.map PV.int))
  have pw := sortL_pw (l.map PV.int)
  rw [h1, List.pairwise_map] at pw
  rw [h1]
  congr 1
  refine sorted_uniq (h2.trans (sortI_perm l).symm) (pw.imp fun {a b} h => ?_) (sortI_sorted l)
  rw [leP_int] at h
  simpa using h
theorem sortedF_ints (l : List Int) : sortedF [.lst (l.map PV.int)] = some (.lst ((sortI l).map PV.int)) := by
  simp only [sortedF]
  rw [comparable_ints, sortable_ints, sortL_ints]
  rfl
/-! pairs and rows of numbers -/
theorem alikeAll_ints : ∀ a b : List Int, PySem.W.alikeAll (a.map PySem.PyData.int) (b.map PySem.PyData.int) = true
  | [], _ => by simp [PySem.W.alikeAll]
  | _ :: _, [] => by simp [PySem.W.alikeAll]
  | x :: xs, y :: ys => by simp [PySem.W.alikeAll, PySem.W.alike, alikeAll_ints xs ys]
theorem okD_ints (n : Nat) (l : List Int) : (l.map PV.int).all (okD n) = true := by
  rw [List.all_eq_true]
  intro x hx
  obtain ⟨i, _, rfl⟩ := List.mem_map.mp hx
  exact okD_int _ _
theorem plainPs_ints (l : List Int) : plainPs (l.map PV.int) = true := by
  rw [plainPs_all, List.all_eq_true]
  intro x hx
  obtain ⟨i, _, rfl⟩ := List.mem_map.mp hx
  simp [plainP]
theorem comparable_tups (l : List (List Int)) : comparable (l.map fun a => .tup (a.map PV.int)) = true := by
  unfold comparable
  simp only [Bool.and_eq_true, List.all_eq_true, List.mem_map]
  refine ⟨⟨⟨?_, ?_⟩, ?_⟩, ?_⟩
  · rintro x ⟨i, _, rfl⟩
    simpa [okD] using okD_ints 59 i
  · unfold alikeB
    simp only [List.all_eq_true, List.mem_map]
    rintro x ⟨i, _, rfl⟩ y ⟨j, _, rfl⟩
    simp only [toD, PySem.W.alike, toDs_ints]
    exact alikeAll_ints i j
  · rw [plainPs_all]
    simp only [List.all_eq_true, List.mem_map]
    rintro x ⟨i, _, rfl⟩
    simpa [plainP] using plainPs_ints i
  · rintro x ⟨i, _, rfl⟩; rfl
theorem sortable_tups (l : List (List Int)) (h : ∀ a ∈ l, a ≠ []) : sortable (l.map fun a => .tup (a.map PV.int)) = true := by
  unfold sortable
  simp only [Bool.or_eq_true, List.all_eq_true, List.mem_map]
  left; left
  rintro x ⟨a, ha, rfl⟩
  cases a with
  | nil => exact absurd rfl (h [] ha)
  | cons i r => rfl
end PP

/-! PP, part u: slots that are let go; evaluation of what is not known. -/
namespace PP
open PySem PySem.Spec PyProof.Rows L2

section
variable {K : PySem.W.Frag} {F F' : Addr → Prop} {H H' : Hp} {env env' : PEn} {σ σ' : L2.St}
theorem Rel.kill (R : Rel K F H env σ) (vs : List Nat) : Rel K F H (wipeE env vs) σ where
  len := by rw [wipeE_len]; exact R.len
  val := fun j v e => R.val j v (val_wipe e).2
  own := fun j v e => R.own j v (own_wipe e).2
  apart := fun j k v w a e1 e2 s1 s2 => R.apart j k v w a (own_wipe e1).2 (own_wipe e2).2 s1 s2
  fz := R.fz
  sz := R.sz
theorem Mv.kill (vs : List Nat) : Mv F H env σ F H (wipeE env vs) σ :=
  ⟨fun _ h => h, fun _ _ h _ => h, fun _ h => .inl h, fun a ⟨j, v, e, s⟩ => .inl ⟨j, v, (own_wipe e).2, s⟩, fun _ o h => ⟨o, h⟩⟩
end
def killFl (ks : List Nat) : Fl → Fl
  | .nx e => .nx (wipeE e ks)
  | .bk e => .bk (wipeE e ks)
  | .ct e => .ct (wipeE e ks)
  | .rt v e => .rt v e
/-- slots that are let go ahead of a statement, behind a block -/
def sPre (ks : List Nat) (d : DenS) : DenS := fun e => d (wipeE e ks)
def sPost (ks : List Nat) (d : DenS) : DenS := fun e => (d e).map (killFl ks)
/-- a return lets all slots go but those by reference -/
def sRetK (ks : List Nat) (a : Den) : DenS := fun e => (a e).map fun p => .rt p.1 (wipeE p.2 ks)
section
variable {X : Cx} {refs : List Nat} {st : Stmt} {sts : List Stmt} {e : Expr} {de : Den} {d : DenS} {pos : Pos}
theorem flok_kill {K : PySem.W.Frag} {F : Addr → Prop} {H : Hp} {env : PEn} {σ : L2.St} {D : Ends} {ks : List Nat} {fl : Fl} (q : FlOk K refs F H env σ D (killFl ks fl)) : FlOk K refs F H env σ D fl := by
  cases fl with
  | nx e' => exact fun σ' F' H' R M k => q σ' F' H' (R.kill ks) (M.trans (Mv.kill ks)) k
  | bk e' => exact fun σ' F' H' R M k => q σ' F' H' (R.kill ks) (M.trans (Mv.kill ks)) k
  | ct e' => exact fun σ' F' H' R M k => q σ' F' H' (R.kill ks) (M.trans (Mv.kill ks)) k
  | rt v e' => exact q
theorem vs_pre (ks : List Nat) (h : VS X refs st d) : VS X refs st (sPre ks d) := ps_imp h fun D σ H sz ⟨F, env, fl, R, hd, q⟩ =>
  ⟨F, wipeE env ks, fl, R.kill ks, hd, (q.after (Mv.kill ks) .refl).sz⟩
theorem vss_pre (ks : List Nat) (h : VSs X refs sts d) : VSs X refs sts (sPre ks d) := pss_imp h fun D σ H sz ⟨F, env, fl, R, hd, q⟩ =>
  ⟨F, wipeE env ks, fl, R.kill ks, hd, (q.after (Mv.kill ks) .refl).sz⟩
theorem vs_post (ks : List Nat) (h : VS X refs st d) : VS X refs st (sPost ks d) := ps_imp h fun D σ H sz ⟨F, env, fl, R, hd, q⟩ => by
  unfold sPost at hd
  obtain ⟨fl', h1, e⟩ := Option.map_eq_some_iff.mp hd
  subst e
  exact ⟨F, env, fl', R, h1, (flok_kill q).sz⟩
theorem vss_post (ks : List Nat) (h : VSs X refs sts d) : VSs X refs sts (sPost ks d) := pss_imp h fun D σ H sz ⟨F, env, fl, R, hd, q⟩ => by
  unfold sPost at hd
  obtain ⟨fl', h1, e⟩ := Option.map_eq_some_iff.mp hd
  subst e
  exact ⟨F, env, fl', R, h1, (flok_kill q).sz⟩
theorem vs_retK (ks : List Nat) (h : VE X e de) : VS X refs (.Return (some e) pos) (sRetK ks de) := ps_imp (ps_ret h) fun D σ H sz ⟨F, env, fl, R, hd, q⟩ => by
  unfold sRetK at hd
  obtain ⟨p, h1, hz⟩ := Option.map_eq_some_iff.mp hd
  subst hz
  exact ⟨F, env, p.1, p.2, R, h1, fun x F1 H1 R1 M1 r1 _ => q x σ F1 H1 (R1.kill ks) (M1.trans (Mv.kill ks)) .refl r1⟩
end

/-- an own slot is frozen behind a statement -/
def fzE : PEn → Nat → PEn
  | [], _ => []
  | .own v :: r, 0 => .val v :: r
  | s :: r, 0 => s :: r
  | s :: r, i + 1 => s :: fzE r i
theorem fzE_own : ∀ {e : PEn} {i : Nat} {v : PV}, e[i]? = some (SlP.own v) → fzE e i = e.set i (.val v)
  | [], i, v, h => by simp at h
  | s :: r, 0, v, h => by simp at h; subst h; rfl
  | s :: r, i + 1, v, h => by
    have := fzE_own (e := r) (i := i) (by simpa using h)
    cases s <;> simp [fzE, this]
theorem fzE_not : ∀ {e : PEn} {i : Nat}, (∀ v, e[i]? ≠ some (SlP.own v)) → fzE e i = e
  | [], i, h => by cases i <;> rfl
  | s :: r, 0, h => by
    cases s with
    | own v => exact absurd rfl (h v)
    | _ => rfl
  | s :: r, i + 1, h => by
    have := fzE_not (e := r) (i := i) (by simpa using h)
    cases s <;> simp [fzE, this]
theorem Rel.frz {K : PySem.W.Frag} {F : Addr → Prop} {H : Hp} {env : PEn} {σ : L2.St} (R : Rel K F H env σ) (i : Nat) : ∃ F', Rel K F' H (fzE env i) σ ∧ Mv F H env σ F' H (fzE env i) σ := by
  by_cases h : ∃ v, env[i]? = some (SlP.own v)
  · obtain ⟨v, e⟩ := h
    obtain ⟨a, s, _, _⟩ := R.own i v e
    obtain ⟨R', M', _⟩ := freeze R e s
    rw [fzE_own e]
    exact ⟨_, R', M'⟩
  · rw [fzE_not fun v e => h ⟨v, e⟩]
    exact ⟨F, R, .refl⟩
def fzFl (i : Nat) : Fl → Fl
  | .nx e => .nx (fzE e i)
  | .bk e => .bk (fzE e i)
  | .ct e => .ct (fzE e i)
  | .rt v e => .rt v e
def sFz (i : Nat) (d : DenS) : DenS := fun e => (d e).map (fzFl i)
theorem flok_fz {K : PySem.W.Frag} {refs : List Nat} {F : Addr → Prop} {H : Hp} {env : PEn} {σ : L2.St} {D : Ends} {i : Nat} {fl : Fl} (q : FlOk K refs F H env σ D (fzFl i fl)) : FlOk K refs F H env σ D fl := by
  cases fl with
  | nx e' => exact fun σ' F' H' R M k => by obtain ⟨F2, R2, M2⟩ := R.frz i; exact q σ' F2 H' R2 (M.trans M2) k
  | bk e' => exact fun σ' F' H' R M k => by obtain ⟨F2, R2, M2⟩ := R.frz i; exact q σ' F2 H' R2 (M.trans M2) k
  | ct e' => exact fun σ' F' H' R M k => by obtain ⟨F2, R2, M2⟩ := R.frz i; exact q σ' F2 H' R2 (M.trans M2) k
  | rt v e' => exact q
theorem vs_fz {X : Cx} {refs : List Nat} {st : Stmt} {d : DenS} (i : Nat) (h : VS X refs st d) : VS X refs st (sFz i d) := ps_imp h fun D σ H sz ⟨F, env, fl, R, hd, q⟩ => by
  unfold sFz at hd
  obtain ⟨fl', h1, e⟩ := Option.map_eq_some_iff.mp hd
  subst e
  exact ⟨F, env, fl', R, h1, (flok_fz q).sz⟩

/-! ### what is not known -/
def kFst (o : Option (PV × PEn)) : Option PV := o.map (·.1)
section
variable {α : Type} {e e1 : PEn} {a b c : Den} {t u : DenT} {x y : DenS} {o : Option α}
theorem kSeq_b {f : α → Option Fl} : kSeq (o.bind f) y = o.bind fun z => kSeq (f z) y := by cases o <;> rfl
theorem kRet_b {f : α → Option (PV × PEn)} : kRet (o.bind f) = o.bind fun z => kRet (f z) := by cases o <;> rfl
def kRetK (ks : List Nat) (o : Option (PV × PEn)) : Option Fl := o.map fun p => .rt p.1 (wipeE p.2 ks)
theorem kRetK_s {ks : List Nat} {v : PV} : kRetK ks (some (v, e)) = some (.rt v (wipeE e ks)) := rfl
theorem kRetK_b {ks : List Nat} {f : α → Option (PV × PEn)} : kRetK ks (o.bind f) = o.bind fun z => kRetK ks (f z) := by cases o <;> rfl
theorem sRetK_ev {ks : List Nat} : sRetK ks a e = kRetK ks (a e) := rfl
theorem sPre_ev {ks : List Nat} : sPre ks x e = x (wipeE e ks) := rfl
def kPost (ks : List Nat) (o : Option Fl) : Option Fl := o.map (killFl ks)
theorem sPost_ev {ks : List Nat} : sPost ks x e = kPost ks (x e) := rfl
theorem kPost_nx {ks : List Nat} : kPost ks (some (.nx e)) = some (.nx (wipeE e ks)) := rfl
theorem kPost_bk {ks : List Nat} : kPost ks (some (.bk e)) = some (.bk (wipeE e ks)) := rfl
theorem kPost_rt {ks : List Nat} {v : PV} : kPost ks (some (.rt v e)) = some (.rt v e) := rfl
theorem kPost_b {ks : List Nat} {f : α → Option Fl} : kPost ks (o.bind f) = o.bind fun z => kPost ks (f z) := by cases o <;> rfl
def kFz (i : Nat) (o : Option Fl) : Option Fl := o.map (fzFl i)
theorem sFz_ev {i : Nat} : sFz i x e = kFz i (x e) := rfl
theorem kFz_nx {i : Nat} : kFz i (some (.nx e)) = some (.nx (fzE e i)) := rfl
theorem kFz_b {i : Nat} {f : α → Option Fl} : kFz i (o.bind f) = o.bind fun z => kFz i (f z) := by cases o <;> rfl
theorem fzE_0 {v : PV} : fzE (.own v :: e) 0 = .val v :: e := rfl
theorem fzE_n {s : SlP} {i : Nat} : fzE (s :: e) (i + 1) = s :: fzE e i := by cases s <;> rfl
theorem runFN_ev {m : Nat} {ps : List PV} : runFN m a ps = kFst (a (argE [] ps ++ List.replicate m .no)) := rfl
theorem kFst_s {v : PV} : kFst (some (v, e)) = some v := rfl
theorem kFst_b {f : α → Option (PV × PEn)} : kFst (o.bind f) = o.bind fun z => kFst (f z) := by cases o <;> rfl
theorem sNever_ev : sNever e = none := rfl
theorem kSeq_0 : kSeq none y = none := rfl
theorem kPost_0 {ks : List Nat} : kPost ks none = none := rfl
theorem kEnd_0 {ms : List Bool} {ps : List PV} : kEnd ms ps none = none := rfl
theorem kDrop_b {f : α → Option (PV × PEn)} : kDrop (o.bind f) = o.bind fun z => kDrop (f z) := by cases o <;> rfl
theorem kIf_b {f : α → Option (Bool × PEn)} : kIf (o.bind f) x y = o.bind fun z => kIf (f z) x y := by cases o <;> rfl
theorem kIf_v {k : Bool} : kIf (some (k, e)) x y = if k = true then x e else y e := rfl
theorem kNx_b {f : α → Option PEn} : kNx (o.bind f) = o.bind fun z => kNx (f z) := by cases o <;> rfl
theorem kAsg_b {g : Tgt} {f : α → Option (PV × PEn)} : kAsg g (o.bind f) = o.bind fun z => kAsg g (f z) := by cases o <;> rfl
theorem kOwn_b {i : Nat} {f : α → Option (PV × PEn)} : kOwn i (o.bind f) = o.bind fun z => kOwn i (f z) := by cases o <;> rfl
theorem kFor_b {g : Tgt} {f : α → Option (List PV × PEn)} : kFor g x (o.bind f) = o.bind fun z => kFor g x (f z) := by cases o <;> rfl
theorem kR_b {o : Option PV} : kR o e = o.bind fun z => some (z, e) := by cases o <;> rfl
theorem kUn_b {g : PV → Option PV} {f : α → Option (PV × PEn)} : kUn g (o.bind f) = o.bind fun z => kUn g (f z) := by cases o <;> rfl
theorem kB1_b {g : PV → PV → Option PV} {f : α → Option (PV × PEn)} : kB1 g b (o.bind f) = o.bind fun z => kB1 g b (f z) := by cases o <;> rfl
theorem kB2_b {g : PV → PV → Option PV} {p : PV} {f : α → Option (PV × PEn)} : kB2 g p (o.bind f) = o.bind fun z => kB2 g p (f z) := by cases o <;> rfl
theorem kBR_b {g : PV → PV → Option PV} {i : Nat} {f : α → Option (PV × PEn)} : kBR g i (o.bind f) = o.bind fun z => kBR g i (f z) := by cases o <;> rfl
theorem kBL2_b {g : PV → PV → Option PV} {i : Nat} {f : α → Option (PV × PEn)} : kBL2 g i (o.bind f) = o.bind fun z => kBL2 g i (f z) := by cases o <;> rfl
theorem kA1_b {r : List Den} {f : α → Option (PV × PEn)} : kA1 r (o.bind f) = o.bind fun z => kA1 r (f z) := by cases o <;> rfl
theorem kA2_b {p : PV} {f : α → Option (List PV × PEn)} : kA2 p (o.bind f) = o.bind fun z => kA2 p (f z) := by cases o <;> rfl
theorem kAd_b {r : List Arg} {f : α → Option (PV × PEn)} : kAd r (o.bind f) = o.bind fun z => kAd r (f z) := by cases o <;> rfl
theorem kAb2_b {i : Nat} {f : α → Option (List PV × PEn)} : kAb2 i (o.bind f) = o.bind fun z => kAb2 i (f z) := by cases o <;> rfl
theorem kCd_b {r : List Arg} {f : α → Option (PV × PEn)} : kCd r (o.bind f) = o.bind fun z => kCd r (f z) := by cases o <;> rfl
theorem kCb2_b {i : Nat} {f : α → Option (List PV × PEn)} : kCb2 i (o.bind f) = o.bind fun z => kCb2 i (f z) := by cases o <;> rfl
theorem kApp_b {g : List PV → Option PV} {f : α → Option (List PV × PEn)} : kApp g (o.bind f) = o.bind fun z => kApp g (f z) := by cases o <;> rfl
theorem kCall_b {g : Sem} {as : List Arg} {f : α → Option (List PV × PEn)} : kCall g as (o.bind f) = o.bind fun z => kCall g as (f z) := by cases o <;> rfl
theorem kCall2_b {as : List Arg} {f : α → Option (PV × List PV)} : kCall2 as e (o.bind f) = o.bind fun z => kCall2 as e (f z) := by cases o <;> rfl
theorem kTup_b {f : α → Option (List PV × PEn)} : kTup (o.bind f) = o.bind fun z => kTup (f z) := by cases o <;> rfl
theorem kLst_b {f : α → Option (List PV × PEn)} : kLst (o.bind f) = o.bind fun z => kLst (f z) := by cases o <;> rfl
theorem kT2_b {o : Option Bool} : kT2 o e = o.bind fun z => some (z, e) := by cases o <;> rfl
theorem kDB_b {f : α → Option (PV × PEn)} : kDB (o.bind f) = o.bind fun z => kDB (f z) := by cases o <;> rfl
theorem kNot_b {f : α → Option (Bool × PEn)} : kNot (o.bind f) = o.bind fun z => kNot (f z) := by cases o <;> rfl
theorem kAnd_b {f : α → Option (Bool × PEn)} : kAnd (o.bind f) u = o.bind fun z => kAnd (f z) u := by cases o <;> rfl
theorem kAnd_v {k : Bool} : kAnd (some (k, e)) u = if k = true then u e else some (false, e) := rfl
theorem kOr_b {f : α → Option (Bool × PEn)} : kOr (o.bind f) u = o.bind fun z => kOr (f z) u := by cases o <;> rfl
theorem kOr_v {k : Bool} : kOr (some (k, e)) u = if k = true then some (true, e) else u e := rfl
theorem kIfE_b {f : α → Option (Bool × PEn)} : kIfE (o.bind f) a b = o.bind fun z => kIfE (f z) a b := by cases o <;> rfl
theorem kIfE_v {k : Bool} : kIfE (some (k, e)) a b = if k = true then a e else b e := rfl
theorem kTr_b {f : α → Option (PV × PEn)} : kTr (o.bind f) = o.bind fun z => kTr (f z) := by cases o <;> rfl
theorem kIs_b {k : TyN} {f : α → Option (PV × PEn)} : kIs k (o.bind f) = o.bind fun z => kIs k (f z) := by cases o <;> rfl
/-- and, or as values; chains -/
def mAV (z : PV) (k : Option PV) : Option PV := match z with
  | .bl true => k
  | .bl false => some (.bl false)
  | _ => none
def mOV (z : PV) (k : Option PV) : Option PV := match z with
  | .bl false => k
  | .bl true => some (.bl true)
  | _ => none
def jAV (z : PV) (k : Option (PV × PEn)) (e : PEn) : Option (PV × PEn) := match z with
  | .bl true => k
  | .bl false => some (.bl false, e)
  | _ => none
def jOV (z : PV) (k : Option (PV × PEn)) (e : PEn) : Option (PV × PEn) := match z with
  | .bl false => k
  | .bl true => some (.bl true, e)
  | _ => none
theorem kAV_b {f : α → Option (PV × PEn)} : kAV (o.bind f) b = o.bind fun z => kAV (f z) b := by cases o <;> rfl
theorem kAV_v {z : PV} : kAV (some (z, e)) b = jAV z (b e) e := by cases z <;> first | rfl | (rename_i k; cases k <;> rfl)
theorem kOV_b {f : α → Option (PV × PEn)} : kOV (o.bind f) b = o.bind fun z => kOV (f z) b := by cases o <;> rfl
theorem kOV_v {z : PV} : kOV (some (z, e)) b = jOV z (b e) e := by cases z <;> first | rfl | (rename_i k; cases k <;> rfl)
theorem mAV_bind {z : PV} {k : Option PV} : ((mAV z k).bind fun v => some (v, e)) = jAV z (k.bind fun v => some (v, e)) e := by cases z <;> first | rfl | (rename_i k; cases k <;> rfl)
theorem mOV_bind {z : PV} {k : Option PV} : ((mOV z k).bind fun v => some (v, e)) = jOV z (k.bind fun v => some (v, e)) e := by cases z <;> first | rfl | (rename_i k; cases k <;> rfl)
theorem mAV_t {k : Option PV} : mAV (.bl true) k = k := rfl
theorem mAV_f {k : Option PV} : mAV (.bl false) k = some (.bl false) := rfl
theorem mOV_t {k : Option PV} : mOV (.bl true) k = some (.bl true) := rfl
theorem mOV_f {k : Option PV} : mOV (.bl false) k = k := rfl
theorem kC1_b {f g : PV → PV → Option PV} {h : α → Option (PV × PEn)} : kC1 f g b c (o.bind h) = o.bind fun z => kC1 f g b c (h z) := by cases o <;> rfl
theorem kC2_b {f g : PV → PV → Option PV} {p : PV} {h : α → Option (PV × PEn)} : kC2 f g c p (o.bind h) = o.bind fun z => kC2 f g c p (h z) := by cases o <;> rfl
theorem kC3_b {g : PV → PV → Option PV} {q : PV} {o : Option PV} : kC3 g c q e o = o.bind fun z => jAV z (kB2 g q (c e)) e := by
  cases o with
  | none => rfl
  | some z => cases z <;> first | rfl | (rename_i k; cases k <;> rfl)
/-! own lists, stores -/
def asL (v : PV) : Option (List PV) := match v with
  | .lst xs => some xs
  | _ => none
theorem asL_lst {xs : List PV} : asL (.lst xs) = some xs := rfl
theorem ownL_0v {v : PV} {r : PEn} : ownL (.own v :: r) 0 = asL v := by cases v <;> rfl
theorem kM_b {g : List PV → List PV → Option (PV × List PV)} {i : Nat} {ds : List Den} {o : Option (List PV)} : kM g i ds o e = o.bind fun _ => kM2 g i (dArgs ds e) := by cases o <;> rfl
theorem kM2_b {g : List PV → List PV → Option (PV × List PV)} {i : Nat} {f : α → Option (List PV × PEn)} : kM2 g i (o.bind f) = o.bind fun z => kM2 g i (f z) := by cases o <;> rfl
theorem kM3_b {g : List PV → List PV → Option (PV × List PV)} {i : Nat} {q : List PV} {o : Option (List PV)} : kM3 g i q e o = o.bind fun xs => kM4 i e (g xs q) := by cases o <;> rfl
theorem kM4_b {i : Nat} {o : Option (PV × List PV)} : kM4 i e o = o.bind fun z => some (z.1, e.set i (.own (.lst z.2))) := by cases o <;> rfl
theorem kS_b {i : Nat} {f : α → Option (PV × PEn)} : kS i a (o.bind f) = o.bind fun z => kS i a (f z) := by cases o <;> rfl
theorem kS3_b {i : Nat} {v : PV} {f : α → Option (PV × PEn)} : kS3 i v (o.bind f) = o.bind fun z => kS3 i v (f z) := by cases o <;> rfl
theorem kS5_b {i : Nat} {o : Option PV} : kS5 i e o = o.bind fun z => some (.nx (e.set i (.own z))) := by cases o <;> rfl
/-- the list of a method's change -/
def mMut (g : List PV → List PV → Option (PV × List PV)) (v : PV) (q : List PV) : Option (PV × PV) := (asL v).bind fun xs => (g xs q).bind fun z => some (z.1, .lst z.2)
/-! receivers -/
theorem kRv_b {g : PV → Bool} {oo : Arg} {as : List Den} {f : PV → List PV → Option PV} {h : α → Option (PV × PEn)} : kRv g oo as f (o.bind h) = o.bind fun z => kRv g oo as f (h z) := by cases o <;> rfl
theorem kRv2_b {f : PV → List PV → Option PV} {oo : Arg} {p : PV} {h : α → Option (List PV × PEn)} : kRv2 f oo p (o.bind h) = o.bind fun z => kRv2 f oo p (h z) := by cases o <;> rfl
/-- a method of a value that is read -/
def mRecv (g : PV → Bool) (f : PV → List PV → Option PV) (p : PV) (q : List PV) : Option PV := if g p = true then f p q else none
def guard1 (k : Bool) : Option Unit := if k = true then some () else none
theorem kRv_v {g : PV → Bool} {oo : Arg} {as : List Den} {f : PV → List PV → Option PV} {p : PV} : kRv g oo as f (some (p, e)) = (guard1 (g p)).bind fun _ => kRv2 f oo p (dArgs as e) := by
  show (if g p = true then _ else none) = _
  unfold guard1
  split <;> rfl
theorem kRv3_v {f : PV → List PV → Option PV} {q : List PV} {p : PV} : kRv3 f q p e (some p) = kR (f p q) e := by
  show (if kind p = kind p then _ else none) = _
  rw [if_pos rfl]
  rfl
theorem guard1_t : guard1 true = some () := rfl
/-! ranges -/
def rgO1 (j : PV) : Option (Int × Int) := match j with
  | .int j => if -(2 ^ 62) ≤ j ∧ j ≤ 16777216 then some (0, j) else none
  | _ => none
def rgO2 (i j : PV) : Option (Int × Int) := match i, j with
  | .int i, .int j => if -(2 ^ 62) ≤ i ∧ i < 2 ^ 62 ∧ -(2 ^ 62) ≤ j ∧ j < 2 ^ 62 ∧ j - i ≤ 16777216 then some (i, j) else none
  | _, _ => none
def rgL (p : Int × Int) : List PV := rngP p.1 (p.2 - p.1).toNat
def kRg (o : Option (List PV × PEn)) : Option ((Int × Int) × PEn) := o.bind fun p => match p.1 with
  | [.int j] => if -(2 ^ 62) ≤ j ∧ j ≤ 16777216 then some ((0, j), p.2) else none
  | [.int i, .int j] => if -(2 ^ 62) ≤ i ∧ i < 2 ^ 62 ∧ -(2 ^ 62) ≤ j ∧ j < 2 ^ 62 ∧ j - i ≤ 16777216 then some ((i, j), p.2) else none
  | _ => none
theorem rngArg_ev {as : List Den} : rngArg as e = kRg (dArgs as e) := rfl
theorem kRg_b {f : α → Option (List PV × PEn)} : kRg (o.bind f) = o.bind fun z => kRg (f z) := by cases o <;> rfl
theorem kRg_1 {j : PV} : kRg (some ([j], e)) = (rgO1 j).bind fun r => some (r, e) := by
  cases j <;> first | rfl | skip
  show (if _ then _ else _) = _
  unfold rgO1
  dsimp only
  split <;> rfl
theorem kRg_2 {i j : PV} : kRg (some ([i, j], e)) = (rgO2 i j).bind fun r => some (r, e) := by
  cases i <;> cases j <;> first | rfl | skip
  show (if _ then _ else _) = _
  unfold rgO2
  dsimp only
  split <;> rfl
theorem kLR_b {f : α → Option ((Int × Int) × PEn)} : kLR (o.bind f) = o.bind fun z => kLR (f z) := by cases o <;> rfl
theorem kLR_v {r : Int × Int} : kLR (some (r, e)) = some (.lst (rgL r), e) := rfl
def kTR (o : Option ((Int × Int) × PEn)) : Option (PV × PEn) := o.map fun p => (.tup (rngP p.1.1 (p.1.2 - p.1.1).toNat), p.2)
theorem dTupRg_ev {as : List Den} : dTupRg as e = kTR (rngArg as e) := rfl
theorem kTR_b {f : α → Option ((Int × Int) × PEn)} : kTR (o.bind f) = o.bind fun z => kTR (f z) := by cases o <;> rfl
theorem kTR_v {r : Int × Int} : kTR (some (r, e)) = some (.tup (rgL r), e) := rfl
def kIR (o : Option ((Int × Int) × PEn)) : Option (List PV × PEn) := o.map fun p => (rgL p.1, p.2)
theorem iRange_ev {as : List Den} : iRange as e = kIR (rngArg as e) := by
  unfold iRange kIR rngArg
  cases dArgs as e with
  | none => rfl
  | some p =>
    obtain ⟨l, e1⟩ := p
    simp only [Option.bind_some]
    split
    · rename_i j
      show _ = Option.map _ (if -(2 ^ 62) ≤ j ∧ j ≤ 16777216 then some ((0, j), e1) else none)
      split
      · show some (rngP 0 j.toNat, e1) = some (rngP 0 (j - 0).toNat, e1)
        rw [Int.sub_zero]
      · rfl
    · rename_i i j
      show _ = Option.map _ (if -(2 ^ 62) ≤ i ∧ i < 2 ^ 62 ∧ -(2 ^ 62) ≤ j ∧ j < 2 ^ 62 ∧ j - i ≤ 16777216 then some ((i, j), e1) else none)
      split <;> rfl
    · first | rfl | (split <;> first | rfl | (exfalso; simp_all))
theorem kIR_b {f : α → Option ((Int × Int) × PEn)} : kIR (o.bind f) = o.bind fun z => kIR (f z) := by cases o <;> rfl
theorem kIR_v {r : Int × Int} : kIR (some (r, e)) = some (rgL r, e) := rfl
/-! what is walked -/
theorem kSq_b {f : α → Option (PV × PEn)} : kSq (o.bind f) = o.bind fun z => kSq (f z) := by cases o <;> rfl
theorem kSq2_b {o : Option (List PV)} : kSq2 o e = o.bind fun z => some (z, e) := by cases o <;> rfl
def kZp (o : Option (List PV × PEn)) : Option (List PV × PEn) := o.bind fun p => match p.1 with
  | [x, y] => (zipF x y).map fun l => (l, p.2)
  | _ => none
theorem iZip2_ev : iZip2 a b e = kZp (dArgs [a, b] e) := rfl
theorem kZp_b {f : α → Option (List PV × PEn)} : kZp (o.bind f) = o.bind fun z => kZp (f z) := by cases o <;> rfl
theorem kZp_v {p q : PV} : kZp (some ([p, q], e)) = (zipF p q).bind fun l => some (l, e) := by
  show (zipF p q).map _ = _
  cases zipF p q <;> rfl
/-! slices -/
def kPt (o : Option (PV × PEn)) : Option (Option Int × PEn) := o.bind fun p => match p.1 with
  | .int i => some (some i, p.2)
  | _ => none
def asI (v : PV) : Option Int := match v with
  | .int i => some i
  | _ => none
theorem asI_int {i : Int} : asI (.int i) = some i := rfl
theorem dPart_ev : dPart a e = kPt (a e) := rfl
theorem kPt_b {f : α → Option (PV × PEn)} : kPt (o.bind f) = o.bind fun z => kPt (f z) := by cases o <;> rfl
theorem kPt_v {v : PV} : kPt (some (v, e)) = (asI v).bind fun i => some (some i, e) := by cases v <;> rfl
theorem dNoPart_ev : dNoPart e = some (none, e) := rfl
def kSl3 (ar : Arg) (p : PV) (l : Option Int) (o : Option (Option Int × PEn)) : Option (PV × PEn) := o.bind fun h => (dBack ar p h.2).bind fun y => (sliceF y l h.1).map fun z => (z, h.2)
def kSl2 (ar : Arg) (hi : DenO) (p : PV) (o : Option (Option Int × PEn)) : Option (PV × PEn) := o.bind fun l => kSl3 ar p l.1 (hi l.2)
def kSl1 (ar : Arg) (lo hi : DenO) (o : Option (PV × PEn)) : Option (PV × PEn) := o.bind fun p => kSl2 ar hi p.1 (lo p.2)
theorem dSlice_ev {ar : Arg} {lo hi : DenO} : dSlice ar lo hi e = kSl1 ar lo hi (dHead ar e) := rfl
theorem kSl1_b {ar : Arg} {lo hi : DenO} {f : α → Option (PV × PEn)} : kSl1 ar lo hi (o.bind f) = o.bind fun z => kSl1 ar lo hi (f z) := by cases o <;> rfl
theorem kSl1_s {ar : Arg} {lo hi : DenO} {p : PV} : kSl1 ar lo hi (some (p, e)) = kSl2 ar hi p (lo e) := rfl
theorem kSl2_b {ar : Arg} {hi : DenO} {p : PV} {f : α → Option (Option Int × PEn)} : kSl2 ar hi p (o.bind f) = o.bind fun z => kSl2 ar hi p (f z) := by cases o <;> rfl
theorem kSl2_s {ar : Arg} {hi : DenO} {p : PV} {l : Option Int} : kSl2 ar hi p (some (l, e)) = kSl3 ar p l (hi e) := rfl
theorem kSl3_b {ar : Arg} {p : PV} {l : Option Int} {f : α → Option (Option Int × PEn)} : kSl3 ar p l (o.bind f) = o.bind fun z => kSl3 ar p l (f z) := by cases o <;> rfl
def kSl4 (l h : Option Int) (e : PEn) (o : Option PV) : Option (PV × PEn) := o.bind fun y => (sliceF y l h).bind fun z => some (z, e)
theorem kSl3_s {ar : Arg} {p : PV} {l h : Option Int} : kSl3 ar p l (some (h, e)) = kSl4 l h e (dBack ar p e) := by
  show (dBack ar p e).bind _ = (dBack ar p e).bind _
  congr 1; funext y
  cases sliceF y l h <;> rfl
theorem kSl4_s {l h : Option Int} {y : PV} : kSl4 l h e (some y) = (sliceF y l h).bind fun z => some (z, e) := rfl
/-! targets -/
def un2 (v : PV) : Option (PV × PV) := (tupOf v).bind fun l => match l with
  | [a, b] => some (a, b)
  | _ => none
def un3 (v : PV) : Option (PV × PV × PV) := (tupOf v).bind fun l => match l with
  | [a, b, c] => some (a, b, c)
  | _ => none
theorem un2_tup {p q : PV} : un2 (.tup [p, q]) = some (p, q) := rfl
theorem un3_tup {p q r : PV} : un3 (.tup [p, q, r]) = some (p, q, r) := rfl
def kT1 (g : Tgt) (v : PV) (o : Option PEn) : Option PEn := o.bind fun e => tgtF g v e
theorem kT1_s {g : Tgt} {v : PV} : kT1 g v (some e) = tgtF g v e := rfl
theorem kT1_b {g : Tgt} {v : PV} {f : α → Option PEn} : kT1 g v (o.bind f) = o.bind fun z => kT1 g v (f z) := by cases o <;> rfl
theorem tgt_2 {g h : Tgt} {v : PV} : tgtF (.tp [g, h]) v e = (un2 v).bind fun p => kT1 h p.2 (tgtF g p.1 e) := by
  rw [tgt_tp]
  unfold un2 kTp
  cases tupOf v with
  | none => rfl
  | some l =>
    match l with
    | [] => simp [tgtsF]
    | [a] => simp [kTs, tgtsF]
    | [a, b] => simp [kTs, kT1]
    | a :: b :: c :: r => simp [kTs, tgtsF]
theorem tgt_3 {g h k : Tgt} {v : PV} : tgtF (.tp [g, h, k]) v e = (un3 v).bind fun p => kT1 k p.2.2 (kT1 h p.2.1 (tgtF g p.1 e)) := by
  rw [tgt_tp]
  unfold un3 kTp
  cases tupOf v with
  | none => rfl
  | some l =>
    match l with
    | [] => simp [tgtsF]
    | [a] => simp [kTs, tgtsF]
    | [a, b] => simp [kTs, tgtsF]
    | [a, b, c] => simp [kTs, kT1, Option.bind_assoc]
    | a :: b :: c :: d :: r => simp [kTs, tgtsF]
/-- a slot of a written environment gets a value -/
def putS (e : PEn) (i : Nat) (s : SlP) : Option PEn := if i < e.length then some (e.set i s) else none
def kPs (s : SlP) (o : Option PEn) : Option PEn := o.map (s :: ·)
theorem kPs_s {s : SlP} : kPs s (some e) = some (s :: e) := rfl
theorem putS_0 {s q : SlP} : putS (q :: e) 0 s = some (s :: e) := by simp [putS]
theorem putS_n {s q : SlP} {i : Nat} : putS (q :: e) (i + 1) s = kPs q (putS e i s) := by
  unfold putS kPs
  simp only [List.length_cons, List.set_cons_succ]
  by_cases h : i < e.length
  · rw [if_pos h, if_pos (by omega)]; rfl
  · rw [if_neg h, if_neg (by omega)]; rfl
theorem tgt_nmP {i : Nat} {v : PV} : tgtF (.nm i) v e = putS e i (.val v) := tgt_nm
theorem kOwn_P {i : Nat} {v : PV} : kOwn i (some (v, e)) = kNx (putS e i (.own v)) := by
  show (if _ then _ else _) = _
  unfold putS
  split <;> rfl
theorem kE2_b {v : PV} {f : α → Option (List PV)} : kE2 v (o.bind f) = o.bind fun z => kE2 v (f z) := by cases o <;> rfl
theorem kEnd_b {ms : List Bool} {ps : List PV} {f : α → Option Fl} : kEnd ms ps (o.bind f) = o.bind fun z => kEnd ms ps (f z) := by cases o <;> rfl
theorem ite_b {p : Prop} [Decidable p] {A B : Option α} {β : Type} {k : α → Option β} : (if p then A else B).bind k = if p then A.bind k else B.bind k := by split <;> rfl
theorem kSeq_i {p : Prop} [Decidable p] {A B : Option Fl} : kSeq (if p then A else B) y = if p then kSeq A y else kSeq B y := by split <;> rfl
theorem kPost_i {p : Prop} [Decidable p] {ks : List Nat} {A B : Option Fl} : kPost ks (if p then A else B) = if p then kPost ks A else kPost ks B := by split <;> rfl
theorem kEnd_i {p : Prop} [Decidable p] {ms : List Bool} {ps : List PV} {A B : Option Fl} : kEnd ms ps (if p then A else B) = if p then kEnd ms ps A else kEnd ms ps B := by split <;> rfl
end
/-- a bind whose rest goes into the ways -/
def mTail {α β : Type} (o : Option α) (k : α → Option β) : Option β := o.bind k
theorem mTail_eq {α β : Type} (o : Option α) (k : α → Option β) : mTail o k = o.bind k := rfl
section
variable {α β γ : Type} {k : α → Option β}
theorem mTail_s {v : α} : mTail (some v) k = k v := rfl
theorem mTail_0 : mTail none k = none := rfl
theorem mTail_b {o : Option γ} {f : γ → Option α} : mTail (o.bind f) k = o.bind fun z => mTail (f z) k := Option.bind_assoc ..
theorem mTail_i {p : Prop} [Decidable p] {A B : Option α} : mTail (if p then A else B) k = if p then mTail A k else mTail B k := by split <;> rfl
theorem mTail_AV {z : PV} {o : Option PV} {e : PEn} : mTail (mAV z o) (fun v => some (v, e)) = jAV z (mTail o fun v => some (v, e)) e := mAV_bind
theorem mTail_OV {z : PV} {o : Option PV} {e : PEn} : mTail (mOV z o) (fun v => some (v, e)) = jOV z (mTail o fun v => some (v, e)) e := mOV_bind
end
/-! ### loops -/
section
variable {S R : Type} {t : Tgt} {b : DenS}
def fldM (f : S → PV → Option S) : List PV → S → Option S
  | [], s => some s
  | x :: xs, s => (f s x).bind fun s' => fldM f xs s'
/-- a loop that may be left by a return -/
def fldR (f : S → PV → Option (S ⊕ R)) : List PV → S → Option (S ⊕ R)
  | [], s => some (.inl s)
  | x :: xs, s => (f s x).bind fun r => match r with
    | .inl s' => fldR f xs s'
    | .inr v => some (.inr v)
def flS (E : S → PEn) (V : R → PV × PEn) : S ⊕ R → Fl
  | .inl s => .nx (E s)
  | .inr v => .rt (V v).1 (V v).2
def mSum {β : Type} (r : S ⊕ R) (f : S → Option β) (g : R → Option β) : Option β := match r with
  | .inl s => f s
  | .inr v => g v
theorem mSum_l {β : Type} {s : S} {f : S → Option β} {g : R → Option β} : mSum (.inl s) f g = f s := rfl
theorem mSum_r {β : Type} {s : R} {f : S → Option β} {g : R → Option β} : mSum (.inr s) f g = g s := rfl
theorem mSum_b {α β : Type} {r : S ⊕ R} {f : S → Option α} {g : R → Option α} {k : α → Option β} : (mSum r f g).bind k = mSum r (fun s => (f s).bind k) (fun v => (g v).bind k) := by cases r <;> rfl
theorem kSeq_S {E : S → PEn} {V : R → PV × PEn} {r : S ⊕ R} {y : DenS} : kSeq (some (flS E V r)) y = mSum r (fun s => y (E s)) (fun v => some (.rt (V v).1 (V v).2)) := by cases r <;> rfl
theorem kEnd_S {E : S → PEn} {V : R → PV × PEn} {r : S ⊕ R} {ms : List Bool} {ps : List PV} : kEnd ms ps (some (flS E V r)) = mSum r (fun s => kE2 .non (outsP (E s) 0 ms ps)) (fun v => kE2 (V v).1 (outsP (V v).2 0 ms ps)) := by cases r <;> rfl
theorem kPost_S {E : S → PEn} {V : R → PV × PEn} {r : S ⊕ R} {ks : List Nat} : kPost ks (some (flS E V r)) = mSum r (fun s => some (.nx (wipeE (E s) ks))) (fun v => some (.rt (V v).1 (V v).2)) := by cases r <;> rfl
theorem kSeq_m {r : S ⊕ R} {f : S → Option Fl} {g : R → Option Fl} {y : DenS} : kSeq (mSum r f g) y = mSum r (fun s => kSeq (f s) y) (fun v => kSeq (g v) y) := by cases r <;> rfl
theorem kEnd_m {r : S ⊕ R} {f : S → Option Fl} {g : R → Option Fl} {ms : List Bool} {ps : List PV} : kEnd ms ps (mSum r f g) = mSum r (fun s => kEnd ms ps (f s)) (fun v => kEnd ms ps (g v)) := by cases r <;> rfl
theorem kPost_m {r : S ⊕ R} {f : S → Option Fl} {g : R → Option Fl} {ks : List Nat} : kPost ks (mSum r f g) = mSum r (fun s => kPost ks (f s)) (fun v => kPost ks (g v)) := by cases r <;> rfl
theorem mTail_m {α β : Type} {r : S ⊕ R} {f : S → Option α} {g : R → Option α} {k : α → Option β} : mTail (mSum r f g) k = mSum r (fun s => mTail (f s) k) (fun v => mTail (g v) k) := by cases r <;> rfl
theorem flS_l {E : S → PEn} {V : R → PV × PEn} {s : S} : flS E V (.inl s) = .nx (E s) := rfl
theorem flS_r {E : S → PEn} {V : R → PV × PEn} {v : R} : flS E V (.inr v) = .rt (V v).1 (V v).2 := rfl
/-- one turn -/
def turnF (t : Tgt) (b : DenS) (x : PV) (e : PEn) : Option Fl := (tgtF t x e).bind b
def kTn (b : DenS) (o : Option PEn) : Option Fl := o.bind b
theorem turn_ev {x : PV} {e : PEn} : turnF t b x e = kTn b (tgtF t x e) := rfl
theorem kTn_s {e : PEn} : kTn b (some e) = b e := rfl
theorem kTn_b {α : Type} {o : Option α} {f : α → Option PEn} : kTn b (o.bind f) = o.bind fun z => kTn b (f z) := by cases o <;> rfl
theorem for_fold (E : S → PEn) (m : S → PV → Option S) (h : ∀ s x, turnF t b x (E s) = (m s x).bind fun s' => some (.nx (E s'))) : ∀ xs s, forF t b xs (E s) = (fldM m xs s).bind fun s' => some (.nx (E s'))
  | [], s => rfl
  | x :: xs, s => by
    have h1 := h s x
    unfold forF fldM
    show (tgtF t x (E s)).bind _ = _
    unfold turnF at h1
    cases e1 : tgtF t x (E s) with
    | none =>
      rw [e1] at h1
      cases e2 : m s x with
      | none => rfl
      | some s' => rw [e2] at h1; cases h1
    | some e =>
      rw [e1, Option.bind_some] at h1
      rw [Option.bind_some, h1]
      cases m s x with
      | none => rfl
      | some s' => exact for_fold E m h xs s'
theorem for_foldR (E : S → PEn) (V : R → PV × PEn) (m : S → PV → Option (S ⊕ R)) (h : ∀ s x, turnF t b x (E s) = (m s x).bind fun r => some (flS E V r)) : ∀ xs s, forF t b xs (E s) = (fldR m xs s).bind fun r => some (flS E V r)
  | [], s => rfl
  | x :: xs, s => by
    have h1 := h s x
    unfold forF fldR
    show (tgtF t x (E s)).bind _ = _
    unfold turnF at h1
    cases e1 : tgtF t x (E s) with
    | none =>
      rw [e1] at h1
      cases e2 : m s x with
      | none => rfl
      | some s' => rw [e2] at h1; cases h1
    | some e =>
      rw [e1, Option.bind_some] at h1
      rw [Option.bind_some, h1]
      cases m s x with
      | none => rfl
      | some r =>
        cases r with
        | inl s' => exact for_foldR E V m h xs s'
        | inr v => rfl
/-- while -/
def whlM (c : S → Option Bool) (f : S → Option S) : Nat → S → Option S
  | 0, _ => none
  | n + 1, s => (c s).bind fun k => if k = true then (f s).bind fun s' => whlM c f n s' else some s
theorem wh_fold {c : DenT} (E : S → PEn) (mc : S → Option Bool) (m : S → Option S) (hc : ∀ s, c (E s) = (mc s).bind fun k => some (k, E s)) (h : ∀ s, b (E s) = (m s).bind fun s' => some (.nx (E s'))) : ∀ n s, whF c b n (E s) = (whlM mc m n s).bind fun s' => some (.nx (E s'))
  | 0, s => rfl
  | n + 1, s => by
    unfold whF whlM
    rw [hc s]
    cases mc s with
    | none => rfl
    | some k =>
      cases k with
      | false => rfl
      | true =>
        simp only [Option.bind_some, if_true]
        rw [h s]
        cases m s with
        | none => rfl
        | some s' => exact wh_fold E mc m hc h n s'
end
/-! ### comprehensions -/
section
variable {α : Type} {t : Tgt} {tt : DenT} {elt : Den} {vs : List Nat}
def cmpM (f : PV → Option PV) : List PV → Option (List PV)
  | [] => some []
  | x :: xs => (f x).bind fun y => (cmpM f xs).bind fun ys => some (y :: ys)
def consO (r : Option PV) (ys : List PV) : List PV := match r with
  | some y => y :: ys
  | none => ys
def cmpG (f : PV → Option (Option PV)) : List PV → Option (List PV)
  | [] => some []
  | x :: xs => (f x).bind fun r => (cmpG f xs).bind fun ys => some (consO r ys)
/-- with a state -/
def cmpT {S : Type} (f : S → PV → Option (PV × S)) : List PV → S → Option (List PV × S)
  | [], s => some ([], s)
  | x :: xs, s => (f s x).bind fun r => (cmpT f xs r.2).bind fun q => some (r.1 :: q.1, q.2)
def cmpS {S : Type} (f : S → PV → Option (Option PV × S)) : List PV → S → Option (List PV × S)
  | [], s => some ([], s)
  | x :: xs, s => (f s x).bind fun r => (cmpS f xs r.2).bind fun q => some (consO r.1 q.1, q.2)
/-- one turn -/
def kL3 (vs : List Nat) (o : Option (PV × PEn)) : Option (Option PV × PEn) := o.bind fun y => some (some y.1, wipeE y.2 vs)
def kL2 (elt : Den) (vs : List Nat) (o : Option (Bool × PEn)) : Option (Option PV × PEn) := o.bind fun b => if b.1 = true then kL3 vs (elt b.2) else some (none, wipeE b.2 vs)
def kL1 (tt : DenT) (elt : Den) (vs : List Nat) (o : Option PEn) : Option (Option PV × PEn) := o.bind fun e1 => kL2 elt vs (tt e1)
def turnL (t : Tgt) (tt : DenT) (elt : Den) (vs : List Nat) (x : PV) (e : PEn) : Option (Option PV × PEn) := kL1 tt elt vs (tgtF t x e)
theorem turnL_ev {x : PV} {e : PEn} : turnL t tt elt vs x e = kL1 tt elt vs (tgtF t x e) := rfl
theorem kL1_s {e : PEn} : kL1 tt elt vs (some e) = kL2 elt vs (tt e) := rfl
theorem kL1_b {o : Option α} {f : α → Option PEn} : kL1 tt elt vs (o.bind f) = o.bind fun z => kL1 tt elt vs (f z) := by cases o <;> rfl
theorem kL2_v {k : Bool} {e : PEn} : kL2 elt vs (some (k, e)) = if k = true then kL3 vs (elt e) else some (none, wipeE e vs) := rfl
theorem kL2_t {e : PEn} : kL2 elt vs (some (true, e)) = kL3 vs (elt e) := rfl
theorem kL2_b {o : Option α} {f : α → Option (Bool × PEn)} : kL2 elt vs (o.bind f) = o.bind fun z => kL2 elt vs (f z) := by cases o <;> rfl
theorem kL3_s {v : PV} {e : PEn} : kL3 vs (some (v, e)) = some (some v, wipeE e vs) := rfl
theorem kL3_b {o : Option α} {f : α → Option (PV × PEn)} : kL3 vs (o.bind f) = o.bind fun z => kL3 vs (f z) := by cases o <;> rfl
theorem lcF_turn {x : PV} {xs : List PV} {e : PEn} : lcF t tt elt vs (x :: xs) e = (turnL t tt elt vs x e).bind fun r => (lcF t tt elt vs xs r.2).bind fun q => some (consO r.1 q.1, q.2) := by
  unfold turnL kL1 kL2 kL3
  conv => lhs; unfold lcF
  cases tgtF t x e with
  | none => rfl
  | some e1 =>
    simp only [Option.bind_some]
    cases tt e1 with
    | none => rfl
    | some b =>
      simp only [Option.bind_some]
      split
      · cases elt b.2 with
        | none => rfl
        | some y =>
          simp only [Option.bind_some]
          cases lcF t tt elt vs xs (wipeE y.2 vs) <;> rfl
      · simp only [Option.bind_some]
        cases lcF t tt elt vs xs (wipeE b.2 vs) <;> rfl
theorem lc_M {e : PEn} (f : PV → Option PV) (h : ∀ x, turnL t tt elt vs x e = (f x).bind fun y => some (some y, e)) : ∀ xs, lcF t tt elt vs xs e = (cmpM f xs).bind fun ys => some (ys, e)
  | [] => rfl
  | x :: xs => by
    rw [lcF_turn, h x]
    unfold cmpM
    cases f x with
    | none => rfl
    | some y =>
      simp only [Option.bind_some]
      rw [lc_M f h xs]
      cases cmpM f xs <;> rfl
theorem lc_G {e : PEn} (f : PV → Option (Option PV)) (h : ∀ x, turnL t tt elt vs x e = (f x).bind fun y => some (y, e)) : ∀ xs, lcF t tt elt vs xs e = (cmpG f xs).bind fun ys => some (ys, e)
  | [] => rfl
  | x :: xs => by
    rw [lcF_turn, h x]
    unfold cmpG
    cases f x with
    | none => rfl
    | some y =>
      simp only [Option.bind_some]
      rw [lc_G f h xs]
      cases cmpG f xs <;> rfl
theorem lc_T {S : Type} (E : S → PEn) (f : S → PV → Option (PV × S)) (h : ∀ s x, turnL t tt elt vs x (E s) = (f s x).bind fun r => some (some r.1, E r.2)) : ∀ xs s, lcF t tt elt vs xs (E s) = (cmpT f xs s).bind fun q => some (q.1, E q.2)
  | [], s => rfl
  | x :: xs, s => by
    rw [lcF_turn, h s x]
    unfold cmpT
    cases f s x with
    | none => rfl
    | some y =>
      simp only [Option.bind_some]
      rw [lc_T E f h xs]
      cases cmpT f xs y.2 <;> rfl
theorem lc_S {S : Type} (E : S → PEn) (f : S → PV → Option (Option PV × S)) (h : ∀ s x, turnL t tt elt vs x (E s) = (f s x).bind fun r => some (r.1, E r.2)) : ∀ xs s, lcF t tt elt vs xs (E s) = (cmpS f xs s).bind fun q => some (q.1, E q.2)
  | [], s => rfl
  | x :: xs, s => by
    rw [lcF_turn, h s x]
    unfold cmpS
    cases f s x with
    | none => rfl
    | some y =>
      simp only [Option.bind_some]
      rw [lc_S E f h xs]
      cases cmpS f xs y.2 <;> rfl
theorem kLC_b {o : Option α} {f : α → Option (List PV × PEn)} : kLC t tt elt vs (o.bind f) = o.bind fun z => kLC t tt elt vs (f z) := by cases o <;> rfl
theorem kLC2_b {e : PEn} {o : Option α} {f : α → Option (List PV × PEn)} : kLC2 vs e (o.bind f) = o.bind fun z => kLC2 vs e (f z) := by cases o <;> rfl
end
section
variable {β S R : Type}
theorem mTail_fldM {f : S → PV → Option S} {xs : List PV} {s : S} {k : S → Option β} : mTail (fldM f xs s) k = (fldM f xs s).bind k := rfl
theorem mTail_fldR {f : S → PV → Option (S ⊕ R)} {xs : List PV} {s : S} {k : S ⊕ R → Option β} : mTail (fldR f xs s) k = (fldR f xs s).bind k := rfl
theorem mTail_whlM {c : S → Option Bool} {f : S → Option S} {n : Nat} {s : S} {k : S → Option β} : mTail (whlM c f n s) k = (whlM c f n s).bind k := rfl
theorem mTail_cmpM {f : PV → Option PV} {xs : List PV} {k : List PV → Option β} : mTail (cmpM f xs) k = (cmpM f xs).bind k := rfl
theorem mTail_cmpG {f : PV → Option (Option PV)} {xs : List PV} {k : List PV → Option β} : mTail (cmpG f xs) k = (cmpG f xs).bind k := rfl
theorem mTail_cmpT {f : S → PV → Option (PV × S)} {xs : List PV} {s : S} {k : List PV × S → Option β} : mTail (cmpT f xs s) k = (cmpT f xs s).bind k := rfl
theorem mTail_cmpS {f : S → PV → Option (Option PV × S)} {xs : List PV} {s : S} {k : List PV × S → Option β} : mTail (cmpS f xs s) k = (cmpS f xs s).bind k := rfl
end
end PP

/-! PP, part v: comprehensions of two clauses; new lists out of slices. -/
namespace PP
open PySem PySem.Spec PyProof.Rows L2

/-- a new container at D, nobody's, while a block runs -/
structure LS (K : PySem.W.Frag) (F0 : Addr → Prop) (H0 : Hp) (e0 : PEn) (σ0 : L2.St) (D : Addr) (F : Addr → Prop) (H : Hp) (e : PEn) (σ : L2.St) (v : PV) : Prop where
  R : Rel K F H e σ
  o : OwnAt K F H D v
  nF : ¬ F D
  nO : ¬ Own e σ D
  M : Mv F0 H0 e0 σ0 F H e σ
section
variable {K : PySem.W.Frag} {F0 F F' : Addr → Prop} {H0 H H' : Hp} {e0 e e' : PEn} {σ0 σ σ' : L2.St} {D : Addr} {v : PV}
theorem LS.new (l : LS K F0 H0 e0 σ0 D F H e σ v) (N : Nw F H F' H') (s : Sized H → Sized H') : LS K F0 H0 e0 σ0 D F' H' e σ v := by
  obtain ⟨u, hu, _⟩ := l.o.some
  exact ⟨N.rel l.R (s l.R.sz), l.o.ex N.ex ((N.same D u hu).trans hu.symm), fun f => (N.fnew D f).elim l.nF fun z => (by rw [hu] at z; cases z), l.nO, l.M.trans N.mv⟩
theorem LS.mv (l : LS K F0 H0 e0 σ0 D F H e σ v) (R' : Rel K F' H' e' σ') (M' : Mv F H e σ F' H' e' σ') : LS K F0 H0 e0 σ0 D F' H' e' σ' v := by
  obtain ⟨u, hu, _⟩ := l.o.some
  refine ⟨R', l.o.ex (M'.ex l.R) ((M'.frame D u hu l.nO).trans hu.symm), fun f => ?_, fun o => ?_, l.M.trans M'⟩
  · rcases M'.fnew D f with z | z | z
    · exact l.nF z
    · exact l.nO z
    · rw [hu] at z; cases z
  · rcases M'.onew D o with z | z
    · exact l.nO z
    · rw [hu] at z; cases z
theorem LS.wipe (l : LS K F0 H0 e0 σ0 D F H e σ v) (vs : List Nat) : LS K F0 H0 e0 σ0 D F H (wipeE e vs) (L2.wipe σ vs) v :=
  ⟨l.R.wipe vs, l.o, l.nF, fun o => l.nO (own_unwipe o), l.M.trans (Mv.wipe vs)⟩
/-- the container gets another content -/
theorem LS.put (l : LS K F0 H0 e0 σ0 D F H e σ v) (hD : H0 D = none) {o : HO} {w : PV} (sm : PP.HO.small o) (O : Ex F H F (upd H D o) → OwnAt K F (upd H D o) D w) : LS K F0 H0 e0 σ0 D F (upd H D o) e σ w := by
  have ex : Ex F H F (upd H D o) := ex_own l.nF l.o
  refine ⟨⟨l.R.len, fun j u ej => ?_, fun j u ej => ?_, l.R.apart, fun a f => ?_, l.R.sz.upd sm⟩, O ex, l.nF, l.nO, ⟨l.M.sub, fun c q hc n => ?_, l.M.fnew, l.M.onew, fun c q hc => ?_⟩⟩
  · obtain ⟨z, sz, rz⟩ := l.R.val j u ej
    exact ⟨z, sz, rz.ex ex⟩
  · obtain ⟨a, sa, na, oa⟩ := l.R.own j u ej
    have hne : a ≠ D := fun z => l.nO ⟨j, u, ej, by rw [← z]; exact sa⟩
    exact ⟨a, sa, na, oa.ex ex (upd_ne hne)⟩
  · have hne : a ≠ D := fun z => l.nF (by rw [← z]; exact f)
    rw [upd_ne hne]; exact l.R.fz a f
  · rw [upd_ne (ne_of_none hc hD)]; exact l.M.frame c q hc n
  · rw [upd_ne (ne_of_none hc hD)]; exact l.M.there c q hc
theorem wipe_out {vs : List Nat} {σ σ4 : L2.St} {t : Tgt} (hsub : ∀ i, i ∈ t.slots → i ∈ vs) (l : σ4.length = σ.length) (k4 : ∀ i, i ∉ t.slots → σ4[i]? = (L2.wipe σ vs)[i]?) : L2.wipe σ4 vs = L2.wipe σ vs := by
  refine (wipe_congr (fun j hj => k4 j fun z => hj (hsub j z)) (by rw [wipe_length]; exact l)).trans ?_
  apply List.ext_getElem?
  intro j
  rw [wipe_get, wipe_get]
  by_cases hj : j ∈ vs
  · rw [if_pos hj, if_pos hj]
    cases σ[j]? <;> rfl
  · rw [if_neg hj, if_neg hj]
theorem wipe_wipe {vs ws : List Nat} {σ : L2.St} (h : ∀ i ∈ ws, i ∈ vs) : L2.wipe (L2.wipe σ ws) vs = L2.wipe σ vs := by
  apply List.ext_getElem?
  intro j
  rw [wipe_get, wipe_get, wipe_get]
  by_cases hj : j ∈ vs
  · rw [if_pos hj, if_pos hj]
    split
    · cases σ[j]? <;> rfl
    · rfl
  · rw [if_neg hj, if_neg hj, if_neg fun z => hj (h j z)]
end

/-! ### [e for x in xs if .. for y in ys if ..] -/
def lc2F (t : Tgt) (tt : DenT) (src1 : DenI) (vs1 : List Nat) (t1 : Tgt) (tt1 : DenT) (elt : Den) (vs : List Nat) : List PV → PEn → Option (List PV × PEn)
  | [], e => some ([], e)
  | x :: xs, e => (tgtF t x e).bind fun e1 => (tt e1).bind fun b => if b.1 then (src1 b.2).bind fun p => (lcF t1 tt1 elt vs1 p.1 (wipeE p.2 vs1)).bind fun q => (lc2F t tt src1 vs1 t1 tt1 elt vs xs (wipeE q.2 vs)).map fun r => (q.1 ++ r.1, r.2)
      else lc2F t tt src1 vs1 t1 tt1 elt vs xs (wipeE b.2 vs)
def dLC2 (src : DenI) (vs : List Nat) (t : Tgt) (tt : DenT) (src1 : DenI) (vs1 : List Nat) (t1 : Tgt) (tt1 : DenT) (elt : Den) : Den := fun e => (src e).bind fun p => (lc2F t tt src1 vs1 t1 tt1 elt vs p.1 (wipeE p.2 vs)).bind fun q => if q.1.length ≤ 1000000 then some (.lst q.1, restoreE q.2 p.2 vs) else none
theorem lc2F_noown {t : Tgt} {tt : DenT} {src1 : DenI} {vs1 : List Nat} {t1 : Tgt} {tt1 : DenT} {elt : Den} {vs : List Nat} : ∀ {xs : List PV} {e e' : PEn} {ys : List PV}, lc2F t tt src1 vs1 t1 tt1 elt vs xs e = some (ys, e') → (∀ i, i ∈ vs → ∀ v, e[i]? ≠ some (SlP.own v)) → ∀ i, i ∈ vs → ∀ v, e'[i]? ≠ some (SlP.own v)
  | [], _, _, _, h, q => by cases h; exact q
  | x :: xs, e, e', ys, h, q => by
    unfold lc2F at h
    obtain ⟨e1, _, h⟩ := Option.bind_eq_some_iff.mp h
    obtain ⟨b, _, h⟩ := Option.bind_eq_some_iff.mp h
    split at h
    · obtain ⟨p, _, h⟩ := Option.bind_eq_some_iff.mp h
      obtain ⟨y, _, h⟩ := Option.bind_eq_some_iff.mp h
      obtain ⟨r, h', e⟩ := Option.map_eq_some_iff.mp h
      cases e
      exact lc2F_noown h' (wipeE_noown _ _)
    · exact lc2F_noown h (wipeE_noown _ _)
/-- one more item -/
theorem LS.push {K : PySem.W.Frag} {F0 F : Addr → Prop} {H0 H : Hp} {e0 e : PEn} {σ0 σ : L2.St} {D : Addr} {done : List PV} (l : LS K F0 H0 e0 σ0 D F H e σ (.lst done)) (hD : H0 D = none) {v : V} {y : PV} (r : Rep K F H v y) (hl : done.length < 1000000) :
    ∃ acc, H D = some (.lst acc) ∧ acc.length < sizeLine ∧ LS K F0 H0 e0 σ0 D F (upd H D (.lst (acc ++ [v]))) e σ (.lst (done ++ [y])) ∧ Ex F H F (upd H D (.lst (acc ++ [v]))) := by
  have o := l.o
  cases o with
  | @lst acc _ h ra =>
    have la := ra.length
    have hsz : acc.length < sizeLine := by rw [sizeLine_eq]; omega
    refine ⟨acc, h, hsz, l.put hD (by show (acc ++ [v]).length ≤ _; rw [List.length_append]; exact hsz) fun ex => .lst upd_same ((ra.append (.cons r .nil)).ex ex), ex_own l.nF l.o⟩
theorem lc2_imp {X : Cx} {src : DenI} {t : Tgt} {tt : DenT} {src1 : DenI} {vs vs1 : List Nat} {t1 : Tgt} {tt1 : DenT} {de : Den} (hsub : ∀ i, i ∈ t.slots → i ∈ vs) (hsub1 : ∀ i, i ∈ t1.slots → i ∈ vs1) (hv : ∀ i ∈ vs1, i ∈ vs) {σ : L2.St} {H : Hp} {Q : VK} (h : tF X.K (dLC2 src vs t tt src1 vs1 t1 tt1 de) σ H Q) :
    tLc2 (tI X.K src) (tG X.K t) (tT X.K tt) (tI X.K src1) (tG X.K t1) (tT X.K tt1) (tE X.K de) vs vs1 σ H (fun v H' => Sized H' → Q v H') := by
  obtain ⟨F, env, r, env', R, hd, q⟩ := h
  unfold dLC2 at hd
  obtain ⟨⟨items, e1⟩, h1, hd⟩ := Option.bind_eq_some_iff.mp hd
  obtain ⟨⟨ys, e2⟩, h2, hd⟩ := Option.bind_eq_some_iff.mp hd
  split at hd
  case isFalse => cases hd
  rename_i hys
  cases hd
  refine ⟨F, env, items, e1, R, h1, fun J F1 H1 R1 M1 Y hlen => fun D hD => ?_⟩
  have R1w := R1.wipe vs
  have N0 : Nw F1 H1 F1 (upd H1 D (.lst [])) := .upd hD R1.fz
  have L0 : LS X.K F1 H1 (wipeE e1 vs) (wipe σ vs) D F1 (upd H1 D (.lst [])) (wipeE e1 vs) (wipe σ vs) (.lst []) := by
    obtain ⟨a1, a2⟩ := own_new R1w hD
    exact ⟨N0.rel R1w (R1.sz.upd (Nat.zero_le _)), .lst upd_same .nil, a1, a2, N0.mv⟩
  let I : Nat → Hp → Prop := fun i H2 => i ≤ items.length ∧ ∃ F2 ei done rest, LS X.K F1 H1 (wipeE e1 vs) (wipe σ vs) D F2 H2 ei (wipe σ vs) (.lst done) ∧ lc2F t tt src1 vs1 t1 tt1 de vs (items.drop i) ei = some (rest, e2) ∧ done ++ rest = ys
  refine ⟨fun i m H2 => m = items.length - i ∧ I i H2, ⟨items.length, by simp, Nat.zero_le _, F1, wipeE e1 vs, [], ys, L0, by simpa using h2, rfl⟩, ?_⟩
  rintro i m H2 ⟨rfl, hi, F2, ei, done, rest, L, hl, hdone⟩
  have ex2 : Ex F1 H1 F2 H2 := L.M.ex R1w
  obtain ⟨go, stop⟩ := Y F2 H2 ex2 L.R.fz i
  by_cases hlt : i < items.length
  case neg =>
    have hie : i = items.length := by omega
    subst hie
    simp only [List.drop_length, lc2F] at hl
    cases hl
    refine .inl ⟨stop (Nat.le_refl _), fun sz => ?_⟩
    rw [List.append_nil] at hdone
    subst hdone
    have noown := lc2F_noown h2 (wipeE_noown _ _)
    refine q D F2 H2 (R1.restore L.R ex2 noown) (M1.trans ⟨L.M.sub, fun c o hc n => L.M.frame c o hc fun z => n (own_unwipe z), fun a f => ?_, fun a o => ?_, L.M.there⟩) L.nF (fun o => L.nO (own_restore o)) (M1.back hD) L.o
    · rcases L.M.fnew a f with z | z | z
      · exact .inl z
      · exact .inr (.inl (own_unwipe z))
      · exact .inr (.inr z)
    · rcases L.M.onew a (own_restore o) with z | z
      · exact .inl (own_unwipe z)
      · exact .inr z
  obtain ⟨g, yl⟩ := go _ (List.getElem?_eq_getElem hlt)
  refine .inr ⟨g, I (i + 1), fun H' n => ⟨items.length - (i + 1), by omega, rfl, n⟩, fun x H3 hy => ?_⟩
  obtain ⟨F3, N3, rx, s3⟩ := yl x H3 hy
  have L3 := L.new N3 s3
  rw [List.drop_eq_getElem_cons hlt] at hl
  unfold lc2F at hl
  obtain ⟨et, ht, hl⟩ := Option.bind_eq_some_iff.mp hl
  obtain ⟨⟨b, eb⟩, hb, hl⟩ := Option.bind_eq_some_iff.mp hl
  refine ⟨F3, ei, _, et, L3.R, rx, ht, fun σ4 R4 M4 k4 => ?_⟩
  have e4 : wipe σ4 vs = wipe σ vs := wipe_out hsub (by have a := R4.len; have b := L3.R.len; rw [tgt_len ht, b, wipe_length] at a; exact a.symm) fun j hj => (k4 j hj).1
  refine ⟨e4, F3, et, b, eb, R4, hb, fun F5 H5 R5 M5 => ?_⟩
  have L5 := L3.mv R5 (M4.trans M5)
  cases b with
  | false =>
    simp only [Bool.false_eq_true, if_false] at hl
    refine iteF ⟨hlt, F5, wipeE eb vs, done, rest, ?_, hl, hdone⟩
    have := L5.wipe vs
    rw [e4] at this
    exact this
  | true =>
    simp only [if_true] at hl
    refine iteT ?_
    obtain ⟨⟨items1, e6⟩, h6, hl⟩ := Option.bind_eq_some_iff.mp hl
    obtain ⟨⟨ys1, e7⟩, h7, hl⟩ := Option.bind_eq_some_iff.mp hl
    obtain ⟨⟨r1, r2⟩, hl', er⟩ := Option.map_eq_some_iff.mp hl
    cases er
    refine ⟨F5, eb, items1, e6, R5, h6, fun J1 F6 H6 R6 M6 Y1 hlen1 => ?_⟩
    have L6 := L5.mv R6 M6
    let I1 : Nat → Hp → Prop := fun j H7 => j ≤ items1.length ∧ ∃ F7 ej done1 rest1, LS X.K F1 H1 (wipeE e1 vs) (wipe σ vs) D F7 H7 ej (wipe σ4 vs1) (.lst (done ++ done1)) ∧ Ex F6 H6 F7 H7 ∧ lcF t1 tt1 de vs1 (items1.drop j) ej = some (rest1, e7) ∧ done1 ++ rest1 = ys1
    refine ⟨fun j k H7 => k = items1.length - j ∧ I1 j H7, ⟨items1.length, by simp, Nat.zero_le _, F6, wipeE e6 vs1, [], ys1, by simpa using L6.wipe vs1, .refl, by simpa using h7, rfl⟩, ?_⟩
    rintro j k H7 ⟨rfl, hj, F7, ej, done1, rest1, L7, ex7, hl1, hd1⟩
    obtain ⟨go1, stop1⟩ := Y1 F7 H7 ex7 L7.R.fz j
    by_cases hlt1 : j < items1.length
    case neg =>
      have hje : j = items1.length := by omega
      subst hje
      simp only [List.drop_length, lcF] at hl1
      cases hl1
      refine .inl ⟨stop1 (Nat.le_refl _), hlt, F7, wipeE e7 vs, done ++ done1, r1, ?_, hl', ?_⟩
      · have := L7.wipe vs
        rw [wipe_wipe hv, e4] at this
        exact this
      · rw [List.append_nil] at hd1
        rw [hd1, List.append_assoc]
        exact hdone
    obtain ⟨g1, yl1⟩ := go1 _ (List.getElem?_eq_getElem hlt1)
    refine .inr ⟨g1, I1 (j + 1), fun H' n => ⟨items1.length - (j + 1), by omega, rfl, n⟩, fun y H8 hy8 => ?_⟩
    obtain ⟨F8, N8, ry, s8⟩ := yl1 y H8 hy8
    have L8 := L7.new N8 s8
    rw [List.drop_eq_getElem_cons hlt1] at hl1
    unfold lcF at hl1
    obtain ⟨eu, hu, hl1⟩ := Option.bind_eq_some_iff.mp hl1
    obtain ⟨⟨b1, ev⟩, hb1, hl1⟩ := Option.bind_eq_some_iff.mp hl1
    refine ⟨F8, ej, _, eu, L8.R, ry, hu, fun σ9 R9 M9 k9 => ?_⟩
    have e9 : wipe σ9 vs1 = wipe σ4 vs1 := wipe_out hsub1 (by have a := R9.len; have b := L8.R.len; rw [tgt_len hu, b, wipe_length] at a; exact a.symm) fun j hj => (k9 j hj).1
    refine ⟨e9, F8, eu, b1, ev, R9, hb1, fun F10 H10 R10 M10 => ?_⟩
    have L10 := L8.mv R10 (M9.trans M10)
    have x10 : Ex F6 H6 F10 H10 := ex7.trans (N8.ex.trans ((M9.trans M10).ex L8.R))
    cases b1 with
    | false =>
      simp only [Bool.false_eq_true, if_false] at hl1
      refine iteF ⟨hlt1, F10, wipeE ev vs1, done1, rest1, ?_, x10, hl1, hd1⟩
      have := L10.wipe vs1
      rw [e9] at this
      exact this
    | true =>
      simp only [if_true] at hl1
      refine iteT ?_
      obtain ⟨⟨z, ez⟩, hz, hl1⟩ := Option.bind_eq_some_iff.mp hl1
      obtain ⟨⟨r3, r4⟩, hl3, er3⟩ := Option.map_eq_some_iff.mp hl1
      cases er3
      refine ⟨F10, ev, z, ez, R10, hz, fun v F11 H11 R11 M11 r11 => ?_⟩
      have L11 := L10.mv R11 M11
      obtain ⟨acc, ha, hs, Lp, exp⟩ := L11.push hD r11 (by have := congrArg List.length hdone; have := congrArg List.length hd1; simp only [List.length_append, List.length_cons] at *; omega)
      refine ⟨acc, ha, hs, hlt1, F11, wipeE ez vs1, done1 ++ [z], r3, ?_, (x10.trans (M11.ex R10)).trans exp, hl3, by rw [List.append_assoc]; exact hd1⟩
      have := Lp.wipe vs1
      rw [e9, List.append_assoc] at this
      exact this
structure LcOk2 (X : Cx) (elt tg iter tg1 iter1 : Expr) (ifs ifs1 : List Expr) (scope : Scope) (own : List (Str × Nat)) (src : DenI) (t : Tgt) (tt : DenT) (src1 : DenI) (vs1 : List Nat) (t1 : Tgt) (tt1 : DenT) (de : Den) : Prop where
  it : VI X tg iter src
  ok : BlkOk X.N X.env.scope scope own
  bd : ∀ (s : Shared) (H : Hp) (C : Addr) (cl : List (Str × Addr)) (fp : List Addr), PG (X.blk s H scope (compEnvC scope cl C X.env) fp) tg (tG X.K t) ∧ PTs (X.blk s H scope (compEnvC scope cl C X.env) fp) ifs (tT X.K tt) ∧
    PI (X.blk s H scope (compEnvC scope cl C X.env) fp) tg1 iter1 (tI X.K src1) ∧ PG (X.blk s H scope (compEnvC scope cl C X.env) fp) tg1 (tG X.K t1) ∧ PTs (X.blk s H scope (compEnvC scope cl C X.env) fp) ifs1 (tT X.K tt1) ∧ PE (X.blk s H scope (compEnvC scope cl C X.env) fp) elt (tE X.K de)
  sub : ∀ i, i ∈ t.slots → i ∈ own.map (·.2)
  sub1 : ∀ i, i ∈ t1.slots → i ∈ vs1
  sv : ∀ i ∈ vs1, i ∈ own.map (·.2)
  fs : ∀ x, foldedSetIterable iter X.env x = pure x
  fs1 : ∀ env x, foldedSetIterable iter1 env x = pure x
section
variable {X : Cx} {refs : List Nat} {elt tg iter tg1 iter1 : Expr} {ifs ifs1 : List Expr} {scope : Scope} {own : List (Str × Nat)} {pos spos py : Pos} {src src1 : DenI} {t t1 : Tgt} {tt tt1 : DenT} {de : Den} {vs1 : List Nat}
theorem vf_lc2 (hc : X.calm = true) (hN : X.N.Nodup) (l : LcOk2 X elt tg iter tg1 iter1 ifs ifs1 scope own src t tt src1 vs1 t1 tt1 de) : VF X (.ListComp elt [⟨tg, iter, ifs, 0⟩, ⟨tg1, iter1, ifs1, 0⟩] scope pos) (dLC2 src (own.map (·.2)) t tt src1 vs1 t1 tt1 de) :=
  pe_imp (pe_lc2 hc hN l.it l.ok l.sv (fun s H C cl fp => (l.bd s H C cl fp).1) (fun s H C cl fp => (l.bd s H C cl fp).2.1) (fun s H C cl fp => (l.bd s H C cl fp).2.2.1) (fun s H C cl fp => (l.bd s H C cl fp).2.2.2.1) (fun s H C cl fp => (l.bd s H C cl fp).2.2.2.2.1) (fun s H C cl fp => (l.bd s H C cl fp).2.2.2.2.2) l.fs l.fs1) fun σ H Q sz h => lc2_imp l.sub l.sub1 l.sv h
theorem vs_ownLc2 {i : Nat} {y : Str} (hr : i ∉ refs) (hc : X.calm = true) (hN : X.N.Nodup) (hy : X.N[i]? = some y) (hyl : X.env.scope.names.lookup y = some .local)
    (hsw : swapsWith (.ListComp elt [⟨tg, iter, ifs, 0⟩, ⟨tg1, iter1, ifs1, 0⟩] scope pos) (some (.Name y py)) spos.line X.env = pure true) (l : LcOk2 X elt tg iter tg1 iter1 ifs ifs1 scope own src t tt src1 vs1 t1 tt1 de) :
    VS X refs (.Assign [.Name y py] (.ListComp elt [⟨tg, iter, ifs, 0⟩, ⟨tg1, iter1, ifs1, 0⟩] scope pos) spos) (sOwn i (dLC2 src (own.map (·.2)) t tt src1 vs1 t1 tt1 de)) :=
  ps_imp (ps_setLc2 hc hN hy hyl hsw l.it l.ok l.sv (fun s H C cl fp => (l.bd s H C cl fp).1) (fun s H C cl fp => (l.bd s H C cl fp).2.1) (fun s H C cl fp => (l.bd s H C cl fp).2.2.1) (fun s H C cl fp => (l.bd s H C cl fp).2.2.2.1) (fun s H C cl fp => (l.bd s H C cl fp).2.2.2.2.1) (fun s H C cl fp => (l.bd s H C cl fp).2.2.2.2.2) l.fs l.fs1) fun D σ H sz h => by
    have h1 := own_imp hr h
    have h2 := tF_sz (Q := fun x H1 => D.nx (σ.set i (some x)) H1) h1
    exact lc2_imp l.sub l.sub1 l.sv h2
end
section
variable {X : Cx} {N : List Str} {raw nm : Nms} {k : Nat} {elt tg iter tg1 iter1 : Expr} {ifs ifs1 : List Expr} {de : Den} {tt tt1 : DenT} {src src1 : DenI} {t t1 : Tgt} {own : List (Str × Nat)} {vs1 : List Nat} {scope : Scope} {refs : List Nat} {pos spos py : Pos}
theorem Cn.lc2 (c : Cn X N raw nm k) (it : VI X tg iter src) (hok : blkC N { kind := .function, names := nm, isGenerator := false, isCoroutine := false } scope own = true) (hk : scope.kind = .function) (sub : (t.slots.all fun i => decide (i ∈ own.map (·.2))) = true) (sub1 : (t1.slots.all fun i => decide (i ∈ vs1)) = true) (sv : (vs1.all fun i => decide (i ∈ own.map (·.2))) = true)
    (fs : ∀ x, foldedSetIterable iter X.env x = pure x) (fs1 : ∀ env x, foldedSetIterable iter1 env x = pure x)
    (bd : ∀ (s : Shared) (H : Hp) (C : Addr) (cl : List (Str × Addr)) (fp : List Addr), Cn (X.blk s H scope (compEnvC scope cl C X.env) fp) N scope.names (relN nm scope.names) k →
      PG (X.blk s H scope (compEnvC scope cl C X.env) fp) tg (tG X.K t) ∧ PTs (X.blk s H scope (compEnvC scope cl C X.env) fp) ifs (tT X.K tt) ∧
      PI (X.blk s H scope (compEnvC scope cl C X.env) fp) tg1 iter1 (tI X.K src1) ∧ PG (X.blk s H scope (compEnvC scope cl C X.env) fp) tg1 (tG X.K t1) ∧ PTs (X.blk s H scope (compEnvC scope cl C X.env) fp) ifs1 (tT X.K tt1) ∧ PE (X.blk s H scope (compEnvC scope cl C X.env) fp) elt (tE X.K de)) : LcOk2 X elt tg iter tg1 iter1 ifs ifs1 scope own src t tt src1 vs1 t1 tt1 de where
  it := it
  ok := by
    have := blkOk_by hok
    exact ⟨this.kind, this.uniq, by rw [c.eN]; exact this.ix, fun y hy e => by rw [c.nm]; exact this.free y hy e, by rw [c.eN]; exact this.own⟩
  bd := fun s H C cl fp => bd s H C cl fp (c.blk s H scope C cl fp hk)
  sub := fun i hi => by simpa using List.all_eq_true.mp sub i hi
  sub1 := fun i hi => by simpa using List.all_eq_true.mp sub1 i hi
  sv := fun i hi => by simpa using List.all_eq_true.mp sv i hi
  fs := fs
  fs1 := fs1
theorem Cn.vf2 (c : Cn X N raw nm k) (l : LcOk2 X elt tg iter tg1 iter1 ifs ifs1 scope own src t tt src1 vs1 t1 tt1 de) : VF X (.ListComp elt [⟨tg, iter, ifs, 0⟩, ⟨tg1, iter1, ifs1, 0⟩] scope pos) (dLC2 src (own.map (·.2)) t tt src1 vs1 t1 tt1 de) := vf_lc2 c.calm (by rw [c.eN]; exact c.nd) l
theorem Cn.ownLc2 (c : Cn X N raw nm k) {i : Nat} {y : Str} (hr : (refs.all fun j => j != i) = true) (hs : stoC N raw i y = true) (hl : decide (nm.lookup y = some .local) = true) (hw : swC nm scope y py.line pos.line = true) (l : LcOk2 X elt tg iter tg1 iter1 ifs ifs1 scope own src t tt src1 vs1 t1 tt1 de) :
    VS X refs (.Assign [.Name y py] (.ListComp elt [⟨tg, iter, ifs, 0⟩, ⟨tg1, iter1, ifs1, 0⟩] scope pos) spos) (sOwn i (dLC2 src (own.map (·.2)) t tt src1 vs1 t1 tt1 de)) := by
  obtain ⟨a1, a2, a3, a4⟩ := stoC_ok c hs
  refine vs_ownLc2 (fun h => ?_) c.calm a1 a2 (by rw [c.nm]; simpa using hl) (by rw [c.sw, hw]) l
  have := List.all_eq_true.mp hr i h
  simp at this
theorem Cn.ownLc20 (c : Cn X N raw nm k) {i : Nat} {y : Str} (hr : (refs.all fun j => j != i) = true) (hs : stoC N raw i y = true) (hw : swC nm scope y py.line pos.line = false) (l : LcOk2 X elt tg iter tg1 iter1 ifs ifs1 scope own src t tt src1 vs1 t1 tt1 de) :
    VS X refs (.Assign [.Name y py] (.ListComp elt [⟨tg, iter, ifs, 0⟩, ⟨tg1, iter1, ifs1, 0⟩] scope pos) spos) (sOwn i (dLC2 src (own.map (·.2)) t tt src1 vs1 t1 tt1 de)) := by
  obtain ⟨a1, a2, a3, a4⟩ := stoC_ok c hs
  refine vs_own (fun h => ?_) a1 a2 a3 (c.vf2 l) (by rw [c.sw, hw]) a4
  have := List.all_eq_true.mp hr i h
  simp at this
end
/-- list(x) as a new list of one's own -/
theorem vf_list {X : Cx} {x : Str} {e : Expr} {as : List Arg} {p pos : Pos} (B : Bi X x (.type "list")) (hs : (e :: []).all notStar = true) (h : VAB X [e] (bArgs as)) : VF X (.Call (.Name x p) [e] [] pos) (dApp listF as) :=
  pe_imp (pe_callTy call_list_of B.gl B.mg B.boot h B.ne B.db (starEach_cons (List.all_eq_true.mp hs _ List.mem_cons_self)) (star_plain rfl pos)) fun σ H Q sz ⟨F, env, r, env', R, hd, q⟩ => by
    unfold dApp at hd
    obtain ⟨⟨ps, e1⟩, h1, hd⟩ := Option.bind_eq_some_iff.mp hd
    obtain ⟨z, h3, hz⟩ := Option.map_eq_some_iff.mp hd
    cases hz
    refine ⟨F, env, ps, _, R, h1, fun xs F1 H1 R1 M1 r1 => ?_⟩
    match ps, r1, h3 with
    | [], _, h3 => simp [listF] at h3
    | _ :: _ :: _, _, h3 => simp [listF] at h3
    | [y], r1, h3 =>
      simp only [listF] at h3
      obtain ⟨ys, hy, e2⟩ := Option.map_eq_some_iff.mp h3
      subst e2
      obtain ⟨v, rfl, q1⟩ := r1.one
      obtain ⟨a, vs, rfl, hh, rr⟩ := q1.seq hy
      refine ⟨a, vs, rfl, hh, fun l hl sz' => ?_⟩
      have N : Nw F1 H1 F1 (upd H1 l (.lst vs)) := .upd hl R1.fz
      obtain ⟨a1, a2⟩ := own_new R1 hl
      exact q l F1 _ (N.rel R1 sz') (M1.trans N.mv) a1 a2 (M1.back hl) (.lst upd_same (rr.ex N.ex))
/-! evaluation -/
section
variable {α : Type} {t t1 : Tgt} {tt tt1 : DenT} {src src1 : DenI} {elt : Den} {vs vs1 : List Nat} {e : PEn}
def cmpB (f : PV → Option (List PV)) : List PV → Option (List PV)
  | [] => some []
  | x :: xs => (f x).bind fun y => (cmpB f xs).bind fun ys => some (y ++ ys)
def kB3 (vs : List Nat) (o : Option (List PV × PEn)) : Option (List PV × PEn) := o.bind fun q => some (q.1, wipeE q.2 vs)
theorem kB3_s {ys : List PV} : kB3 vs (some (ys, e)) = some (ys, wipeE e vs) := rfl
theorem kB3_b {o : Option α} {f : α → Option (List PV × PEn)} : kB3 vs (o.bind f) = o.bind fun z => kB3 vs (f z) := by cases o <;> rfl
def kBS (t1 : Tgt) (tt1 : DenT) (elt : Den) (vs1 vs : List Nat) (o : Option (List PV × PEn)) : Option (List PV × PEn) := o.bind fun p => kB3 vs (lcF t1 tt1 elt vs1 p.1 (wipeE p.2 vs1))
theorem kBS_s {xs : List PV} : kBS t1 tt1 elt vs1 vs (some (xs, e)) = kB3 vs (lcF t1 tt1 elt vs1 xs (wipeE e vs1)) := rfl
theorem kBS_b {o : Option α} {f : α → Option (List PV × PEn)} : kBS t1 tt1 elt vs1 vs (o.bind f) = o.bind fun z => kBS t1 tt1 elt vs1 vs (f z) := by cases o <;> rfl
def kBT (src1 : DenI) (t1 : Tgt) (tt1 : DenT) (elt : Den) (vs1 vs : List Nat) (o : Option (Bool × PEn)) : Option (List PV × PEn) := o.bind fun b => if b.1 = true then kBS t1 tt1 elt vs1 vs (src1 b.2) else some ([], wipeE b.2 vs)
theorem kBT_t : kBT src1 t1 tt1 elt vs1 vs (some (true, e)) = kBS t1 tt1 elt vs1 vs (src1 e) := rfl
theorem kBT_v {k : Bool} : kBT src1 t1 tt1 elt vs1 vs (some (k, e)) = if k = true then kBS t1 tt1 elt vs1 vs (src1 e) else some ([], wipeE e vs) := rfl
theorem kBT_b {o : Option α} {f : α → Option (Bool × PEn)} : kBT src1 t1 tt1 elt vs1 vs (o.bind f) = o.bind fun z => kBT src1 t1 tt1 elt vs1 vs (f z) := by cases o <;> rfl
def kBG (tt : DenT) (src1 : DenI) (t1 : Tgt) (tt1 : DenT) (elt : Den) (vs1 vs : List Nat) (o : Option PEn) : Option (List PV × PEn) := o.bind fun e => kBT src1 t1 tt1 elt vs1 vs (tt e)
theorem kBG_s : kBG tt src1 t1 tt1 elt vs1 vs (some e) = kBT src1 t1 tt1 elt vs1 vs (tt e) := rfl
theorem kBG_b {o : Option α} {f : α → Option PEn} : kBG tt src1 t1 tt1 elt vs1 vs (o.bind f) = o.bind fun z => kBG tt src1 t1 tt1 elt vs1 vs (f z) := by cases o <;> rfl
def turnB (t : Tgt) (tt : DenT) (src1 : DenI) (vs1 : List Nat) (t1 : Tgt) (tt1 : DenT) (elt : Den) (vs : List Nat) (x : PV) (e : PEn) : Option (List PV × PEn) := kBG tt src1 t1 tt1 elt vs1 vs (tgtF t x e)
theorem turnB_ev {x : PV} : turnB t tt src1 vs1 t1 tt1 elt vs x e = kBG tt src1 t1 tt1 elt vs1 vs (tgtF t x e) := rfl
theorem lc2F_turn {x : PV} {xs : List PV} : lc2F t tt src1 vs1 t1 tt1 elt vs (x :: xs) e = (turnB t tt src1 vs1 t1 tt1 elt vs x e).bind fun r => (lc2F t tt src1 vs1 t1 tt1 elt vs xs r.2).bind fun q => some (r.1 ++ q.1, q.2) := by
  unfold turnB kBG kBT kBS kB3
  conv => lhs; unfold lc2F
  cases tgtF t x e with
  | none => rfl
  | some e1 =>
    simp only [Option.bind_some]
    cases tt e1 with
    | none => rfl
    | some b =>
      simp only [Option.bind_some]
      split
      · cases src1 b.2 with
        | none => rfl
        | some p =>
          simp only [Option.bind_some]
          cases lcF t1 tt1 elt vs1 p.1 (wipeE p.2 vs1) with
          | none => rfl
          | some q =>
            simp only [Option.bind_some]
            cases lc2F t tt src1 vs1 t1 tt1 elt vs xs (wipeE q.2 vs) <;> rfl
      · simp only [Option.bind_some]
        cases lc2F t tt src1 vs1 t1 tt1 elt vs xs (wipeE b.2 vs) <;> rfl
theorem lc_B (f : PV → Option (List PV)) (h : ∀ x, turnB t tt src1 vs1 t1 tt1 elt vs x e = (f x).bind fun y => some (y, e)) : ∀ xs, lc2F t tt src1 vs1 t1 tt1 elt vs xs e = (cmpB f xs).bind fun ys => some (ys, e)
  | [] => rfl
  | x :: xs => by
    rw [lc2F_turn, h x]
    unfold cmpB
    cases f x with
    | none => rfl
    | some y =>
      simp only [Option.bind_some]
      rw [lc_B f h xs]
      cases cmpB f xs <;> rfl
def mLim (ys : List PV) : Option (List PV) := if ys.length ≤ 1000000 then some ys else none
def kLD2 (vs : List Nat) (e0 : PEn) (o : Option (List PV × PEn)) : Option (PV × PEn) := o.bind fun q => if q.1.length ≤ 1000000 then some (.lst q.1, restoreE q.2 e0 vs) else none
theorem kLD2_s {e0 : PEn} {ys : List PV} : kLD2 vs e0 (some (ys, e)) = (mLim ys).bind fun ys => some (.lst ys, restoreE e e0 vs) := by
  show (if ys.length ≤ 1000000 then _ else _) = _
  unfold mLim
  split <;> rfl
theorem kLD2_b {e0 : PEn} {o : Option α} {f : α → Option (List PV × PEn)} : kLD2 vs e0 (o.bind f) = o.bind fun z => kLD2 vs e0 (f z) := by cases o <;> rfl
def kLD (t : Tgt) (tt : DenT) (src1 : DenI) (vs1 : List Nat) (t1 : Tgt) (tt1 : DenT) (elt : Den) (vs : List Nat) (o : Option (List PV × PEn)) : Option (PV × PEn) := o.bind fun p => kLD2 vs p.2 (lc2F t tt src1 vs1 t1 tt1 elt vs p.1 (wipeE p.2 vs))
theorem kLD_s {xs : List PV} : kLD t tt src1 vs1 t1 tt1 elt vs (some (xs, e)) = kLD2 vs e (lc2F t tt src1 vs1 t1 tt1 elt vs xs (wipeE e vs)) := rfl
theorem kLD_b {o : Option α} {f : α → Option (List PV × PEn)} : kLD t tt src1 vs1 t1 tt1 elt vs (o.bind f) = o.bind fun z => kLD t tt src1 vs1 t1 tt1 elt vs (f z) := by cases o <;> rfl
theorem dLC2_ev : dLC2 src vs t tt src1 vs1 t1 tt1 elt e = kLD t tt src1 vs1 t1 tt1 elt vs (src e) := rfl
theorem mTail_cmpB {β : Type} {f : PV → Option (List PV)} {xs : List PV} {k : List PV → Option β} : mTail (cmpB f xs) k = (cmpB f xs).bind k := rfl
end
end PP

/-! PP, part w: sorted of a dict with tuple keys. -/
namespace PP
open PySem PySem.Spec PyProof.Rows L2

def keyT (ks : List Key) : PV := .tup (ks.map keyP)
def sortedTF (ps : List PV) : Option PV := match ps with
  | [.dt kvs] => if comparable (kvs.map fun p => keyT p.1) && sortable (kvs.map fun p => keyT p.1) then some (.lst (sortL (kvs.map fun p => keyT p.1))) else none
  | _ => none
theorem keyP_rep {K : PySem.W.Frag} {F : Addr → Prop} {H : Hp} : ∀ ks : List Key, RepL K F H (ks.map L2.kV) (ks.map keyP)
  | [] => .nil
  | .inl i :: r => .cons (.int i) (keyP_rep r)
  | .inr s :: r => .cons (.str s) (keyP_rep r)
/-- the keys' objects -/
theorem keys_rep {K : PySem.W.Frag} {F : Addr → Prop} {H : Hp} : ∀ {kvs : List (List Key × V)} {xs : List (List Key × PV)} {bs : List Addr}, RepT K F H kvs xs → IsKeys H kvs bs → RepL K F H (bs.map V.ref) (xs.map fun p => keyT p.1)
  | _, _, _, .nil, h => by cases h; exact .nil
  | _, _, _, .cons r t, h => by
    cases h with
    | cons hb ht => exact .cons (.tup hb (keyP_rep _)) (keys_rep t ht)
theorem cr_sortedTF {X : Cx} (hc : X.calm = true) (hu : X.A.units + 100 < cLine) : CallR X (.builtin "sorted") (rL X.K sortedTF) := by
  refine call_of fun pins s σ H xs us Q F ps r I rx fz sz r1 e k => ?_
  unfold sortedTF at e
  split at e
  case h_2 => cases e
  rename_i ys
  split at e
  case isFalse => cases e
  rename_i h
  cases e
  rw [Bool.and_eq_true] at h
  obtain ⟨hcm, hst⟩ := h
  obtain ⟨h1, h2, _, h4⟩ := comparable_ok hcm
  obtain ⟨c1, c2, c3⟩ := all_shaped h1
  obtain ⟨v, rfl, q1⟩ := r1.one
  obtain ⟨u, rfl, ru⟩ := rx.one
  obtain ⟨a, rfl, D⟩ := q1.dic rfl
  cases ru
  cases D with
  | @dt kvs _ hH rt =>
  obtain ⟨z, hs, ks, pr, o, es, ep, ho, hx, hdt, he, hn⟩ := (show ObjOk X.prog X.w H s.heap a (.dT kvs) from I.hok a _ hH)
  have l1 : es.size = ks.length := size_of_entries he
  have l2 : kvs.length = ks.length := Paired.length pr
  refine Calls.call_function_entry PyProof.Rows.kind_sorted PyProof.Rows.plain_sorted PyProof.Rows.entry_sorted (PyProof.Rows.args_sorted1 _) ?_
  unfold Builtin.«sorted»
  refine wpAny_bind (m := checkCount "sorted" 1 1 _) (wpAny_pure ?_)
  refine wpAny_bind (PySem.W.kdu_collect (A := X.A.in1) (kdl_raw hs hx hdt) (I.ok.hd hc) ho (by rw [l1, ← l2]; exact z) fun g' tk acc keep it => ?_)
  -- what was gathered
  have ea : acc.toList = (ks.map fun x => x.2.1).map Value.ref := by
    have hl : acc.toList.length = ks.length := (Array.length_toList ..).trans (it.1.trans l1)
    apply List.ext_getElem?
    intro j
    rw [List.getElem?_map, List.getElem?_map]
    rcases hj : acc.toList[j]? with _ | v
    · have := List.getElem?_eq_none_iff.mp hj
      rw [List.getElem?_eq_none (by omega)]
      rfl
    · obtain ⟨en, hen, hv⟩ := it.2 j v (by rw [← Array.getElem?_toList]; exact hj)
      have qe := entry_at he j
      rw [hen] at qe
      rcases hb : ks[j]? with _ | b
      · rw [hb] at qe; exact nomatch (show some en = none from qe)
      · rw [hb] at qe
        have e2 : en = entryOfKey (tupleKind (mixKind X.prog X.w)) b := Option.some.inj qe
        rw [hv, e2]
        rfl
  have rk : RepL X.K F H ((ks.map fun x => x.2.1).map V.ref) (ys.map fun p => keyT p.1) := keys_rep rt (isKeys_of pr)
  have rv : Vals ((ks.map fun x => x.2.1).map V.ref) acc.toList := ea ▸ vals_refs _
  generalize ys.map (fun p => keyT p.1) = xs at *
  generalize (ks.map fun x => x.2.1).map V.ref = vs at *
  have I1 : Inv X pins σ H { s with heap := g', toks := tk } := I.kept keep
  obtain ⟨as, rd⟩ := Dp.readsAll I1 _ _ _ (RepL.dp c3 rk) rv
  have el := each_vals rv rk
  have er := reads_each rd
  have lx : acc.toList.length = xs.length := rv.length.symm.trans rk.length
  have lk : acc.toList.length ≤ sizeLine := by rw [ea]; simp only [List.length_map]; omega
  refine wpAny_bind (wpAny_newList ?_ lk)
  have hoL : (g'.push (seqObj "list" acc.toList.toArray 0)).get? g'.objs.size = some (seqObj "list" acc.toList.toArray 0) := Heap.get?_push_size _ rfl
  show wpAny _ _ _ _ _ { s with heap := g'.push (seqObj "list" acc.toList.toArray 0), toks := tk }
  have dd : ∀ x ∈ xs, (toD x).depth ≤ 60 := fun x hx => depth_le (by rw [toDs_map] at c2; exact c2) _ (List.mem_map_of_mem hx)
  -- the end
  have fin : ∀ out : List Value, out.length ≤ sizeLine → PySem.W.EachIs (fun u x => ∃ v, RelV v u ∧ Rep X.K F H v x) out (sortL xs) →
      EP X pins σ Q (.ref g'.objs.size) { s with heap := sortedHeap (g'.push (seqObj "list" acc.toList.toArray 0)) g'.objs.size acc.toList (List.toArray out), toks := tk } := fun out hl ho => by
    obtain ⟨ws, va, ra⟩ := vals_each ho
    obtain ⟨e', he'⟩ := PyProof.Rows.sortedHeap_at (vs := acc.toList) (out := List.toArray out) hoL
    have np : H g'.objs.size = none := I1.hok.fresh (Nat.le_refl _)
    obtain ⟨N, R⟩ := new_list fz np ra
    refine ⟨.ref g'.objs.size, _, I1.laid (t' := tk) (fun b u e => ?_) (Nat.le_refl _) (show ObjOk X.prog X.w _ _ _ (.lst ws) from ⟨by rw [va.length]; exact hl, out, e', va, he'⟩), rfl, k _ _ _ N R⟩
    have hb : b < g'.objs.size := Heap.lt_size e
    rw [PyProof.Rows.sortedHeap_old (Nat.ne_of_lt hb) (by rw [Heap.size_push]; exact Nat.lt_succ_of_lt hb)]
    exact Heap.get?_push_of_some _ e
  have lm : (sortL xs).length = xs.length := List.length_mergeSort ..
  have er2 : PySem.W.EachIs (fun v b => ∃ as, Reads (g'.push (seqObj "list" acc.toList.toArray 0)) v (toD b) as ∧ g'.objs.size ∉ as) acc.toList xs := er.mono fun v b ⟨as, q⟩ =>
    ⟨as, Reads.keeps (fun _ _ => Heap.get?_push_of_some _) q, fun hm => by obtain ⟨o, e⟩ := PyProof.On.reads_mem_get q _ hm; exact absurd (Heap.lt_size e) (Nat.lt_irrefl _)⟩
  rcases sortable_ok hst h4 with hso | ⟨d, rfl⟩
  · exact wpAny_bind (wpAny_holding (PySem.W.list_sort_data (R := fun u x => ∃ v, RelV v u ∧ Rep X.K F H v x) (enc := toD) hoL el er2 (alikeB_all h2) hso (by omega) (fun b hb => by have := dd b hb; show X.A.units + 1 + 1 + _ < _; omega) fun out hl ho => wpAny_pure ⟨_, rfl, fin out (by omega) ho⟩))
  · have al : PySem.W.AllAlike ([d].map toD) := alikeB_all h2
    generalize acc.toList = its at *
    match its, rv, el, er2 with
    | [], _, el, _ => cases el
    | _ :: _ :: _, _, el, _ => cases el with | cons _ t => cases t
    | [u], rv, el, er2 =>
    have ek := PySem.W.each_keepBut (h' := PySem.W.sortingHeap (g'.push (seqObj "list" [u].toArray 0)) g'.objs.size [u]) (fun _ _ hb q => PySem.W.sortingHeap_old hb q) (fun o q => by rw [hoL] at q; rw [← Option.some.inj q]) al er2
    obtain ⟨bs, rdu⟩ : ∃ bs, Reads (PySem.W.sortingHeap (g'.push (seqObj "list" [u].toArray 0)) g'.objs.size [u]) u (toD d) bs := by
      cases ek with | cons r _ => exact r
    have dd := dd d (by simp)
    have hd : toD d ≠ .none := fun z => by
      have := h4 d (by simp)
      cases d <;> simp [toD, isNone] at z this
    have q := PySem.W.sortVals_data (R := fun u x => ∃ v, RelV v u ∧ Rep X.K F H v x) (enc := toD) false el ek al
    refine wpAny_bind (wpAny_holding (wpAny_call_entry PyProof.Rows.slot_list_sort ⟨_, hoL, rfl⟩ PyProof.Rows.entry_list_sort (PySem.W.list_sort_vals (κ := PySem.W.dataKind (PySem.W.sortingHeap (g'.push (seqObj "list" [u].toArray 0)) g'.objs.size [u]) [toD d]) hoL
      (sortsAt_one (s := { s with heap := PySem.W.sortingHeap (g'.push (seqObj "list" [u].toArray 0)) g'.objs.size [u], toks := tk }) rdu (al _ (by simp) _ (by simp)) hd (by show X.A.units + 1 + 1 + _ < _; omega)) (by simp; rw [sizeLine_eq]; omega) ⟨.none, rfl, ?_⟩) (PyProof.Rows.args_list_sort _)))
    exact wpAny_pure ⟨_, rfl, fin _ (by rw [PySem.W.sortVals_length false rfl]; simp; rw [sizeLine_eq]; omega) q⟩
end PP

/-! PP, part x: tools for the plain laws: loops and comprehensions over typed lists, rows of numbers. -/
namespace QQ
open PP
open L2 (atI ixN)
section
variable {α β S T R : Type}
/-! comprehensions -/
theorem cmpM_map {f : PV → Option PV} {g h : α → PV} : ∀ {xs : List α}, (∀ x ∈ xs, f (g x) = some (h x)) → cmpM f (xs.map g) = some (xs.map h)
  | [], _ => rfl
  | x :: xs, H => by
    rw [List.map_cons, cmpM, H x List.mem_cons_self, Option.bind_some, cmpM_map fun y hy => H y (List.mem_cons_of_mem _ hy)]
    rfl
theorem cmpM_list {f : PV → Option PV} {h : PV → PV} {xs : List PV} (H : ∀ x ∈ xs, f x = some (h x)) : cmpM f xs = some (xs.map h) := by
  have := cmpM_map (f := f) (g := id) (h := h) (xs := xs) H
  rwa [List.map_id] at this
theorem cmpG_map {f : PV → Option (Option PV)} {g h : α → PV} {p : α → Bool} : ∀ {xs : List α}, (∀ x ∈ xs, f (g x) = if p x = true then some (some (h x)) else some none) → cmpG f (xs.map g) = some ((xs.filter p).map h)
  | [], _ => rfl
  | x :: xs, H => by
    have H1 := H x List.mem_cons_self
    have ih := cmpG_map fun y hy => H y (List.mem_cons_of_mem _ hy)
    rw [List.map_cons, cmpG, H1]
    by_cases hp : p x = true
    · rw [if_pos hp, Option.bind_some, ih, List.filter_cons_of_pos hp]; rfl
    · rw [if_neg hp, Option.bind_some, ih, List.filter_cons_of_neg hp]; rfl
theorem cmpB_map {f : PV → Option (List PV)} {g : α → PV} {h : α → List PV} : ∀ {xs : List α}, (∀ x ∈ xs, f (g x) = some (h x)) → cmpB f (xs.map g) = some (xs.flatMap h)
  | [], _ => rfl
  | x :: xs, H => by
    rw [List.map_cons, cmpB, H x List.mem_cons_self, Option.bind_some, cmpB_map fun y hy => H y (List.mem_cons_of_mem _ hy)]
    rfl
/-- with a state of which not all is said -/
theorem cmpT_each {f : S → PV → Option (PV × S)} {E : T → S} {P : T → Prop} {G : PV → PV → Prop} : ∀ {xs : List PV}, (∀ x ∈ xs, ∀ t, P t → ∃ y t', f (E t) x = some (y, E t') ∧ P t' ∧ G x y) → ∀ {t}, P t → ∃ ys t', cmpT f xs (E t) = some (ys, E t') ∧ P t' ∧ Each G xs ys
  | [], _, t, h => ⟨[], t, rfl, h, .nil⟩
  | x :: xs, H, t, h => by
    obtain ⟨y, t1, e1, h1, g1⟩ := H x List.mem_cons_self t h
    obtain ⟨ys, t2, e2, h2, g2⟩ := cmpT_each (fun z hz => H z (List.mem_cons_of_mem _ hz)) h1
    exact ⟨y :: ys, t2, by rw [cmpT, e1, Option.bind_some, e2]; rfl, h2, .cons g1 g2⟩
theorem cmpS_made {f : S → PV → Option (Option PV × S)} {E : T → S} {P : T → Prop} {G : PV → PV → Prop} : ∀ {xs : List PV}, (∀ x ∈ xs, ∀ t, P t → ∃ r t', f (E t) x = some (r, E t') ∧ P t' ∧ ∀ y, r = some y → G x y) → ∀ {t}, P t → ∃ ys t', cmpS f xs (E t) = some (ys, E t') ∧ P t' ∧ Made G xs ys
  | [], _, t, h => ⟨[], t, rfl, h, .nil⟩
  | x :: xs, H, t, h => by
    obtain ⟨r, t1, e1, h1, g1⟩ := H x List.mem_cons_self t h
    obtain ⟨ys, t2, e2, h2, g2⟩ := cmpS_made (fun z hz => H z (List.mem_cons_of_mem _ hz)) h1
    cases r with
    | none => exact ⟨ys, t2, by rw [cmpS, e1, Option.bind_some, e2]; rfl, h2, .skip g2⟩
    | some y => exact ⟨y :: ys, t2, by rw [cmpS, e1, Option.bind_some, e2]; rfl, h2, .take (g1 y rfl) g2⟩
/-! loops -/
theorem fldM_inv {f : S → PV → Option S} {P : List PV → S → Prop} (step : ∀ x xs s, P (x :: xs) s → ∃ s', f s x = some s' ∧ P xs s') : ∀ xs s, P xs s → ∃ s', fldM f xs s = some s' ∧ P [] s'
  | [], s, h => ⟨s, rfl, h⟩
  | x :: xs, s, h => by
    obtain ⟨s1, e1, h1⟩ := step x xs s h
    obtain ⟨s2, e2, h2⟩ := fldM_inv step xs s1 h1
    exact ⟨s2, by rw [fldM, e1, Option.bind_some, e2], h2⟩
theorem fldM_map {f : S → PV → Option S} {E : T → S} {g : α → PV} {k : T → α → T} (I : Nat → T → Prop) : ∀ (xs : List α) (n : Nat) (t : T), (∀ i t x, x ∈ xs → n ≤ i → i < n + xs.length → I i t → f (E t) (g x) = some (E (k t x)) ∧ I (i + 1) (k t x)) → I n t → fldM f (xs.map g) (E t) = some (E (xs.foldl k t)) ∧ I (n + xs.length) (xs.foldl k t)
  | [], n, t, _, h => ⟨rfl, h⟩
  | x :: xs, n, t, H, h => by
    obtain ⟨e1, h1⟩ := H n t x List.mem_cons_self (Nat.le_refl _) (by simp) h
    obtain ⟨e2, h2⟩ := fldM_map I xs (n + 1) (k t x) (fun i t y hy hi hl hI => H i t y (List.mem_cons_of_mem _ hy) (by omega) (by simp; omega) hI) h1
    refine ⟨by rw [List.map_cons, fldM, e1, Option.bind_some, e2]; rfl, ?_⟩
    have e : n + (x :: xs).length = n + 1 + xs.length := by simp; omega
    rw [e]
    exact h2
/-- .. without a bound -/
theorem fldM_all {f : S → PV → Option S} {E : T → S} {g : α → PV} {k : T → α → T} (xs : List α) (t : T) (H : ∀ t x, x ∈ xs → f (E t) (g x) = some (E (k t x))) : fldM f (xs.map g) (E t) = some (E (xs.foldl k t)) :=
  (fldM_map (fun _ _ => True) xs 0 t (fun i t x hx _ _ _ => ⟨H t x hx, trivial⟩) trivial).1
/-- a loop that goes on or returns -/
theorem fldR_inv {f : S → PV → Option (S ⊕ R)} {P : List PV → S → Prop} {Q : R → Prop} (step : ∀ x xs s, P (x :: xs) s → (∃ s', f s x = some (.inl s') ∧ P xs s') ∨ ∃ v, f s x = some (.inr v) ∧ Q v) : ∀ xs s, P xs s → (∃ s', fldR f xs s = some (.inl s') ∧ P [] s') ∨ ∃ v, fldR f xs s = some (.inr v) ∧ Q v
  | [], s, h => .inl ⟨s, rfl, h⟩
  | x :: xs, s, h => by
    rcases step x xs s h with ⟨s1, e1, h1⟩ | ⟨v, e1, h1⟩
    · rcases fldR_inv step xs s1 h1 with ⟨s2, e2, h2⟩ | ⟨v, e2, h2⟩
      · exact .inl ⟨s2, by rw [fldR, e1, Option.bind_some]; exact e2, h2⟩
      · exact .inr ⟨v, by rw [fldR, e1, Option.bind_some]; exact e2, h2⟩
    · exact .inr ⟨v, by rw [fldR, e1]; rfl, h1⟩
/-- it never returns -/
theorem fldR_go {f : S → PV → Option (S ⊕ R)} {P : List PV → S → Prop} (step : ∀ x xs s, P (x :: xs) s → ∃ s', f s x = some (.inl s') ∧ P xs s') (xs : List PV) (s : S) (h : P xs s) : ∃ s', fldR f xs s = some (.inl s') ∧ P [] s' := by
  rcases fldR_inv (Q := fun _ => False) (fun x xs s h => .inl (step x xs s h)) xs s h with z | ⟨_, _, z⟩
  · exact z
  · exact z.elim
/-- the first item that makes it return -/
theorem fldR_find {f : Unit → PV → Option (Unit ⊕ R)} {g : α → PV} {p : α → Bool} {v : α → R} : ∀ {xs : List α}, (∀ x ∈ xs, f () (g x) = if p x = true then some (.inr (v x)) else some (.inl ())) → fldR f (xs.map g) () = some (match xs.find? p with | some x => .inr (v x) | none => .inl ())
  | [], _ => rfl
  | x :: xs, H => by
    have H1 := H x List.mem_cons_self
    rw [List.map_cons, fldR, H1]
    by_cases hp : p x = true
    · rw [if_pos hp, List.find?_cons_of_pos hp]; rfl
    · rw [if_neg hp, List.find?_cons_of_neg hp, Option.bind_some]
      exact fldR_find fun y hy => H y (List.mem_cons_of_mem _ hy)
end
/-! ### what ends, and how -/
def Ok {β : Type} (o : Option β) (Q : β → Prop) : Prop := ∃ r, o = some r ∧ Q r
section
variable {α β γ S T R : Type} {Q : β → Prop}
theorem Ok.s {v : β} (h : Q v) : Ok (some v) Q := ⟨v, rfl, h⟩
theorem Ok.bind {o : Option α} {k : α → Option β} (h : Ok o fun v => Ok (k v) Q) : Ok (o.bind k) Q := by
  obtain ⟨v, e, r, e2, q⟩ := h
  exact ⟨r, by rw [e]; exact e2, q⟩
theorem Ok.of {o : Option β} {v : β} (e : o = some v) (h : Q v) : Ok o Q := ⟨v, e, h⟩
theorem Ok.imp {o : Option β} {Q' : β → Prop} (h : Ok o Q') (i : ∀ v, Q' v → Q v) : Ok o Q := by
  obtain ⟨r, e, q⟩ := h
  exact ⟨r, e, i r q⟩
theorem Ok.then {o : Option α} {k : α → Option β} {P : α → Prop} (h : Ok o P) (i : ∀ v, P v → Ok (k v) Q) : Ok (o.bind k) Q := Ok.bind (h.imp i)
theorem Ok.fld {f : S → PV → Option S} {xs : List PV} {s : S} {Q : S → Prop} (P : List PV → S → Prop) (start : P xs s) (step : ∀ x xs s, P (x :: xs) s → Ok (f s x) fun s' => P xs s') (done : ∀ s, P [] s → Q s) : Ok (fldM f xs s) Q := by
  obtain ⟨s', e, h⟩ := fldM_inv (f := f) (P := P) (fun x xs s h => step x xs s h) xs s start
  exact ⟨s', e, done s' h⟩
theorem Ok.fldR {f : S → PV → Option (S ⊕ R)} {xs : List PV} {s : S} {Q : S ⊕ R → Prop} (P : List PV → S → Prop) (start : P xs s) (step : ∀ x xs s, P (x :: xs) s → Ok (f s x) fun r => match r with | .inl s' => P xs s' | .inr v => Q (.inr v)) (done : ∀ s, P [] s → Q (.inl s)) : Ok (fldR f xs s) Q := by
  rcases fldR_inv (f := f) (P := P) (Q := fun v => Q (.inr v)) (fun x xs s h => by
    obtain ⟨r, e, q⟩ := step x xs s h
    cases r with
    | inl s' => exact .inl ⟨s', e, q⟩
    | inr v => exact .inr ⟨v, e, q⟩) xs s start with ⟨s', e, h⟩ | ⟨v, e, h⟩
  · exact ⟨_, e, done s' h⟩
  · exact ⟨_, e, h⟩
theorem Ok.cmpT {f : S → PV → Option (PV × S)} {xs : List PV} {s : S} {Q : List PV × S → Prop} (P : S → Prop) (G : PV → PV → Prop) (start : P s) (step : ∀ x ∈ xs, ∀ s, P s → Ok (f s x) fun r => G x r.1 ∧ P r.2) (done : ∀ ys s, P s → Each G xs ys → Q (ys, s)) : Ok (cmpT f xs s) Q := by
  obtain ⟨ys, s', e, h, g⟩ := cmpT_each (f := f) (E := id) (P := P) (G := G) (xs := xs) (fun x hx s h => by obtain ⟨⟨y, s'⟩, e, g, h⟩ := step x hx s h; exact ⟨y, s', e, h, g⟩) start
  exact ⟨_, e, done ys s' h g⟩
theorem Ok.cmpS {f : S → PV → Option (Option PV × S)} {xs : List PV} {s : S} {Q : List PV × S → Prop} (P : S → Prop) (G : PV → PV → Prop) (start : P s) (step : ∀ x ∈ xs, ∀ s, P s → Ok (f s x) fun r => P r.2 ∧ ∀ y, r.1 = some y → G x y) (done : ∀ ys s, P s → Made G xs ys → Q (ys, s)) : Ok (cmpS f xs s) Q := by
  obtain ⟨ys, s', e, h, g⟩ := cmpS_made (f := f) (E := id) (P := P) (G := G) (xs := xs) (fun x hx s h => by obtain ⟨⟨y, s'⟩, e, h, g⟩ := step x hx s h; exact ⟨y, s', e, h, g⟩) start
  exact ⟨_, e, done ys s' h g⟩
end
/-! ### what the evaluation knows -/
section
@[simp] theorem asL_l {xs : List PV} : asL (.lst xs) = some xs := id rfl
@[simp] theorem asI_i {i : Int} : asI (.int i) = some i := id rfl
@[simp] theorem mAV_true {k : Option PV} : mAV (.bl true) k = k := id rfl
@[simp] theorem mAV_false {k : Option PV} : mAV (.bl false) k = some (.bl false) := id rfl
@[simp] theorem mOV_true {k : Option PV} : mOV (.bl true) k = some (.bl true) := id rfl
@[simp] theorem mOV_false {k : Option PV} : mOV (.bl false) k = k := id rfl
@[simp] theorem guard1_true : guard1 true = some () := id rfl
@[simp] theorem mSum_inl {S R β : Type} {s : S} {f : S → Option β} {g : R → Option β} : mSum (.inl s) f g = f s := id rfl
@[simp] theorem mSum_inr {S R β : Type} {s : R} {f : S → Option β} {g : R → Option β} : mSum (.inr s) f g = g s := id rfl
@[simp] theorem un2_t {p q : PV} : un2 (.tup [p, q]) = some (p, q) := id rfl
@[simp] theorem un3_t {p q r : PV} : un3 (.tup [p, q, r]) = some (p, q, r) := id rfl
@[simp] theorem isTy_ii (i : Int) : isTy .int (.int i) = true := id rfl
@[simp] theorem isTy_bi (i : Int) : isTy .bool (.int i) = false := id rfl
@[simp] theorem isTy_tt (xs : List PV) : isTy .tuple (.tup xs) = true := id rfl
@[simp] theorem isTy_tf (xs : List PV) : isTy .tuple (.fup xs) = true := id rfl
@[simp] theorem isTy_bb (b : Bool) : isTy .bool (.bl b) = true := id rfl
@[simp] theorem isTy_ll (xs : List PV) : isTy .list (.lst xs) = true := id rfl
@[simp] theorem isTy_in : isTy .int .non = false := id rfl
@[simp] theorem isSeqI_f (xs : List PV) : isSeqI (.fup xs) = true := id rfl
@[simp] theorem isSeqI_l (xs : List PV) : isSeqI (.lst xs) = true := id rfl
@[simp] theorem rgO1_nat {n : Nat} (h : n ≤ 16777216) : rgO1 (.int n) = some (0, (n : Int)) := by
  show (if _ then _ else _) = _
  rw [if_pos (by omega)]
def rgN (n : Nat) : List PV := (List.range n).map fun i : Nat => .int (i : Int)
@[simp] theorem rgL_nat {n : Nat} : rgL (0, (n : Int)) = rgN n := by
  unfold rgL rgN rngP
  simp
theorem rgO2_ok {i j : Int} (hi : 0 ≤ i ∧ i ≤ 1000000) (hj : 0 ≤ j ∧ j ≤ 1000000) : rgO2 (.int i) (.int j) = some (i, j) := by
  show (if _ then _ else _) = _
  rw [if_pos (by omega)]
theorem rgL_def {i j : Int} : rgL (i, j) = rngP i (j - i).toNat := rfl
end
/-! ### numbers -/
theorem modF_int (i j : Int) (h : 0 < j) : modF (.int i) (.int j) = some (.int (i % j)) := by
  simp only [modF, intF]; rw [if_pos (by simpa using h)]
theorem divF_int (i j : Int) (h : 0 < j ∧ j < 1073741824) : divF (.int i) (.int j) = some (.int (i / j)) := by
  simp only [divF, intF]; rw [if_pos (by simpa using h)]
theorem mulF_int (i j : Int) (h : -(2 ^ 64) < i ∧ i < 2 ^ 64 ∨ -(2 ^ 64) < j ∧ j < 2 ^ 64) : mulF (.int i) (.int j) = some (.int (i * j)) := by
  simp only [mulF, intF]; rw [if_pos (by simpa using h)]
theorem getF_at (ns : List Int) (k : Nat) (h : k < ns.length) : getF (.lst (ns.map PV.int)) (.int k) = some (.int ns[k]) := getF_seq rfl (by simp [h])
theorem pow18 : powF (.int 10) (.int 18) = some (.int 1000000000000000000) := by
  simp only [powF, intF]
  rw [if_pos (by decide)]
  rfl
theorem appendF_ok (xs : List PV) (y : PV) (h : xs.length < 1000000) : appendF xs [y] = some (.non, xs ++ [y]) := by
  simp only [appendF]; rw [if_pos h]
theorem addL_ok (xs ys : List PV) (h : xs.length + ys.length ≤ 10000000) : addF (.lst xs) (.lst ys) = some (.lst (xs ++ ys)) := by
  simp only [addF]; rw [if_pos (by rw [PySem.sizeLine_eq]; omega)]
theorem addT_ok (xs ys : List PV) (h : xs.length + ys.length ≤ 10000000) : addF (.tup xs) (.tup ys) = some (.tup (xs ++ ys)) := by
  simp only [addF]; rw [if_pos (by rw [PySem.sizeLine_eq]; omega)]
theorem mLim_ok (xs : List PV) (h : xs.length ≤ 1000000) : mLim xs = some xs := if_pos h
theorem getF_mid {α : Type} {f : α → PV} {d : PV} {l : List α} (hd : seqOf d = some (l.map f)) (i : Int) (h0 : 0 ≤ i) (h1 : i < l.length) : ∃ a, a ∈ l ∧ l[i.toNat]? = some a ∧ getF d (.int i) = some (f a) := by
  have hl : i.toNat < l.length := by omega
  refine ⟨l[i.toNat], List.getElem_mem hl, by simp [hl], ?_⟩
  have := getF_seq (d := d) (xs := l.map f) (k := i.toNat) (x := f l[i.toNat]) hd (by simp [hl])
  rwa [show ((i.toNat : Nat) : Int) = i by omega] at this
/-! ### rows of numbers -/
abbrev tI (l : List Int) : PV := .tup (l.map PV.int)
theorem toInts_ints : ∀ l : List Int, toInts (l.map PV.int) = some l
  | [] => rfl
  | x :: r => by simp [toInts, toInts_ints r]
theorem eqv_int (a b : Int) : eqv (.int a) (.int b) = decide (a = b) := by
  simp only [eqv, toD, PySem.PyData.eqv]; rfl
theorem eqv_ints : ∀ a b : List Int, PySem.PyData.eqvAll (a.map PySem.PyData.int) (b.map PySem.PyData.int) = decide (a = b)
  | [], [] => by simp [PySem.PyData.eqvAll]
  | [], _ :: _ => by simp [PySem.PyData.eqvAll]
  | _ :: _, [] => by simp [PySem.PyData.eqvAll]
  | x :: xs, y :: ys => by
    simp only [List.map_cons, PySem.PyData.eqvAll, eqv_ints xs ys, PySem.PyData.eqv]
    by_cases h1 : x = y <;> by_cases h2 : xs = ys <;> simp [h1, h2]
theorem eqv_tI (a b : List Int) : eqv (tI a) (tI b) = decide (a = b) := by
  simp only [eqv, toD, PySem.PyData.eqv, toDs_ints, eqv_ints]
theorem any_int (x : Int) (l : List Int) : (l.map PV.int).any (fun z => eqv z (.int x)) = decide (x ∈ l) := by
  rw [List.any_map]
  have e : ((fun z => eqv z (PV.int x)) ∘ PV.int) = fun z : Int => decide (z = x) := by
    funext z; exact eqv_int z x
  rw [e]
  by_cases h : x ∈ l
  · rw [decide_eq_true h, List.any_eq_true]
    exact ⟨x, h, by simp⟩
  · rw [decide_eq_false h, List.any_eq_false]
    intro z hz
    simp only [decide_eq_true_eq]
    rintro rfl
    exact h hz
theorem okD_lst {l : List PV} (h : l.all (okD 59) = true) : okD 60 (.lst l) = true := by simpa [okD] using h
theorem okD_tup {n : Nat} {l : List PV} (h : l.all (okD n) = true) : okD (n + 1) (.tup l) = true := by simpa [okD] using h
theorem okD_fup {n : Nat} {l : List PV} (h : l.all (okD n) = true) : okD (n + 1) (.fup l) = true := by simpa [okD] using h
theorem okD_tI (n : Nat) (l : List Int) : okD (n + 1) (tI l) = true := okD_tup (okD_ints n l)
@[simp] theorem notInF_l (x : Int) (l : List Int) : notInF (.int x) (.lst (l.map PV.int)) = some (.bl (!decide (x ∈ l))) := by
  simp only [notInF, seqOf_lst]
  rw [okD_int, okD_lst (okD_ints 59 l), any_int]
  rfl
@[simp] theorem inF_l (x : Int) (l : List Int) : inF (.int x) (.lst (l.map PV.int)) = some (.bl (decide (x ∈ l))) := by
  simp only [inF, seqOf_lst]
  rw [okD_int, okD_lst (okD_ints 59 l), any_int]
  rfl
@[simp] theorem inF_t (x : Int) (l : List Int) : inF (.int x) (.tup (l.map PV.int)) = some (.bl (decide (x ∈ l))) := by
  simp only [inF, seqOf_tup]
  rw [okD_int, okD_tup (okD_ints 59 l), any_int]
  rfl
@[simp] theorem inF_f (x : Int) (l : List Int) : inF (.int x) (.fup (l.map PV.int)) = some (.bl (decide (x ∈ l))) := by
  simp only [inF, seqOf_fup]
  rw [okD_int, okD_fup (okD_ints 59 l), any_int]
  rfl
@[simp] theorem notInF_t (x : Int) (l : List Int) : notInF (.int x) (.tup (l.map PV.int)) = some (.bl (!decide (x ∈ l))) := by
  simp only [notInF, seqOf_tup]
  rw [okD_int, okD_tup (okD_ints 59 l), any_int]
  rfl
@[simp] theorem eqF_tI (a b : List Int) : eqF (.tup (a.map PV.int)) (.tup (b.map PV.int)) = some (.bl (decide (a = b))) := by
  unfold eqF
  rw [okD_tI 59 a, okD_tI 59 b]
  show (if true = true then some (PV.bl (eqv (tI a) (tI b))) else none) = _
  rw [eqv_tI]
  rfl
@[simp] theorem lt_tI (a b : List Int) : ltF (.tup (a.map PV.int)) (.tup (b.map PV.int)) = some (.bl (HT.lexLt a b)) := by
  simp only [ltF, tupOf_tup, Option.bind_some, toInts_ints, Option.map_some]
theorem toBools_map {α : Type} (f : α → Bool) : ∀ l : List α, toBools (l.map fun a => PV.bl (f a)) = some (l.map f)
  | [] => rfl
  | a :: l => by simp [toBools, toBools_map f l]
theorem allF_map {α : Type} (f : α → Bool) (l : List α) : allF [.lst (l.map fun a => PV.bl (f a))] = some (.bl (l.all f)) := by
  simp only [allF, toBools_map f, Option.map_some, List.all_map]
  rfl
theorem anyF_map {α : Type} (f : α → Bool) (l : List α) : anyF [.lst (l.map fun a => PV.bl (f a))] = some (.bl (l.any f)) := by
  simp only [anyF, toBools_map f, Option.map_some, List.any_map]
  rfl
theorem all_true {α : Type} (l : List α) : allF [.lst (l.map fun _ => PV.bl true)] = some (.bl true) := by
  rw [allF_map (fun _ => true)]
  simp
/-- all of some that are true each -/
theorem cmp_all {α : Type} {f : PV → Option PV} {g : α → PV} {xs : List α} (H : ∀ x ∈ xs, f (g x) = some (.bl true)) : cmpM f (xs.map g) = some (xs.map fun _ => PV.bl true) := cmpM_map H
theorem zip_maps {α β : Type} (f : α → PV) (g : β → PV) : ∀ (xs : List α) (ys : List β), zipP (xs.map f) (ys.map g) = (xs.zip ys).map fun p => .tup [f p.1, g p.2]
  | [], _ => by simp [zipP]
  | _ :: _, [] => by simp [zipP]
  | x :: xs, y :: ys => by simp [zipP, zip_maps f g xs ys]
@[simp] theorem zipF_tt {α β : Type} (f : α → PV) (g : β → PV) (xs : List α) (ys : List β) : zipF (.tup (xs.map f)) (.tup (ys.map g)) = some ((xs.zip ys).map fun p => .tup [f p.1, g p.2]) := by
  simp only [zipF, tupOf_tup, Option.bind_some, Option.map_some, zip_maps]
@[simp] theorem zipF_ft {α β : Type} (f : α → PV) (g : β → PV) (xs : List α) (ys : List β) : zipF (.fup (xs.map f)) (.tup (ys.map g)) = some ((xs.zip ys).map fun p => .tup [f p.1, g p.2]) := by
  simp only [zipF, tupOf_tup, tupOf_fup, Option.bind_some, Option.map_some, zip_maps]
/-! ### which of the items stay -/
theorem each_map {α : Type} {G : PV → PV → Prop} {f : α → PV} {Q : α → Prop} (h : ∀ x y, G x y → ∃ l, y = f l ∧ Q l) : ∀ {xs ys : List PV}, Each G xs ys → ∃ ls : List α, ys = ls.map f ∧ (∀ l ∈ ls, Q l) ∧ ls.length = xs.length
  | _, _, .nil => ⟨[], rfl, by simp, rfl⟩
  | _, _, .cons g t => by
    obtain ⟨l, e, q⟩ := h _ _ g
    obtain ⟨ls, e1, q1, q2⟩ := each_map h t
    subst e e1
    exact ⟨l :: ls, rfl, fun z hz => (List.mem_cons.mp hz).elim (fun e => e ▸ q) (q1 z), by simp [q2]⟩
theorem made_same {α : Type} {G : PV → PV → Prop} {f : α → PV} (h : ∀ a y, G (f a) y → y = f a) : ∀ {as : List α} {ys : List PV}, Made G (as.map f) ys → ∃ zs : List α, ys = zs.map f ∧ zs.Sublist as
  | [], _, .nil => ⟨[], rfl, List.Sublist.refl _⟩
  | a :: as, _, .skip t => by
    obtain ⟨zs, h1, h2⟩ := made_same h t
    exact ⟨zs, h1, h2.cons a⟩
  | a :: as, _, .take g0 t => by
    obtain ⟨zs, h1, h2⟩ := made_same h t
    subst h1
    exact ⟨a :: zs, by rw [h a _ g0]; rfl, h2.cons₂ a⟩
theorem rngP_nil {i : Int} {n : Nat} (h : [] = rngP i n) : n = 0 := by
  cases n with
  | zero => rfl
  | succ n => rw [rngP_succ] at h; cases h
theorem rngP_cons {i : Int} {n : Nat} {x : PV} {xs : List PV} (h : x :: xs = rngP i n) : ∃ m, n = m + 1 ∧ x = .int i ∧ xs = rngP (i + 1) m := by
  cases n with
  | zero => rw [rngP_zero] at h; cases h
  | succ n => rw [rngP_succ] at h; cases h; exact ⟨n, rfl, rfl, rfl⟩
theorem rgN_rng (n : Nat) : rgN n = rngP 0 n := by
  unfold rgN rngP
  simp
/-! ### rows -/
def extL (v : Nat) (r : List Int) : List (List Int) := (List.range v).map fun x : Nat => r ++ [(x : Int)]
def rowsL (v : Nat) : Nat → List (List Int)
  | 0 => [[]]
  | n + 1 => (rowsL v n).flatMap (extL v)
theorem extL_len (v : Nat) (r : List Int) : (extL v r).length = v := by simp [extL]
theorem flat_len (v : Nat) : ∀ rs : List (List Int), (rs.flatMap (extL v)).length = rs.length * v
  | [] => by simp
  | r :: rs => by rw [List.flatMap_cons, List.length_append, flat_len v rs, extL_len, List.length_cons, Nat.succ_mul, Nat.add_comm]
theorem rowsL_len (v : Nat) : ∀ n, (rowsL v n).length = v ^ n
  | 0 => rfl
  | n + 1 => by rw [rowsL, flat_len, rowsL_len v n, Nat.pow_succ]
theorem rowsL_mem {v : Nat} : ∀ {n : Nat} {r : List Int}, r ∈ rowsL v n → r.length = n ∧ ∀ x ∈ r, 0 ≤ x ∧ x < v
  | 0, r, h => by simp [rowsL] at h; subst h; simp
  | n + 1, r, h => by
    rw [rowsL, List.mem_flatMap] at h
    obtain ⟨q, hq, h⟩ := h
    obtain ⟨x, hx, rfl⟩ := List.mem_map.mp h
    obtain ⟨a, b⟩ := rowsL_mem hq
    refine ⟨by simp [a], fun y hy => ?_⟩
    rcases List.mem_append.mp hy with hy | hy
    · exact b y hy
    · simp at hy hx; subst hy; omega
theorem rowsL_all {v : Nat} : ∀ {n : Nat} {r : List Int}, r.length = n → (∀ x ∈ r, 0 ≤ x ∧ x < v) → r ∈ rowsL v n
  | 0, r, h, _ => by
    have := List.length_eq_zero_iff.mp h
    subst this; simp [rowsL]
  | n + 1, r, h, hb => by
    have hne : r ≠ [] := fun e => by subst e; simp at h
    rw [rowsL, List.mem_flatMap]
    refine ⟨r.dropLast, rowsL_all (by simp [h]) fun x hx => hb x (List.dropLast_subset r hx), ?_⟩
    have hl := hb (r.getLast hne) (List.getLast_mem hne)
    unfold extL
    refine List.mem_map.mpr ⟨(r.getLast hne).toNat, List.mem_range.mpr (by omega), ?_⟩
    rw [show (((r.getLast hne).toNat : Nat) : Int) = r.getLast hne by omega]
    exact List.dropLast_concat_getLast hne
theorem lex_app : ∀ {a b : List Int} {c d : List Int}, a.length = b.length → HT.lexLt a b = true → HT.lexLt (a ++ c) (b ++ d) = true
  | [], [], _, _, _, h => by simp [HT.lexLt] at h
  | x :: xs, y :: ys, _, _, hl, h => by
    rw [List.cons_append, List.cons_append]
    rw [HT.lexLt_cons] at h ⊢
    by_cases e : x = y
    · rw [if_pos e] at h ⊢
      exact lex_app (by simpa using hl) h
    · rw [if_neg e] at h ⊢
      exact h
  | [], _ :: _, _, _, hl, _ => by simp at hl
  | _ :: _, [], _, _, hl, _ => by simp at hl
theorem lex_last (r : List Int) {x y : Int} (h : x < y) : HT.lexLt (r ++ [x]) (r ++ [y]) = true := by
  induction r with
  | nil =>
    show HT.lexLt [x] [y] = true
    rw [HT.lexLt_cons, if_neg (by omega)]
    simpa using h
  | cons a r ih => rw [List.cons_append, List.cons_append, HT.lexLt_cons, if_pos rfl]; exact ih
theorem rowsL_asc (v : Nat) : ∀ n, (rowsL v n).Pairwise fun a b => HT.lexLt a b = true
  | 0 => by simp [rowsL]
  | n + 1 => by
    rw [rowsL, List.pairwise_flatMap]
    refine ⟨fun r hr => ?_, ?_⟩
    · unfold extL
      rw [List.pairwise_map]
      exact List.pairwise_lt_range.imp fun {a b} h => lex_last r (by omega)
    · refine (rowsL_asc v n).imp_of_mem fun {a b} ha hb h => ?_
      intro p hp q hq
      obtain ⟨x, _, rfl⟩ := List.mem_map.mp hp
      obtain ⟨y, _, rfl⟩ := List.mem_map.mp hq
      exact lex_app ((rowsL_mem ha).1.trans (rowsL_mem hb).1.symm) h
theorem pow3 {v n : Nat} (hv : v ≤ 3) (hn : n ≤ 6) : v ^ n ≤ 729 := Nat.le_trans (Nat.pow_le_pow_left hv n) (Nat.le_trans (Nat.pow_le_pow_right (by omega) hn) (by decide))
theorem rng_ext (v : Nat) (r : List Int) : (rgN v).map (fun x => PV.tup (r.map PV.int ++ [x])) = (extL v r).map tI := by
  unfold rgN extL
  rw [List.map_map, List.map_map]
  apply List.map_congr_left
  intro i _
  simp [tI]
/-! ### rows with costs -/
def rowP (p : List Int × Int) : PV := .tup [tI p.1, .int p.2]
abbrev tabP (t : List (List Int × Int)) : PV := .tup (t.map rowP)
@[simp] theorem un2_row {p : List Int × Int} : un2 (rowP p) = some (tI p.1, .int p.2) := id rfl
@[simp] theorem getF_row0 {p : List Int × Int} : getF (rowP p) (.int 0) = some (tI p.1) := getF_t0 _ _
@[simp] theorem getF_row1 {p : List Int × Int} : getF (rowP p) (.int 1) = some (.int p.2) := getF_t1 _ _ _
@[simp] theorem lenF_row {p : List Int × Int} : lenF [rowP p] = some (.int 2) := id rfl
@[simp] theorem isTy_row {p : List Int × Int} : isTy .tuple (rowP p) = true := id rfl
end QQ

/-! PP, part y: enumerate of a list, of a tuple. -/
namespace PP
open PySem PySem.Spec PyProof.Rows L2

section
theorem meets_enumB {v : Value} {o : Obj} {H : Heap → Prop} (B : Begins v o H) :
    Meets (Builtin.«enumerate.__new__» ⟨[.type "enumerate", v], []⟩) (fun _ R s => H s.heap ∧
      R (.ok (.ret (.ref (s.heap.push o).objs.size))) { s with heap := (s.heap.push o).push { cls := .type "enumerate", data := .fields #[.none, .bool false, .ref s.heap.objs.size, rawInt 0, .none, .none] } }) :=
  .of_wp fun prog w A R s h => by
    obtain ⟨hp, g, d, tk, os⟩ := s; obtain ⟨h1, h⟩ := h
    have hsub := sub_enumerate
    have q1 : ∀ {A' : Around} {E : Value → Shared → Prop} {Q : Value → Shared → Prop}, Q (.ref hp.objs.size) ⟨hp.push o, g, d, tk, os⟩ → wpAny (model prog w) A' (pyIter v) Q E ⟨hp, g, d, tk, os⟩ :=
      fun q => B.iter prog w _ _ ⟨hp, g, d, tk, os⟩ _ h1 q
    wp_walk using q1
    refine wpAny_stack_any fun st => wpAny_pure ?_
    split
    · rename_i c _ _ _ _ _
      cases (c == Value.type "enumerate")
      · wp_walk using q1
        exact ⟨_, rfl, h⟩
      · wp_walk using q1
        exact ⟨_, rfl, h⟩
    · wp_walk using q1
      exact ⟨_, rfl, h⟩
variable {prog : Program} {w : World} {A : Around} {E : Value → Shared → Prop} {s : Shared}
theorem call_enumB {v : Value} {o : Obj} {H : Heap → Prop} {Q : Value → Shared → Prop} (B : Begins v o H) (h1 : H s.heap)
    (h : ∀ h', IsEnum h' (s.heap.objs.size + 1) s.heap.objs.size 0 .none → h'.get? s.heap.objs.size = some o → h'.objs.size = s.heap.objs.size + 2 →
      (∀ b o, s.heap.get? b = some o → h'.get? b = some o) → Q (.ref (s.heap.objs.size + 1)) { s with heap := h' }) :
    wpAny (model prog w) A (call (.type "enumerate") [v]) Q E s := by
  refine callType_new F.called_enumerate (by decide) (F.typeCall_enumerate_1 _) (F.newCall_enumerate_1 _) (fun obj => F.args_object_init_2 obj _) F.entry_enumerate_new
    (meets_enumB B) ⟨h1, ?_⟩
  have hz : (s.heap.push o).objs.size = s.heap.objs.size + 1 := Heap.size_push ..
  show _ ∧ _
  rw [hz]
  have he : IsEnum ((s.heap.push o).push { cls := .type "enumerate", data := .fields #[.none, .bool false, .ref s.heap.objs.size, rawInt 0, .none, .none] }) (s.heap.objs.size + 1) s.heap.objs.size 0 .none := by
    have := Heap.get?_push_size (s.heap.push o) (o := { cls := .type "enumerate", data := .fields #[.none, .bool false, .ref s.heap.objs.size, rawInt 0, .none, .none] }) rfl
    rw [hz] at this; exact this
  refine ⟨⟨_, he, rfl⟩, h _ he (Heap.get?_push_of_some _ (Heap.get?_push_size _ B.free)) (by rw [Heap.size_push, hz]) fun b o x => Heap.get?_push_of_some _ (Heap.get?_push_of_some _ x)⟩
end
theorem drawsEnd {prog : Program} {w : World} {A : Around} (hh : A.handled = none) (it t : Addr) (items : Array Value) (i0 : Nat) (h0 : items.size ≤ i0) :
    Draws prog w A it [it, t] i0 (fun _ _ => True) (fun i h => i = i0 ∧ h.IsTupleIter it t i ∧ h.IsTuple t items) where
  live := fun _ _ st => let ⟨o, ho, _⟩ := st.2.1; ⟨o, ho⟩
  frame := fun _ _ _ st hk => ⟨st.1, st.2.1.at fun o e => hk it (by simp) o e, st.2.2.at fun o e => hk t (by simp) o e⟩
  item := fun i s Q E hi st hQ => by have := st.1; omega
  done := fun s Q E st hE => wpAny_nextOf_tuple_end hh st.2.1 st.2.2 (by simp; omega) hE
/-- the tuple at a as it stands at each turn, each item in a new pair -/
def IteT (K : PySem.W.Frag) (a : Addr) : It :=
  ⟨fun i H => ∃ (xs : List V) (x : V), SqT K H a xs ∧ xs[i]? = some x, fun i H v H' => ∃ T x, v = .ref T ∧ H T = none ∧ H' = upd H T (.tup [.int (i : Nat), x]) ∧ ∀ xs, SqT K H a xs → xs[i]? = some x, fun i H => ∃ xs : List V, SqT K H a xs ∧ xs.length ≤ i⟩
theorem turn_enumT {P : Program} {w : World} {K : PySem.W.Frag} {elts : List Expr} {kk : Nat} {tpos : Pos} (a e it : Addr) :
    Turn P w K (.Tuple elts kk tpos) (IteT K a) [e, it] e (fun i h => (∃ old, IsEnum h e it ((i : Nat) : Int) old) ∧ h.IsTupleIter it a i ∧ e ≠ it ∧ a ≠ it ∧ e ≠ a) where
  mem := by simp
  obj := fun i h st b hb => by
    obtain ⟨⟨old, he⟩, ⟨o, ho, hc, hd⟩, _⟩ := st
    have e' : b = e ∨ b = it := by simpa using hb
    rcases e' with z | z
    · rw [z]; exact ⟨_, he, fun v q => nomatch q⟩
    · rw [z]; exact ⟨o, ho, fun v q => by rw [hd] at q; cases q⟩
  keep := fun i h h' st k => let ⟨⟨old, he⟩, hi, hne⟩ := st; ⟨⟨old, k e (by simp) _ he⟩, hi.at fun o q => k it (by simp) o q, hne⟩
  item := by
    intro X hP hw hK hc i pins s σ H E I hf st hg
    subst hP hw hK
    obtain ⟨⟨old, he⟩, hit, hne, hat, hea⟩ := st
    obtain ⟨xs, x, hq, hx⟩ := hg
    obtain ⟨its, rv, p, hz⟩ := I.tuple hq
    obtain ⟨u, hu, ru⟩ := rv.get hx
    have hel : e < s.heap.objs.size := Heap.lt_size he
    have hil : it < s.heap.objs.size := by obtain ⟨_, q, _⟩ := hit; exact Heap.lt_size q
    have hlt : i < its.toArray.size := by
      have := (List.getElem?_eq_some_iff.mp hu).1
      simpa using this
    refine wpAny_pyNext_enum_itemC (Draws.tuple (prog := X.prog) (w := X.w) (A := X.A.in1) (I.ok.hd hc) it a hat its.toArray) he ⟨hit, p⟩ hlt hne (by simp [hne, hea]) fun y h' tk hy ho hst hT hsz hk => ?_
    have hyu : y = u := by
      rw [show its.toArray[i]? = its[i]? by simp, hu] at hy
      exact (Option.some.inj hy).symm
    subst hyu
    refine ⟨_, rfl, wpAny_letOwnedTupleGo_enum (s := { s with heap := h', toks := tk + 1 }) ho fun h'' he' sb => ?_⟩
    have hT2 : h''.get? s.heap.objs.size = some { cls := .type "tuple", data := .seq #[.int i tk, y] } := (sb.2 _ (Nat.ne_of_gt hel)).trans hT
    have new : ObjOk X.prog X.w (upd H s.heap.objs.size (.tup [.int (i : Nat), x])) h'' s.heap.objs.size (.tup [.int (i : Nat), x]) :=
      ⟨by show 2 ≤ sizeLine; decide, [.int i tk, y], .cons ⟨_, rfl⟩ (.cons ru .nil), ⟨_, hT2, rfl, _, rfl⟩⟩
    have I1 : Inv X pins σ (upd H s.heap.objs.size (.tup [.int (i : Nat), x])) { s with heap := h'', toks := tk + 1 } :=
      I.turnedNew (ch := [e, it]) (fun b ob hb q => (sb.2 b (fun z => hb (by simp [z]))).trans (hk b ob (fun z => hb (by simp [z])) (fun z => hb (by simp [z])) q)) hf (Nat.le_refl _) new
    refine ⟨.ref s.heap.objs.size, _, I1, rfl, ⟨_, x, rfl, I.hok.fresh (Nat.le_refl _), rfl, fun ys hy => by rw [I.tuple_inj hy hq]; exact hx⟩, ⟨⟨y, ?_⟩, hst.1.at fun o q => (sb.2 it (Ne.symm hne)).trans q, hne, hat, hea⟩, fun b hb => ?_⟩
    · have e1 : ((i + 1 : Nat) : Int) = (i : Int) + 1 := by omega
      rw [e1]; exact he'
    · have hb' : b < s.heap.objs.size := by
        have e' : b = e ∨ b = it := by simpa using hb
        rcases e' with z | z
        · rw [z]; exact hel
        · rw [z]; exact hil
      rw [upd_ne (Nat.ne_of_lt hb')]
      exact (hf b hb).1
  done := by
    intro X hP hw hK hc i pins s σ H E I hf st hg
    subst hP hw hK
    obtain ⟨⟨old, he⟩, hit, hne, hat, hea⟩ := st
    obtain ⟨xs, hq, hx⟩ := hg
    obtain ⟨its, rv, p, hz⟩ := I.tuple hq
    obtain ⟨f0, f1, f2, f3, f4, f5⟩ := hf it (by simp)
    have hl := rv.length
    exact wpAny_pyNext_enum_endD (drawsEnd (prog := X.prog) (w := X.w) (A := X.A.in1) (I.ok.hd hc) it a its.toArray i (by simp; omega)) he ⟨rfl, hit, p⟩ fun h' eb => ⟨rfl, I.turned (t' := s.toks) (fun b o hb q => eb b o hb q) f0 f1 f3 f4 f5⟩
  self := fun A i s Q E st h => let ⟨⟨_, he⟩, _⟩ := st; wpAny_pyIter_enum he h
def iEnumA (K : PySem.W.Frag) (ta : TA) : TI := fun σ H R => ta σ H fun vs H1 => ∃ a xs, vs = [.ref a] ∧ ((SqL K H1 a xs ∧ R (Ite K a) H1) ∨ (SqT K H1 a xs ∧ R (IteT K a) H1))
theorem pi_enumA {X : Cx} {e : Expr} {ta : TA} {p pos tpos : Pos} {elts : List Expr} {kk : Nat} (hg : Gl X "enumerate") (hm : X.mg "enumerate" = none) (ha : PA X [e] ta) (hs : starEach [e] X.env = [(false, eval e X.env)] := by rfl) :
    PI X (.Tuple elts kk tpos) (.Call (.Name "enumerate" p) [e] [] pos) (iEnumA X.K ta) := by
  refine ⟨fun pins s σ H R I h => ?_⟩
  refine Call_ (ld_blt I hg hm boot_enumerate (PyProof.Rows.callWith_type1 (thn (ha.run pos pins s σ H _ I h) fun us s1 ⟨vs, H1, I1, r1, q1⟩ => ?_) hs rfl))
  obtain ⟨a, xs, ex, q1⟩ := q1
  subst ex
  cases r1 with
  | cons r rr =>
    cases rr
    cases r
    have fresh2 : ∀ b, b ∈ [s1.heap.objs.size + 1, s1.heap.objs.size] → FpOk X pins H1 b := fun b hb => by
      have e' : b = s1.heap.objs.size + 1 ∨ b = s1.heap.objs.size := by simpa using hb
      have hle : s1.heap.objs.size ≤ b := by
        rcases e' with z | z
        · rw [z]; exact Nat.le_add_right _ _
        · rw [z]; exact Nat.le_refl _
      exact I1.fpOk hle (I1.hok.fresh hle)
    rcases q1 with ⟨hq, q⟩ | ⟨hq, q⟩
    · obtain ⟨its, rv, p', hz⟩ := I1.list hq
      refine call_enumerate_list p'.isList fun h' he hit hsz hk => wpAny_pyIter_enum he ?_
      have I2 : Inv X pins σ H1 { s1 with heap := h' } := I1.kept (t' := s1.toks) hk
      exact ⟨s1.heap.objs.size + 1, [s1.heap.objs.size + 1, s1.heap.objs.size], _, _, H1, rfl, I2, turn_enum a (s1.heap.objs.size + 1) s1.heap.objs.size, ⟨⟨.none, he⟩, hit, Nat.succ_ne_self _⟩, fresh2, q⟩
    · obtain ⟨its, rv, p', hz⟩ := I1.tuple hq
      refine call_enumB (begins_tuple a its.toArray) p' fun h' he hit hsz hk => wpAny_pyIter_enum he ?_
      have I2 : Inv X pins σ H1 { s1 with heap := h' } := I1.kept (t' := s1.toks) hk
      have hal : a < s1.heap.objs.size := by obtain ⟨o, ho, _⟩ := id p'; exact Heap.lt_size ho
      exact ⟨s1.heap.objs.size + 1, [s1.heap.objs.size + 1, s1.heap.objs.size], _, _, H1, rfl, I2, turn_enumT a (s1.heap.objs.size + 1) s1.heap.objs.size, ⟨⟨.none, he⟩, ⟨_, hit, rfl, rfl⟩, Nat.succ_ne_self _, Nat.ne_of_lt hal, Nat.ne_of_gt (Nat.lt_succ_of_lt hal)⟩, fresh2, q⟩
/-! what it yields -/
def enP : Nat → List PV → List PV
  | _, [] => []
  | i, x :: xs => .tup [.int (i : Nat), x] :: enP (i + 1) xs
theorem enP_len : ∀ (xs : List PV) (i : Nat), (enP i xs).length = xs.length
  | [], _ => rfl
  | _ :: xs, i => by simp [enP, enP_len xs]
theorem enP_get : ∀ (xs : List PV) (k i : Nat) (q : PV), (enP k xs)[i]? = some q → ∃ x, xs[i]? = some x ∧ q = .tup [.int ((k + i : Nat) : Int), x]
  | x :: xs, k, 0, q, h => by simp [enP] at h; exact ⟨x, rfl, h.symm⟩
  | x :: xs, k, i + 1, q, h => by
    obtain ⟨y, h1, h2⟩ := enP_get xs (k + 1) i q (by simpa [enP] using h)
    exact ⟨y, by simpa using h1, by rw [h2, show k + 1 + i = k + (i + 1) by omega]⟩
  | [], k, i, q, h => by simp [enP] at h
def enF (p : PV) : Option (List PV) := (seqOf p).map (enP 0)
def iEnum1 (a : Den) : DenI := fun e => (dArgs [a] e).bind fun p => match p.1 with
  | [x] => (enF x).map fun l => (l, p.2)
  | _ => none
theorem yld_enum {K : PySem.W.Frag} {F : Addr → Prop} {H : Hp} {J : It} {vs : List V} {xs : List PV} (r1 : RepL K F H vs xs)
    (go : ∀ (F2 : Addr → Prop) (H2 : Hp) (i : Nat) (x : V), Ex F H F2 H2 → vs[i]? = some x → J.go i H2 ∧ ∀ v H3, J.yld i H2 v H3 → ∃ T, v = .ref T ∧ H2 T = none ∧ H3 = upd H2 T (.tup [.int (i : Nat), x]))
    (stop : ∀ (F2 : Addr → Prop) (H2 : Hp) (i : Nat), Ex F H F2 H2 → vs.length ≤ i → J.stop i H2) : Yld K F H J (enP 0 xs) := fun F2 H2 ex fz i => by
  refine ⟨fun q hq => ?_, fun hi => stop F2 H2 i ex ?_⟩
  · obtain ⟨x, h1, rfl⟩ := enP_get xs 0 i q hq
    obtain ⟨v, hv, rv⟩ := r1.get h1
    obtain ⟨g, yl⟩ := go F2 H2 i v ex hv
    refine ⟨g, fun z H3 hy => ?_⟩
    obtain ⟨T, rfl, hT, rfl⟩ := yl z H3 hy
    have N : Nw F2 H2 F2 (upd H2 T (.tup [.int (i : Nat), v])) := .upd hT fz
    refine ⟨F2, N, .tup upd_same (.cons (by rw [Nat.zero_add]; exact .int _) (.cons ((rv.ex ex).ex N.ex) .nil)), fun s => s.upd ?_⟩
    show 2 ≤ sizeLine
    rw [sizeLine_eq]; omega
  · rw [enP_len] at hi
    rw [r1.length]; omega
theorem vi_enum {X : Cx} {e : Expr} {da : Den} {p pos tpos : Pos} {elts : List Expr} {kk : Nat} (hg : Gl X "enumerate") (hm : X.mg "enumerate" = none) (hs : notStar e = true) (ha : VE X e da) :
    VI X (.Tuple elts kk tpos) (.Call (.Name "enumerate" p) [e] [] pos) (iEnum1 da) :=
  pi_imp (pi_enumA hg hm (va_cons hs ha va_nil) (by rw [starEach_cons hs]; rfl)) fun σ H R sz ⟨F, env, items, env', Rl, hd, q⟩ => by
    unfold iEnum1 at hd
    obtain ⟨⟨ps, e1⟩, h1, hd⟩ := Option.bind_eq_some_iff.mp hd
    refine ⟨F, env, ps, e1, Rl, h1, fun vs F1 H1 R1 M1 r1 => ?_⟩
    simp only at hd
    split at hd
    · rename_i x
      obtain ⟨l, h2, hz⟩ := Option.map_eq_some_iff.mp hd
      cases hz
      obtain ⟨v, rfl, rx⟩ := r1.one
      obtain ⟨xs, hx, e⟩ := Option.map_eq_some_iff.mp h2
      subst e
      by_cases hl : ∃ ys, x = .lst ys
      · obtain ⟨ys, rfl⟩ := hl
        cases hx
        cases rx with
        | @lst a vs _ fa r1 =>
          refine ⟨a, vs, rfl, .inl ⟨fa.seq, fun _ => q (Ite X.K a) F1 H1 R1 M1 (yld_enum (J := Ite X.K a) r1 (fun F2 H2 i x ex hx => ⟨⟨vs, x, fa.sql_ex ex, hx⟩, fun v H3 hv => ?_⟩) (fun F2 H2 i ex h => ⟨vs, fa.sql_ex ex, h⟩)) ?_⟩⟩
          · obtain ⟨T, x', e1, e2, e3, f1⟩ := hv
            have g1 := f1 vs (fa.sql_ex ex)
            rw [hx] at g1
            cases g1
            exact ⟨T, e1, e2, e3⟩
          · rw [enP_len, ← r1.length]
            exact sql_small R1.sz fa.seq
      · have ht : tupOf x = some xs := by
          cases x <;> simp only [seqOf] at hx <;> try cases hx
          all_goals first | rfl | exact absurd ⟨_, rfl⟩ hl
        obtain ⟨a, vs, rfl, fa, ra⟩ := rx.tupAt ht
        refine ⟨a, vs, rfl, .inr ⟨tupAt_sq fa (.refl (F := F1)), fun _ => q (IteT X.K a) F1 H1 R1 M1 (yld_enum (J := IteT X.K a) ra (fun F2 H2 i x ex hx => ⟨⟨vs, x, tupAt_sq fa ex, hx⟩, fun v H3 hv => ?_⟩) (fun F2 H2 i ex h => ⟨vs, tupAt_sq fa ex, h⟩)) ?_⟩⟩
        · obtain ⟨T, x', e1, e2, e3, f1⟩ := hv
          have g1 := f1 vs (tupAt_sq fa ex)
          rw [hx] at g1
          cases g1
          exact ⟨T, e1, e2, e3⟩
        · rw [enP_len, ← ra.length]
          have : vs.length ≤ sizeLine := by
            rcases fa with h | ⟨o, h⟩
            · exact (R1.sz a).1 vs (.inr (.inl h))
            · exact (R1.sz a).1 vs (.inr (.inr ⟨_, h⟩))
          omega
    · cases hd
theorem Bi.enum {X : Cx} {a : Expr} {da : Den} {p pos tpos : Pos} {elts : List Expr} {kk : Nat} (B : Bi X "enumerate" (.type "enumerate")) (hs : notStar a = true) (ha : VE X a da) : VI X (.Tuple elts kk tpos) (.Call (.Name "enumerate" p) [a] [] pos) (iEnum1 da) := vi_enum B.gl B.mg hs ha
def dNever : Den := fun _ => none
theorem ve_never {X : Cx} {e : Expr} : VE X e dNever := ⟨fun pins s σ H Q I h => by
  obtain ⟨F, env, r, env', R, hd, q⟩ := h
  cases hd⟩
theorem dNever_ev {e : PEn} : dNever e = none := rfl
theorem kL3_0 {vs : List Nat} : kL3 vs none = none := rfl
theorem kL2_0 {elt : Den} {vs : List Nat} : kL2 elt vs none = none := rfl
theorem kL1_0 {tt : DenT} {elt : Den} {vs : List Nat} : kL1 tt elt vs none = none := rfl
def kEn (o : Option (List PV × PEn)) : Option (List PV × PEn) := o.bind fun p => match p.1 with
  | [x] => (enF x).map fun l => (l, p.2)
  | _ => none
theorem iEnum1_ev {a : Den} {e : PEn} : iEnum1 a e = kEn (dArgs [a] e) := rfl
theorem kEn_b {α : Type} {o : Option α} {f : α → Option (List PV × PEn)} : kEn (o.bind f) = o.bind fun z => kEn (f z) := by cases o <;> rfl
theorem kEn_v {x : PV} {e : PEn} : kEn (some ([x], e)) = (enF x).bind fun l => some (l, e) := by
  show (enF x).map _ = _
  cases enF x <;> rfl
/-! `is` over bools -/
def isBF (p q : PV) : Option PV := match p, q with
  | .bl c, .bl b => some (.bl (c == b))
  | _, _ => none
def notBF (p q : PV) : Option PV := match p, q with
  | .bl c, .bl b => some (.bl (!(c == b)))
  | _, _ => none
theorem op_isBF {X : Cx} : OpR X (compareOp .Is) (rB X.K isBF) := by
  refine opB_of fun pins s σ H x y v u Q F p q r I rx ry fz sz r1 r2 e kk => ?_
  unfold isBF at e
  split at e
  · rename_i c b
    cases e
    obtain rfl : x = .bl c := by
      cases r1 with
      | rep r1 => cases r1; rfl
      | own o => cases o
    obtain rfl : y = .bl b := by
      cases r2 with
      | rep r2 => cases r2; rfl
      | own o => cases o
    · cases rx; cases ry
      show wpAny _ _ ((isSame (Value.bool c) (Value.bool b)) >>= fun z => pure (Value.bool z)) _ _ s
      exact wpAny_bind (wpAny_isSame_plain (by cases c <;> cases b <;> rfl) (wpAny_pure (fin_bl I (kk (.bl (c == b)) F H (.refl fz) (.bl _)) (by cases c <;> cases b <;> rfl))))
  · cases e
theorem op_notBF {X : Cx} : OpR X (compareOp .IsNot) (rB X.K notBF) := by
  refine opB_of fun pins s σ H x y v u Q F p q r I rx ry fz sz r1 r2 e kk => ?_
  unfold notBF at e
  split at e
  · rename_i c b
    cases e
    obtain rfl : x = .bl c := by
      cases r1 with
      | rep r1 => cases r1; rfl
      | own o => cases o
    obtain rfl : y = .bl b := by
      cases r2 with
      | rep r2 => cases r2; rfl
      | own o => cases o
    · cases rx; cases ry
      show wpAny _ _ ((isSame (Value.bool c) (Value.bool b)) >>= fun z => pure (Value.bool (!z))) _ _ s
      exact wpAny_bind (wpAny_isSame_plain (by cases c <;> cases b <;> rfl) (wpAny_pure (fin_bl I (kk (.bl (!(c == b))) F H (.refl fz) (.bl _)) (by cases c <;> cases b <;> rfl))))
  · cases e
/-! list.extend of any list -/
open Sem (wp)
open AutoSeq1 (wpAny_loadPart')
theorem list_extend_gen (l : Addr) (items : Array Value) (n : Nat) (b : Addr) (items2 : Array Value) (n2 : Nat) (dct : Option Addr) (sl : Array (Option Value)) (hc0 : ¬(!items.isEmpty && Builtin.List.listTooLong (items.size + items2.size)) = true) (hc1 : items.size ≤ sizeLine) (hs2 : items.size + items2.size ≤ sizeLine + 1) :
    Meets (Builtin.«list.extend» ⟨[.ref l, .ref b], []⟩) (fun _ R s => s.heap.get? l = some { cls := .type "list", dict := none, data := .seq items n, slots := #[] } ∧ s.heap.get? b = some { cls := .type "list", dict := dct, data := .seq items2 n2, slots := sl } ∧ R (.ok (.ret Value.none)) { s with heap := s.heap.update l (Obj.mapSeq fun x => x ++ items2), toks := s.toks }) :=
  .of_wp fun prog w A R s h => by
    obtain ⟨hp, g, d, tk, os⟩ := s; obtain ⟨hl, hb, h⟩ := h; have f1 := AutoSeq1.idx_int; have f2 := AutoSeq1.sub_tuple_tuple; have f3 := AutoSeq1.sub_list_list; have f4 := AutoSeq1.sub_tuple_list; have f5 := AutoSeq1.sub_list_tuple;
    have hz' : (items ++ items2).size ≤ sizeLine + 1 := by rw [Array.size_append]; exact hs2
    wp_walk using (wpAny_updateSeq hl rfl (hz := hc1) (_hz' := hz')), wpAny_loadPart' hl, wpAny_loadPart' hb; exact ⟨_, rfl, h⟩
def rExtendQ (K : PySem.W.Frag) : V → List V → Hp → VK → Prop := fun x vs H Q => ∃ l b xs zs, x = .ref l ∧ vs = [.ref b] ∧ H l = some (.lst xs) ∧ SqL K H b zs ∧ xs.length + zs.length ≤ sizeLine ∧ Q .non (upd H l (.lst (xs ++ zs)))
theorem mt_extendQ {X : Cx} : MtM X "list.extend" (rExtendQ X.K) := by
  intro pins s σ H x vs v us Q I rx rv h
  obtain ⟨l, b, xs, zs, rfl, rfl, hH, hB, hz, q⟩ := h
  cases rx
  obtain ⟨u, rfl, ru⟩ := rv.one
  cases ru
  obtain ⟨z, its, n, r, hl, e⟩ := I.lstM hH
  obtain ⟨its2, r2, p2, hl2⟩ := I.list hB
  obtain ⟨⟨c, dct, dt, sl⟩, e2, hc, n2, hd⟩ := p2.isList
  replace hc : c = .type "list" := hc
  replace hd : dt = .seq its2.toArray n2 := hd
  subst hc hd
  have l1 := r.length
  have l2 := r2.length
  have hsz : its.toArray.size + its2.toArray.size ≤ sizeLine := by rw [List.size_toArray, List.size_toArray]; omega
  have hlong : ¬ (!its.toArray.isEmpty && Builtin.List.listTooLong (its.toArray.size + its2.toArray.size)) = true := by
    rw [notLongL hsz, Bool.and_false]
    exact Bool.false_ne_true
  refine call_meets F.slot_list_extend ⟨_, e, rfl⟩ F.entry_list_extend (F.args_list_extend_2 _ _)
    (list_extend_gen l its.toArray n b its2.toArray n2 dct sl hlong (by rw [List.size_toArray]; omega) (by omega)) ⟨e, e2, ?_⟩
  refine ⟨.non, _, I.lset (its' := its ++ its2) hH e (by simp) (r.append r2) ?_, rfl, q⟩
  rw [List.length_append]
  omega
def extendF : List PV → List PV → Option (PV × List PV) := fun xs ps => match ps with
  | [.lst ys] => if xs.length + ys.length < 1000000 then some (.non, xs ++ ys) else none
  | _ => none
theorem mm_extend {X : Cx} : MMut X "extend" extendF := ⟨⟨_, PySem.F.slot_list_extend, PySem.F.type_list_extend, fun pins s σ H a vs args us xs ps ws r F Q I hH rv rx rp hf sz k => by
  unfold extendF at hf
  split at hf
  · rename_i ys
    split at hf
    · rename_i hl
      cases hf
      obtain ⟨v, rfl, q1⟩ := rp.one
      have l := rv.length
      cases q1 with
      | @lst b zs _ fa r1 =>
        have l2 := r1.length
        refine mt_extendQ pins s σ H (.ref a) [.ref b] _ us Q I rfl rx ⟨a, b, vs, zs, rfl, rfl, hH, fa.seq, by rw [sizeLine_eq]; omega, k _ _ .non (rv.append r1) ?_⟩
        rw [List.length_append, sizeLine_eq]; omega
    · cases hf
  · cases hf⟩⟩
end PP

/-! PP, part z: itertools.combinations of a list. -/
namespace Cmb
open PySem PySem.Spec PyProof.Rows
open Sem (wp)
abbrev T : String := "itertools.combinations"
theorem mro_c : mroOf (.type "itertools.combinations") = pure [.type "itertools.combinations", .type "object"] := by rw [mroOf_type]; kernel_rfl
theorem lookup_new : typeLookup (.type "itertools.combinations") "__new__" = pure (some (.builtin "itertools.combinations.__new__")) := by rw [typeLookup_type, builtinLookup_eq_fast]; kernel_rfl
theorem slot_init : Slot "itertools.combinations" "__init__" "object.__init__" :=
  .of (owner := "object") (n := "__init__") (by rw [typeLookup_type, builtinLookup_eq_fast]; kernel_rfl) (by decide +kernel) (by decide +kernel) (by decide +kernel)
    (by first | exact .inl (by decide +kernel) | exact .inr (by decide +kernel)) (by rw [isSubtype_type]; kernel_rfl)
theorem sub_c : isSubtype (.type "itertools.combinations") (.type "itertools.combinations") = pure true := by rw [isSubtype_type]; kernel_rfl
theorem called_c : TypeCalled "itertools.combinations" "itertools.combinations.__new__" "object.__init__" :=
  ⟨by decide +kernel, by decide +kernel, ⟨_, _, mro_c⟩, madeBy_type mro_c lookup_new (by decide +kernel), by decide +kernel, sub_c, slot_init⟩
theorem typeCall_2 (a b : Value) : checkTypeCall "itertools.combinations" ⟨[a, b], []⟩ = pure () := by kernel_rfl
theorem newCall_2 (a b : Value) : checkBuiltinCall "itertools.combinations.__new__" ⟨[.type "itertools.combinations", a, b], []⟩ = pure () := by kernel_rfl
theorem entry_new : entryFor table "itertools.combinations.__new__" = some Builtin.«itertools.combinations.__new__» := entryFor_of_tree (by kernel_rfl)
theorem slot_iter : Slot "itertools.combinations" "__iter__" "itertools.combinations.__iter__" :=
  .of (owner := "itertools.combinations") (n := "__iter__") (by rw [typeLookup_type, builtinLookup_eq_fast]; kernel_rfl) (by decide +kernel) (by decide +kernel) (by decide +kernel)
    (by first | exact .inl (by decide +kernel) | exact .inr (by decide +kernel)) sub_c
theorem slot_next : Slot "itertools.combinations" "__next__" "itertools.combinations.__next__" :=
  .of (owner := "itertools.combinations") (n := "__next__") (by rw [typeLookup_type, builtinLookup_eq_fast]; kernel_rfl) (by decide +kernel) (by decide +kernel) (by decide +kernel)
    (by first | exact .inl (by decide +kernel) | exact .inr (by decide +kernel)) sub_c
theorem entry_iter : entryFor table "itertools.combinations.__iter__" = some Builtin.«dict_keyiterator.__iter__» :=
  entryFor_alias (id' := "dict_keyiterator.__iter__") (by kernel_rfl) (by first | rfl | decide +kernel | (unfold String.splitOn; simp +decide [String.splitOnAux])) (by decide +kernel) (by kernel_rfl)
theorem entry_next : entryFor table "itertools.combinations.__next__" = some Builtin.«itertools.combinations.__next__» := entryFor_of_tree (by kernel_rfl)
theorem owner_c : Manifest.owners.lookup (String.ofList ['s', 'n', 'o', 'i', 't', 'a', 'n', 'i', 'b', 'm', 'o', 'c', '.', 's', 'l', 'o', 'o', 't', 'r', 'e', 't', 'i'].reverse) = some Manifest.sig_itertools_combinations := by kernel_rfl
theorem args_iter (a : Value) : argsOk "itertools.combinations.__iter__" ⟨[a], []⟩ := by
  unfold argsOk; rw [signature?_of (id := "itertools.combinations.__iter__") (n := ['_', '_', 'r', 'e', 't', 'i', '_', '_']) (o := ['s', 'n', 'o', 'i', 't', 'a', 'n', 'i', 'b', 'm', 'o', 'c', '.', 's', 'l', 'o', 'o', 't', 'r', 'e', 't', 'i']) (by kernel_rfl) owner_c]; kernel_rfl
theorem args_next (a : Value) : argsOk "itertools.combinations.__next__" ⟨[a], []⟩ := by
  unfold argsOk; rw [signature?_of (id := "itertools.combinations.__next__") (n := ['_', '_', 't', 'x', 'e', 'n', '_', '_']) (o := ['s', 'n', 'o', 'i', 't', 'a', 'n', 'i', 'b', 'm', 'o', 'c', '.', 's', 'l', 'o', 'o', 't', 'r', 'e', 't', 'i']) (by kernel_rfl) owner_c]; kernel_rfl
theorem noDict_c : typeHasDict (.type "itertools.combinations") = false := by decide +kernel
/-- the next indices -/
def nx (n : Nat) (ixs : List Nat) : Option (List Nat) :=
  match (List.range ixs.length).reverse.find? fun i => ixs.getD i 0 != i + n - ixs.length with
  | none => none
  | some i => some (ixs.take i ++ (List.range (ixs.length - i)).map (ixs.getD i 0 + 1 + ·))
def cRec (pool : Addr) (ph : Int) (last : Value) (ixs : List Nat) : Obj := { cls := .type "itertools.combinations", data := .fields ([.ref pool, rawInt ph, last] ++ ixs.map fun (i : Nat) => rawInt i).toArray }
abbrev IsC (h : Heap) (it pool : Addr) (ph : Int) (last : Value) (ixs : List Nat) : Prop := h.get? it = some (cRec pool ph last ixs)
def poolH (h : Heap) (vs : List Value) : Heap := (h.push (seqObj "list" #[] 0)).update h.objs.size (Obj.mapSeq (· ++ vs.toArray))
set_option maxHeartbeats 2000000 in
theorem meets_new (l : Addr) (vs : List Value) (r : Nat) (t : Tok) (hr : r ≤ vs.length) (hv : vs.length ≤ 1000) :
    Meets (Builtin.«itertools.combinations.__new__» ⟨[.type "itertools.combinations", .ref l, .int (r : Nat) t], []⟩)
      (fun _ R s => s.heap.IsList l vs.toArray ∧ R (.ok (.ret (.ref (((poolH s.heap vs).push { cls := .type "tuple", data := .seq vs.toArray }).objs.size)))) { s with heap := ((poolH s.heap vs).push { cls := .type "tuple", data := .seq vs.toArray }).push (cRec (poolH s.heap vs).objs.size 0 .none (List.range r)) }) :=
  .of_wp fun prog w A R s h => by
    obtain ⟨hp, g, dd, tk, os⟩ := s
    obtain ⟨hl, h⟩ := h
    have happ : ("itertools." ++ "combinations" : String) = "itertools.combinations" := by decide +kernel
    have hsub : isSubtype (.type "itertools.combinations") (.type ("itertools." ++ "combinations")) = pure true := by rw [happ]; exact sub_c
    have hd := noDict_c
    have hn : ¬ ((decide ((r : Int) < -(2 ^ 63 : Int)) || decide ((r : Int) ≥ (2 ^ 63 : Int))) = true) := by
      have a : decide ((r : Int) < -(2 ^ 63 : Int)) = false := decide_eq_false (by omega)
      have b : decide ((r : Int) ≥ (2 ^ 63 : Int)) = false := decide_eq_false (by omega)
      rw [a, b]
      decide
    have hc : ∀ {A' : Around} {E : Value → Shared → Prop} {Q : List Value → Shared → Prop}, Q vs ⟨poolH hp vs, g, dd, tk, os⟩ → wpAny (model prog w) A' (collect (.ref l)) Q E ⟨hp, g, dd, tk, os⟩ :=
      fun q => collect_list (s := ⟨hp, g, dd, tk, os⟩) hl q (by rw [sizeLine_eq]; omega)
    repeat (first
      | refine hc ?_
      | refine wpAny_bind (hc ?_)
      | (refine wpAny_ite_false (decide_eq_false (Int.not_lt.mpr (Int.natCast_nonneg r))) ?_)
      | wp_step
      | simp only [List.head?_cons, Option.some_or, List.getElem?_cons_succ, List.getElem?_cons_zero, List.length_cons, List.length_nil, List.forIn_nil]
      | (refine wpAny_ite_false (decide_eq_false hn) ?_)
      )
    rw [if_neg (by show ¬ (decide ((r : Int) > 2 ^ 20) = true); rw [decide_eq_true_eq]; omega)]
    refine wpAny_bind (wpAny_newTuple ?_ (by rw [sizeLine_eq]; omega))
    refine wpAny_pure ?_
    show wpAny _ _ (Builtin.Itertools.itNewRecord (.type "itertools.combinations") ([Value.ref (poolH hp vs).objs.size, rawInt (if (r : Int).toNat > vs.length then 2 else 0), Value.none] ++ List.map (fun (i : Nat) => rawInt i) (List.range (r : Int).toNat)) >>= _) _ _ _
    rw [Int.toNat_natCast, if_neg (by omega)]
    refine wpAny_bind ?_
    unfold Builtin.Itertools.itNewRecord
    simp only [hd, Bool.not_false, if_true]
    refine wpAny_newObj_type (wpAny_pure ⟨_, rfl, h⟩) ?_
    show Array.size _ ≤ _
    simp only [List.size_toArray, List.length_append, List.length_map, List.length_range, List.length_cons, List.length_nil]
    rw [sizeLine_eq]; omega
theorem poolH_size (h : Heap) (vs : List Value) : (poolH h vs).objs.size = h.objs.size + 1 := by
  unfold poolH
  rw [(Heap.SameBut.update (a := h.objs.size) ..).1, Heap.size_push]
theorem poolH_get {h : Heap} (vs : List Value) {b : Addr} {o : Obj} (e : h.get? b = some o) : (poolH h vs).get? b = some o := by
  unfold poolH
  rw [(Heap.SameBut.update (a := h.objs.size) ..).2 b (Nat.ne_of_lt (Heap.lt_size e))]
  exact Heap.get?_push_of_some _ e
section
variable {prog : Program} {w : World} {A : Around} {E : Value → Shared → Prop} {s : Shared}
theorem call_comb {l : Addr} {vs : List Value} {r : Nat} {t : Tok} {Q : Value → Shared → Prop} (hr : r ≤ vs.length) (hv : vs.length ≤ 1000) (hl : s.heap.IsList l vs.toArray)
    (h : ∀ h', IsC h' (s.heap.objs.size + 2) (s.heap.objs.size + 1) 0 .none (List.range r) → h'.IsTuple (s.heap.objs.size + 1) vs.toArray → (∀ b o, s.heap.get? b = some o → h'.get? b = some o) → Q (.ref (s.heap.objs.size + 2)) { s with heap := h' }) :
    wpAny (model prog w) A (call (.type "itertools.combinations") [.ref l, .int (r : Nat) t]) Q E s := by
  refine callType_new called_c (by decide +kernel) (typeCall_2 _ _) (newCall_2 _ _) (fun obj => F.args_object_init_3 obj _ _) entry_new (meets_new l vs r t hr hv) ⟨hl, ?_⟩
  have hz : ((poolH s.heap vs).push { cls := .type "tuple", data := .seq vs.toArray }).objs.size = s.heap.objs.size + 2 := by rw [Heap.size_push, poolH_size]
  have h1 : (((poolH s.heap vs).push { cls := .type "tuple", data := .seq vs.toArray }).push (cRec (poolH s.heap vs).objs.size 0 .none (List.range r))).get? (s.heap.objs.size + 2) = some (cRec (s.heap.objs.size + 1) 0 .none (List.range r)) := by
    have := Heap.get?_push_size ((poolH s.heap vs).push { cls := .type "tuple", data := .seq vs.toArray }) (o := cRec (poolH s.heap vs).objs.size 0 .none (List.range r)) rfl
    rw [hz] at this
    rw [this, poolH_size]
  have h2 : (((poolH s.heap vs).push { cls := .type "tuple", data := .seq vs.toArray }).push (cRec (poolH s.heap vs).objs.size 0 .none (List.range r))).get? (s.heap.objs.size + 1) = some { cls := .type "tuple", data := .seq vs.toArray } := by
    have := Heap.get?_push_size (poolH s.heap vs) (o := { cls := .type "tuple", data := .seq vs.toArray }) rfl
    rw [poolH_size] at this
    exact Heap.get?_push_of_some _ this
  show _ ∧ _
  rw [hz]
  exact ⟨⟨_, h1, rfl⟩, h _ h1 ⟨_, h2, rfl, _, rfl⟩ fun b o e => Heap.get?_push_of_some _ (Heap.get?_push_of_some _ (poolH_get vs e))⟩
theorem iter_comb {it pool : Addr} {ph : Int} {last : Value} {ixs : List Nat} {Q : Value → Shared → Prop} (hit : IsC s.heap it pool ph last ixs) (h : Q (.ref it) s) : wpAny (model prog w) A (pyIter (.ref it)) Q E s := by
  have hT : s.TypeIs (.ref it) "itertools.combinations" := ⟨_, hit, rfl⟩
  refine wpAny_pyIter_slot hT slot_iter (wpAny_call_entry slot_iter hT entry_iter ?_ (args_iter _))
  show wpAny _ _ (ret (.ref it)) _ _ s
  exact wpAny_pure ⟨_, rfl, "itertools.combinations", _, hT, slot_next.lookup, h⟩
theorem numbers {it pool : Addr} {ph : Int} {last : Value} {ixs : List Nat} {Q : List Nat → Shared → Prop} (hit : IsC s.heap it pool ph last ixs) (h : Q ixs s) : wpAny (model prog w) A (Builtin.Itertools.itNumbersFrom (.ref it) 3) Q E s := by
  unfold Builtin.Itertools.itNumbersFrom
  refine wpAny_bind (wpAny_load hit ?_)
  refine wpAny_pure ?_
  have e : ∀ F : Value → Nat, (∀ i : Nat, F (rawInt i) = i) → List.map F (List.drop 3 ([.ref pool, rawInt ph, last] ++ ixs.map fun (i : Nat) => rawInt i).toArray.toList) = ixs := by
    intro F hF
    simp only [List.cons_append, List.nil_append, List.drop_succ_cons, List.drop_zero, List.map_map]
    refine (List.map_congr_left fun i _ => ?_).trans (List.map_id _)
    exact hF i
  rw [e _ fun i => rfl]
  exact h
theorem setPh {it pool : Addr} {ph ph2 : Int} {last : Value} {ixs : List Nat} {Q : Unit → Shared → Prop} (hit : IsC s.heap it pool ph last ixs) (h : ∀ h', IsC h' it pool ph2 last ixs → Heap.SameBut it s.heap h' → Q () { s with heap := h' }) : wpAny (model prog w) A (setField (.ref it) 1 (rawInt ph2)) Q E s := by
  refine wpAny_setField_rec hit (by simp) fun h' q sb => h h' ?_ sb
  show h'.get? it = _
  rw [q]
  simp [cRec]
theorem setLast {it pool : Addr} {ph : Int} {last last2 : Value} {ixs : List Nat} {Q : Unit → Shared → Prop} (hit : IsC s.heap it pool ph last ixs) (h : ∀ h', IsC h' it pool ph last2 ixs → Heap.SameBut it s.heap h' → Q () { s with heap := h' }) : wpAny (model prog w) A (setField (.ref it) 2 last2) Q E s := by
  refine wpAny_setField_rec hit (by simp) fun h' q sb => h h' ?_ sb
  show h'.get? it = _
  rw [q]
  simp [cRec]
theorem setIxs {it pool : Addr} {ph : Int} {last : Value} {ixs ix2 : List Nat} {Q : Unit → Shared → Prop} (hl : ix2.length ≤ 1000) (hit : IsC s.heap it pool ph last ixs) (h : ∀ h', IsC h' it pool ph last ix2 → Heap.SameBut it s.heap h' → Q () { s with heap := h' }) : wpAny (model prog w) A (Builtin.Itertools.itSetNumbersFrom (.ref it) 3 ix2) Q E s := by
  unfold Builtin.Itertools.itSetNumbersFrom
  refine wpAny_updateFields hit rfl (h _ ?_ (Heap.SameBut.update ..)) ?_
  · show Heap.get? _ it = _
    rw [Heap.get?_update_self _ hit rfl]
    simp [cRec, Obj.mapFields]
  · simp
    rw [sizeLine_eq]; omega
/-- what it hands out -/
def pickV (us : List Value) (ixs : List Nat) : List Value := ixs.map fun i => us.toArray.getD i .none
theorem next_first {it pool : Addr} {ixs : List Nat} {us : List Value} {last : Value} {Q : Option Value → Shared → Prop} (hl : ixs.length ≤ 1000) (hit : IsC s.heap it pool 0 last ixs) (hp : s.heap.IsTuple pool us.toArray) (hne : pool ≠ it)
    (hQ : ∀ h', IsC h' it pool 1 (.ref s.heap.objs.size) ixs → h'.get? s.heap.objs.size = some { cls := .type "tuple", data := .seq (pickV us ixs).toArray } → (∀ b o, b ≠ it → s.heap.get? b = some o → h'.get? b = some o) → Q (some (.ref s.heap.objs.size)) { s with heap := h' }) :
    wpAny (model prog w) A (pyNext (.ref it)) Q E s := by
  have hT : s.TypeIs (.ref it) "itertools.combinations" := ⟨_, hit, rfl⟩
  unfold pyNext
  refine wpAny_bind (wpAny_attempt (wpAny_callSpecial?_slot (name := Str.ofString "__next__") hT slot_next
    (wpAny_call_entry slot_next hT entry_next ?_ (args_next _))))
  obtain ⟨o, ho, hc, n, hd⟩ := id hp
  have hil : it < s.heap.objs.size := Heap.lt_size hit
  show wpAny _ _ (field (.ref it) 0 >>= _) _ _ _
  refine wpAny_bind (wpAny_field hit rfl (x := .ref pool) rfl ?_)
  refine wpAny_bind (numbers hit ?_)
  show wpAny _ _ ((field (.ref it) 1 >>= _) >>= _) _ _ _
  refine wpAny_bind (wpAny_bind (wpAny_field hit rfl (x := rawInt 0) rfl (wpAny_pure ?_)))
  show wpAny _ _ (setField (.ref it) 1 (rawInt 1) >>= _) _ _ _
  refine wpAny_bind (setPh hit fun h1 hit1 sb1 => ?_)
  have sb1 : Heap.SameBut it s.heap h1 := sb1
  have ho1 : h1.get? pool = some o := (sb1.2 pool hne).trans ho
  show wpAny _ _ ((Builtin.Itertools.itPoolItems (.ref pool) >>= _) >>= _) _ _ _
  refine wpAny_bind (wpAny_bind ?_)
  unfold Builtin.Itertools.itPoolItems
  refine wpAny_bind (wpAny_seqItems (s := { s with heap := h1 }) ho1 hd (wpAny_pure ?_))
  show wpAny _ _ (newTuple (pickV us ixs)) _ _ { s with heap := h1 }
  refine wpAny_newTuple ?_ (by unfold pickV; rw [List.length_map, sizeLine_eq]; omega)
  have hz1 : h1.objs.size = s.heap.objs.size := sb1.1
  have hit2 : IsC (h1.push { cls := .type "tuple", data := .seq (pickV us ixs).toArray }) it pool 1 last ixs := Heap.get?_push_of_some _ hit1
  have hT2 : (h1.push { cls := .type "tuple", data := .seq (pickV us ixs).toArray }).get? s.heap.objs.size = some { cls := .type "tuple", data := .seq (pickV us ixs).toArray } := by rw [← hz1]; exact Heap.get?_push_size _ rfl
  have hk2 : ∀ b o, b ≠ it → s.heap.get? b = some o → (h1.push { cls := .type "tuple", data := .seq (pickV us ixs).toArray }).get? b = some o := fun b o hb e => Heap.get?_push_of_some _ ((sb1.2 b hb).trans e)
  generalize h1.push { cls := .type "tuple", data := .seq (pickV us ixs).toArray } = h2 at hit2 hT2 hk2
  show wpAny _ _ (field (.ref it) 2 >>= _) _ _ { s with heap := h2 }
  refine wpAny_bind (wpAny_field hit2 rfl (x := last) rfl ?_)
  show wpAny _ _ (setField (.ref it) 2 (.ref h1.objs.size) >>= _) _ _ { s with heap := h2 }
  refine wpAny_bind (setLast hit2 fun h3 hit3 sb3 => ?_)
  have sb3 : Heap.SameBut it h2 h3 := sb3
  refine wpAny_bind (wpAny_letGo ?_)
  rw [hz1] at hit3 ⊢
  exact wpAny_pure ⟨_, rfl, wpAny_pure (hQ h3 hit3 ((sb3.2 _ (Nat.ne_of_gt hil)).trans hT2) fun b o hb e => (sb3.2 b hb).trans (hk2 b o hb e))⟩
end
section
variable {prog : Program} {w : World} {A : Around} {E : Value → Shared → Prop} {s : Shared}
theorem next_more {it pool : Addr} {ixs ix2 : List Nat} {us : List Value} {last : Value} {Q : Option Value → Shared → Prop} (hl : ix2.length ≤ 1000) (hit : IsC s.heap it pool 1 last ixs) (hp : s.heap.IsTuple pool us.toArray) (hne : pool ≠ it) (hx : nx us.length ixs = some ix2)
    (hQ : ∀ h', IsC h' it pool 1 (.ref s.heap.objs.size) ix2 → h'.get? s.heap.objs.size = some { cls := .type "tuple", data := .seq (pickV us ix2).toArray } → (∀ b o, b ≠ it → s.heap.get? b = some o → h'.get? b = some o) → Q (some (.ref s.heap.objs.size)) { s with heap := h' }) :
    wpAny (model prog w) A (pyNext (.ref it)) Q E s := by
  have hT : s.TypeIs (.ref it) "itertools.combinations" := ⟨_, hit, rfl⟩
  unfold pyNext
  refine wpAny_bind (wpAny_attempt (wpAny_callSpecial?_slot (name := Str.ofString "__next__") hT slot_next
    (wpAny_call_entry slot_next hT entry_next ?_ (args_next _))))
  obtain ⟨o, ho, hc, n, hd⟩ := id hp
  have hil : it < s.heap.objs.size := Heap.lt_size hit
  show wpAny _ _ (field (.ref it) 0 >>= _) _ _ _
  refine wpAny_bind (wpAny_field hit rfl (x := .ref pool) rfl ?_)
  refine wpAny_bind (numbers hit ?_)
  show wpAny _ _ ((field (.ref it) 1 >>= _) >>= _) _ _ _
  refine wpAny_bind (wpAny_bind (wpAny_field hit rfl (x := rawInt 1) rfl (wpAny_pure ?_)))
  show wpAny _ _ (Builtin.Itertools.itPoolItems (.ref pool) >>= _) _ _ _
  refine wpAny_bind ?_
  unfold Builtin.Itertools.itPoolItems
  refine wpAny_bind (wpAny_seqItems ho hd (wpAny_pure ?_))
  show wpAny _ _ (match nx us.toArray.size ixs with
    | some next => _
    | none => _) _ _ _
  rw [show us.toArray.size = us.length by simp, hx]
  show wpAny _ _ (Builtin.Itertools.itSetNumbersFrom (.ref it) 3 ix2 >>= _) _ _ _
  refine wpAny_bind (setIxs hl hit fun h1 hit1 sb1 => ?_)
  have sb1 : Heap.SameBut it s.heap h1 := sb1
  have ho1 : h1.get? pool = some o := (sb1.2 pool hne).trans ho
  show wpAny _ _ ((Builtin.Itertools.itPoolItems (.ref pool) >>= _) >>= _) _ _ _
  refine wpAny_bind (wpAny_bind ?_)
  unfold Builtin.Itertools.itPoolItems
  refine wpAny_bind (wpAny_seqItems (s := { s with heap := h1 }) ho1 hd (wpAny_pure ?_))
  show wpAny _ _ (newTuple (pickV us ix2)) _ _ { s with heap := h1 }
  refine wpAny_newTuple ?_ (by unfold pickV; rw [List.length_map, sizeLine_eq]; omega)
  have hz1 : h1.objs.size = s.heap.objs.size := sb1.1
  have hit2 : IsC (h1.push { cls := .type "tuple", data := .seq (pickV us ix2).toArray }) it pool 1 last ix2 := Heap.get?_push_of_some _ hit1
  have hT2 : (h1.push { cls := .type "tuple", data := .seq (pickV us ix2).toArray }).get? s.heap.objs.size = some { cls := .type "tuple", data := .seq (pickV us ix2).toArray } := by rw [← hz1]; exact Heap.get?_push_size _ rfl
  have hk2 : ∀ b o, b ≠ it → s.heap.get? b = some o → (h1.push { cls := .type "tuple", data := .seq (pickV us ix2).toArray }).get? b = some o := fun b o hb e => Heap.get?_push_of_some _ ((sb1.2 b hb).trans e)
  generalize h1.push { cls := .type "tuple", data := .seq (pickV us ix2).toArray } = h2 at hit2 hT2 hk2
  show wpAny _ _ (field (.ref it) 2 >>= _) _ _ { s with heap := h2 }
  refine wpAny_bind (wpAny_field hit2 rfl (x := last) rfl ?_)
  show wpAny _ _ (setField (.ref it) 2 (.ref h1.objs.size) >>= _) _ _ { s with heap := h2 }
  refine wpAny_bind (setLast hit2 fun h3 hit3 sb3 => ?_)
  have sb3 : Heap.SameBut it h2 h3 := sb3
  refine wpAny_bind (wpAny_letGo ?_)
  rw [hz1] at hit3 ⊢
  exact wpAny_pure ⟨_, rfl, wpAny_pure (hQ h3 hit3 ((sb3.2 _ (Nat.ne_of_gt hil)).trans hT2) fun b o hb e => (sb3.2 b hb).trans (hk2 b o hb e))⟩
theorem next_end {it pool : Addr} {ixs : List Nat} {us : List Value} {last : Value} {Q : Option Value → Shared → Prop} (hh : A.handled = none) (hit : IsC s.heap it pool 1 last ixs) (hp : s.heap.IsTuple pool us.toArray) (hx : nx us.length ixs = none)
    (hQ : ∀ h', (∀ b o, b ≠ it → s.heap.get? b = some o → h'.get? b = some o) → Q none { s with heap := h' }) :
    wpAny (model prog w) A (pyNext (.ref it)) Q E s := by
  have hT : s.TypeIs (.ref it) "itertools.combinations" := ⟨_, hit, rfl⟩
  unfold pyNext
  refine wpAny_bind (wpAny_attempt (wpAny_callSpecial?_slot (name := Str.ofString "__next__") hT slot_next
    (wpAny_call_entry slot_next hT entry_next ?_ (args_next _))))
  obtain ⟨o, ho, hc, n, hd⟩ := id hp
  show wpAny _ _ (field (.ref it) 0 >>= _) _ _ _
  refine wpAny_bind (wpAny_field hit rfl (x := .ref pool) rfl ?_)
  refine wpAny_bind (numbers hit ?_)
  show wpAny _ _ ((field (.ref it) 1 >>= _) >>= _) _ _ _
  refine wpAny_bind (wpAny_bind (wpAny_field hit rfl (x := rawInt 1) rfl (wpAny_pure ?_)))
  show wpAny _ _ (Builtin.Itertools.itPoolItems (.ref pool) >>= _) _ _ _
  refine wpAny_bind ?_
  unfold Builtin.Itertools.itPoolItems
  refine wpAny_bind (wpAny_seqItems ho hd (wpAny_pure ?_))
  show wpAny _ _ (match nx us.toArray.size ixs with
    | some next => _
    | none => _) _ _ _
  rw [show us.toArray.size = us.length by simp, hx]
  show wpAny _ _ (setField (.ref it) 1 (rawInt 2) >>= _) _ _ _
  refine wpAny_bind (setPh hit fun h1 hit1 sb1 => ?_)
  have sb1 : Heap.SameBut it s.heap h1 := sb1
  show wpAny _ _ (newExc (.type "StopIteration") [] >>= _) _ _ _
  refine wpAny_bind ?_
  simp only [newExc, newTuple]
  refine wpAny_bind (wpAny_newObj_type ?_ (by size_fits))
  refine wpAny_bind (m := firstArgMember _ _) (wpAny_of_eq (a := Value.none) (by first | rfl | (simp only [firstArgMember]; rfl)) ?_)
  refine wpAny_newObj_type ?_ (by size_fits)
  simp only [raiseNew]
  refine wpAny_bind (wpAny_handled ?_)
  first | rw [show A.in1.handled = none from hh] | rw [hh]
  refine wpAny_bind (wpAny_pure (wpAny_throw ?_))
  refine wpAny_bind (wpAny_isInstance (T := "StopIteration") (b := true) ⟨_, Heap.get?_push_size _ rfl, rfl⟩ isSubtype_stop ?_)
  exact wpAny_pure (hQ _ fun b o hb e => Heap.get?_push_of_some _ (Heap.get?_push_of_some _ ((sb1.2 b hb).trans e)))
end
end Cmb
namespace PP
open PySem PySem.Spec PyProof.Rows L2 Cmb
/-- the index rows from the one to the last -/
inductive Ch (n : Nat) : List Nat → List (List Nat) → Prop
  | one {c : List Nat} (h : nx n c = none) : Ch n c [c]
  | more {c d : List Nat} {l : List (List Nat)} (h : nx n c = some d) (t : Ch n d l) : Ch n c (c :: l)
theorem Ch.at0 {n : Nat} {c : List Nat} {l : List (List Nat)} (h : Ch n c l) : l[0]? = some c := by cases h <;> rfl
theorem Ch.step {n : Nat} : ∀ {c : List Nat} {l : List (List Nat)}, Ch n c l → ∀ {i : Nat} {x y : List Nat}, l[i]? = some x → l[i + 1]? = some y → nx n x = some y
  | _, _, .one h, i, x, y, h1, h2 => by simp at h2
  | _, _, .more h t, 0, x, y, h1, h2 => by
    rw [List.getElem?_cons_zero] at h1
    rw [List.getElem?_cons_succ, t.at0] at h2
    cases h1; cases h2; exact h
  | _, _, .more h t, i + 1, x, y, h1, h2 => t.step (by simpa using h1) (by simpa using h2)
theorem Ch.last {n : Nat} : ∀ {c : List Nat} {l : List (List Nat)}, Ch n c l → ∀ {i : Nat} {x : List Nat}, l[i]? = some x → l[i + 1]? = none → nx n x = none
  | _, _, .one h, i, x, h1, h2 => by
    cases i with
    | zero => rw [List.getElem?_cons_zero] at h1; cases h1; exact h
    | succ i => simp at h1
  | _, _, .more h t, 0, x, h1, h2 => by
    rw [List.getElem?_cons_succ, t.at0] at h2
    cases h2
  | _, _, .more h t, i + 1, x, h1, h2 => t.last (by simpa using h1) (by simpa using h2)
/-- the rows that nx gives, one after the other -/
def combL (n : Nat) : Nat → List Nat → Option (List (List Nat))
  | 0, _ => none
  | f + 1, c => match nx n c with
    | none => some [c]
    | some d => (combL n f d).map (c :: ·)
theorem combL_ch {n : Nat} : ∀ {f : Nat} {c : List Nat} {l : List (List Nat)}, combL n f c = some l → Ch n c l
  | 0, _, _, h => by cases h
  | f + 1, c, l, h => by
    unfold combL at h
    split at h
    · rename_i e; cases h; exact .one e
    · rename_i d e
      obtain ⟨k, hk, rfl⟩ := Option.map_eq_some_iff.mp h
      exact .more e (combL_ch hk)
def pickX {α : Type} (xs : List α) (c : List Nat) : List α := c.filterMap fun j => xs[j]?
def okC (n : Nat) (cs : List (List Nat)) : Bool := cs.all fun c => decide (c.length ≤ 1000) && c.all fun j => decide (j < n)
def Itc (K : PySem.W.Frag) (p : Addr) (n : Nat) (cs : List (List Nat)) : It :=
  ⟨fun i H => ∃ (xs : List V) (c : List Nat), SqT K H p xs ∧ xs.length = n ∧ cs[i]? = some c,
   fun i H v H' => ∃ T c ys, v = .ref T ∧ H T = none ∧ cs[i]? = some c ∧ H' = upd H T (.tup ys) ∧ ∀ xs : List V, SqT K H p xs → ys = pickX xs c,
   fun i H => ∃ (xs : List V), SqT K H p xs ∧ xs.length = n ∧ cs.length ≤ i⟩
theorem pick_vals {xs : List V} {us : List Value} (rv : Vals xs us) : ∀ {c : List Nat}, (∀ j ∈ c, j < xs.length) → Vals (pickX xs c) (pickV us c)
  | [], _ => .nil
  | j :: c, h => by
    have hj := h j List.mem_cons_self
    have hx : xs[j]? = some xs[j] := List.getElem?_eq_getElem hj
    obtain ⟨u, hu, ru⟩ := rv.get hx
    have e1 : pickX xs (j :: c) = xs[j] :: pickX xs c := by unfold pickX; rw [List.filterMap_cons, hx]
    have e2 : pickV us (j :: c) = u :: pickV us c := by
      unfold pickV
      rw [List.map_cons]
      congr 1
      rw [Array.getD_eq_getD_getElem?]
      simp [hu]
    rw [e1, e2]
    exact .cons ru (pick_vals rv fun k hk => h k (List.mem_cons_of_mem _ hk))
theorem turn_comb {P : Program} {w : World} {K : PySem.W.Frag} {tg : Expr} {p it : Addr} {n : Nat} {c0 : List Nat} {cs : List (List Nat)} (hch : Ch n c0 cs) (hok : okC n cs = true) (hne : p ≠ it) :
    Turn P w K tg (Itc K p n cs) [it] it (fun i h => (i = 0 ∧ ∃ last, IsC h it p 0 last c0) ∨ ∃ j x last, i = j + 1 ∧ cs[j]? = some x ∧ IsC h it p 1 last x) where
  mem := by simp
  obj := fun i h st b hb => by
    have e : b = it := by simpa using hb
    subst e
    rcases st with ⟨_, last, h1⟩ | ⟨_, _, last, _, _, h1⟩
    · exact ⟨_, h1, fun v q => nomatch q⟩
    · exact ⟨_, h1, fun v q => nomatch q⟩
  keep := fun i h h' st k => by
    rcases st with ⟨a, last, h1⟩ | ⟨j, x, last, a, b, h1⟩
    · exact .inl ⟨a, last, k it (by simp) _ h1⟩
    · exact .inr ⟨j, x, last, a, b, k it (by simp) _ h1⟩
  item := by
    intro X hP hw hK hc i pins s σ H E I hf st hg
    subst hP hw hK
    obtain ⟨xs, c, hq, hn, hx⟩ := hg
    obtain ⟨its, rv, pt, hz⟩ := I.tuple hq
    have hl := rv.length
    have hcm : (decide (c.length ≤ 1000) && c.all (fun j => decide (j < n))) = true := by
      unfold okC at hok
      rw [List.all_eq_true] at hok
      exact hok c (List.mem_of_getElem? hx)
    rw [Bool.and_eq_true, decide_eq_true_eq, List.all_eq_true] at hcm
    have hcl := hcm.1
    have hj : ∀ j ∈ c, j < xs.length := fun j hj => by have := hcm.2 j hj; rw [decide_eq_true_eq] at this; omega
    have fin : ∀ h', IsC h' it p 1 (.ref s.heap.objs.size) c → h'.get? s.heap.objs.size = some { cls := .type "tuple", data := .seq (pickV its c).toArray } → (∀ b o, b ≠ it → s.heap.get? b = some o → h'.get? b = some o) →
        ∃ u, some (Value.ref s.heap.objs.size) = some u ∧ wpAny (model X.prog X.w) X.A (letOwnedTupleGo tg (.ref it) u) (fun _ s2 => ∃ x H', Inv X pins σ H' s2 ∧ RelV x u ∧ (Itc X.K p n cs).yld i H x H' ∧ ((i + 1 = 0 ∧ ∃ last, IsC s2.heap it p 0 last c0) ∨ ∃ j x last, i + 1 = j + 1 ∧ cs[j]? = some x ∧ IsC s2.heap it p 1 last x) ∧ ∀ b ∈ [it], H' b = none) E { s with heap := h' } := by
      intro h' hit' hT hk
      refine ⟨_, rfl, go_of (s := { s with heap := h' }) hit' rfl rfl (by decide +kernel) ?_⟩
      have hpl : (pickX xs c).length ≤ sizeLine := by
        have : (pickX xs c).length ≤ c.length := List.length_filterMap_le _ _
        rw [sizeLine_eq]; omega
      have new : ObjOk X.prog X.w (upd H s.heap.objs.size (.tup (pickX xs c))) h' s.heap.objs.size (.tup (pickX xs c)) :=
        ⟨hpl, pickV its c, pick_vals rv hj, ⟨_, hT, rfl, _, rfl⟩⟩
      have I1 : Inv X pins σ (upd H s.heap.objs.size (.tup (pickX xs c))) { s with heap := h' } :=
        I.turnedNew (t' := s.toks) (ch := [it]) (fun b ob hb q => hk b ob (fun z => hb (by simp [z])) q) hf (Nat.le_refl _) new
      refine ⟨.ref s.heap.objs.size, _, I1, rfl, ⟨_, c, _, rfl, I.hok.fresh (Nat.le_refl _), hx, rfl, fun ys hy => by rw [I.tuple_inj hy hq]⟩, .inr ⟨i, c, _, rfl, hx, hit'⟩, fun b hb => ?_⟩
      have e : b = it := by simpa using hb
      subst e
      have hb' : b < s.heap.objs.size := by
        rcases st with ⟨_, last, h1⟩ | ⟨_, _, last, _, _, h1⟩
        · exact Heap.lt_size h1
        · exact Heap.lt_size h1
      rw [upd_ne (Nat.ne_of_lt hb')]
      exact (hf b hb).1
    rcases st with ⟨rfl, last, h1⟩ | ⟨j, x, last, rfl, hjx, h1⟩
    · have e : c0 = c := by rw [hch.at0] at hx; exact Option.some.inj hx
      subst e
      exact next_first hcl h1 pt hne fin
    · exact next_more hcl h1 pt hne (by rw [← hl, hn]; exact hch.step hjx hx) fin
  done := by
    intro X hP hw hK hc i pins s σ H E I hf st hg
    subst hP hw hK
    obtain ⟨xs, hq, hn, hi⟩ := hg
    obtain ⟨its, rv, pt, hz⟩ := I.tuple hq
    have hl := rv.length
    rcases st with ⟨rfl, last, h1⟩ | ⟨j, x, last, rfl, hjx, h1⟩
    · have := hch.at0
      rw [List.getElem?_eq_none (by omega)] at this
      cases this
    · obtain ⟨f0, f1, f2, f3, f4, f5⟩ := hf it (by simp)
      refine next_end (I.ok.hd hc) h1 pt (by rw [← hl, hn]; exact hch.last hjx (List.getElem?_eq_none hi)) fun h' hk => ⟨rfl, I.turned (t' := s.toks) hk f0 f1 f3 f4 f5⟩
  self := fun A i s Q E st h => by
    rcases st with ⟨_, last, h1⟩ | ⟨_, _, last, _, _, h1⟩
    · exact iter_comb h1 h
    · exact iter_comb h1 h
def iCmb (K : PySem.W.Frag) (ta : TA) : TI := fun σ H R => ta σ H fun vs H1 => ∃ (a : Addr) (xs : List V) (r : Nat) (cs : List (List Nat)), vs = [.ref a, .int (r : Int)] ∧ SqL K H1 a xs ∧ r ≤ xs.length ∧ xs.length ≤ 1000 ∧ Ch xs.length (List.range r) cs ∧ okC xs.length cs = true ∧
  ∀ p, H1 p = none → Sized (upd H1 p (.tup xs)) → R (Itc K p xs.length cs) (upd H1 p (.tup xs))
theorem pi_comb {X : Cx} {e e2 : Expr} {ta : TA} {p pos : Pos} {tg : Expr} (hg : Gl X "combinations") (hm : X.mg "combinations" = some (.type "itertools.combinations")) (ha : PA X [e, e2] ta)
    (hs : starEach [e, e2] X.env = (false, eval e X.env) :: starEach [e2] X.env := by rfl) (hpl : (backTo pos (starEach [e2] X.env)).any (·.1) = false := by rfl) :
    PI X tg (.Call (.Name "combinations" p) [e, e2] [] pos) (iCmb X.K ta) := by
  refine ⟨fun pins s σ H R I h => ?_⟩
  refine Call_ (ld_glob I hg hm (PyProof.Rows.callWith_type1 (thn (ha.run pos pins s σ H _ I h) fun us s1 ⟨vs, H1, I1, r1, q1⟩ => ?_) hs hpl))
  obtain ⟨a, xs, r, cs, ex, hq, hr, hn, hch, hok, q⟩ := q1
  subst ex
  cases r1 with
  | cons ra rr =>
    cases rr with
    | cons ri rr =>
      cases rr
      cases ra
      obtain ⟨tk, rfl⟩ := ri
      obtain ⟨its, rv, pl, hz⟩ := I1.list hq
      have hl := rv.length
      refine call_comb (by omega) (by omega) pl.isList fun h' hit hp hk => iter_comb hit ?_
      have I2 : Inv X pins σ H1 { s1 with heap := h' } := I1.kept (t' := s1.toks) hk
      have new : ObjOk X.prog X.w (upd H1 (s1.heap.objs.size + 1) (.tup xs)) h' (s1.heap.objs.size + 1) (.tup xs) := ⟨hz, its, rv, hp⟩
      have I3 : Inv X pins σ (upd H1 (s1.heap.objs.size + 1) (.tup xs)) { s1 with heap := h' } :=
        I1.turnedNew (t' := s1.toks) (ch := []) (fun b ob _ qq => hk b ob qq) (fun b hb => by cases hb) (Nat.le_add_right _ _) new
      have hH : H1 (s1.heap.objs.size + 1) = none := I1.hok.fresh (Nat.le_add_right _ _)
      refine ⟨s1.heap.objs.size + 2, [s1.heap.objs.size + 2], _, _, _, rfl, I3, turn_comb hch hok (Nat.ne_of_lt (Nat.lt_succ_self _)), .inl ⟨rfl, _, hit⟩, fun b hb => ?_, q _ hH (sized_of I3.hok)⟩
      have e' : b = s1.heap.objs.size + 2 := by simpa using hb
      subst e'
      refine I1.fpOk (Nat.le_add_right _ _) ?_
      rw [upd_ne (Nat.succ_ne_self _)]
      exact I1.hok.fresh (Nat.le_add_right _ 2)
/-! what it yields -/
def combF (a b : PV) : Option (List PV) := match a, b with
  | .lst xs, .int r => if 0 ≤ r ∧ r ≤ xs.length ∧ xs.length ≤ 1000 then (combL xs.length 2000 (List.range r.toNat)).bind fun cs => if okC xs.length cs = true then some (cs.map fun c => .tup (pickX xs c)) else none else none
  | _, _ => none
def iComb2 (a b : Den) : DenI := fun e => (dArgs [a, b] e).bind fun p => match p.1 with
  | [x, y] => (combF x y).map fun l => (l, p.2)
  | _ => none
theorem combL_len {n : Nat} : ∀ {f : Nat} {c : List Nat} {l : List (List Nat)}, combL n f c = some l → l.length ≤ f
  | 0, _, _, h => by cases h
  | f + 1, c, l, h => by
    unfold combL at h
    split at h
    · cases h; simp
    · obtain ⟨k, hk, rfl⟩ := Option.map_eq_some_iff.mp h
      have := combL_len hk
      simp; omega
theorem pick_repL {K : PySem.W.Frag} {F : Addr → Prop} {H : Hp} {vs : List V} {xs : List PV} (r : RepL K F H vs xs) : ∀ {c : List Nat}, (∀ j ∈ c, j < xs.length) → RepL K F H (pickX vs c) (pickX xs c)
  | [], _ => .nil
  | j :: c, h => by
    have hj := h j List.mem_cons_self
    have hx : xs[j]? = some xs[j] := List.getElem?_eq_getElem hj
    obtain ⟨u, hu, ru⟩ := r.get hx
    have e1 : pickX xs (j :: c) = xs[j] :: pickX xs c := by unfold pickX; rw [List.filterMap_cons, hx]
    have e2 : pickX vs (j :: c) = u :: pickX vs c := by unfold pickX; rw [List.filterMap_cons, hu]
    rw [e1, e2]
    exact .cons ru (pick_repL r fun k hk => h k (List.mem_cons_of_mem _ hk))
theorem vi_comb {X : Cx} {e e2 : Expr} {da db : Den} {p pos : Pos} {tg : Expr} (hg : Gl X "combinations") (hm : X.mg "combinations" = some (.type "itertools.combinations")) (hs : notStar e = true) (hs2 : notStar e2 = true) (ha : VE X e da) (hb : VE X e2 db) :
    VI X tg (.Call (.Name "combinations" p) [e, e2] [] pos) (iComb2 da db) :=
  pi_imp (pi_comb hg hm (va_cons hs ha (va_cons hs2 hb va_nil)) (starEach_cons hs) (by rw [starEach_cons hs2]; rfl)) fun σ H R sz ⟨F, env, items, env', Rl, hd, q⟩ => by
    unfold iComb2 at hd
    obtain ⟨⟨ps, e1⟩, h1, hd⟩ := Option.bind_eq_some_iff.mp hd
    refine ⟨F, env, ps, e1, Rl, h1, fun vs F1 H1 R1 M1 r1 => ?_⟩
    simp only at hd
    split at hd
    · rename_i x y
      obtain ⟨l, h2, hz⟩ := Option.map_eq_some_iff.mp hd
      cases hz
      obtain ⟨v, w, rfl, rx, ry⟩ := r1.two
      unfold combF at h2
      split at h2
      case h_2 => cases h2
      rename_i xs r
      split at h2
      case isFalse => cases h2
      rename_i hr
      obtain ⟨hr0, hr1, hr2⟩ := hr
      obtain ⟨cs, hcs, h2⟩ := Option.bind_eq_some_iff.mp h2
      split at h2
      case isFalse => cases h2
      rename_i hok
      cases h2
      cases ry
      cases rx with
      | @lst a vs _ fa r1 =>
        have hl := r1.length
        have hlen := combL_len hcs
        refine ⟨a, vs, r.toNat, cs, by rw [Int.toNat_of_nonneg hr0], fa.seq, by omega, by omega, by rw [hl]; exact combL_ch hcs, by rw [hl]; exact hok, fun p np sz' => fun _ => ?_⟩
        have N : Nw F1 H1 F1 (upd H1 p (.tup vs)) := .upd np R1.fz
        refine q _ F1 _ (N.rel R1 sz') (M1.trans N.mv) ?_ (by rw [List.length_map, sizeLine_eq]; omega)
        have r2 : RepL X.K F1 (upd H1 p (.tup vs)) vs xs := r1.ex N.ex
        have hp2 : (upd H1 p (.tup vs)) p = some (.tup vs) := upd_same
        intro F2 H2 ex fz i
        have sq : SqT X.K H2 p vs := SqT.of (ex.tups _ _ hp2)
        have r3 := r2.ex ex
        refine ⟨fun t ht => ?_, fun hi => ⟨vs, sq, rfl, by simpa using hi⟩⟩
        rw [List.getElem?_map] at ht
        obtain ⟨c, hc, rfl⟩ := Option.map_eq_some_iff.mp ht
        refine ⟨⟨vs, c, sq, rfl, hc⟩, fun v H3 hv => ?_⟩
        obtain ⟨T, c', ys, rfl, hT, hc', rfl, hys⟩ := hv
        rw [hc] at hc'; cases hc'
        have exs := hys vs sq
        subst exs
        have hcm : (decide (c.length ≤ 1000) && c.all (fun j => decide (j < xs.length))) = true := by
          unfold okC at hok
          rw [List.all_eq_true] at hok
          exact hok c (List.mem_of_getElem? hc)
        rw [Bool.and_eq_true, decide_eq_true_eq, List.all_eq_true] at hcm
        have N2 : Nw F2 H2 F2 (upd H2 T (.tup (pickX vs c))) := .upd hT fz
        refine ⟨F2, N2, .tup upd_same (pick_repL (r3.ex N2.ex) fun j hj => by have := hcm.2 j hj; rwa [decide_eq_true_eq] at this), fun s => s.upd ?_⟩
        have : (pickX vs c).length ≤ c.length := List.length_filterMap_le _ _
        have := hcm.1
        show (pickX vs c).length ≤ sizeLine
        rw [sizeLine_eq]; omega
    · cases hd
theorem Cn.comb {X : Cx} {N : List Str} {raw nm : Nms} {k : Nat} {a b : Expr} {da db : Den} {p pos : Pos} {tg : Expr} (c : Cn X N raw nm k) (cb : X.mg "combinations" = some (.type "itertools.combinations")) (h : decide (nm.lookup ("combinations" : Str) = some NameKind.globalImplicit) = true) (hs : notStar a = true) (hs2 : notStar b = true) (ha : VE X a da) (hb : VE X b db) : VI X tg (.Call (.Name "combinations" p) [a, b] [] pos) (iComb2 da db) :=
  vi_comb (by show X.env.scope.names.lookup ("combinations" : Str) = _; rw [c.nm]; exact of_decide_eq_true h) cb hs hs2 ha hb
def kCm (o : Option (List PV × PEn)) : Option (List PV × PEn) := o.bind fun p => match p.1 with
  | [x, y] => (combF x y).map fun l => (l, p.2)
  | _ => none
theorem iComb2_ev {a b : Den} {e : PEn} : iComb2 a b e = kCm (dArgs [a, b] e) := rfl
theorem kCm_b {α : Type} {o : Option α} {f : α → Option (List PV × PEn)} : kCm (o.bind f) = o.bind fun z => kCm (f z) := by cases o <;> rfl
theorem kCm_v {x y : PV} {e : PEn} : kCm (some ([x, y], e)) = (combF x y).bind fun l => some (l, e) := by
  show (combF x y).map _ = _
  cases combF x y <;> rfl
/-- a head hook with the one more name -/
def cbOk (K : PySem.W.Frag) : Bool := decide (PySem.W.nsIn K mainGlobals "combinations" = some (some (.type "itertools.combinations")))
theorem cb_ok {K : PySem.W.Frag} {h : Heap} {mg : Str → Option Value} (X : K.In h) (G : h.Ns mainGlobals mg) (c : cbOk K = true) : mg "combinations" = some (.type "itertools.combinations") := PySem.W.mg_of X G (of_decide_eq_true c)
abbrev AlC : Type := Bool × He.AlD
def obsCG (n : Nat) (fa : List He.Fa) (fn : List He.DefD) (g : Addr → Option Obj) : AlC := (cbOk (He.frG g (He.asD g n)), He.obsDG n fa fn g)
def hookC (n : Nat) (fa : List He.Fa) (fn : List He.DefD) : PySem.W.Hook where
  α := AlC
  obs := fun s => obsCG n fa fn s.heap.get?
  val := fun _ => (true, He.valD fn)
  says := fun _ h => ∃ K : PySem.W.Frag, K.In h ∧ He.SaysD fa fn K ∧ cbOk K = true
  of := fun _ _ e => ⟨_, He.frG_in, congrArg (fun z : AlC => z.2) e, congrArg (fun z : AlC => z.1) e⟩
  keeps := fun _ _ _ ⟨K, hK, c⟩ k => ⟨K, PySem.W.Frag.In.keeps hK k, c⟩
theorem obsCG_eq {n : Nat} {fa : List He.Fa} {fn : List He.DefD} {g : Addr → Option Obj} {s : Shared} (h : ∀ a, g a = s.heap.get? a) : obsCG n fa fn g = (hookC n fa fn).obs s := by
  have e : g = s.heap.get? := funext h
  rw [e] <;> rfl
end PP

set_option maxHeartbeats 0
namespace WK
open PP
local macro_rules
  | `(tactic| simp! only [$xs:simpLemma,*]) => `(tactic| simp only [$xs,*, kR_s, kSeq_nx, kSeq_rt, kSeq_bk, sSeq_ev, sNil_ev, kRet_s, sRet_ev, sRetN_ev, sBreak_ev, kDrop_s, sDrop_ev, sIf_ev, kNx_s, kAsg_s, sAsg_ev, sOwn_ev, kFor_s, sFor_ev, dC_ev, kUn_s, dUn_ev, kB2_s, kB1_s, dBin_ev, kBR2_s, kBR_s, dBinR_ev, kBL3_s, kBL2_s, kBL_s, dBinL_ev, kA2_s, kA1_s, dArgs_nil, dArgs_cons, kAd_s, kAb3_s, kAb2_s, kAb_s, bArgs_nil, bArgs_d, bArgs_b, kCd_s, kCb2_s, kCb_s, cArgs_nil, cArgs_d, cArgs_b, kApp_s, dApp_ev, kCall2_s, kCall_s, dCall_ev, dCallN_ev, backE_nil, backE_d, backE_b, kTup_s, dTup_ev, kLst_s, dLst_ev, kT2_s, kDB_s, dB_ev, asBl_ev, kNot_s, dNot_ev, kAnd_t, kAnd_f, dAnd_ev, kOr_t, kOr_f, dOr_ev, kIfE_t, kIfE_f, dIf_ev, dYes_ev, kTr_s, dTruth_ev, dHead_d, dHead_b, dBack_d, dBack_b, kIs_s, dIsI_ev, kAV_t, kAV_f, dAndV_ev, kOV_f, kOV_t, dOrV_ev, notF_ev, kC3_t, kC3_f, kC2_s, kC1_s, dChain_ev, kM4_s, kM3_s, kM2_s, kM_s, dMut_ev, kS5_s, kS4_s, kS3_s, kS2_s, kS_s, sStore_ev, kRv2_s, dRecv_ev, kLR_s, dListRg_ev, kSq2_s, kSq_s, iSeq_ev, kLC2_s, kLC_s, dLC_ev, wipeE_nil, wipeE_cons, restoreE_nil, restoreE_cons, kTp_s, kTs_s, tupOf_fup, seqOf_tup, seqOf_fup, seqOf_lst, kV_s, dVar_0v, dVar_0o, dVar_s, slotv_0v, slotv_0o, slotv_s, ownv_0, ownv_s, ownL_0, ownL_s, keepV_0v, keepV_0o, keepV_0n, keepV_s, argE_nil, argE_t, argE_f, kO2_s, kO1_s, outsP_nil, outsP_t, outsP_f, kE2_s, kEnd_nx, kEnd_rt, kSeq_b, kRet_b, kRetK_s, kRetK_b, sRetK_ev, sPre_ev, sPost_ev, kPost_nx, kPost_bk, kPost_rt, kPost_b, sFz_ev, kFz_nx, kFz_b, fzE_0, fzE_n, runFN_ev, kFst_s, kFst_b, sNever_ev, kSeq_0, kPost_0, kEnd_0, kDrop_b, kIf_b, kIf_v, kNx_b, kAsg_b, kOwn_b, kFor_b, kR_b, kUn_b, kB1_b, kB2_b, kBR_b, kBL2_b, kA1_b, kA2_b, kAd_b, kAb2_b, kCd_b, kCb2_b, kApp_b, kCall_b, kCall2_b, kTup_b, kLst_b, kT2_b, kDB_b, kNot_b, kAnd_b, kAnd_v, kOr_b, kOr_v, kIfE_b, kIfE_v, kTr_b, kIs_b, kAV_b, kAV_v, kOV_b, kOV_v, mAV_t, mAV_f, mOV_t, mOV_f, kC1_b, kC2_b, kC3_b, ownL_0v, kM_b, kM2_b, kM3_b, kM4_b, kS_b, kS3_b, kS5_b, kRv_b, kRv2_b, kRv_v, kRv3_v, guard1_t, rngArg_ev, kRg_1, kRg_2, kLR_b, kLR_v, dTupRg_ev, kTR_b, kTR_v, iRange_ev, kIR_b, kIR_v, kSq_b, kSq2_b, iZip2_ev, kZp_b, kZp_v, dPart_ev, kPt_b, kPt_v, dNoPart_ev, dSlice_ev, kSl1_b, kSl1_s, kSl2_b, kSl2_s, kSl3_b, kSl3_s, kSl4_s, kT1_s, kT1_b, tgt_2, tgt_3, kPs_s, putS_0, putS_n, tgt_nmP, kOwn_P, kE2_b, kEnd_b, kSeq_i, kPost_i, kEnd_i, mTail_s, mTail_0, mTail_b, mTail_i, mTail_AV, mTail_OV, mSum_l, mSum_r, kSeq_S, kEnd_S, kPost_S, kSeq_m, kEnd_m, kPost_m, mTail_m, flS_l, flS_r, turn_ev, kTn_s, kTn_b, turnL_ev, kL1_s, kL1_b, kL2_v, kL2_t, kL2_b, kL3_s, kL3_b, lc_S, kLC_b, kLC2_b, mTail_fldM, mTail_fldR, mTail_whlM, mTail_cmpM, mTail_cmpG, mTail_cmpT, mTail_cmpS, kB3_s, kB3_b, kBS_s, kBS_b, kBT_t, kBT_v, kBT_b, kBG_s, kBG_b, turnB_ev, kLD2_s, kLD2_b, kLD_s, kLD_b, dLC2_ev, mTail_cmpB, dNever_ev, kL3_0, kL2_0, kL1_0, iEnum1_ev, kEn_b, kEn_v, iComb2_ev, kCm_b, kCm_v, Option.bind_some, Option.bind_none, Option.bind_assoc, List.set_cons_zero, List.set_cons_succ, List.replicate_succ, List.replicate_zero, List.cons_append, List.nil_append, List.map_cons, List.map_nil, if_true, if_false, eq_self, Bool.false_eq_true, Bool.not_true, Bool.not_false, kRg_b, kIf_t, kIf_f])

def d__law_stream : Den := (dLst [(dApp listF [.d (dVar 0)]), (dC (.int 0)), (dC (.int 0))])
def s__law_stream : FSemN := runFN 0 d__law_stream
def m__law_stream (s0 : PV) : Option PV := (listF [s0]).bind fun t1 => some (.lst [t1, (.int 0), (.int 0)])
theorem q__law_stream (s0 : PV) : s__law_stream [s0] = m__law_stream s0 := by
  simp! only [s__law_stream, d__law_stream, m__law_stream, runFN_ev]
def D__law_next_2 : DenS := (sIf (dB (dBin ltF (dVar 2) (dApp lenF [.d (dBinL getF 0 (dC (.int 0)))]))) (sSeq (sAsg (.nm 3) (dApp absF [.d (dBin getF (dBinL getF 0 (dC (.int 0))) (dVar 2))])) sNil) sNil)
theorem D__law_next_2_q (s0 s1 s2 s3 : PV) : D__law_next_2 [.own s0, .val s1, .val s2, .val s3, .no] = ((getF s0 (.int 0)).bind fun t6 => (lenF [t6]).bind fun t7 => (ltF s2 t7).bind fun t8 => (asBl t8).bind fun b9 => if b9 = true then (getF s0 (.int 0)).bind fun t10 => (getF t10 s2).bind fun t11 => (absF [t11]).bind fun t12 => some t12 else some s3).bind fun (k : PV) => some (.nx [.own s0, .val s1, .val s2, .val k, .no]) := by
  refine Eq.trans ?_ (mTail_eq _ _); simp! only [D__law_next_2]
def D__law_next_3 : DenS := (sIf (dB (dBin ltF (dVar 3) (dBin powF (dC (.int 10)) (dC (.int 18))))) (sSeq (sAsg (.nm 3) (dBin modF (dApp intTF [.d (dBin addF (dBin addF (dBin mulF (dVar 3) (dC (.int 48271))) (dBin mulF (dVar 2) (dC (.int 69621)))) (dC (.int 11)))]) (dC (.int 2147483647)))) (sSeq (sAsg (.nm 3) (dBin addF (dBin mulF (dBin modF (dApp intTF [.d (dBin addF (dBin mulF (dVar 3) (dC (.int 16807))) (dC (.int 13)))]) (dC (.int 2147483647))) (dC (.int 65537))) (dVar 3))) sNil)) sNil)
theorem D__law_next_3_q (s0 s1 s2 s3 : PV) : D__law_next_3 [.own s0, .val s1, .val s2, .val s3, .no] = ((powF (.int 10) (.int 18)).bind fun t14 => (ltF s3 t14).bind fun t15 => (asBl t15).bind fun b16 => if b16 = true then (mulF s3 (.int 48271)).bind fun t17 => (mulF s2 (.int 69621)).bind fun t18 => (addF t17 t18).bind fun t19 => (addF t19 (.int 11)).bind fun t20 => (intTF [t20]).bind fun t21 => (modF t21 (.int 2147483647)).bind fun t22 => (mulF t22 (.int 16807)).bind fun t23 => (addF t23 (.int 13)).bind fun t24 => (intTF [t24]).bind fun t25 => (modF t25 (.int 2147483647)).bind fun t26 => (mulF t26 (.int 65537)).bind fun t27 => (addF t27 t22).bind fun t28 => some t28 else some s3).bind fun (k : PV) => some (.nx [.own s0, .val s1, .val s2, .val k, .no]) := by
  refine Eq.trans ?_ (mTail_eq _ _); simp! only [D__law_next_3, D__law_next_2_q]
def D__law_next_1 : DenS := sPost [2, 3] (sIf (dB (dBin eqF (dBinL getF 0 (dC (.int 1))) (dC (.int 0)))) (sSeq (sAsg (.nm 2) (dBinL getF 0 (dC (.int 2)))) (sSeq (sAsg (.nm 3) (dBin addF (dC (.int 7)) (dVar 2))) (sSeq D__law_next_2 (sSeq D__law_next_3 (sSeq (sStore 0 (dC (.int 1)) (dVar 3)) (sSeq (sStore 0 (dC (.int 2)) (dBin addF (dVar 2) (dC (.int 1)))) sNil)))))) sNil)
theorem D__law_next_1_q (s0 s1 : PV) : D__law_next_1 [.own s0, .val s1, .no, .no, .no] = ((getF s0 (.int 1)).bind fun t1 => (eqF t1 (.int 0)).bind fun t2 => (asBl t2).bind fun b3 => if b3 = true then (getF s0 (.int 2)).bind fun t4 => (addF (.int 7) t4).bind fun t5 => ((getF s0 (.int 0)).bind fun t6 => (lenF [t6]).bind fun t7 => (ltF t4 t7).bind fun t8 => (asBl t8).bind fun b9 => if b9 = true then (getF s0 (.int 0)).bind fun t10 => (getF t10 t4).bind fun t11 => (absF [t11]).bind fun t12 => some t12 else some t5).bind fun (k13 : PV) => ((powF (.int 10) (.int 18)).bind fun t14 => (ltF k13 t14).bind fun t15 => (asBl t15).bind fun b16 => if b16 = true then (mulF k13 (.int 48271)).bind fun t17 => (mulF t4 (.int 69621)).bind fun t18 => (addF t17 t18).bind fun t19 => (addF t19 (.int 11)).bind fun t20 => (intTF [t20]).bind fun t21 => (modF t21 (.int 2147483647)).bind fun t22 => (mulF t22 (.int 16807)).bind fun t23 => (addF t23 (.int 13)).bind fun t24 => (intTF [t24]).bind fun t25 => (modF t25 (.int 2147483647)).bind fun t26 => (mulF t26 (.int 65537)).bind fun t27 => (addF t27 t22).bind fun t28 => some t28 else some k13).bind fun (k29 : PV) => (setF s0 (.int 1) k29).bind fun d30 => (addF t4 (.int 1)).bind fun t31 => (setF d30 (.int 2) t31).bind fun d32 => some d32 else some s0).bind fun (k : PV) => some (.nx [.own k, .val s1, .no, .no, .no]) := by
  refine Eq.trans ?_ (mTail_eq _ _); simp! only [D__law_next_1, D__law_next_2_q, D__law_next_3_q]
def d__law_next : DenS := (sSeq D__law_next_1 (sSeq (sAsg (.nm 4) (dBin modF (dApp intTF [.d (dBinL getF 0 (dC (.int 1)))]) (dVar 1))) (sSeq (sStore 0 (dC (.int 1)) (dBin divF (dBinL getF 0 (dC (.int 1))) (dVar 1))) (sSeq (sRetK [1, 2, 3, 4] (dVar 4)) sNil))))
def s__law_next : PP.Sem := runF [true] 3 d__law_next
def m__law_next (s0 s1 : PV) : Option (PV × PV) := ((getF s0 (.int 1)).bind fun t1 => (eqF t1 (.int 0)).bind fun t2 => (asBl t2).bind fun b3 => if b3 = true then (getF s0 (.int 2)).bind fun t4 => (addF (.int 7) t4).bind fun t5 => ((getF s0 (.int 0)).bind fun t6 => (lenF [t6]).bind fun t7 => (ltF t4 t7).bind fun t8 => (asBl t8).bind fun b9 => if b9 = true then (getF s0 (.int 0)).bind fun t10 => (getF t10 t4).bind fun t11 => (absF [t11]).bind fun t12 => some t12 else some t5).bind fun (k13 : PV) => ((powF (.int 10) (.int 18)).bind fun t14 => (ltF k13 t14).bind fun t15 => (asBl t15).bind fun b16 => if b16 = true then (mulF k13 (.int 48271)).bind fun t17 => (mulF t4 (.int 69621)).bind fun t18 => (addF t17 t18).bind fun t19 => (addF t19 (.int 11)).bind fun t20 => (intTF [t20]).bind fun t21 => (modF t21 (.int 2147483647)).bind fun t22 => (mulF t22 (.int 16807)).bind fun t23 => (addF t23 (.int 13)).bind fun t24 => (intTF [t24]).bind fun t25 => (modF t25 (.int 2147483647)).bind fun t26 => (mulF t26 (.int 65537)).bind fun t27 => (addF t27 t22).bind fun t28 => some t28 else some k13).bind fun (k29 : PV) => (setF s0 (.int 1) k29).bind fun d30 => (addF t4 (.int 1)).bind fun t31 => (setF d30 (.int 2) t31).bind fun d32 => some d32 else some s0).bind fun (k33 : PV) => (getF k33 (.int 1)).bind fun t34 => (intTF [t34]).bind fun t35 => (modF t35 s1).bind fun t36 => (getF k33 (.int 1)).bind fun t37 => (divF t37 s1).bind fun t38 => (setF k33 (.int 1) t38).bind fun d39 => some (t36, d39)
theorem q__law_next (s0 s1 : PV) : s__law_next [s0, s1] = (m__law_next s0 s1).bind fun (r : PV × PV) => some (r.1, [r.2, s1]) := by
  refine Eq.trans ?_ (mTail_eq _ _); simp! only [s__law_next, d__law_next, m__law_next, runF_ev, D__law_next_2_q, D__law_next_3_q, D__law_next_1_q]
def C__law_scopes_2_e : Den := (dVar 6)
def C__law_scopes_2_t : DenT := (dB (dBin eqF (dCall s__law_next [.b 0, .d (dC (.int 2))]) (dC (.int 1))))
theorem C__law_scopes_2_l (s1 s2 s3 s4 : PV) (z0 : PV) (xs : List PV) : lcF (.nm 6) C__law_scopes_2_t C__law_scopes_2_e [6] xs [.own z0, .val s1, .val s2, .own s3, .val s4, .no, .no] = (cmpS (fun (w7 : PV) (x6 : PV) => (m__law_next w7 (.int 2)).bind fun (t9 : PV × PV) => (eqF t9.1 (.int 1)).bind fun t10 => (asBl t10).bind fun b11 => if b11 = true then some (some x6, t9.2) else some (none, t9.2)) xs z0).bind fun q => some (q.1, [.own q.2, .val s1, .val s2, .own s3, .val s4, .no, .no]) := by
  refine lc_S (E := fun (w7 : PV) => [.own w7, .val s1, .val s2, .own s3, .val s4, .no, .no]) _ ?_ xs z0
  intro z x; refine Eq.trans ?_ (mTail_eq _ _); simp! only [C__law_scopes_2_e, C__law_scopes_2_t, q__law_next]
def C__law_scopes_2 : Den := dLC (iRange [(dVar 2)]) [6] (.nm 6) C__law_scopes_2_t C__law_scopes_2_e
theorem C__law_scopes_2_q (s0 s1 s2 s3 s4 : PV) : C__law_scopes_2 [.own s0, .val s1, .val s2, .own s3, .val s4, .no, .no] = ((rgO1 s2).bind fun r8 => cmpS (fun (w7 : PV) (x6 : PV) => (m__law_next w7 (.int 2)).bind fun (t9 : PV × PV) => (eqF t9.1 (.int 1)).bind fun t10 => (asBl t10).bind fun b11 => if b11 = true then some (some x6, t9.2) else some (none, t9.2)) (rgL r8) s0).bind fun (k : List PV × PV) => some (.lst k.1, [.own k.2, .val s1, .val s2, .own s3, .val s4, .no, .no]) := by
  refine Eq.trans ?_ (mTail_eq _ _); simp! only [C__law_scopes_2, q__law_next, C__law_scopes_2_l]
def D__law_scopes_1_b : DenS := sPost [4, 5] (sSeq (sFz 5 (sOwn 5 C__law_scopes_2)) (sSeq (sDrop (dMut appendF 3 [(dApp tupleF [.d (dSlice (.d (dVar 5)) dNoPart (dPart (dC (.int 3))))])])) sNil))
def D__law_scopes_1 : DenS := sFor (iRange [(dBin addF (dC (.int 1)) (dCall s__law_next [.b 0, .d (dVar 1)]))]) (.nm 4) D__law_scopes_1_b
theorem D__law_scopes_1_l (s1 s2 : PV) (z0 z3 : PV) (xs : List PV) : forF (.nm 4) D__law_scopes_1_b xs [.own z0, .val s1, .val s2, .own z3, .no, .no, .no] = (fldM (fun (w2 : PV × PV) (x1 : PV) => ((rgO1 s2).bind fun r8 => cmpS (fun (w7 : PV) (x6 : PV) => (m__law_next w7 (.int 2)).bind fun (t9 : PV × PV) => (eqF t9.1 (.int 1)).bind fun t10 => (asBl t10).bind fun b11 => if b11 = true then some (some x6, t9.2) else some (none, t9.2)) (rgL r8) w2.1).bind fun (y12 : List PV × PV) => (asL w2.2).bind fun _ => (asI (.int 3)).bind fun i13 => (sliceF (.lst y12.1) none (some i13)).bind fun t14 => (tupleF [t14]).bind fun t15 => (asL w2.2).bind fun l16 => (appendF l16 [t15]).bind fun (z17 : PV × List PV) => some (y12.2, (.lst z17.2))) xs (z0, z3)).bind fun (k : PV × PV) => some (.nx [.own k.1, .val s1, .val s2, .own k.2, .no, .no, .no]) := by
  refine for_fold (E := fun (w2 : PV × PV) => [.own w2.1, .val s1, .val s2, .own w2.2, .no, .no, .no]) _ ?_ xs (z0, z3)
  intro z x; refine Eq.trans ?_ (mTail_eq _ _); simp! only [D__law_scopes_1_b, q__law_next, C__law_scopes_2_l, C__law_scopes_2_q]
theorem D__law_scopes_1_q (s0 s1 s2 s3 : PV) : D__law_scopes_1 [.own s0, .val s1, .val s2, .own s3, .no, .no, .no] = ((m__law_next s0 s1).bind fun (t3 : PV × PV) => (addF (.int 1) t3.1).bind fun t4 => (rgO1 t4).bind fun r5 => fldM (fun (w2 : PV × PV) (x1 : PV) => ((rgO1 s2).bind fun r8 => cmpS (fun (w7 : PV) (x6 : PV) => (m__law_next w7 (.int 2)).bind fun (t9 : PV × PV) => (eqF t9.1 (.int 1)).bind fun t10 => (asBl t10).bind fun b11 => if b11 = true then some (some x6, t9.2) else some (none, t9.2)) (rgL r8) w2.1).bind fun (y12 : List PV × PV) => (asL w2.2).bind fun _ => (asI (.int 3)).bind fun i13 => (sliceF (.lst y12.1) none (some i13)).bind fun t14 => (tupleF [t14]).bind fun t15 => (asL w2.2).bind fun l16 => (appendF l16 [t15]).bind fun (z17 : PV × List PV) => some (y12.2, (.lst z17.2))) (rgL r5) (t3.2, s3)).bind fun (k : PV × PV) => some (.nx [.own k.1, .val s1, .val s2, .own k.2, .no, .no, .no]) := by
  refine Eq.trans ?_ (mTail_eq _ _); simp! only [D__law_scopes_1, q__law_next, C__law_scopes_2_l, C__law_scopes_2_q, D__law_scopes_1_l]
def d__law_scopes : DenS := (sSeq (sOwn 3 (dLst [])) (sSeq D__law_scopes_1 (sSeq (sRetK [1, 2, 3, 4, 5, 6] (dApp tupleF [.b 3])) sNil)))
def s__law_scopes : PP.Sem := runF [true] 4 d__law_scopes
def m__law_scopes (s0 s1 s2 : PV) : Option (PV × PV) := ((m__law_next s0 s1).bind fun (t3 : PV × PV) => (addF (.int 1) t3.1).bind fun t4 => (rgO1 t4).bind fun r5 => fldM (fun (w2 : PV × PV) (x1 : PV) => ((rgO1 s2).bind fun r8 => cmpS (fun (w7 : PV) (x6 : PV) => (m__law_next w7 (.int 2)).bind fun (t9 : PV × PV) => (eqF t9.1 (.int 1)).bind fun t10 => (asBl t10).bind fun b11 => if b11 = true then some (some x6, t9.2) else some (none, t9.2)) (rgL r8) w2.1).bind fun (y12 : List PV × PV) => (asL w2.2).bind fun _ => (asI (.int 3)).bind fun i13 => (sliceF (.lst y12.1) none (some i13)).bind fun t14 => (tupleF [t14]).bind fun t15 => (asL w2.2).bind fun l16 => (appendF l16 [t15]).bind fun (z17 : PV × List PV) => some (y12.2, (.lst z17.2))) (rgL r5) (t3.2, (.lst []))).bind fun (k18 : PV × PV) => (tupleF [k18.2]).bind fun t19 => some (t19, k18.1)
theorem q__law_scopes (s0 s1 s2 : PV) : s__law_scopes [s0, s1, s2] = (m__law_scopes s0 s1 s2).bind fun (r : PV × PV) => some (r.1, [r.2, s1, s2]) := by
  refine Eq.trans ?_ (mTail_eq _ _); simp! only [s__law_scopes, d__law_scopes, m__law_scopes, runF_ev, q__law_next, C__law_scopes_2_l, C__law_scopes_2_q, D__law_scopes_1_l, D__law_scopes_1_q]
def C__law_pairs_2_e : Den := (dTup [(dVar 2), (dVar 3)])
def C__law_pairs_2_t : DenT := dYes
theorem C__law_pairs_2_l (s0 s1 s2 : PV) (xs : List PV) : lcF (.nm 3) C__law_pairs_2_t C__law_pairs_2_e [3] xs [.val s0, .val s1, .val s2, .no] = (cmpM (fun (x4 : PV) => some (.tup [s2, x4])) xs).bind fun ys => some (ys, [.val s0, .val s1, .val s2, .no]) := by
  refine lc_M (e := [.val s0, .val s1, .val s2, .no]) _ ?_ xs
  intro x; refine Eq.trans ?_ (mTail_eq _ _); simp! only [C__law_pairs_2_e, C__law_pairs_2_t]
def C__law_pairs_2 : Den := dLC (iRange [(dBin addF (dVar 2) (dC (.int 1))), (dVar 0)]) [3] (.nm 3) C__law_pairs_2_t C__law_pairs_2_e
theorem C__law_pairs_2_q (s0 s1 s2 : PV) : C__law_pairs_2 [.val s0, .val s1, .val s2, .no] = ((addF s2 (.int 1)).bind fun t6 => (rgO2 t6 s0).bind fun r7 => cmpM (fun (x4 : PV) => some (.tup [s2, x4])) (rgL r7)).bind fun (k : List PV) => some (.lst k, [.val s0, .val s1, .val s2, .no]) := by
  refine Eq.trans ?_ (mTail_eq _ _); simp! only [C__law_pairs_2, C__law_pairs_2_l]
def D__law_pairs_1_b : DenS := sPost [2] (sSeq (sAsg (.nm 1) (dBin addF (dVar 1) C__law_pairs_2)) sNil)
def D__law_pairs_1 : DenS := sFor (iRange [(dVar 0)]) (.nm 2) D__law_pairs_1_b
theorem D__law_pairs_1_l (s0 : PV) (z1 : PV) (xs : List PV) : forF (.nm 2) D__law_pairs_1_b xs [.val s0, .val z1, .no, .no] = (fldM (fun (w2 : PV) (x1 : PV) => ((addF x1 (.int 1)).bind fun t6 => (rgO2 t6 s0).bind fun r7 => cmpM (fun (x4 : PV) => some (.tup [x1, x4])) (rgL r7)).bind fun (y8 : List PV) => (addF w2 (.lst y8)).bind fun t9 => some t9) xs z1).bind fun (k : PV) => some (.nx [.val s0, .val k, .no, .no]) := by
  refine for_fold (E := fun (w2 : PV) => [.val s0, .val w2, .no, .no]) _ ?_ xs z1
  intro z x; refine Eq.trans ?_ (mTail_eq _ _); simp! only [D__law_pairs_1_b, C__law_pairs_2_l, C__law_pairs_2_q]
theorem D__law_pairs_1_q (s0 s1 : PV) : D__law_pairs_1 [.val s0, .val s1, .no, .no] = ((rgO1 s0).bind fun r3 => fldM (fun (w2 : PV) (x1 : PV) => ((addF x1 (.int 1)).bind fun t6 => (rgO2 t6 s0).bind fun r7 => cmpM (fun (x4 : PV) => some (.tup [x1, x4])) (rgL r7)).bind fun (y8 : List PV) => (addF w2 (.lst y8)).bind fun t9 => some t9) (rgL r3) s1).bind fun (k : PV) => some (.nx [.val s0, .val k, .no, .no]) := by
  refine Eq.trans ?_ (mTail_eq _ _); simp! only [D__law_pairs_1, C__law_pairs_2_l, C__law_pairs_2_q, D__law_pairs_1_l]
def d__law_pairs : DenS := (sSeq (sAsg (.nm 1) (dLst [])) (sSeq D__law_pairs_1 (sSeq (sRetK [0, 1, 2, 3] (dVar 1)) sNil)))
def s__law_pairs : PP.Sem := runF [] 3 d__law_pairs
def m__law_pairs (s0 : PV) : Option (PV) := ((rgO1 s0).bind fun r3 => fldM (fun (w2 : PV) (x1 : PV) => ((addF x1 (.int 1)).bind fun t6 => (rgO2 t6 s0).bind fun r7 => cmpM (fun (x4 : PV) => some (.tup [x1, x4])) (rgL r7)).bind fun (y8 : List PV) => (addF w2 (.lst y8)).bind fun t9 => some t9) (rgL r3) (.lst [])).bind fun (k10 : PV) => some k10
theorem q__law_pairs (s0 : PV) : s__law_pairs [s0] = (m__law_pairs s0).bind fun (r : PV) => some (r, [s0]) := by
  refine Eq.trans ?_ (mTail_eq _ _); simp! only [s__law_pairs, d__law_pairs, m__law_pairs, runF_ev, C__law_pairs_2_l, C__law_pairs_2_q, D__law_pairs_1_l, D__law_pairs_1_q]
def C__law_edge_sets_2_e : Den := (dBin addF (dVar 3) (dTup [(dVar 2)]))
def C__law_edge_sets_2_t : DenT := dYes
theorem C__law_edge_sets_2_l (s0 s1 s2 : PV) (xs : List PV) : lcF (.nm 3) C__law_edge_sets_2_t C__law_edge_sets_2_e [3] xs [.val s0, .val s1, .val s2, .no] = (cmpM (fun (x5 : PV) => (addF x5 (.tup [s2])).bind fun t8 => some t8) xs).bind fun ys => some (ys, [.val s0, .val s1, .val s2, .no]) := by
  refine lc_M (e := [.val s0, .val s1, .val s2, .no]) _ ?_ xs
  intro x; refine Eq.trans ?_ (mTail_eq _ _); simp! only [C__law_edge_sets_2_e, C__law_edge_sets_2_t, q__law_pairs]
def C__law_edge_sets_2 : Den := dLC (iSeq (dVar 1)) [3] (.nm 3) C__law_edge_sets_2_t C__law_edge_sets_2_e
theorem C__law_edge_sets_2_q (s0 s1 s2 : PV) : C__law_edge_sets_2 [.val s0, .val s1, .val s2, .no] = ((seqOf s1).bind fun l7 => cmpM (fun (x5 : PV) => (addF x5 (.tup [s2])).bind fun t8 => some t8) l7).bind fun (k : List PV) => some (.lst k, [.val s0, .val s1, .val s2, .no]) := by
  refine Eq.trans ?_ (mTail_eq _ _); simp! only [C__law_edge_sets_2, q__law_pairs, C__law_edge_sets_2_l]
def D__law_edge_sets_1_b : DenS := sPost [2] (sSeq (sAsg (.nm 1) (dBin addF (dVar 1) C__law_edge_sets_2)) sNil)
def D__law_edge_sets_1 : DenS := sFor (iSeq (dCall s__law_pairs [.d (dVar 0)])) (.nm 2) D__law_edge_sets_1_b
theorem D__law_edge_sets_1_l (s0 : PV) (z1 : PV) (xs : List PV) : forF (.nm 2) D__law_edge_sets_1_b xs [.val s0, .val z1, .no, .no] = (fldM (fun (w2 : PV) (x1 : PV) => ((seqOf w2).bind fun l7 => cmpM (fun (x5 : PV) => (addF x5 (.tup [x1])).bind fun t8 => some t8) l7).bind fun (y9 : List PV) => (addF w2 (.lst y9)).bind fun t10 => some t10) xs z1).bind fun (k : PV) => some (.nx [.val s0, .val k, .no, .no]) := by
  refine for_fold (E := fun (w2 : PV) => [.val s0, .val w2, .no, .no]) _ ?_ xs z1
  intro z x; refine Eq.trans ?_ (mTail_eq _ _); simp! only [D__law_edge_sets_1_b, q__law_pairs, C__law_edge_sets_2_l, C__law_edge_sets_2_q]
theorem D__law_edge_sets_1_q (s0 s1 : PV) : D__law_edge_sets_1 [.val s0, .val s1, .no, .no] = ((m__law_pairs s0).bind fun (t3 : PV) => (seqOf t3).bind fun l4 => fldM (fun (w2 : PV) (x1 : PV) => ((seqOf w2).bind fun l7 => cmpM (fun (x5 : PV) => (addF x5 (.tup [x1])).bind fun t8 => some t8) l7).bind fun (y9 : List PV) => (addF w2 (.lst y9)).bind fun t10 => some t10) l4 s1).bind fun (k : PV) => some (.nx [.val s0, .val k, .no, .no]) := by
  refine Eq.trans ?_ (mTail_eq _ _); simp! only [D__law_edge_sets_1, q__law_pairs, C__law_edge_sets_2_l, C__law_edge_sets_2_q, D__law_edge_sets_1_l]
def C__law_edge_sets_3_e : Den := (dVar 3)
def C__law_edge_sets_3_t : DenT := (dB (dBin eqF (dApp lenF [.d (dVar 3)]) (dBin subF (dVar 0) (dC (.int 1)))))
theorem C__law_edge_sets_3_l (s0 s1 : PV) (xs : List PV) : lcF (.nm 3) C__law_edge_sets_3_t C__law_edge_sets_3_e [3] xs [.val s0, .val s1, .no, .no] = (cmpG (fun (x12 : PV) => (lenF [x12]).bind fun t15 => (subF s0 (.int 1)).bind fun t16 => (eqF t15 t16).bind fun t17 => (asBl t17).bind fun b18 => if b18 = true then some (some x12) else some none) xs).bind fun ys => some (ys, [.val s0, .val s1, .no, .no]) := by
  refine lc_G (e := [.val s0, .val s1, .no, .no]) _ ?_ xs
  intro x; refine Eq.trans ?_ (mTail_eq _ _); simp! only [C__law_edge_sets_3_e, C__law_edge_sets_3_t, q__law_pairs, C__law_edge_sets_2_l, C__law_edge_sets_2_q, D__law_edge_sets_1_l, D__law_edge_sets_1_q]
def C__law_edge_sets_3 : Den := dLC (iSeq (dVar 1)) [3] (.nm 3) C__law_edge_sets_3_t C__law_edge_sets_3_e
theorem C__law_edge_sets_3_q (s0 s1 : PV) : C__law_edge_sets_3 [.val s0, .val s1, .no, .no] = ((seqOf s1).bind fun l14 => cmpG (fun (x12 : PV) => (lenF [x12]).bind fun t15 => (subF s0 (.int 1)).bind fun t16 => (eqF t15 t16).bind fun t17 => (asBl t17).bind fun b18 => if b18 = true then some (some x12) else some none) l14).bind fun (k : List PV) => some (.lst k, [.val s0, .val s1, .no, .no]) := by
  refine Eq.trans ?_ (mTail_eq _ _); simp! only [C__law_edge_sets_3, q__law_pairs, C__law_edge_sets_2_l, C__law_edge_sets_2_q, D__law_edge_sets_1_l, D__law_edge_sets_1_q, C__law_edge_sets_3_l]
def d__law_edge_sets : DenS := (sSeq (sAsg (.nm 1) (dLst [(dTup [])])) (sSeq D__law_edge_sets_1 (sSeq (sRetK [0, 1, 2, 3] (dApp sortedF [.d C__law_edge_sets_3])) sNil)))
def s__law_edge_sets : PP.Sem := runF [] 3 d__law_edge_sets
def m__law_edge_sets (s0 : PV) : Option (PV) := ((m__law_pairs s0).bind fun (t3 : PV) => (seqOf t3).bind fun l4 => fldM (fun (w2 : PV) (x1 : PV) => ((seqOf w2).bind fun l7 => cmpM (fun (x5 : PV) => (addF x5 (.tup [x1])).bind fun t8 => some t8) l7).bind fun (y9 : List PV) => (addF w2 (.lst y9)).bind fun t10 => some t10) l4 (.lst [(.tup [])])).bind fun (k11 : PV) => ((seqOf k11).bind fun l14 => cmpG (fun (x12 : PV) => (lenF [x12]).bind fun t15 => (subF s0 (.int 1)).bind fun t16 => (eqF t15 t16).bind fun t17 => (asBl t17).bind fun b18 => if b18 = true then some (some x12) else some none) l14).bind fun (y19 : List PV) => (sortedF [(.lst y19)]).bind fun t20 => some t20
theorem q__law_edge_sets (s0 : PV) : s__law_edge_sets [s0] = (m__law_edge_sets s0).bind fun (r : PV) => some (r, [s0]) := by
  refine Eq.trans ?_ (mTail_eq _ _); simp! only [s__law_edge_sets, d__law_edge_sets, m__law_edge_sets, runF_ev, q__law_pairs, C__law_edge_sets_2_l, C__law_edge_sets_2_q, D__law_edge_sets_1_l, D__law_edge_sets_1_q, C__law_edge_sets_3_l, C__law_edge_sets_3_q]
def T__law_hang_4 : DenT := (dAnd (dB (dBinR inF (dVar 4) 2)) (dAnd (dB (dBin inF (dVar 5) (dVar 0))) (dB (dBinR notInF (dVar 5) 2))))
theorem T__law_hang_4_q (s0 s1 s2 s3 s4 s5 : PV) : T__law_hang_4 [.val s0, .val s1, .own s2, .val s3, .val s4, .val s5] = ((inF s4 s2).bind fun t11 => (asBl t11).bind fun b12 => if b12 = true then (inF s5 s0).bind fun t13 => (asBl t13).bind fun b14 => if b14 = true then (notInF s5 s2).bind fun t15 => (asBl t15).bind fun b16 => some b16 else some false else some false).bind fun (k : Bool) => some (k, [.val s0, .val s1, .own s2, .val s3, .val s4, .val s5]) := by
  refine Eq.trans ?_ (mTail_eq _ _); simp! only [T__law_hang_4]
def D__law_hang_3 : DenS := (sIf T__law_hang_4 (sSeq (sDrop (dMut appendF 2 [(dVar 5)])) sNil) sNil)
theorem D__law_hang_3_q (s0 s1 s2 s3 s4 s5 : PV) : D__law_hang_3 [.val s0, .val s1, .own s2, .val s3, .val s4, .val s5] = (((inF s4 s2).bind fun t11 => (asBl t11).bind fun b12 => if b12 = true then (inF s5 s0).bind fun t13 => (asBl t13).bind fun b14 => if b14 = true then (notInF s5 s2).bind fun t15 => (asBl t15).bind fun b16 => some b16 else some false else some false).bind fun (b17 : Bool) => if b17 = true then (asL s2).bind fun _ => (asL s2).bind fun l18 => (appendF l18 [s5]).bind fun (z19 : PV × List PV) => some (.lst z19.2) else some s2).bind fun (k : PV) => some (.nx [.val s0, .val s1, .own k, .val s3, .val s4, .val s5]) := by
  refine Eq.trans ?_ (mTail_eq _ _); simp! only [D__law_hang_3, T__law_hang_4_q]
def T__law_hang_6 : DenT := (dAnd (dB (dBinR inF (dVar 5) 2)) (dAnd (dB (dBin inF (dVar 4) (dVar 0))) (dB (dBinR notInF (dVar 4) 2))))
theorem T__law_hang_6_q (s0 s1 s2 s3 s4 s5 : PV) : T__law_hang_6 [.val s0, .val s1, .own s2, .val s3, .val s4, .val s5] = ((inF s5 s2).bind fun t21 => (asBl t21).bind fun b22 => if b22 = true then (inF s4 s0).bind fun t23 => (asBl t23).bind fun b24 => if b24 = true then (notInF s4 s2).bind fun t25 => (asBl t25).bind fun b26 => some b26 else some false else some false).bind fun (k : Bool) => some (k, [.val s0, .val s1, .own s2, .val s3, .val s4, .val s5]) := by
  refine Eq.trans ?_ (mTail_eq _ _); simp! only [T__law_hang_6, T__law_hang_4_q, D__law_hang_3_q]
def D__law_hang_5 : DenS := (sIf T__law_hang_6 (sSeq (sDrop (dMut appendF 2 [(dVar 4)])) sNil) sNil)
theorem D__law_hang_5_q (s0 s1 s2 s3 s4 s5 : PV) : D__law_hang_5 [.val s0, .val s1, .own s2, .val s3, .val s4, .val s5] = (((inF s5 s2).bind fun t21 => (asBl t21).bind fun b22 => if b22 = true then (inF s4 s0).bind fun t23 => (asBl t23).bind fun b24 => if b24 = true then (notInF s4 s2).bind fun t25 => (asBl t25).bind fun b26 => some b26 else some false else some false).bind fun (b27 : Bool) => if b27 = true then (asL s2).bind fun _ => (asL s2).bind fun l28 => (appendF l28 [s4]).bind fun (z29 : PV × List PV) => some (.lst z29.2) else some s2).bind fun (k : PV) => some (.nx [.val s0, .val s1, .own k, .val s3, .val s4, .val s5]) := by
  refine Eq.trans ?_ (mTail_eq _ _); simp! only [D__law_hang_5, T__law_hang_4_q, D__law_hang_3_q, T__law_hang_6_q]
def D__law_hang_2_b : DenS := sPost [4, 5] (sSeq D__law_hang_3 (sSeq D__law_hang_5 sNil))
def D__law_hang_2 : DenS := sFor (iSeq (dVar 1)) (.tp [(.nm 4), (.nm 5)]) D__law_hang_2_b
theorem D__law_hang_2_l (s0 s1 s3 : PV) (z2 : PV) (xs : List PV) : forF (.tp [(.nm 4), (.nm 5)]) D__law_hang_2_b xs [.val s0, .val s1, .own z2, .val s3, .no, .no] = (fldM (fun (w8 : PV) (x7 : PV) => (un2 x7).bind fun (u10 : PV × PV) => (((inF u10.1 w8).bind fun t11 => (asBl t11).bind fun b12 => if b12 = true then (inF u10.2 s0).bind fun t13 => (asBl t13).bind fun b14 => if b14 = true then (notInF u10.2 w8).bind fun t15 => (asBl t15).bind fun b16 => some b16 else some false else some false).bind fun (b17 : Bool) => if b17 = true then (asL w8).bind fun _ => (asL w8).bind fun l18 => (appendF l18 [u10.2]).bind fun (z19 : PV × List PV) => some (.lst z19.2) else some w8).bind fun (k20 : PV) => (((inF u10.2 k20).bind fun t21 => (asBl t21).bind fun b22 => if b22 = true then (inF u10.1 s0).bind fun t23 => (asBl t23).bind fun b24 => if b24 = true then (notInF u10.1 k20).bind fun t25 => (asBl t25).bind fun b26 => some b26 else some false else some false).bind fun (b27 : Bool) => if b27 = true then (asL k20).bind fun _ => (asL k20).bind fun l28 => (appendF l28 [u10.1]).bind fun (z29 : PV × List PV) => some (.lst z29.2) else some k20).bind fun (k30 : PV) => some k30) xs z2).bind fun (k : PV) => some (.nx [.val s0, .val s1, .own k, .val s3, .no, .no]) := by
  refine for_fold (E := fun (w8 : PV) => [.val s0, .val s1, .own w8, .val s3, .no, .no]) _ ?_ xs z2
  intro z x; refine Eq.trans ?_ (mTail_eq _ _); simp! only [D__law_hang_2_b, T__law_hang_4_q, D__law_hang_3_q, T__law_hang_6_q, D__law_hang_5_q]
theorem D__law_hang_2_q (s0 s1 s2 s3 : PV) : D__law_hang_2 [.val s0, .val s1, .own s2, .val s3, .no, .no] = ((seqOf s1).bind fun l9 => fldM (fun (w8 : PV) (x7 : PV) => (un2 x7).bind fun (u10 : PV × PV) => (((inF u10.1 w8).bind fun t11 => (asBl t11).bind fun b12 => if b12 = true then (inF u10.2 s0).bind fun t13 => (asBl t13).bind fun b14 => if b14 = true then (notInF u10.2 w8).bind fun t15 => (asBl t15).bind fun b16 => some b16 else some false else some false).bind fun (b17 : Bool) => if b17 = true then (asL w8).bind fun _ => (asL w8).bind fun l18 => (appendF l18 [u10.2]).bind fun (z19 : PV × List PV) => some (.lst z19.2) else some w8).bind fun (k20 : PV) => (((inF u10.2 k20).bind fun t21 => (asBl t21).bind fun b22 => if b22 = true then (inF u10.1 s0).bind fun t23 => (asBl t23).bind fun b24 => if b24 = true then (notInF u10.1 k20).bind fun t25 => (asBl t25).bind fun b26 => some b26 else some false else some false).bind fun (b27 : Bool) => if b27 = true then (asL k20).bind fun _ => (asL k20).bind fun l28 => (appendF l28 [u10.1]).bind fun (z29 : PV × List PV) => some (.lst z29.2) else some k20).bind fun (k30 : PV) => some k30) l9 s2).bind fun (k : PV) => some (.nx [.val s0, .val s1, .own k, .val s3, .no, .no]) := by
  refine Eq.trans ?_ (mTail_eq _ _); simp! only [D__law_hang_2, T__law_hang_4_q, D__law_hang_3_q, T__law_hang_6_q, D__law_hang_5_q, D__law_hang_2_l]
def D__law_hang_1_b : DenS := sPost [3, 4, 5] (sSeq D__law_hang_2 sNil)
def D__law_hang_1 : DenS := sFor (iSeq (dVar 0)) (.nm 3) D__law_hang_1_b
theorem D__law_hang_1_l (s0 s1 : PV) (z2 : PV) (xs : List PV) : forF (.nm 3) D__law_hang_1_b xs [.val s0, .val s1, .own z2, .no, .no, .no] = (fldM (fun (w5 : PV) (x4 : PV) => ((seqOf s1).bind fun l9 => fldM (fun (w8 : PV) (x7 : PV) => (un2 x7).bind fun (u10 : PV × PV) => (((inF u10.1 w8).bind fun t11 => (asBl t11).bind fun b12 => if b12 = true then (inF u10.2 s0).bind fun t13 => (asBl t13).bind fun b14 => if b14 = true then (notInF u10.2 w8).bind fun t15 => (asBl t15).bind fun b16 => some b16 else some false else some false).bind fun (b17 : Bool) => if b17 = true then (asL w8).bind fun _ => (asL w8).bind fun l18 => (appendF l18 [u10.2]).bind fun (z19 : PV × List PV) => some (.lst z19.2) else some w8).bind fun (k20 : PV) => (((inF u10.2 k20).bind fun t21 => (asBl t21).bind fun b22 => if b22 = true then (inF u10.1 s0).bind fun t23 => (asBl t23).bind fun b24 => if b24 = true then (notInF u10.1 k20).bind fun t25 => (asBl t25).bind fun b26 => some b26 else some false else some false).bind fun (b27 : Bool) => if b27 = true then (asL k20).bind fun _ => (asL k20).bind fun l28 => (appendF l28 [u10.1]).bind fun (z29 : PV × List PV) => some (.lst z29.2) else some k20).bind fun (k30 : PV) => some k30) l9 w5).bind fun (k31 : PV) => some k31) xs z2).bind fun (k : PV) => some (.nx [.val s0, .val s1, .own k, .no, .no, .no]) := by
  refine for_fold (E := fun (w5 : PV) => [.val s0, .val s1, .own w5, .no, .no, .no]) _ ?_ xs z2
  intro z x; refine Eq.trans ?_ (mTail_eq _ _); simp! only [D__law_hang_1_b, T__law_hang_4_q, D__law_hang_3_q, T__law_hang_6_q, D__law_hang_5_q, D__law_hang_2_l, D__law_hang_2_q]
theorem D__law_hang_1_q (s0 s1 s2 : PV) : D__law_hang_1 [.val s0, .val s1, .own s2, .no, .no, .no] = ((seqOf s0).bind fun l6 => fldM (fun (w5 : PV) (x4 : PV) => ((seqOf s1).bind fun l9 => fldM (fun (w8 : PV) (x7 : PV) => (un2 x7).bind fun (u10 : PV × PV) => (((inF u10.1 w8).bind fun t11 => (asBl t11).bind fun b12 => if b12 = true then (inF u10.2 s0).bind fun t13 => (asBl t13).bind fun b14 => if b14 = true then (notInF u10.2 w8).bind fun t15 => (asBl t15).bind fun b16 => some b16 else some false else some false).bind fun (b17 : Bool) => if b17 = true then (asL w8).bind fun _ => (asL w8).bind fun l18 => (appendF l18 [u10.2]).bind fun (z19 : PV × List PV) => some (.lst z19.2) else some w8).bind fun (k20 : PV) => (((inF u10.2 k20).bind fun t21 => (asBl t21).bind fun b22 => if b22 = true then (inF u10.1 s0).bind fun t23 => (asBl t23).bind fun b24 => if b24 = true then (notInF u10.1 k20).bind fun t25 => (asBl t25).bind fun b26 => some b26 else some false else some false).bind fun (b27 : Bool) => if b27 = true then (asL k20).bind fun _ => (asL k20).bind fun l28 => (appendF l28 [u10.1]).bind fun (z29 : PV × List PV) => some (.lst z29.2) else some k20).bind fun (k30 : PV) => some k30) l9 w5).bind fun (k31 : PV) => some k31) l6 s2).bind fun (k : PV) => some (.nx [.val s0, .val s1, .own k, .no, .no, .no]) := by
  refine Eq.trans ?_ (mTail_eq _ _); simp! only [D__law_hang_1, T__law_hang_4_q, D__law_hang_3_q, T__law_hang_6_q, D__law_hang_5_q, D__law_hang_2_l, D__law_hang_2_q, D__law_hang_1_l]
def d__law_hang : DenS := (sSeq (sOwn 2 (dApp listF [.d (dSlice (.d (dVar 0)) dNoPart (dPart (dC (.int 1))))])) (sSeq D__law_hang_1 (sSeq (sRetK [0, 1, 2, 3, 4, 5] (dBin eqF (dApp lenF [.b 2]) (dApp lenF [.d (dVar 0)]))) sNil)))
def s__law_hang : PP.Sem := runF [] 4 d__law_hang
def m__law_hang (s0 s1 : PV) : Option (PV) := (asI (.int 1)).bind fun i1 => (sliceF s0 none (some i1)).bind fun t2 => (listF [t2]).bind fun t3 => ((seqOf s0).bind fun l6 => fldM (fun (w5 : PV) (x4 : PV) => ((seqOf s1).bind fun l9 => fldM (fun (w8 : PV) (x7 : PV) => (un2 x7).bind fun (u10 : PV × PV) => (((inF u10.1 w8).bind fun t11 => (asBl t11).bind fun b12 => if b12 = true then (inF u10.2 s0).bind fun t13 => (asBl t13).bind fun b14 => if b14 = true then (notInF u10.2 w8).bind fun t15 => (asBl t15).bind fun b16 => some b16 else some false else some false).bind fun (b17 : Bool) => if b17 = true then (asL w8).bind fun _ => (asL w8).bind fun l18 => (appendF l18 [u10.2]).bind fun (z19 : PV × List PV) => some (.lst z19.2) else some w8).bind fun (k20 : PV) => (((inF u10.2 k20).bind fun t21 => (asBl t21).bind fun b22 => if b22 = true then (inF u10.1 s0).bind fun t23 => (asBl t23).bind fun b24 => if b24 = true then (notInF u10.1 k20).bind fun t25 => (asBl t25).bind fun b26 => some b26 else some false else some false).bind fun (b27 : Bool) => if b27 = true then (asL k20).bind fun _ => (asL k20).bind fun l28 => (appendF l28 [u10.1]).bind fun (z29 : PV × List PV) => some (.lst z29.2) else some k20).bind fun (k30 : PV) => some k30) l9 w5).bind fun (k31 : PV) => some k31) l6 t3).bind fun (k32 : PV) => (lenF [k32]).bind fun t33 => (lenF [s0]).bind fun t34 => (eqF t33 t34).bind fun t35 => some t35
theorem q__law_hang (s0 s1 : PV) : s__law_hang [s0, s1] = (m__law_hang s0 s1).bind fun (r : PV) => some (r, [s0, s1]) := by
  refine Eq.trans ?_ (mTail_eq _ _); simp! only [s__law_hang, d__law_hang, m__law_hang, runF_ev, T__law_hang_4_q, D__law_hang_3_q, T__law_hang_6_q, D__law_hang_5_q, D__law_hang_2_l, D__law_hang_2_q, D__law_hang_1_l, D__law_hang_1_q]
def V__law_is_tree_1 : Den := (dAndV (dBin eqF (dApp lenF [.d (dVar 1)]) (dBin subF (dApp lenF [.d (dVar 0)]) (dC (.int 1)))) (dCall s__law_hang [.d (dListRg [(dApp lenF [.d (dVar 0)])]), .d (dVar 1)]))
theorem V__law_is_tree_1_q (s0 s1 : PV) : V__law_is_tree_1 [.val s0, .val s1] = ((lenF [s1]).bind fun t1 => (lenF [s0]).bind fun t2 => (subF t2 (.int 1)).bind fun t3 => (eqF t1 t3).bind fun t4 => mAV t4 ((lenF [s0]).bind fun t5 => (rgO1 t5).bind fun r6 => (m__law_hang (.lst (rgL r6)) s1).bind fun (t7 : PV) => some t7)).bind fun (k : PV) => some (k, [.val s0, .val s1]) := by
  refine Eq.trans ?_ (mTail_eq _ _); simp! only [V__law_is_tree_1, q__law_hang]
def d__law_is_tree : DenS := (sSeq (sRetK [0, 1] V__law_is_tree_1) sNil)
def s__law_is_tree : PP.Sem := runF [] 0 d__law_is_tree
def m__law_is_tree (s0 s1 : PV) : Option (PV) := ((lenF [s1]).bind fun t1 => (lenF [s0]).bind fun t2 => (subF t2 (.int 1)).bind fun t3 => (eqF t1 t3).bind fun t4 => mAV t4 ((lenF [s0]).bind fun t5 => (rgO1 t5).bind fun r6 => (m__law_hang (.lst (rgL r6)) s1).bind fun (t7 : PV) => some t7)).bind fun (t8 : PV) => some t8
theorem q__law_is_tree (s0 s1 : PV) : s__law_is_tree [s0, s1] = (m__law_is_tree s0 s1).bind fun (r : PV) => some (r, [s0, s1]) := by
  refine Eq.trans ?_ (mTail_eq _ _); simp! only [s__law_is_tree, d__law_is_tree, m__law_is_tree, runF_ev, q__law_hang, V__law_is_tree_1_q]
def C__law_makes_2_e : Den := (dVar 3)
def C__law_makes_2_t : DenT := (dB (dBin inF (dVar 2) (dBin getF (dVar 0) (dVar 3))))
theorem C__law_makes_2_l (s0 s1 s2 : PV) (xs : List PV) : lcF (.nm 3) C__law_makes_2_t C__law_makes_2_e [3] xs [.val s0, .val s1, .val s2, .no] = (cmpG (fun (x6 : PV) => (getF s0 x6).bind fun t10 => (inF s2 t10).bind fun t11 => (asBl t11).bind fun b12 => if b12 = true then some (some x6) else some none) xs).bind fun ys => some (ys, [.val s0, .val s1, .val s2, .no]) := by
  refine lc_G (e := [.val s0, .val s1, .val s2, .no]) _ ?_ xs
  intro x; refine Eq.trans ?_ (mTail_eq _ _); simp! only [C__law_makes_2_e, C__law_makes_2_t, q__law_is_tree, q__law_hang]
def C__law_makes_2 : Den := dLC (iRange [(dApp lenF [.d (dVar 0)])]) [3] (.nm 3) C__law_makes_2_t C__law_makes_2_e
theorem C__law_makes_2_q (s0 s1 s2 : PV) : C__law_makes_2 [.val s0, .val s1, .val s2, .no] = ((lenF [s0]).bind fun t8 => (rgO1 t8).bind fun r9 => cmpG (fun (x6 : PV) => (getF s0 x6).bind fun t10 => (inF s2 t10).bind fun t11 => (asBl t11).bind fun b12 => if b12 = true then some (some x6) else some none) (rgL r9)).bind fun (k : List PV) => some (.lst k, [.val s0, .val s1, .val s2, .no]) := by
  refine Eq.trans ?_ (mTail_eq _ _); simp! only [C__law_makes_2, q__law_is_tree, q__law_hang, C__law_makes_2_l]
def D__law_makes_1_b : DenS := sPost [2] (sSeq (sIf (dNot (dTruth (.d (dCall s__law_hang [.d C__law_makes_2, .d (dVar 1)])))) (sSeq (sRetK [0, 1, 2, 3] (dC (.bl false))) sNil) sNil) sNil)
def D__law_makes_1 : DenS := sFor (iRange [(dC (.int 6))]) (.nm 2) D__law_makes_1_b
theorem D__law_makes_1_l (s0 s1 : PV) (xs : List PV) : forF (.nm 2) D__law_makes_1_b xs [.val s0, .val s1, .no, .no] = (fldR (S := Unit) (R := PV) (fun (w4 : Unit) (x3 : PV) => ((lenF [s0]).bind fun t8 => (rgO1 t8).bind fun r9 => cmpG (fun (x6 : PV) => (getF s0 x6).bind fun t10 => (inF x3 t10).bind fun t11 => (asBl t11).bind fun b12 => if b12 = true then some (some x6) else some none) (rgL r9)).bind fun (y13 : List PV) => (m__law_hang (.lst y13) s1).bind fun (t14 : PV) => (truthF t14).bind fun b15 => if (!b15) = true then some (.inr (.bl false)) else some (.inl ())) xs ()).bind fun r => some (flS (fun (k : Unit) => [.val s0, .val s1, .no, .no]) (fun (v : PV) => (v, [.no, .no, .no, .no])) r) := by
  refine for_foldR (E := fun (w4 : Unit) => [.val s0, .val s1, .no, .no]) (fun (v : PV) => (v, [.no, .no, .no, .no])) _ ?_ xs ()
  intro z x; refine Eq.trans ?_ (mTail_eq _ _); simp! only [D__law_makes_1_b, q__law_is_tree, q__law_hang, C__law_makes_2_l, C__law_makes_2_q]
theorem D__law_makes_1_q (s0 s1 : PV) : D__law_makes_1 [.val s0, .val s1, .no, .no] = ((rgO1 (.int 6)).bind fun r5 => fldR (S := Unit) (R := PV) (fun (w4 : Unit) (x3 : PV) => ((lenF [s0]).bind fun t8 => (rgO1 t8).bind fun r9 => cmpG (fun (x6 : PV) => (getF s0 x6).bind fun t10 => (inF x3 t10).bind fun t11 => (asBl t11).bind fun b12 => if b12 = true then some (some x6) else some none) (rgL r9)).bind fun (y13 : List PV) => (m__law_hang (.lst y13) s1).bind fun (t14 : PV) => (truthF t14).bind fun b15 => if (!b15) = true then some (.inr (.bl false)) else some (.inl ())) (rgL r5) ()).bind fun r => some (flS (fun (k : Unit) => [.val s0, .val s1, .no, .no]) (fun (v : PV) => (v, [.no, .no, .no, .no])) r) := by
  refine Eq.trans ?_ (mTail_eq _ _); simp! only [D__law_makes_1, q__law_is_tree, q__law_hang, C__law_makes_2_l, C__law_makes_2_q, D__law_makes_1_l]
def d__law_makes : DenS := (sSeq (sIf (dNot (dTruth (.d (dCall s__law_is_tree [.d (dVar 0), .d (dVar 1)])))) (sSeq (sRetK [0, 1, 2, 3] (dC (.bl false))) sNil) sNil) (sSeq D__law_makes_1 (sSeq (sRetK [0, 1, 2, 3] (dC (.bl true))) sNil)))
def s__law_makes : PP.Sem := runF [] 2 d__law_makes
def m__law_makes (s0 s1 : PV) : Option (PV) := (m__law_is_tree s0 s1).bind fun (t1 : PV) => (truthF t1).bind fun b2 => if (!b2) = true then some (.bl false) else ((rgO1 (.int 6)).bind fun r5 => fldR (S := Unit) (R := PV) (fun (w4 : Unit) (x3 : PV) => ((lenF [s0]).bind fun t8 => (rgO1 t8).bind fun r9 => cmpG (fun (x6 : PV) => (getF s0 x6).bind fun t10 => (inF x3 t10).bind fun t11 => (asBl t11).bind fun b12 => if b12 = true then some (some x6) else some none) (rgL r9)).bind fun (y13 : List PV) => (m__law_hang (.lst y13) s1).bind fun (t14 : PV) => (truthF t14).bind fun b15 => if (!b15) = true then some (.inr (.bl false)) else some (.inl ())) (rgL r5) ()).bind fun (r16 : (Unit) ⊕ (PV)) => mSum r16 (fun (k17 : Unit) => some (.bl true)) (fun (v18 : PV) => some v18)
theorem q__law_makes (s0 s1 : PV) : s__law_makes [s0, s1] = (m__law_makes s0 s1).bind fun (r : PV) => some (r, [s0, s1]) := by
  refine Eq.trans ?_ (mTail_eq _ _); simp! only [s__law_makes, d__law_makes, m__law_makes, runF_ev, q__law_is_tree, q__law_hang, C__law_makes_2_l, C__law_makes_2_q, D__law_makes_1_l, D__law_makes_1_q]
def V__law_is_integer_1 : Den := (dAndV (dIsI .int (.d (dVar 0))) (dUn notF (dIsI .bool (.d (dVar 0)))))
theorem V__law_is_integer_1_q (s0 : PV) : V__law_is_integer_1 [.val s0] = (mAV (.bl (isTy .int s0)) ((notF (.bl (isTy .bool s0))).bind fun t1 => some t1)).bind fun (k : PV) => some (k, [.val s0]) := by
  refine Eq.trans ?_ (mTail_eq _ _); simp! only [V__law_is_integer_1]
def d__law_is_integer : DenS := (sSeq (sRetK [0] V__law_is_integer_1) sNil)
def s__law_is_integer : PP.Sem := runF [] 0 d__law_is_integer
def m__law_is_integer (s0 : PV) : Option (PV) := (mAV (.bl (isTy .int s0)) ((notF (.bl (isTy .bool s0))).bind fun t1 => some t1)).bind fun (t2 : PV) => some t2
theorem q__law_is_integer (s0 : PV) : s__law_is_integer [s0] = (m__law_is_integer s0).bind fun (r : PV) => some (r, [s0]) := by
  refine Eq.trans ?_ (mTail_eq _ _); simp! only [s__law_is_integer, d__law_is_integer, m__law_is_integer, runF_ev, V__law_is_integer_1_q]
def V__law_equal__0_1 : Den := (dAndV (dIsI .bool (.d (dVar 0))) (dBin eqF (dVar 0) (dVar 1)))
theorem V__law_equal__0_1_q (s0 s1 : PV) : V__law_equal__0_1 [.val s0, .val s1, .no] = (mAV (.bl (isTy .bool s0)) ((eqF s0 s1).bind fun t5 => some t5)).bind fun (k : PV) => some (k, [.val s0, .val s1, .no]) := by
  refine Eq.trans ?_ (mTail_eq _ _); simp! only [V__law_equal__0_1, q__law_is_integer]
def V__law_equal__0_2 : Den := (dAndV (dCall s__law_is_integer [.d (dVar 0)]) (dBin eqF (dVar 0) (dVar 1)))
theorem V__law_equal__0_2_q (s0 s1 : PV) : V__law_equal__0_2 [.val s0, .val s1, .no] = ((m__law_is_integer s0).bind fun (t8 : PV) => mAV t8 ((eqF s0 s1).bind fun t9 => some t9)).bind fun (k : PV) => some (k, [.val s0, .val s1, .no]) := by
  refine Eq.trans ?_ (mTail_eq _ _); simp! only [V__law_equal__0_2, q__law_is_integer, V__law_equal__0_1_q]
def V__law_equal__0_3 : Den := (dAndV (dIsI .str (.d (dVar 0))) (dBin eqF (dVar 0) (dVar 1)))
theorem V__law_equal__0_3_q (s0 s1 : PV) : V__law_equal__0_3 [.val s0, .val s1, .no] = (mAV (.bl (isTy .str s0)) ((eqF s0 s1).bind fun t12 => some t12)).bind fun (k : PV) => some (k, [.val s0, .val s1, .no]) := by
  refine Eq.trans ?_ (mTail_eq _ _); simp! only [V__law_equal__0_3, q__law_is_integer, V__law_equal__0_1_q, V__law_equal__0_2_q]
def T__law_equal__0_4 : DenT := (dAnd (dTruth (.d (dIsI .tuple (.d (dVar 1))))) (dNot (dTruth (.d (dIsI .tuple (.d (dVar 0)))))))
theorem T__law_equal__0_4_q (s0 s1 : PV) : T__law_equal__0_4 [.val s0, .val s1, .no] = ((truthF (.bl (isTy .tuple s1))).bind fun b14 => if b14 = true then (truthF (.bl (isTy .tuple s0))).bind fun b15 => some (!b15) else some false).bind fun (k : Bool) => some (k, [.val s0, .val s1, .no]) := by
  refine Eq.trans ?_ (mTail_eq _ _); simp! only [T__law_equal__0_4, q__law_is_integer, V__law_equal__0_1_q, V__law_equal__0_2_q, V__law_equal__0_3_q]
def T__law_equal__0_5 : DenT := (dAnd (dTruth (.d (dIsI .list (.d (dVar 1))))) (dNot (dTruth (.d (dIsI .list (.d (dVar 0)))))))
theorem T__law_equal__0_5_q (s0 s1 : PV) : T__law_equal__0_5 [.val s0, .val s1, .no] = ((truthF (.bl (isTy .list s1))).bind fun b17 => if b17 = true then (truthF (.bl (isTy .list s0))).bind fun b18 => some (!b18) else some false).bind fun (k : Bool) => some (k, [.val s0, .val s1, .no]) := by
  refine Eq.trans ?_ (mTail_eq _ _); simp! only [T__law_equal__0_5, q__law_is_integer, V__law_equal__0_1_q, V__law_equal__0_2_q, V__law_equal__0_3_q, T__law_equal__0_4_q]
def C__law_equal__0_6_e : Den := dNever
def C__law_equal__0_6_t : DenT := dYes
theorem C__law_equal__0_6_l (s0 s1 : PV) (xs : List PV) : lcF (.nm 2) C__law_equal__0_6_t C__law_equal__0_6_e [2] xs [.val s0, .val s1, .no] = (cmpM (fun (x24 : PV) => ((none : Option PV)).bind fun t28 => some t28) xs).bind fun ys => some (ys, [.val s0, .val s1, .no]) := by
  refine lc_M (e := [.val s0, .val s1, .no]) _ ?_ xs
  intro x; refine Eq.trans ?_ (mTail_eq _ _); simp! only [C__law_equal__0_6_e, C__law_equal__0_6_t, q__law_is_integer, V__law_equal__0_1_q, V__law_equal__0_2_q, V__law_equal__0_3_q, T__law_equal__0_4_q, T__law_equal__0_5_q]
def C__law_equal__0_6 : Den := dLC (iRange [(dApp lenF [.d (dVar 1)])]) [2] (.nm 2) C__law_equal__0_6_t C__law_equal__0_6_e
theorem C__law_equal__0_6_q (s0 s1 : PV) : C__law_equal__0_6 [.val s0, .val s1, .no] = ((lenF [s1]).bind fun t26 => (rgO1 t26).bind fun r27 => cmpM (fun (x24 : PV) => ((none : Option PV)).bind fun t28 => some t28) (rgL r27)).bind fun (k : List PV) => some (.lst k, [.val s0, .val s1, .no]) := by
  refine Eq.trans ?_ (mTail_eq _ _); simp! only [C__law_equal__0_6, q__law_is_integer, V__law_equal__0_1_q, V__law_equal__0_2_q, V__law_equal__0_3_q, T__law_equal__0_4_q, T__law_equal__0_5_q, C__law_equal__0_6_l]
def d__law_equal__0 : DenS := (sSeq (sIf (dB (dBin isNF (dVar 1) (dC .non))) (sSeq (sRetK [0, 1, 2] (dBin isNF (dVar 0) (dC .non))) sNil) sNil) (sSeq (sIf (dTruth (.d (dIsI .bool (.d (dVar 1))))) (sSeq (sRetK [0, 1, 2] V__law_equal__0_1) sNil) sNil) (sSeq (sIf (dTruth (.d (dIsI .int (.d (dVar 1))))) (sSeq (sRetK [0, 1, 2] V__law_equal__0_2) sNil) sNil) (sSeq (sIf (dTruth (.d (dIsI .str (.d (dVar 1))))) (sSeq (sRetK [0, 1, 2] V__law_equal__0_3) sNil) sNil) (sSeq (sIf T__law_equal__0_4 (sSeq (sRetK [0, 1, 2] (dC (.bl false))) sNil) sNil) (sSeq (sIf T__law_equal__0_5 (sSeq (sRetK [0, 1, 2] (dC (.bl false))) sNil) sNil) (sSeq (sIf (dB (dBin neF (dApp lenF [.d (dVar 0)]) (dApp lenF [.d (dVar 1)]))) (sSeq (sRetK [0, 1, 2] (dC (.bl false))) sNil) sNil) (sSeq (sRetK [0, 1, 2] (dApp allF [.d C__law_equal__0_6])) sNil))))))))
def s__law_equal__0 : PP.Sem := runF [] 1 d__law_equal__0
def m__law_equal__0 (s0 s1 : PV) : Option (PV) := (isNF s1 .non).bind fun t1 => (asBl t1).bind fun b2 => if b2 = true then (isNF s0 .non).bind fun t3 => some t3 else (truthF (.bl (isTy .bool s1))).bind fun b4 => if b4 = true then (mAV (.bl (isTy .bool s0)) ((eqF s0 s1).bind fun t5 => some t5)).bind fun (t6 : PV) => some t6 else (truthF (.bl (isTy .int s1))).bind fun b7 => if b7 = true then ((m__law_is_integer s0).bind fun (t8 : PV) => mAV t8 ((eqF s0 s1).bind fun t9 => some t9)).bind fun (t10 : PV) => some t10 else (truthF (.bl (isTy .str s1))).bind fun b11 => if b11 = true then (mAV (.bl (isTy .str s0)) ((eqF s0 s1).bind fun t12 => some t12)).bind fun (t13 : PV) => some t13 else ((truthF (.bl (isTy .tuple s1))).bind fun b14 => if b14 = true then (truthF (.bl (isTy .tuple s0))).bind fun b15 => some (!b15) else some false).bind fun (b16 : Bool) => if b16 = true then some (.bl false) else ((truthF (.bl (isTy .list s1))).bind fun b17 => if b17 = true then (truthF (.bl (isTy .list s0))).bind fun b18 => some (!b18) else some false).bind fun (b19 : Bool) => if b19 = true then some (.bl false) else (lenF [s0]).bind fun t20 => (lenF [s1]).bind fun t21 => (neF t20 t21).bind fun t22 => (asBl t22).bind fun b23 => if b23 = true then some (.bl false) else ((lenF [s1]).bind fun t26 => (rgO1 t26).bind fun r27 => cmpM (fun (x24 : PV) => ((none : Option PV)).bind fun t28 => some t28) (rgL r27)).bind fun (y29 : List PV) => (allF [(.lst y29)]).bind fun t30 => some t30
theorem q__law_equal__0 (s0 s1 : PV) : s__law_equal__0 [s0, s1] = (m__law_equal__0 s0 s1).bind fun (r : PV) => some (r, [s0, s1]) := by
  refine Eq.trans ?_ (mTail_eq _ _); simp! only [s__law_equal__0, d__law_equal__0, m__law_equal__0, runF_ev, q__law_is_integer, V__law_equal__0_1_q, V__law_equal__0_2_q, V__law_equal__0_3_q, T__law_equal__0_4_q, T__law_equal__0_5_q, C__law_equal__0_6_l, C__law_equal__0_6_q]
def V__law_equal__1_1 : Den := (dAndV (dIsI .bool (.d (dVar 0))) (dBin eqF (dVar 0) (dVar 1)))
theorem V__law_equal__1_1_q (s0 s1 : PV) : V__law_equal__1_1 [.val s0, .val s1, .no] = (mAV (.bl (isTy .bool s0)) ((eqF s0 s1).bind fun t5 => some t5)).bind fun (k : PV) => some (k, [.val s0, .val s1, .no]) := by
  refine Eq.trans ?_ (mTail_eq _ _); simp! only [V__law_equal__1_1, q__law_is_integer, q__law_equal__0]
def V__law_equal__1_2 : Den := (dAndV (dCall s__law_is_integer [.d (dVar 0)]) (dBin eqF (dVar 0) (dVar 1)))
theorem V__law_equal__1_2_q (s0 s1 : PV) : V__law_equal__1_2 [.val s0, .val s1, .no] = ((m__law_is_integer s0).bind fun (t8 : PV) => mAV t8 ((eqF s0 s1).bind fun t9 => some t9)).bind fun (k : PV) => some (k, [.val s0, .val s1, .no]) := by
  refine Eq.trans ?_ (mTail_eq _ _); simp! only [V__law_equal__1_2, q__law_is_integer, q__law_equal__0, V__law_equal__1_1_q]
def V__law_equal__1_3 : Den := (dAndV (dIsI .str (.d (dVar 0))) (dBin eqF (dVar 0) (dVar 1)))
theorem V__law_equal__1_3_q (s0 s1 : PV) : V__law_equal__1_3 [.val s0, .val s1, .no] = (mAV (.bl (isTy .str s0)) ((eqF s0 s1).bind fun t12 => some t12)).bind fun (k : PV) => some (k, [.val s0, .val s1, .no]) := by
  refine Eq.trans ?_ (mTail_eq _ _); simp! only [V__law_equal__1_3, q__law_is_integer, q__law_equal__0, V__law_equal__1_1_q, V__law_equal__1_2_q]
def T__law_equal__1_4 : DenT := (dAnd (dTruth (.d (dIsI .tuple (.d (dVar 1))))) (dNot (dTruth (.d (dIsI .tuple (.d (dVar 0)))))))
theorem T__law_equal__1_4_q (s0 s1 : PV) : T__law_equal__1_4 [.val s0, .val s1, .no] = ((truthF (.bl (isTy .tuple s1))).bind fun b14 => if b14 = true then (truthF (.bl (isTy .tuple s0))).bind fun b15 => some (!b15) else some false).bind fun (k : Bool) => some (k, [.val s0, .val s1, .no]) := by
  refine Eq.trans ?_ (mTail_eq _ _); simp! only [T__law_equal__1_4, q__law_is_integer, q__law_equal__0, V__law_equal__1_1_q, V__law_equal__1_2_q, V__law_equal__1_3_q]
def T__law_equal__1_5 : DenT := (dAnd (dTruth (.d (dIsI .list (.d (dVar 1))))) (dNot (dTruth (.d (dIsI .list (.d (dVar 0)))))))
theorem T__law_equal__1_5_q (s0 s1 : PV) : T__law_equal__1_5 [.val s0, .val s1, .no] = ((truthF (.bl (isTy .list s1))).bind fun b17 => if b17 = true then (truthF (.bl (isTy .list s0))).bind fun b18 => some (!b18) else some false).bind fun (k : Bool) => some (k, [.val s0, .val s1, .no]) := by
  refine Eq.trans ?_ (mTail_eq _ _); simp! only [T__law_equal__1_5, q__law_is_integer, q__law_equal__0, V__law_equal__1_1_q, V__law_equal__1_2_q, V__law_equal__1_3_q, T__law_equal__1_4_q]
def C__law_equal__1_6_e : Den := (dCall s__law_equal__0 [.d (dBin getF (dVar 0) (dVar 2)), .d (dBin getF (dVar 1) (dVar 2))])
def C__law_equal__1_6_t : DenT := dYes
theorem C__law_equal__1_6_l (s0 s1 : PV) (xs : List PV) : lcF (.nm 2) C__law_equal__1_6_t C__law_equal__1_6_e [2] xs [.val s0, .val s1, .no] = (cmpM (fun (x24 : PV) => (getF s0 x24).bind fun t28 => (getF s1 x24).bind fun t29 => (m__law_equal__0 t28 t29).bind fun (t30 : PV) => some t30) xs).bind fun ys => some (ys, [.val s0, .val s1, .no]) := by
  refine lc_M (e := [.val s0, .val s1, .no]) _ ?_ xs
  intro x; refine Eq.trans ?_ (mTail_eq _ _); simp! only [C__law_equal__1_6_e, C__law_equal__1_6_t, q__law_is_integer, q__law_equal__0, V__law_equal__1_1_q, V__law_equal__1_2_q, V__law_equal__1_3_q, T__law_equal__1_4_q, T__law_equal__1_5_q]
def C__law_equal__1_6 : Den := dLC (iRange [(dApp lenF [.d (dVar 1)])]) [2] (.nm 2) C__law_equal__1_6_t C__law_equal__1_6_e
theorem C__law_equal__1_6_q (s0 s1 : PV) : C__law_equal__1_6 [.val s0, .val s1, .no] = ((lenF [s1]).bind fun t26 => (rgO1 t26).bind fun r27 => cmpM (fun (x24 : PV) => (getF s0 x24).bind fun t28 => (getF s1 x24).bind fun t29 => (m__law_equal__0 t28 t29).bind fun (t30 : PV) => some t30) (rgL r27)).bind fun (k : List PV) => some (.lst k, [.val s0, .val s1, .no]) := by
  refine Eq.trans ?_ (mTail_eq _ _); simp! only [C__law_equal__1_6, q__law_is_integer, q__law_equal__0, V__law_equal__1_1_q, V__law_equal__1_2_q, V__law_equal__1_3_q, T__law_equal__1_4_q, T__law_equal__1_5_q, C__law_equal__1_6_l]
def d__law_equal__1 : DenS := (sSeq (sIf (dB (dBin isNF (dVar 1) (dC .non))) (sSeq (sRetK [0, 1, 2] (dBin isNF (dVar 0) (dC .non))) sNil) sNil) (sSeq (sIf (dTruth (.d (dIsI .bool (.d (dVar 1))))) (sSeq (sRetK [0, 1, 2] V__law_equal__1_1) sNil) sNil) (sSeq (sIf (dTruth (.d (dIsI .int (.d (dVar 1))))) (sSeq (sRetK [0, 1, 2] V__law_equal__1_2) sNil) sNil) (sSeq (sIf (dTruth (.d (dIsI .str (.d (dVar 1))))) (sSeq (sRetK [0, 1, 2] V__law_equal__1_3) sNil) sNil) (sSeq (sIf T__law_equal__1_4 (sSeq (sRetK [0, 1, 2] (dC (.bl false))) sNil) sNil) (sSeq (sIf T__law_equal__1_5 (sSeq (sRetK [0, 1, 2] (dC (.bl false))) sNil) sNil) (sSeq (sIf (dB (dBin neF (dApp lenF [.d (dVar 0)]) (dApp lenF [.d (dVar 1)]))) (sSeq (sRetK [0, 1, 2] (dC (.bl false))) sNil) sNil) (sSeq (sRetK [0, 1, 2] (dApp allF [.d C__law_equal__1_6])) sNil))))))))
def s__law_equal__1 : PP.Sem := runF [] 1 d__law_equal__1
def m__law_equal__1 (s0 s1 : PV) : Option (PV) := (isNF s1 .non).bind fun t1 => (asBl t1).bind fun b2 => if b2 = true then (isNF s0 .non).bind fun t3 => some t3 else (truthF (.bl (isTy .bool s1))).bind fun b4 => if b4 = true then (mAV (.bl (isTy .bool s0)) ((eqF s0 s1).bind fun t5 => some t5)).bind fun (t6 : PV) => some t6 else (truthF (.bl (isTy .int s1))).bind fun b7 => if b7 = true then ((m__law_is_integer s0).bind fun (t8 : PV) => mAV t8 ((eqF s0 s1).bind fun t9 => some t9)).bind fun (t10 : PV) => some t10 else (truthF (.bl (isTy .str s1))).bind fun b11 => if b11 = true then (mAV (.bl (isTy .str s0)) ((eqF s0 s1).bind fun t12 => some t12)).bind fun (t13 : PV) => some t13 else ((truthF (.bl (isTy .tuple s1))).bind fun b14 => if b14 = true then (truthF (.bl (isTy .tuple s0))).bind fun b15 => some (!b15) else some false).bind fun (b16 : Bool) => if b16 = true then some (.bl false) else ((truthF (.bl (isTy .list s1))).bind fun b17 => if b17 = true then (truthF (.bl (isTy .list s0))).bind fun b18 => some (!b18) else some false).bind fun (b19 : Bool) => if b19 = true then some (.bl false) else (lenF [s0]).bind fun t20 => (lenF [s1]).bind fun t21 => (neF t20 t21).bind fun t22 => (asBl t22).bind fun b23 => if b23 = true then some (.bl false) else ((lenF [s1]).bind fun t26 => (rgO1 t26).bind fun r27 => cmpM (fun (x24 : PV) => (getF s0 x24).bind fun t28 => (getF s1 x24).bind fun t29 => (m__law_equal__0 t28 t29).bind fun (t30 : PV) => some t30) (rgL r27)).bind fun (y31 : List PV) => (allF [(.lst y31)]).bind fun t32 => some t32
theorem q__law_equal__1 (s0 s1 : PV) : s__law_equal__1 [s0, s1] = (m__law_equal__1 s0 s1).bind fun (r : PV) => some (r, [s0, s1]) := by
  refine Eq.trans ?_ (mTail_eq _ _); simp! only [s__law_equal__1, d__law_equal__1, m__law_equal__1, runF_ev, q__law_is_integer, q__law_equal__0, V__law_equal__1_1_q, V__law_equal__1_2_q, V__law_equal__1_3_q, T__law_equal__1_4_q, T__law_equal__1_5_q, C__law_equal__1_6_l, C__law_equal__1_6_q]
def V__law_equal__2_1 : Den := (dAndV (dIsI .bool (.d (dVar 0))) (dBin eqF (dVar 0) (dVar 1)))
theorem V__law_equal__2_1_q (s0 s1 : PV) : V__law_equal__2_1 [.val s0, .val s1, .no] = (mAV (.bl (isTy .bool s0)) ((eqF s0 s1).bind fun t5 => some t5)).bind fun (k : PV) => some (k, [.val s0, .val s1, .no]) := by
  refine Eq.trans ?_ (mTail_eq _ _); simp! only [V__law_equal__2_1, q__law_is_integer, q__law_equal__1]
def V__law_equal__2_2 : Den := (dAndV (dCall s__law_is_integer [.d (dVar 0)]) (dBin eqF (dVar 0) (dVar 1)))
theorem V__law_equal__2_2_q (s0 s1 : PV) : V__law_equal__2_2 [.val s0, .val s1, .no] = ((m__law_is_integer s0).bind fun (t8 : PV) => mAV t8 ((eqF s0 s1).bind fun t9 => some t9)).bind fun (k : PV) => some (k, [.val s0, .val s1, .no]) := by
  refine Eq.trans ?_ (mTail_eq _ _); simp! only [V__law_equal__2_2, q__law_is_integer, q__law_equal__1, V__law_equal__2_1_q]
def V__law_equal__2_3 : Den := (dAndV (dIsI .str (.d (dVar 0))) (dBin eqF (dVar 0) (dVar 1)))
theorem V__law_equal__2_3_q (s0 s1 : PV) : V__law_equal__2_3 [.val s0, .val s1, .no] = (mAV (.bl (isTy .str s0)) ((eqF s0 s1).bind fun t12 => some t12)).bind fun (k : PV) => some (k, [.val s0, .val s1, .no]) := by
  refine Eq.trans ?_ (mTail_eq _ _); simp! only [V__law_equal__2_3, q__law_is_integer, q__law_equal__1, V__law_equal__2_1_q, V__law_equal__2_2_q]
def T__law_equal__2_4 : DenT := (dAnd (dTruth (.d (dIsI .tuple (.d (dVar 1))))) (dNot (dTruth (.d (dIsI .tuple (.d (dVar 0)))))))
theorem T__law_equal__2_4_q (s0 s1 : PV) : T__law_equal__2_4 [.val s0, .val s1, .no] = ((truthF (.bl (isTy .tuple s1))).bind fun b14 => if b14 = true then (truthF (.bl (isTy .tuple s0))).bind fun b15 => some (!b15) else some false).bind fun (k : Bool) => some (k, [.val s0, .val s1, .no]) := by
  refine Eq.trans ?_ (mTail_eq _ _); simp! only [T__law_equal__2_4, q__law_is_integer, q__law_equal__1, V__law_equal__2_1_q, V__law_equal__2_2_q, V__law_equal__2_3_q]
def T__law_equal__2_5 : DenT := (dAnd (dTruth (.d (dIsI .list (.d (dVar 1))))) (dNot (dTruth (.d (dIsI .list (.d (dVar 0)))))))
theorem T__law_equal__2_5_q (s0 s1 : PV) : T__law_equal__2_5 [.val s0, .val s1, .no] = ((truthF (.bl (isTy .list s1))).bind fun b17 => if b17 = true then (truthF (.bl (isTy .list s0))).bind fun b18 => some (!b18) else some false).bind fun (k : Bool) => some (k, [.val s0, .val s1, .no]) := by
  refine Eq.trans ?_ (mTail_eq _ _); simp! only [T__law_equal__2_5, q__law_is_integer, q__law_equal__1, V__law_equal__2_1_q, V__law_equal__2_2_q, V__law_equal__2_3_q, T__law_equal__2_4_q]
def C__law_equal__2_6_e : Den := (dCall s__law_equal__1 [.d (dBin getF (dVar 0) (dVar 2)), .d (dBin getF (dVar 1) (dVar 2))])
def C__law_equal__2_6_t : DenT := dYes
theorem C__law_equal__2_6_l (s0 s1 : PV) (xs : List PV) : lcF (.nm 2) C__law_equal__2_6_t C__law_equal__2_6_e [2] xs [.val s0, .val s1, .no] = (cmpM (fun (x24 : PV) => (getF s0 x24).bind fun t28 => (getF s1 x24).bind fun t29 => (m__law_equal__1 t28 t29).bind fun (t30 : PV) => some t30) xs).bind fun ys => some (ys, [.val s0, .val s1, .no]) := by
  refine lc_M (e := [.val s0, .val s1, .no]) _ ?_ xs
  intro x; refine Eq.trans ?_ (mTail_eq _ _); simp! only [C__law_equal__2_6_e, C__law_equal__2_6_t, q__law_is_integer, q__law_equal__1, V__law_equal__2_1_q, V__law_equal__2_2_q, V__law_equal__2_3_q, T__law_equal__2_4_q, T__law_equal__2_5_q]
def C__law_equal__2_6 : Den := dLC (iRange [(dApp lenF [.d (dVar 1)])]) [2] (.nm 2) C__law_equal__2_6_t C__law_equal__2_6_e
theorem C__law_equal__2_6_q (s0 s1 : PV) : C__law_equal__2_6 [.val s0, .val s1, .no] = ((lenF [s1]).bind fun t26 => (rgO1 t26).bind fun r27 => cmpM (fun (x24 : PV) => (getF s0 x24).bind fun t28 => (getF s1 x24).bind fun t29 => (m__law_equal__1 t28 t29).bind fun (t30 : PV) => some t30) (rgL r27)).bind fun (k : List PV) => some (.lst k, [.val s0, .val s1, .no]) := by
  refine Eq.trans ?_ (mTail_eq _ _); simp! only [C__law_equal__2_6, q__law_is_integer, q__law_equal__1, V__law_equal__2_1_q, V__law_equal__2_2_q, V__law_equal__2_3_q, T__law_equal__2_4_q, T__law_equal__2_5_q, C__law_equal__2_6_l]
def d__law_equal__2 : DenS := (sSeq (sIf (dB (dBin isNF (dVar 1) (dC .non))) (sSeq (sRetK [0, 1, 2] (dBin isNF (dVar 0) (dC .non))) sNil) sNil) (sSeq (sIf (dTruth (.d (dIsI .bool (.d (dVar 1))))) (sSeq (sRetK [0, 1, 2] V__law_equal__2_1) sNil) sNil) (sSeq (sIf (dTruth (.d (dIsI .int (.d (dVar 1))))) (sSeq (sRetK [0, 1, 2] V__law_equal__2_2) sNil) sNil) (sSeq (sIf (dTruth (.d (dIsI .str (.d (dVar 1))))) (sSeq (sRetK [0, 1, 2] V__law_equal__2_3) sNil) sNil) (sSeq (sIf T__law_equal__2_4 (sSeq (sRetK [0, 1, 2] (dC (.bl false))) sNil) sNil) (sSeq (sIf T__law_equal__2_5 (sSeq (sRetK [0, 1, 2] (dC (.bl false))) sNil) sNil) (sSeq (sIf (dB (dBin neF (dApp lenF [.d (dVar 0)]) (dApp lenF [.d (dVar 1)]))) (sSeq (sRetK [0, 1, 2] (dC (.bl false))) sNil) sNil) (sSeq (sRetK [0, 1, 2] (dApp allF [.d C__law_equal__2_6])) sNil))))))))
def s__law_equal__2 : PP.Sem := runF [] 1 d__law_equal__2
def m__law_equal__2 (s0 s1 : PV) : Option (PV) := (isNF s1 .non).bind fun t1 => (asBl t1).bind fun b2 => if b2 = true then (isNF s0 .non).bind fun t3 => some t3 else (truthF (.bl (isTy .bool s1))).bind fun b4 => if b4 = true then (mAV (.bl (isTy .bool s0)) ((eqF s0 s1).bind fun t5 => some t5)).bind fun (t6 : PV) => some t6 else (truthF (.bl (isTy .int s1))).bind fun b7 => if b7 = true then ((m__law_is_integer s0).bind fun (t8 : PV) => mAV t8 ((eqF s0 s1).bind fun t9 => some t9)).bind fun (t10 : PV) => some t10 else (truthF (.bl (isTy .str s1))).bind fun b11 => if b11 = true then (mAV (.bl (isTy .str s0)) ((eqF s0 s1).bind fun t12 => some t12)).bind fun (t13 : PV) => some t13 else ((truthF (.bl (isTy .tuple s1))).bind fun b14 => if b14 = true then (truthF (.bl (isTy .tuple s0))).bind fun b15 => some (!b15) else some false).bind fun (b16 : Bool) => if b16 = true then some (.bl false) else ((truthF (.bl (isTy .list s1))).bind fun b17 => if b17 = true then (truthF (.bl (isTy .list s0))).bind fun b18 => some (!b18) else some false).bind fun (b19 : Bool) => if b19 = true then some (.bl false) else (lenF [s0]).bind fun t20 => (lenF [s1]).bind fun t21 => (neF t20 t21).bind fun t22 => (asBl t22).bind fun b23 => if b23 = true then some (.bl false) else ((lenF [s1]).bind fun t26 => (rgO1 t26).bind fun r27 => cmpM (fun (x24 : PV) => (getF s0 x24).bind fun t28 => (getF s1 x24).bind fun t29 => (m__law_equal__1 t28 t29).bind fun (t30 : PV) => some t30) (rgL r27)).bind fun (y31 : List PV) => (allF [(.lst y31)]).bind fun t32 => some t32
theorem q__law_equal__2 (s0 s1 : PV) : s__law_equal__2 [s0, s1] = (m__law_equal__2 s0 s1).bind fun (r : PV) => some (r, [s0, s1]) := by
  refine Eq.trans ?_ (mTail_eq _ _); simp! only [s__law_equal__2, d__law_equal__2, m__law_equal__2, runF_ev, q__law_is_integer, q__law_equal__1, V__law_equal__2_1_q, V__law_equal__2_2_q, V__law_equal__2_3_q, T__law_equal__2_4_q, T__law_equal__2_5_q, C__law_equal__2_6_l, C__law_equal__2_6_q]
def V__law_equal__3_1 : Den := (dAndV (dIsI .bool (.d (dVar 0))) (dBin eqF (dVar 0) (dVar 1)))
theorem V__law_equal__3_1_q (s0 s1 : PV) : V__law_equal__3_1 [.val s0, .val s1, .no] = (mAV (.bl (isTy .bool s0)) ((eqF s0 s1).bind fun t5 => some t5)).bind fun (k : PV) => some (k, [.val s0, .val s1, .no]) := by
  refine Eq.trans ?_ (mTail_eq _ _); simp! only [V__law_equal__3_1, q__law_is_integer, q__law_equal__2]
def V__law_equal__3_2 : Den := (dAndV (dCall s__law_is_integer [.d (dVar 0)]) (dBin eqF (dVar 0) (dVar 1)))
theorem V__law_equal__3_2_q (s0 s1 : PV) : V__law_equal__3_2 [.val s0, .val s1, .no] = ((m__law_is_integer s0).bind fun (t8 : PV) => mAV t8 ((eqF s0 s1).bind fun t9 => some t9)).bind fun (k : PV) => some (k, [.val s0, .val s1, .no]) := by
  refine Eq.trans ?_ (mTail_eq _ _); simp! only [V__law_equal__3_2, q__law_is_integer, q__law_equal__2, V__law_equal__3_1_q]
def V__law_equal__3_3 : Den := (dAndV (dIsI .str (.d (dVar 0))) (dBin eqF (dVar 0) (dVar 1)))
theorem V__law_equal__3_3_q (s0 s1 : PV) : V__law_equal__3_3 [.val s0, .val s1, .no] = (mAV (.bl (isTy .str s0)) ((eqF s0 s1).bind fun t12 => some t12)).bind fun (k : PV) => some (k, [.val s0, .val s1, .no]) := by
  refine Eq.trans ?_ (mTail_eq _ _); simp! only [V__law_equal__3_3, q__law_is_integer, q__law_equal__2, V__law_equal__3_1_q, V__law_equal__3_2_q]
def T__law_equal__3_4 : DenT := (dAnd (dTruth (.d (dIsI .tuple (.d (dVar 1))))) (dNot (dTruth (.d (dIsI .tuple (.d (dVar 0)))))))
theorem T__law_equal__3_4_q (s0 s1 : PV) : T__law_equal__3_4 [.val s0, .val s1, .no] = ((truthF (.bl (isTy .tuple s1))).bind fun b14 => if b14 = true then (truthF (.bl (isTy .tuple s0))).bind fun b15 => some (!b15) else some false).bind fun (k : Bool) => some (k, [.val s0, .val s1, .no]) := by
  refine Eq.trans ?_ (mTail_eq _ _); simp! only [T__law_equal__3_4, q__law_is_integer, q__law_equal__2, V__law_equal__3_1_q, V__law_equal__3_2_q, V__law_equal__3_3_q]
def T__law_equal__3_5 : DenT := (dAnd (dTruth (.d (dIsI .list (.d (dVar 1))))) (dNot (dTruth (.d (dIsI .list (.d (dVar 0)))))))
theorem T__law_equal__3_5_q (s0 s1 : PV) : T__law_equal__3_5 [.val s0, .val s1, .no] = ((truthF (.bl (isTy .list s1))).bind fun b17 => if b17 = true then (truthF (.bl (isTy .list s0))).bind fun b18 => some (!b18) else some false).bind fun (k : Bool) => some (k, [.val s0, .val s1, .no]) := by
  refine Eq.trans ?_ (mTail_eq _ _); simp! only [T__law_equal__3_5, q__law_is_integer, q__law_equal__2, V__law_equal__3_1_q, V__law_equal__3_2_q, V__law_equal__3_3_q, T__law_equal__3_4_q]
def C__law_equal__3_6_e : Den := (dCall s__law_equal__2 [.d (dBin getF (dVar 0) (dVar 2)), .d (dBin getF (dVar 1) (dVar 2))])
def C__law_equal__3_6_t : DenT := dYes
theorem C__law_equal__3_6_l (s0 s1 : PV) (xs : List PV) : lcF (.nm 2) C__law_equal__3_6_t C__law_equal__3_6_e [2] xs [.val s0, .val s1, .no] = (cmpM (fun (x24 : PV) => (getF s0 x24).bind fun t28 => (getF s1 x24).bind fun t29 => (m__law_equal__2 t28 t29).bind fun (t30 : PV) => some t30) xs).bind fun ys => some (ys, [.val s0, .val s1, .no]) := by
  refine lc_M (e := [.val s0, .val s1, .no]) _ ?_ xs
  intro x; refine Eq.trans ?_ (mTail_eq _ _); simp! only [C__law_equal__3_6_e, C__law_equal__3_6_t, q__law_is_integer, q__law_equal__2, V__law_equal__3_1_q, V__law_equal__3_2_q, V__law_equal__3_3_q, T__law_equal__3_4_q, T__law_equal__3_5_q]
def C__law_equal__3_6 : Den := dLC (iRange [(dApp lenF [.d (dVar 1)])]) [2] (.nm 2) C__law_equal__3_6_t C__law_equal__3_6_e
theorem C__law_equal__3_6_q (s0 s1 : PV) : C__law_equal__3_6 [.val s0, .val s1, .no] = ((lenF [s1]).bind fun t26 => (rgO1 t26).bind fun r27 => cmpM (fun (x24 : PV) => (getF s0 x24).bind fun t28 => (getF s1 x24).bind fun t29 => (m__law_equal__2 t28 t29).bind fun (t30 : PV) => some t30) (rgL r27)).bind fun (k : List PV) => some (.lst k, [.val s0, .val s1, .no]) := by
  refine Eq.trans ?_ (mTail_eq _ _); simp! only [C__law_equal__3_6, q__law_is_integer, q__law_equal__2, V__law_equal__3_1_q, V__law_equal__3_2_q, V__law_equal__3_3_q, T__law_equal__3_4_q, T__law_equal__3_5_q, C__law_equal__3_6_l]
def d__law_equal__3 : DenS := (sSeq (sIf (dB (dBin isNF (dVar 1) (dC .non))) (sSeq (sRetK [0, 1, 2] (dBin isNF (dVar 0) (dC .non))) sNil) sNil) (sSeq (sIf (dTruth (.d (dIsI .bool (.d (dVar 1))))) (sSeq (sRetK [0, 1, 2] V__law_equal__3_1) sNil) sNil) (sSeq (sIf (dTruth (.d (dIsI .int (.d (dVar 1))))) (sSeq (sRetK [0, 1, 2] V__law_equal__3_2) sNil) sNil) (sSeq (sIf (dTruth (.d (dIsI .str (.d (dVar 1))))) (sSeq (sRetK [0, 1, 2] V__law_equal__3_3) sNil) sNil) (sSeq (sIf T__law_equal__3_4 (sSeq (sRetK [0, 1, 2] (dC (.bl false))) sNil) sNil) (sSeq (sIf T__law_equal__3_5 (sSeq (sRetK [0, 1, 2] (dC (.bl false))) sNil) sNil) (sSeq (sIf (dB (dBin neF (dApp lenF [.d (dVar 0)]) (dApp lenF [.d (dVar 1)]))) (sSeq (sRetK [0, 1, 2] (dC (.bl false))) sNil) sNil) (sSeq (sRetK [0, 1, 2] (dApp allF [.d C__law_equal__3_6])) sNil))))))))
def s__law_equal__3 : PP.Sem := runF [] 1 d__law_equal__3
def m__law_equal__3 (s0 s1 : PV) : Option (PV) := (isNF s1 .non).bind fun t1 => (asBl t1).bind fun b2 => if b2 = true then (isNF s0 .non).bind fun t3 => some t3 else (truthF (.bl (isTy .bool s1))).bind fun b4 => if b4 = true then (mAV (.bl (isTy .bool s0)) ((eqF s0 s1).bind fun t5 => some t5)).bind fun (t6 : PV) => some t6 else (truthF (.bl (isTy .int s1))).bind fun b7 => if b7 = true then ((m__law_is_integer s0).bind fun (t8 : PV) => mAV t8 ((eqF s0 s1).bind fun t9 => some t9)).bind fun (t10 : PV) => some t10 else (truthF (.bl (isTy .str s1))).bind fun b11 => if b11 = true then (mAV (.bl (isTy .str s0)) ((eqF s0 s1).bind fun t12 => some t12)).bind fun (t13 : PV) => some t13 else ((truthF (.bl (isTy .tuple s1))).bind fun b14 => if b14 = true then (truthF (.bl (isTy .tuple s0))).bind fun b15 => some (!b15) else some false).bind fun (b16 : Bool) => if b16 = true then some (.bl false) else ((truthF (.bl (isTy .list s1))).bind fun b17 => if b17 = true then (truthF (.bl (isTy .list s0))).bind fun b18 => some (!b18) else some false).bind fun (b19 : Bool) => if b19 = true then some (.bl false) else (lenF [s0]).bind fun t20 => (lenF [s1]).bind fun t21 => (neF t20 t21).bind fun t22 => (asBl t22).bind fun b23 => if b23 = true then some (.bl false) else ((lenF [s1]).bind fun t26 => (rgO1 t26).bind fun r27 => cmpM (fun (x24 : PV) => (getF s0 x24).bind fun t28 => (getF s1 x24).bind fun t29 => (m__law_equal__2 t28 t29).bind fun (t30 : PV) => some t30) (rgL r27)).bind fun (y31 : List PV) => (allF [(.lst y31)]).bind fun t32 => some t32
theorem q__law_equal__3 (s0 s1 : PV) : s__law_equal__3 [s0, s1] = (m__law_equal__3 s0 s1).bind fun (r : PV) => some (r, [s0, s1]) := by
  refine Eq.trans ?_ (mTail_eq _ _); simp! only [s__law_equal__3, d__law_equal__3, m__law_equal__3, runF_ev, q__law_is_integer, q__law_equal__2, V__law_equal__3_1_q, V__law_equal__3_2_q, V__law_equal__3_3_q, T__law_equal__3_4_q, T__law_equal__3_5_q, C__law_equal__3_6_l, C__law_equal__3_6_q]
def V__law_equal__4_1 : Den := (dAndV (dIsI .bool (.d (dVar 0))) (dBin eqF (dVar 0) (dVar 1)))
theorem V__law_equal__4_1_q (s0 s1 : PV) : V__law_equal__4_1 [.val s0, .val s1, .no] = (mAV (.bl (isTy .bool s0)) ((eqF s0 s1).bind fun t5 => some t5)).bind fun (k : PV) => some (k, [.val s0, .val s1, .no]) := by
  refine Eq.trans ?_ (mTail_eq _ _); simp! only [V__law_equal__4_1, q__law_is_integer, q__law_equal__3]
def V__law_equal__4_2 : Den := (dAndV (dCall s__law_is_integer [.d (dVar 0)]) (dBin eqF (dVar 0) (dVar 1)))
theorem V__law_equal__4_2_q (s0 s1 : PV) : V__law_equal__4_2 [.val s0, .val s1, .no] = ((m__law_is_integer s0).bind fun (t8 : PV) => mAV t8 ((eqF s0 s1).bind fun t9 => some t9)).bind fun (k : PV) => some (k, [.val s0, .val s1, .no]) := by
  refine Eq.trans ?_ (mTail_eq _ _); simp! only [V__law_equal__4_2, q__law_is_integer, q__law_equal__3, V__law_equal__4_1_q]
def V__law_equal__4_3 : Den := (dAndV (dIsI .str (.d (dVar 0))) (dBin eqF (dVar 0) (dVar 1)))
theorem V__law_equal__4_3_q (s0 s1 : PV) : V__law_equal__4_3 [.val s0, .val s1, .no] = (mAV (.bl (isTy .str s0)) ((eqF s0 s1).bind fun t12 => some t12)).bind fun (k : PV) => some (k, [.val s0, .val s1, .no]) := by
  refine Eq.trans ?_ (mTail_eq _ _); simp! only [V__law_equal__4_3, q__law_is_integer, q__law_equal__3, V__law_equal__4_1_q, V__law_equal__4_2_q]
def T__law_equal__4_4 : DenT := (dAnd (dTruth (.d (dIsI .tuple (.d (dVar 1))))) (dNot (dTruth (.d (dIsI .tuple (.d (dVar 0)))))))
theorem T__law_equal__4_4_q (s0 s1 : PV) : T__law_equal__4_4 [.val s0, .val s1, .no] = ((truthF (.bl (isTy .tuple s1))).bind fun b14 => if b14 = true then (truthF (.bl (isTy .tuple s0))).bind fun b15 => some (!b15) else some false).bind fun (k : Bool) => some (k, [.val s0, .val s1, .no]) := by
  refine Eq.trans ?_ (mTail_eq _ _); simp! only [T__law_equal__4_4, q__law_is_integer, q__law_equal__3, V__law_equal__4_1_q, V__law_equal__4_2_q, V__law_equal__4_3_q]
def T__law_equal__4_5 : DenT := (dAnd (dTruth (.d (dIsI .list (.d (dVar 1))))) (dNot (dTruth (.d (dIsI .list (.d (dVar 0)))))))
theorem T__law_equal__4_5_q (s0 s1 : PV) : T__law_equal__4_5 [.val s0, .val s1, .no] = ((truthF (.bl (isTy .list s1))).bind fun b17 => if b17 = true then (truthF (.bl (isTy .list s0))).bind fun b18 => some (!b18) else some false).bind fun (k : Bool) => some (k, [.val s0, .val s1, .no]) := by
  refine Eq.trans ?_ (mTail_eq _ _); simp! only [T__law_equal__4_5, q__law_is_integer, q__law_equal__3, V__law_equal__4_1_q, V__law_equal__4_2_q, V__law_equal__4_3_q, T__law_equal__4_4_q]
def C__law_equal__4_6_e : Den := (dCall s__law_equal__3 [.d (dBin getF (dVar 0) (dVar 2)), .d (dBin getF (dVar 1) (dVar 2))])
def C__law_equal__4_6_t : DenT := dYes
theorem C__law_equal__4_6_l (s0 s1 : PV) (xs : List PV) : lcF (.nm 2) C__law_equal__4_6_t C__law_equal__4_6_e [2] xs [.val s0, .val s1, .no] = (cmpM (fun (x24 : PV) => (getF s0 x24).bind fun t28 => (getF s1 x24).bind fun t29 => (m__law_equal__3 t28 t29).bind fun (t30 : PV) => some t30) xs).bind fun ys => some (ys, [.val s0, .val s1, .no]) := by
  refine lc_M (e := [.val s0, .val s1, .no]) _ ?_ xs
  intro x; refine Eq.trans ?_ (mTail_eq _ _); simp! only [C__law_equal__4_6_e, C__law_equal__4_6_t, q__law_is_integer, q__law_equal__3, V__law_equal__4_1_q, V__law_equal__4_2_q, V__law_equal__4_3_q, T__law_equal__4_4_q, T__law_equal__4_5_q]
def C__law_equal__4_6 : Den := dLC (iRange [(dApp lenF [.d (dVar 1)])]) [2] (.nm 2) C__law_equal__4_6_t C__law_equal__4_6_e
theorem C__law_equal__4_6_q (s0 s1 : PV) : C__law_equal__4_6 [.val s0, .val s1, .no] = ((lenF [s1]).bind fun t26 => (rgO1 t26).bind fun r27 => cmpM (fun (x24 : PV) => (getF s0 x24).bind fun t28 => (getF s1 x24).bind fun t29 => (m__law_equal__3 t28 t29).bind fun (t30 : PV) => some t30) (rgL r27)).bind fun (k : List PV) => some (.lst k, [.val s0, .val s1, .no]) := by
  refine Eq.trans ?_ (mTail_eq _ _); simp! only [C__law_equal__4_6, q__law_is_integer, q__law_equal__3, V__law_equal__4_1_q, V__law_equal__4_2_q, V__law_equal__4_3_q, T__law_equal__4_4_q, T__law_equal__4_5_q, C__law_equal__4_6_l]
def d__law_equal__4 : DenS := (sSeq (sIf (dB (dBin isNF (dVar 1) (dC .non))) (sSeq (sRetK [0, 1, 2] (dBin isNF (dVar 0) (dC .non))) sNil) sNil) (sSeq (sIf (dTruth (.d (dIsI .bool (.d (dVar 1))))) (sSeq (sRetK [0, 1, 2] V__law_equal__4_1) sNil) sNil) (sSeq (sIf (dTruth (.d (dIsI .int (.d (dVar 1))))) (sSeq (sRetK [0, 1, 2] V__law_equal__4_2) sNil) sNil) (sSeq (sIf (dTruth (.d (dIsI .str (.d (dVar 1))))) (sSeq (sRetK [0, 1, 2] V__law_equal__4_3) sNil) sNil) (sSeq (sIf T__law_equal__4_4 (sSeq (sRetK [0, 1, 2] (dC (.bl false))) sNil) sNil) (sSeq (sIf T__law_equal__4_5 (sSeq (sRetK [0, 1, 2] (dC (.bl false))) sNil) sNil) (sSeq (sIf (dB (dBin neF (dApp lenF [.d (dVar 0)]) (dApp lenF [.d (dVar 1)]))) (sSeq (sRetK [0, 1, 2] (dC (.bl false))) sNil) sNil) (sSeq (sRetK [0, 1, 2] (dApp allF [.d C__law_equal__4_6])) sNil))))))))
def s__law_equal__4 : PP.Sem := runF [] 1 d__law_equal__4
def m__law_equal__4 (s0 s1 : PV) : Option (PV) := (isNF s1 .non).bind fun t1 => (asBl t1).bind fun b2 => if b2 = true then (isNF s0 .non).bind fun t3 => some t3 else (truthF (.bl (isTy .bool s1))).bind fun b4 => if b4 = true then (mAV (.bl (isTy .bool s0)) ((eqF s0 s1).bind fun t5 => some t5)).bind fun (t6 : PV) => some t6 else (truthF (.bl (isTy .int s1))).bind fun b7 => if b7 = true then ((m__law_is_integer s0).bind fun (t8 : PV) => mAV t8 ((eqF s0 s1).bind fun t9 => some t9)).bind fun (t10 : PV) => some t10 else (truthF (.bl (isTy .str s1))).bind fun b11 => if b11 = true then (mAV (.bl (isTy .str s0)) ((eqF s0 s1).bind fun t12 => some t12)).bind fun (t13 : PV) => some t13 else ((truthF (.bl (isTy .tuple s1))).bind fun b14 => if b14 = true then (truthF (.bl (isTy .tuple s0))).bind fun b15 => some (!b15) else some false).bind fun (b16 : Bool) => if b16 = true then some (.bl false) else ((truthF (.bl (isTy .list s1))).bind fun b17 => if b17 = true then (truthF (.bl (isTy .list s0))).bind fun b18 => some (!b18) else some false).bind fun (b19 : Bool) => if b19 = true then some (.bl false) else (lenF [s0]).bind fun t20 => (lenF [s1]).bind fun t21 => (neF t20 t21).bind fun t22 => (asBl t22).bind fun b23 => if b23 = true then some (.bl false) else ((lenF [s1]).bind fun t26 => (rgO1 t26).bind fun r27 => cmpM (fun (x24 : PV) => (getF s0 x24).bind fun t28 => (getF s1 x24).bind fun t29 => (m__law_equal__3 t28 t29).bind fun (t30 : PV) => some t30) (rgL r27)).bind fun (y31 : List PV) => (allF [(.lst y31)]).bind fun t32 => some t32
theorem q__law_equal__4 (s0 s1 : PV) : s__law_equal__4 [s0, s1] = (m__law_equal__4 s0 s1).bind fun (r : PV) => some (r, [s0, s1]) := by
  refine Eq.trans ?_ (mTail_eq _ _); simp! only [s__law_equal__4, d__law_equal__4, m__law_equal__4, runF_ev, q__law_is_integer, q__law_equal__3, V__law_equal__4_1_q, V__law_equal__4_2_q, V__law_equal__4_3_q, T__law_equal__4_4_q, T__law_equal__4_5_q, C__law_equal__4_6_l, C__law_equal__4_6_q]
def V_is_whole_2 : Den := dChain leF leF (dVar 1) (dVar 0) (dVar 2)
theorem V_is_whole_2_q (s0 s1 s2 : PV) : V_is_whole_2 [.val s0, .val s1, .val s2] = ((leF s1 s0).bind fun t2 => mAV t2 ((leF s0 s2).bind fun t3 => some t3)).bind fun (k : PV) => some (k, [.val s0, .val s1, .val s2]) := by
  refine Eq.trans ?_ (mTail_eq _ _); simp! only [V_is_whole_2]
def V_is_whole_1 : Den := (dAndV (dIsI .int (.d (dVar 0))) (dAndV (dUn notF (dIsI .bool (.d (dVar 0)))) V_is_whole_2))
theorem V_is_whole_1_q (s0 s1 s2 : PV) : V_is_whole_1 [.val s0, .val s1, .val s2] = (mAV (.bl (isTy .int s0)) ((notF (.bl (isTy .bool s0))).bind fun t1 => mAV t1 (((leF s1 s0).bind fun t2 => mAV t2 ((leF s0 s2).bind fun t3 => some t3)).bind fun (t4 : PV) => some t4))).bind fun (k : PV) => some (k, [.val s0, .val s1, .val s2]) := by
  refine Eq.trans ?_ (mTail_eq _ _); simp! only [V_is_whole_1, V_is_whole_2_q]
def d_is_whole : DenS := (sSeq (sRetK [0, 1, 2] V_is_whole_1) sNil)
def s_is_whole : PP.Sem := runF [] 0 d_is_whole
def m_is_whole (s0 s1 s2 : PV) : Option (PV) := (mAV (.bl (isTy .int s0)) ((notF (.bl (isTy .bool s0))).bind fun t1 => mAV t1 (((leF s1 s0).bind fun t2 => mAV t2 ((leF s0 s2).bind fun t3 => some t3)).bind fun (t4 : PV) => some t4))).bind fun (t5 : PV) => some t5
theorem q_is_whole (s0 s1 s2 : PV) : s_is_whole [s0, s1, s2] = (m_is_whole s0 s1 s2).bind fun (r : PV) => some (r, [s0, s1, s2]) := by
  refine Eq.trans ?_ (mTail_eq _ _); simp! only [s_is_whole, d_is_whole, m_is_whole, runF_ev, V_is_whole_2_q, V_is_whole_1_q]
def C_is_climbing_1_e : Den := (dBin ltF (dBin getF (dVar 0) (dVar 1)) (dBin getF (dVar 0) (dBin addF (dVar 1) (dC (.int 1)))))
def C_is_climbing_1_t : DenT := dYes
theorem C_is_climbing_1_l (s0 : PV) (xs : List PV) : lcF (.nm 1) C_is_climbing_1_t C_is_climbing_1_e [1] xs [.val s0, .no] = (cmpM (fun (x1 : PV) => (getF s0 x1).bind fun t6 => (addF x1 (.int 1)).bind fun t7 => (getF s0 t7).bind fun t8 => (ltF t6 t8).bind fun t9 => some t9) xs).bind fun ys => some (ys, [.val s0, .no]) := by
  refine lc_M (e := [.val s0, .no]) _ ?_ xs
  intro x; refine Eq.trans ?_ (mTail_eq _ _); simp! only [C_is_climbing_1_e, C_is_climbing_1_t]
def C_is_climbing_1 : Den := dLC (iRange [(dBin subF (dApp lenF [.d (dVar 0)]) (dC (.int 1)))]) [1] (.nm 1) C_is_climbing_1_t C_is_climbing_1_e
theorem C_is_climbing_1_q (s0 : PV) : C_is_climbing_1 [.val s0, .no] = ((lenF [s0]).bind fun t3 => (subF t3 (.int 1)).bind fun t4 => (rgO1 t4).bind fun r5 => cmpM (fun (x1 : PV) => (getF s0 x1).bind fun t6 => (addF x1 (.int 1)).bind fun t7 => (getF s0 t7).bind fun t8 => (ltF t6 t8).bind fun t9 => some t9) (rgL r5)).bind fun (k : List PV) => some (.lst k, [.val s0, .no]) := by
  refine Eq.trans ?_ (mTail_eq _ _); simp! only [C_is_climbing_1, C_is_climbing_1_l]
def d_is_climbing : DenS := (sSeq (sRetK [0, 1] (dApp allF [.d C_is_climbing_1])) sNil)
def s_is_climbing : PP.Sem := runF [] 1 d_is_climbing
def m_is_climbing (s0 : PV) : Option (PV) := ((lenF [s0]).bind fun t3 => (subF t3 (.int 1)).bind fun t4 => (rgO1 t4).bind fun r5 => cmpM (fun (x1 : PV) => (getF s0 x1).bind fun t6 => (addF x1 (.int 1)).bind fun t7 => (getF s0 t7).bind fun t8 => (ltF t6 t8).bind fun t9 => some t9) (rgL r5)).bind fun (y10 : List PV) => (allF [(.lst y10)]).bind fun t11 => some t11
theorem q_is_climbing (s0 : PV) : s_is_climbing [s0] = (m_is_climbing s0).bind fun (r : PV) => some (r, [s0]) := by
  refine Eq.trans ?_ (mTail_eq _ _); simp! only [s_is_climbing, d_is_climbing, m_is_climbing, runF_ev, C_is_climbing_1_l, C_is_climbing_1_q]
def C_are_variables_2_e : Den := (dCall s_is_whole [.d (dVar 1), .d (dC (.int 0)), .d (dC (.int 5))])
def C_are_variables_2_t : DenT := dYes
theorem C_are_variables_2_l (s0 : PV) (xs : List PV) : lcF (.nm 1) C_are_variables_2_t C_are_variables_2_e [1] xs [.val s0, .no] = (cmpM (fun (x2 : PV) => (m_is_whole x2 (.int 0) (.int 5)).bind fun (t5 : PV) => some t5) xs).bind fun ys => some (ys, [.val s0, .no]) := by
  refine lc_M (e := [.val s0, .no]) _ ?_ xs
  intro x; refine Eq.trans ?_ (mTail_eq _ _); simp! only [C_are_variables_2_e, C_are_variables_2_t, q_is_whole, q_is_climbing]
def C_are_variables_2 : Den := dLC (iSeq (dVar 0)) [1] (.nm 1) C_are_variables_2_t C_are_variables_2_e
theorem C_are_variables_2_q (s0 : PV) : C_are_variables_2 [.val s0, .no] = ((seqOf s0).bind fun l4 => cmpM (fun (x2 : PV) => (m_is_whole x2 (.int 0) (.int 5)).bind fun (t5 : PV) => some t5) l4).bind fun (k : List PV) => some (.lst k, [.val s0, .no]) := by
  refine Eq.trans ?_ (mTail_eq _ _); simp! only [C_are_variables_2, q_is_whole, q_is_climbing, C_are_variables_2_l]
def T_are_variables_1 : DenT := (dOr (dNot (dTruth (.d (dIsI .tuple (.d (dVar 0)))))) (dNot (dTruth (.d (dApp allF [.d C_are_variables_2])))))
theorem T_are_variables_1_q (s0 : PV) : T_are_variables_1 [.val s0, .no] = ((truthF (.bl (isTy .tuple s0))).bind fun b1 => if (!b1) = true then some true else ((seqOf s0).bind fun l4 => cmpM (fun (x2 : PV) => (m_is_whole x2 (.int 0) (.int 5)).bind fun (t5 : PV) => some t5) l4).bind fun (y6 : List PV) => (allF [(.lst y6)]).bind fun t7 => (truthF t7).bind fun b8 => some (!b8)).bind fun (k : Bool) => some (k, [.val s0, .no]) := by
  refine Eq.trans ?_ (mTail_eq _ _); simp! only [T_are_variables_1, q_is_whole, q_is_climbing, C_are_variables_2_l, C_are_variables_2_q]
def d_are_variables : DenS := (sSeq (sIf T_are_variables_1 (sSeq (sRetK [0, 1] (dC (.bl false))) sNil) sNil) (sSeq (sRetK [0, 1] (dCall s_is_climbing [.d (dVar 0)])) sNil))
def s_are_variables : PP.Sem := runF [] 1 d_are_variables
def m_are_variables (s0 : PV) : Option (PV) := ((truthF (.bl (isTy .tuple s0))).bind fun b1 => if (!b1) = true then some true else ((seqOf s0).bind fun l4 => cmpM (fun (x2 : PV) => (m_is_whole x2 (.int 0) (.int 5)).bind fun (t5 : PV) => some t5) l4).bind fun (y6 : List PV) => (allF [(.lst y6)]).bind fun t7 => (truthF t7).bind fun b8 => some (!b8)).bind fun (b9 : Bool) => if b9 = true then some (.bl false) else (m_is_climbing s0).bind fun (t10 : PV) => some t10
theorem q_are_variables (s0 : PV) : s_are_variables [s0] = (m_are_variables s0).bind fun (r : PV) => some (r, [s0]) := by
  refine Eq.trans ?_ (mTail_eq _ _); simp! only [s_are_variables, d_are_variables, m_are_variables, runF_ev, q_is_whole, q_is_climbing, C_are_variables_2_l, C_are_variables_2_q, T_are_variables_1_q]
def V_is_scope_1 : Den := (dAndV (dCall s_are_variables [.d (dVar 0)]) (dBin leF (dApp lenF [.d (dVar 0)]) (dC (.int 3))))
theorem V_is_scope_1_q (s0 : PV) : V_is_scope_1 [.val s0] = ((m_are_variables s0).bind fun (t1 : PV) => mAV t1 ((lenF [s0]).bind fun t2 => (leF t2 (.int 3)).bind fun t3 => some t3)).bind fun (k : PV) => some (k, [.val s0]) := by
  refine Eq.trans ?_ (mTail_eq _ _); simp! only [V_is_scope_1, q_are_variables]
def d_is_scope : DenS := (sSeq (sRetK [0] V_is_scope_1) sNil)
def s_is_scope : PP.Sem := runF [] 0 d_is_scope
def m_is_scope (s0 : PV) : Option (PV) := ((m_are_variables s0).bind fun (t1 : PV) => mAV t1 ((lenF [s0]).bind fun t2 => (leF t2 (.int 3)).bind fun t3 => some t3)).bind fun (t4 : PV) => some t4
theorem q_is_scope (s0 : PV) : s_is_scope [s0] = (m_is_scope s0).bind fun (r : PV) => some (r, [s0]) := by
  refine Eq.trans ?_ (mTail_eq _ _); simp! only [s_is_scope, d_is_scope, m_is_scope, runF_ev, q_are_variables, V_is_scope_1_q]
def V_are_scopes_2 : Den := dChain leF leF (dC (.int 1)) (dApp lenF [.d (dVar 0)]) (dC (.int 5))
theorem V_are_scopes_2_q (s0 : PV) : V_are_scopes_2 [.val s0, .no] = ((lenF [s0]).bind fun t1 => (leF (.int 1) t1).bind fun t2 => mAV t2 ((leF t1 (.int 5)).bind fun t3 => some t3)).bind fun (k : PV) => some (k, [.val s0, .no]) := by
  refine Eq.trans ?_ (mTail_eq _ _); simp! only [V_are_scopes_2, q_is_scope]
def C_are_scopes_3_e : Den := (dCall s_is_scope [.d (dVar 1)])
def C_are_scopes_3_t : DenT := dYes
theorem C_are_scopes_3_l (s0 : PV) (xs : List PV) : lcF (.nm 1) C_are_scopes_3_t C_are_scopes_3_e [1] xs [.val s0, .no] = (cmpM (fun (x5 : PV) => (m_is_scope x5).bind fun (t8 : PV) => some t8) xs).bind fun ys => some (ys, [.val s0, .no]) := by
  refine lc_M (e := [.val s0, .no]) _ ?_ xs
  intro x; refine Eq.trans ?_ (mTail_eq _ _); simp! only [C_are_scopes_3_e, C_are_scopes_3_t, q_is_scope, V_are_scopes_2_q]
def C_are_scopes_3 : Den := dLC (iSeq (dVar 0)) [1] (.nm 1) C_are_scopes_3_t C_are_scopes_3_e
theorem C_are_scopes_3_q (s0 : PV) : C_are_scopes_3 [.val s0, .no] = ((seqOf s0).bind fun l7 => cmpM (fun (x5 : PV) => (m_is_scope x5).bind fun (t8 : PV) => some t8) l7).bind fun (k : List PV) => some (.lst k, [.val s0, .no]) := by
  refine Eq.trans ?_ (mTail_eq _ _); simp! only [C_are_scopes_3, q_is_scope, V_are_scopes_2_q, C_are_scopes_3_l]
def V_are_scopes_1 : Den := (dAndV (dIsI .tuple (.d (dVar 0))) (dAndV V_are_scopes_2 (dApp allF [.d C_are_scopes_3])))
theorem V_are_scopes_1_q (s0 : PV) : V_are_scopes_1 [.val s0, .no] = (mAV (.bl (isTy .tuple s0)) (((lenF [s0]).bind fun t1 => (leF (.int 1) t1).bind fun t2 => mAV t2 ((leF t1 (.int 5)).bind fun t3 => some t3)).bind fun (t4 : PV) => mAV t4 (((seqOf s0).bind fun l7 => cmpM (fun (x5 : PV) => (m_is_scope x5).bind fun (t8 : PV) => some t8) l7).bind fun (y9 : List PV) => (allF [(.lst y9)]).bind fun t10 => some t10))).bind fun (k : PV) => some (k, [.val s0, .no]) := by
  refine Eq.trans ?_ (mTail_eq _ _); simp! only [V_are_scopes_1, q_is_scope, V_are_scopes_2_q, C_are_scopes_3_l, C_are_scopes_3_q]
def d_are_scopes : DenS := (sSeq (sRetK [0, 1] V_are_scopes_1) sNil)
def s_are_scopes : PP.Sem := runF [] 1 d_are_scopes
def m_are_scopes (s0 : PV) : Option (PV) := (mAV (.bl (isTy .tuple s0)) (((lenF [s0]).bind fun t1 => (leF (.int 1) t1).bind fun t2 => mAV t2 ((leF t1 (.int 5)).bind fun t3 => some t3)).bind fun (t4 : PV) => mAV t4 (((seqOf s0).bind fun l7 => cmpM (fun (x5 : PV) => (m_is_scope x5).bind fun (t8 : PV) => some t8) l7).bind fun (y9 : List PV) => (allF [(.lst y9)]).bind fun t10 => some t10))).bind fun (t11 : PV) => some t11
theorem q_are_scopes (s0 : PV) : s_are_scopes [s0] = (m_are_scopes s0).bind fun (r : PV) => some (r, [s0]) := by
  refine Eq.trans ?_ (mTail_eq _ _); simp! only [s_are_scopes, d_are_scopes, m_are_scopes, runF_ev, q_is_scope, V_are_scopes_2_q, C_are_scopes_3_l, C_are_scopes_3_q, V_are_scopes_1_q]
def d_check_scopes : DenS := (sSeq (sIf (dNot (dTruth (.d (dCall s_are_scopes [.d (dVar 0)])))) (sSeq sNever sNil) sNil) sNil)
def s_check_scopes : PP.Sem := runF [] 0 d_check_scopes
def m_check_scopes (s0 : PV) : Option (PV) := (m_are_scopes s0).bind fun (t1 : PV) => (truthF t1).bind fun b2 => if (!b2) = true then none else some .non
theorem q_check_scopes (s0 : PV) : s_check_scopes [s0] = (m_check_scopes s0).bind fun (r : PV) => some (r, [s0]) := by
  refine Eq.trans ?_ (mTail_eq _ _); simp! only [s_check_scopes, d_check_scopes, m_check_scopes, runF_ev, q_are_scopes]
def T_together_4 : DenT := (dAnd (dB (dBinR inF (dVar 4) 2)) (dAnd (dB (dBin inF (dVar 5) (dVar 0))) (dB (dBinR notInF (dVar 5) 2))))
theorem T_together_4_q (s0 s1 s2 s3 s4 s5 : PV) : T_together_4 [.val s0, .val s1, .own s2, .val s3, .val s4, .val s5] = ((inF s4 s2).bind fun t11 => (asBl t11).bind fun b12 => if b12 = true then (inF s5 s0).bind fun t13 => (asBl t13).bind fun b14 => if b14 = true then (notInF s5 s2).bind fun t15 => (asBl t15).bind fun b16 => some b16 else some false else some false).bind fun (k : Bool) => some (k, [.val s0, .val s1, .own s2, .val s3, .val s4, .val s5]) := by
  refine Eq.trans ?_ (mTail_eq _ _); simp! only [T_together_4]
def D_together_3 : DenS := (sIf T_together_4 (sSeq (sDrop (dMut appendF 2 [(dVar 5)])) sNil) sNil)
theorem D_together_3_q (s0 s1 s2 s3 s4 s5 : PV) : D_together_3 [.val s0, .val s1, .own s2, .val s3, .val s4, .val s5] = (((inF s4 s2).bind fun t11 => (asBl t11).bind fun b12 => if b12 = true then (inF s5 s0).bind fun t13 => (asBl t13).bind fun b14 => if b14 = true then (notInF s5 s2).bind fun t15 => (asBl t15).bind fun b16 => some b16 else some false else some false).bind fun (b17 : Bool) => if b17 = true then (asL s2).bind fun _ => (asL s2).bind fun l18 => (appendF l18 [s5]).bind fun (z19 : PV × List PV) => some (.lst z19.2) else some s2).bind fun (k : PV) => some (.nx [.val s0, .val s1, .own k, .val s3, .val s4, .val s5]) := by
  refine Eq.trans ?_ (mTail_eq _ _); simp! only [D_together_3, T_together_4_q]
def T_together_6 : DenT := (dAnd (dB (dBinR inF (dVar 5) 2)) (dAnd (dB (dBin inF (dVar 4) (dVar 0))) (dB (dBinR notInF (dVar 4) 2))))
theorem T_together_6_q (s0 s1 s2 s3 s4 s5 : PV) : T_together_6 [.val s0, .val s1, .own s2, .val s3, .val s4, .val s5] = ((inF s5 s2).bind fun t21 => (asBl t21).bind fun b22 => if b22 = true then (inF s4 s0).bind fun t23 => (asBl t23).bind fun b24 => if b24 = true then (notInF s4 s2).bind fun t25 => (asBl t25).bind fun b26 => some b26 else some false else some false).bind fun (k : Bool) => some (k, [.val s0, .val s1, .own s2, .val s3, .val s4, .val s5]) := by
  refine Eq.trans ?_ (mTail_eq _ _); simp! only [T_together_6, T_together_4_q, D_together_3_q]
def D_together_5 : DenS := (sIf T_together_6 (sSeq (sDrop (dMut appendF 2 [(dVar 4)])) sNil) sNil)
theorem D_together_5_q (s0 s1 s2 s3 s4 s5 : PV) : D_together_5 [.val s0, .val s1, .own s2, .val s3, .val s4, .val s5] = (((inF s5 s2).bind fun t21 => (asBl t21).bind fun b22 => if b22 = true then (inF s4 s0).bind fun t23 => (asBl t23).bind fun b24 => if b24 = true then (notInF s4 s2).bind fun t25 => (asBl t25).bind fun b26 => some b26 else some false else some false).bind fun (b27 : Bool) => if b27 = true then (asL s2).bind fun _ => (asL s2).bind fun l28 => (appendF l28 [s4]).bind fun (z29 : PV × List PV) => some (.lst z29.2) else some s2).bind fun (k : PV) => some (.nx [.val s0, .val s1, .own k, .val s3, .val s4, .val s5]) := by
  refine Eq.trans ?_ (mTail_eq _ _); simp! only [D_together_5, T_together_4_q, D_together_3_q, T_together_6_q]
def D_together_2_b : DenS := sPost [4, 5] (sSeq D_together_3 (sSeq D_together_5 sNil))
def D_together_2 : DenS := sFor (iSeq (dVar 1)) (.tp [(.nm 4), (.nm 5)]) D_together_2_b
theorem D_together_2_l (s0 s1 s3 : PV) (z2 : PV) (xs : List PV) : forF (.tp [(.nm 4), (.nm 5)]) D_together_2_b xs [.val s0, .val s1, .own z2, .val s3, .no, .no] = (fldM (fun (w8 : PV) (x7 : PV) => (un2 x7).bind fun (u10 : PV × PV) => (((inF u10.1 w8).bind fun t11 => (asBl t11).bind fun b12 => if b12 = true then (inF u10.2 s0).bind fun t13 => (asBl t13).bind fun b14 => if b14 = true then (notInF u10.2 w8).bind fun t15 => (asBl t15).bind fun b16 => some b16 else some false else some false).bind fun (b17 : Bool) => if b17 = true then (asL w8).bind fun _ => (asL w8).bind fun l18 => (appendF l18 [u10.2]).bind fun (z19 : PV × List PV) => some (.lst z19.2) else some w8).bind fun (k20 : PV) => (((inF u10.2 k20).bind fun t21 => (asBl t21).bind fun b22 => if b22 = true then (inF u10.1 s0).bind fun t23 => (asBl t23).bind fun b24 => if b24 = true then (notInF u10.1 k20).bind fun t25 => (asBl t25).bind fun b26 => some b26 else some false else some false).bind fun (b27 : Bool) => if b27 = true then (asL k20).bind fun _ => (asL k20).bind fun l28 => (appendF l28 [u10.1]).bind fun (z29 : PV × List PV) => some (.lst z29.2) else some k20).bind fun (k30 : PV) => some k30) xs z2).bind fun (k : PV) => some (.nx [.val s0, .val s1, .own k, .val s3, .no, .no]) := by
  refine for_fold (E := fun (w8 : PV) => [.val s0, .val s1, .own w8, .val s3, .no, .no]) _ ?_ xs z2
  intro z x; refine Eq.trans ?_ (mTail_eq _ _); simp! only [D_together_2_b, T_together_4_q, D_together_3_q, T_together_6_q, D_together_5_q]
theorem D_together_2_q (s0 s1 s2 s3 : PV) : D_together_2 [.val s0, .val s1, .own s2, .val s3, .no, .no] = ((seqOf s1).bind fun l9 => fldM (fun (w8 : PV) (x7 : PV) => (un2 x7).bind fun (u10 : PV × PV) => (((inF u10.1 w8).bind fun t11 => (asBl t11).bind fun b12 => if b12 = true then (inF u10.2 s0).bind fun t13 => (asBl t13).bind fun b14 => if b14 = true then (notInF u10.2 w8).bind fun t15 => (asBl t15).bind fun b16 => some b16 else some false else some false).bind fun (b17 : Bool) => if b17 = true then (asL w8).bind fun _ => (asL w8).bind fun l18 => (appendF l18 [u10.2]).bind fun (z19 : PV × List PV) => some (.lst z19.2) else some w8).bind fun (k20 : PV) => (((inF u10.2 k20).bind fun t21 => (asBl t21).bind fun b22 => if b22 = true then (inF u10.1 s0).bind fun t23 => (asBl t23).bind fun b24 => if b24 = true then (notInF u10.1 k20).bind fun t25 => (asBl t25).bind fun b26 => some b26 else some false else some false).bind fun (b27 : Bool) => if b27 = true then (asL k20).bind fun _ => (asL k20).bind fun l28 => (appendF l28 [u10.1]).bind fun (z29 : PV × List PV) => some (.lst z29.2) else some k20).bind fun (k30 : PV) => some k30) l9 s2).bind fun (k : PV) => some (.nx [.val s0, .val s1, .own k, .val s3, .no, .no]) := by
  refine Eq.trans ?_ (mTail_eq _ _); simp! only [D_together_2, T_together_4_q, D_together_3_q, T_together_6_q, D_together_5_q, D_together_2_l]
def D_together_1_b : DenS := sPost [3, 4, 5] (sSeq D_together_2 sNil)
def D_together_1 : DenS := sFor (iSeq (dVar 0)) (.nm 3) D_together_1_b
theorem D_together_1_l (s0 s1 : PV) (z2 : PV) (xs : List PV) : forF (.nm 3) D_together_1_b xs [.val s0, .val s1, .own z2, .no, .no, .no] = (fldM (fun (w5 : PV) (x4 : PV) => ((seqOf s1).bind fun l9 => fldM (fun (w8 : PV) (x7 : PV) => (un2 x7).bind fun (u10 : PV × PV) => (((inF u10.1 w8).bind fun t11 => (asBl t11).bind fun b12 => if b12 = true then (inF u10.2 s0).bind fun t13 => (asBl t13).bind fun b14 => if b14 = true then (notInF u10.2 w8).bind fun t15 => (asBl t15).bind fun b16 => some b16 else some false else some false).bind fun (b17 : Bool) => if b17 = true then (asL w8).bind fun _ => (asL w8).bind fun l18 => (appendF l18 [u10.2]).bind fun (z19 : PV × List PV) => some (.lst z19.2) else some w8).bind fun (k20 : PV) => (((inF u10.2 k20).bind fun t21 => (asBl t21).bind fun b22 => if b22 = true then (inF u10.1 s0).bind fun t23 => (asBl t23).bind fun b24 => if b24 = true then (notInF u10.1 k20).bind fun t25 => (asBl t25).bind fun b26 => some b26 else some false else some false).bind fun (b27 : Bool) => if b27 = true then (asL k20).bind fun _ => (asL k20).bind fun l28 => (appendF l28 [u10.1]).bind fun (z29 : PV × List PV) => some (.lst z29.2) else some k20).bind fun (k30 : PV) => some k30) l9 w5).bind fun (k31 : PV) => some k31) xs z2).bind fun (k : PV) => some (.nx [.val s0, .val s1, .own k, .no, .no, .no]) := by
  refine for_fold (E := fun (w5 : PV) => [.val s0, .val s1, .own w5, .no, .no, .no]) _ ?_ xs z2
  intro z x; refine Eq.trans ?_ (mTail_eq _ _); simp! only [D_together_1_b, T_together_4_q, D_together_3_q, T_together_6_q, D_together_5_q, D_together_2_l, D_together_2_q]
theorem D_together_1_q (s0 s1 s2 : PV) : D_together_1 [.val s0, .val s1, .own s2, .no, .no, .no] = ((seqOf s0).bind fun l6 => fldM (fun (w5 : PV) (x4 : PV) => ((seqOf s1).bind fun l9 => fldM (fun (w8 : PV) (x7 : PV) => (un2 x7).bind fun (u10 : PV × PV) => (((inF u10.1 w8).bind fun t11 => (asBl t11).bind fun b12 => if b12 = true then (inF u10.2 s0).bind fun t13 => (asBl t13).bind fun b14 => if b14 = true then (notInF u10.2 w8).bind fun t15 => (asBl t15).bind fun b16 => some b16 else some false else some false).bind fun (b17 : Bool) => if b17 = true then (asL w8).bind fun _ => (asL w8).bind fun l18 => (appendF l18 [u10.2]).bind fun (z19 : PV × List PV) => some (.lst z19.2) else some w8).bind fun (k20 : PV) => (((inF u10.2 k20).bind fun t21 => (asBl t21).bind fun b22 => if b22 = true then (inF u10.1 s0).bind fun t23 => (asBl t23).bind fun b24 => if b24 = true then (notInF u10.1 k20).bind fun t25 => (asBl t25).bind fun b26 => some b26 else some false else some false).bind fun (b27 : Bool) => if b27 = true then (asL k20).bind fun _ => (asL k20).bind fun l28 => (appendF l28 [u10.1]).bind fun (z29 : PV × List PV) => some (.lst z29.2) else some k20).bind fun (k30 : PV) => some k30) l9 w5).bind fun (k31 : PV) => some k31) l6 s2).bind fun (k : PV) => some (.nx [.val s0, .val s1, .own k, .no, .no, .no]) := by
  refine Eq.trans ?_ (mTail_eq _ _); simp! only [D_together_1, T_together_4_q, D_together_3_q, T_together_6_q, D_together_5_q, D_together_2_l, D_together_2_q, D_together_1_l]
def d_together : DenS := (sSeq (sOwn 2 (dApp listF [.d (dSlice (.d (dVar 0)) dNoPart (dPart (dC (.int 1))))])) (sSeq D_together_1 (sSeq (sRetK [0, 1, 2, 3, 4, 5] (dBin eqF (dApp lenF [.b 2]) (dApp lenF [.d (dVar 0)]))) sNil)))
def s_together : PP.Sem := runF [] 4 d_together
def m_together (s0 s1 : PV) : Option (PV) := (asI (.int 1)).bind fun i1 => (sliceF s0 none (some i1)).bind fun t2 => (listF [t2]).bind fun t3 => ((seqOf s0).bind fun l6 => fldM (fun (w5 : PV) (x4 : PV) => ((seqOf s1).bind fun l9 => fldM (fun (w8 : PV) (x7 : PV) => (un2 x7).bind fun (u10 : PV × PV) => (((inF u10.1 w8).bind fun t11 => (asBl t11).bind fun b12 => if b12 = true then (inF u10.2 s0).bind fun t13 => (asBl t13).bind fun b14 => if b14 = true then (notInF u10.2 w8).bind fun t15 => (asBl t15).bind fun b16 => some b16 else some false else some false).bind fun (b17 : Bool) => if b17 = true then (asL w8).bind fun _ => (asL w8).bind fun l18 => (appendF l18 [u10.2]).bind fun (z19 : PV × List PV) => some (.lst z19.2) else some w8).bind fun (k20 : PV) => (((inF u10.2 k20).bind fun t21 => (asBl t21).bind fun b22 => if b22 = true then (inF u10.1 s0).bind fun t23 => (asBl t23).bind fun b24 => if b24 = true then (notInF u10.1 k20).bind fun t25 => (asBl t25).bind fun b26 => some b26 else some false else some false).bind fun (b27 : Bool) => if b27 = true then (asL k20).bind fun _ => (asL k20).bind fun l28 => (appendF l28 [u10.1]).bind fun (z29 : PV × List PV) => some (.lst z29.2) else some k20).bind fun (k30 : PV) => some k30) l9 w5).bind fun (k31 : PV) => some k31) l6 t3).bind fun (k32 : PV) => (lenF [k32]).bind fun t33 => (lenF [s0]).bind fun t34 => (eqF t33 t34).bind fun t35 => some t35
theorem q_together (s0 s1 : PV) : s_together [s0, s1] = (m_together s0 s1).bind fun (r : PV) => some (r, [s0, s1]) := by
  refine Eq.trans ?_ (mTail_eq _ _); simp! only [s_together, d_together, m_together, runF_ev, T_together_4_q, D_together_3_q, T_together_6_q, D_together_5_q, D_together_2_l, D_together_2_q, D_together_1_l, D_together_1_q]
def V_is_tree_1 : Den := (dAndV (dBin eqF (dApp lenF [.d (dVar 1)]) (dBin subF (dApp lenF [.d (dVar 2)]) (dC (.int 1)))) (dCall s_together [.d (dVar 2), .d (dVar 1)]))
theorem V_is_tree_1_q (s0 s1 s2 : PV) : V_is_tree_1 [.val s0, .val s1, .val s2] = ((lenF [s1]).bind fun t3 => (lenF [s2]).bind fun t4 => (subF t4 (.int 1)).bind fun t5 => (eqF t3 t5).bind fun t6 => mAV t6 ((m_together s2 s1).bind fun (t7 : PV) => some t7)).bind fun (k : PV) => some (k, [.val s0, .val s1, .val s2]) := by
  refine Eq.trans ?_ (mTail_eq _ _); simp! only [V_is_tree_1, q_together]
def d_is_tree : DenS := (sSeq (sAsg (.nm 2) (dListRg [(dApp lenF [.d (dVar 0)])])) (sSeq (sRetK [0, 1, 2] V_is_tree_1) sNil))
def s_is_tree : PP.Sem := runF [] 1 d_is_tree
def m_is_tree (s0 s1 : PV) : Option (PV) := (lenF [s0]).bind fun t1 => (rgO1 t1).bind fun r2 => ((lenF [s1]).bind fun t3 => (lenF [(.lst (rgL r2))]).bind fun t4 => (subF t4 (.int 1)).bind fun t5 => (eqF t3 t5).bind fun t6 => mAV t6 ((m_together (.lst (rgL r2)) s1).bind fun (t7 : PV) => some t7)).bind fun (t8 : PV) => some t8
theorem q_is_tree (s0 s1 : PV) : s_is_tree [s0, s1] = (m_is_tree s0 s1).bind fun (r : PV) => some (r, [s0, s1]) := by
  refine Eq.trans ?_ (mTail_eq _ _); simp! only [s_is_tree, d_is_tree, m_is_tree, runF_ev, q_together, V_is_tree_1_q]
def C_trees_of_1_e : Den := (dTup [(dVar 3), (dVar 4)])
def C_trees_of_1_t : DenT := dYes
def C_trees_of_1_u : DenT := dYes
def C_trees_of_1_i : DenI := (iRange [(dBin addF (dVar 3) (dC (.int 1))), (dVar 1)])
theorem C_trees_of_1_k (s0 s1 s3 : PV) (xs : List PV) : lcF (.nm 4) C_trees_of_1_u C_trees_of_1_e [4] xs [.val s0, .val s1, .no, .val s3, .no, .no] = (cmpM (fun (x3 : PV) => some (.tup [s3, x3])) xs).bind fun ys => some (ys, [.val s0, .val s1, .no, .val s3, .no, .no]) := by
  refine lc_M (e := [.val s0, .val s1, .no, .val s3, .no, .no]) _ ?_ xs
  intro x; refine Eq.trans ?_ (mTail_eq _ _); simp! only [C_trees_of_1_e, C_trees_of_1_t, C_trees_of_1_u, C_trees_of_1_i, q_is_tree]
theorem C_trees_of_1_l (s0 s1 : PV) (xs : List PV) : lc2F (.nm 3) C_trees_of_1_t C_trees_of_1_i [4] (.nm 4) C_trees_of_1_u C_trees_of_1_e [3, 4] xs [.val s0, .val s1, .no, .no, .no, .no] = (cmpB (fun (x2 : PV) => (addF x2 (.int 1)).bind fun t5 => (rgO2 t5 s1).bind fun r6 => cmpM (fun (x3 : PV) => some (.tup [x2, x3])) (rgL r6)) xs).bind fun ys => some (ys, [.val s0, .val s1, .no, .no, .no, .no]) := by
  refine lc_B (e := [.val s0, .val s1, .no, .no, .no, .no]) _ ?_ xs
  intro x; refine Eq.trans ?_ (mTail_eq _ _); simp! only [C_trees_of_1_t, C_trees_of_1_i, q_is_tree, C_trees_of_1_k]
def C_trees_of_1 : Den := dLC2 (iRange [(dVar 1)]) [3, 4] (.nm 3) C_trees_of_1_t C_trees_of_1_i [4] (.nm 4) C_trees_of_1_u C_trees_of_1_e
theorem C_trees_of_1_q (s0 s1 : PV) : C_trees_of_1 [.val s0, .val s1, .no, .no, .no, .no] = ((rgO1 s1).bind fun r4 => (cmpB (fun (x2 : PV) => (addF x2 (.int 1)).bind fun t5 => (rgO2 t5 s1).bind fun r6 => cmpM (fun (x3 : PV) => some (.tup [x2, x3])) (rgL r6)) (rgL r4)).bind fun ys => (mLim ys).bind fun zs => some zs).bind fun (k : List PV) => some (.lst k, [.val s0, .val s1, .no, .no, .no, .no]) := by
  refine Eq.trans ?_ (mTail_eq _ _); simp! only [C_trees_of_1, q_is_tree, C_trees_of_1_k, C_trees_of_1_l]
def C_trees_of_2_e : Den := (dVar 5)
def C_trees_of_2_t : DenT := (dTruth (.d (dCall s_is_tree [.d (dVar 0), .d (dVar 5)])))
theorem C_trees_of_2_l (s0 s1 s2 : PV) (xs : List PV) : lcF (.nm 5) C_trees_of_2_t C_trees_of_2_e [5] xs [.val s0, .val s1, .val s2, .no, .no, .no] = (cmpG (fun (x8 : PV) => (m_is_tree s0 x8).bind fun (t12 : PV) => (truthF t12).bind fun b13 => if b13 = true then some (some x8) else some none) xs).bind fun ys => some (ys, [.val s0, .val s1, .val s2, .no, .no, .no]) := by
  refine lc_G (e := [.val s0, .val s1, .val s2, .no, .no, .no]) _ ?_ xs
  intro x; refine Eq.trans ?_ (mTail_eq _ _); simp! only [C_trees_of_2_e, C_trees_of_2_t, q_is_tree, C_trees_of_1_k, C_trees_of_1_l, C_trees_of_1_q]
def C_trees_of_2 : Den := dLC (iComb2 (dVar 2) (dBin subF (dVar 1) (dC (.int 1)))) [5] (.nm 5) C_trees_of_2_t C_trees_of_2_e
theorem C_trees_of_2_q (s0 s1 s2 : PV) : C_trees_of_2 [.val s0, .val s1, .val s2, .no, .no, .no] = ((subF s1 (.int 1)).bind fun t10 => (combF s2 t10).bind fun l11 => cmpG (fun (x8 : PV) => (m_is_tree s0 x8).bind fun (t12 : PV) => (truthF t12).bind fun b13 => if b13 = true then some (some x8) else some none) l11).bind fun (k : List PV) => some (.lst k, [.val s0, .val s1, .val s2, .no, .no, .no]) := by
  refine Eq.trans ?_ (mTail_eq _ _); simp! only [C_trees_of_2, q_is_tree, C_trees_of_1_k, C_trees_of_1_l, C_trees_of_1_q, C_trees_of_2_l]
def d_trees_of : DenS := (sSeq (sAsg (.nm 1) (dApp lenF [.d (dVar 0)])) (sSeq (sFz 2 (sOwn 2 C_trees_of_1)) (sSeq (sRetK [0, 1, 2, 3, 4, 5] C_trees_of_2) sNil)))
def s_trees_of : PP.Sem := runF [] 5 d_trees_of
def m_trees_of (s0 : PV) : Option (PV) := (lenF [s0]).bind fun t1 => ((rgO1 t1).bind fun r4 => (cmpB (fun (x2 : PV) => (addF x2 (.int 1)).bind fun t5 => (rgO2 t5 t1).bind fun r6 => cmpM (fun (x3 : PV) => some (.tup [x2, x3])) (rgL r6)) (rgL r4)).bind fun ys => (mLim ys).bind fun zs => some zs).bind fun (y7 : List PV) => ((subF t1 (.int 1)).bind fun t10 => (combF (.lst y7) t10).bind fun l11 => cmpG (fun (x8 : PV) => (m_is_tree s0 x8).bind fun (t12 : PV) => (truthF t12).bind fun b13 => if b13 = true then some (some x8) else some none) l11).bind fun (y14 : List PV) => some (.lst y14)
theorem q_trees_of (s0 : PV) : s_trees_of [s0] = (m_trees_of s0).bind fun (r : PV) => some (r, [s0]) := by
  refine Eq.trans ?_ (mTail_eq _ _); simp! only [s_trees_of, d_trees_of, m_trees_of, runF_ev, q_is_tree, C_trees_of_1_k, C_trees_of_1_l, C_trees_of_1_q, C_trees_of_2_l, C_trees_of_2_q]
def C_makes_2_e : Den := (dVar 4)
def C_makes_2_t : DenT := (dB (dBin inF (dVar 2) (dVar 5)))
theorem C_makes_2_l (s0 s1 s2 : PV) (xs : List PV) : lcF (.tp [(.nm 4), (.nm 5)]) C_makes_2_t C_makes_2_e [4, 5] xs [.val s0, .val s1, .val s2, .no, .no, .no] = (cmpG (fun (x7 : PV) => (un2 x7).bind fun (u10 : PV × PV) => (inF s2 u10.2).bind fun t11 => (asBl t11).bind fun b12 => if b12 = true then some (some u10.1) else some none) xs).bind fun ys => some (ys, [.val s0, .val s1, .val s2, .no, .no, .no]) := by
  refine lc_G (e := [.val s0, .val s1, .val s2, .no, .no, .no]) _ ?_ xs
  intro x; refine Eq.trans ?_ (mTail_eq _ _); simp! only [C_makes_2_e, C_makes_2_t, q_is_tree, q_together]
def C_makes_2 : Den := dLC (iEnum1 (dVar 0)) [4, 5] (.tp [(.nm 4), (.nm 5)]) C_makes_2_t C_makes_2_e
theorem C_makes_2_q (s0 s1 s2 : PV) : C_makes_2 [.val s0, .val s1, .val s2, .no, .no, .no] = ((enF s0).bind fun l9 => cmpG (fun (x7 : PV) => (un2 x7).bind fun (u10 : PV × PV) => (inF s2 u10.2).bind fun t11 => (asBl t11).bind fun b12 => if b12 = true then some (some u10.1) else some none) l9).bind fun (k : List PV) => some (.lst k, [.val s0, .val s1, .val s2, .no, .no, .no]) := by
  refine Eq.trans ?_ (mTail_eq _ _); simp! only [C_makes_2, q_is_tree, q_together, C_makes_2_l]
def D_makes_1_b : DenS := sPost [2, 3] (sSeq (sFz 3 (sOwn 3 C_makes_2)) (sSeq (sIf (dNot (dTruth (.d (dCall s_together [.d (dVar 3), .d (dVar 1)])))) (sSeq (sRetK [0, 1, 2, 3, 4, 5] (dC (.bl false))) sNil) sNil) sNil))
def D_makes_1 : DenS := sFor (iRange [(dBin addF (dC (.int 5)) (dC (.int 1)))]) (.nm 2) D_makes_1_b
theorem D_makes_1_l (s0 s1 : PV) (xs : List PV) : forF (.nm 2) D_makes_1_b xs [.val s0, .val s1, .no, .no, .no, .no] = (fldR (S := Unit) (R := PV) (fun (w4 : Unit) (x3 : PV) => ((enF s0).bind fun l9 => cmpG (fun (x7 : PV) => (un2 x7).bind fun (u10 : PV × PV) => (inF x3 u10.2).bind fun t11 => (asBl t11).bind fun b12 => if b12 = true then some (some u10.1) else some none) l9).bind fun (y13 : List PV) => (m_together (.lst y13) s1).bind fun (t14 : PV) => (truthF t14).bind fun b15 => if (!b15) = true then some (.inr (.bl false)) else some (.inl ())) xs ()).bind fun r => some (flS (fun (k : Unit) => [.val s0, .val s1, .no, .no, .no, .no]) (fun (v : PV) => (v, [.no, .no, .no, .no, .no, .no])) r) := by
  refine for_foldR (E := fun (w4 : Unit) => [.val s0, .val s1, .no, .no, .no, .no]) (fun (v : PV) => (v, [.no, .no, .no, .no, .no, .no])) _ ?_ xs ()
  intro z x; refine Eq.trans ?_ (mTail_eq _ _); simp! only [D_makes_1_b, q_is_tree, q_together, C_makes_2_l, C_makes_2_q]
theorem D_makes_1_q (s0 s1 : PV) : D_makes_1 [.val s0, .val s1, .no, .no, .no, .no] = ((addF (.int 5) (.int 1)).bind fun t5 => (rgO1 t5).bind fun r6 => fldR (S := Unit) (R := PV) (fun (w4 : Unit) (x3 : PV) => ((enF s0).bind fun l9 => cmpG (fun (x7 : PV) => (un2 x7).bind fun (u10 : PV × PV) => (inF x3 u10.2).bind fun t11 => (asBl t11).bind fun b12 => if b12 = true then some (some u10.1) else some none) l9).bind fun (y13 : List PV) => (m_together (.lst y13) s1).bind fun (t14 : PV) => (truthF t14).bind fun b15 => if (!b15) = true then some (.inr (.bl false)) else some (.inl ())) (rgL r6) ()).bind fun r => some (flS (fun (k : Unit) => [.val s0, .val s1, .no, .no, .no, .no]) (fun (v : PV) => (v, [.no, .no, .no, .no, .no, .no])) r) := by
  refine Eq.trans ?_ (mTail_eq _ _); simp! only [D_makes_1, q_is_tree, q_together, C_makes_2_l, C_makes_2_q, D_makes_1_l]
def d_makes : DenS := (sSeq (sIf (dNot (dTruth (.d (dCall s_is_tree [.d (dVar 0), .d (dVar 1)])))) (sSeq (sRetK [0, 1, 2, 3, 4, 5] (dC (.bl false))) sNil) sNil) (sSeq D_makes_1 (sSeq (sRetK [0, 1, 2, 3, 4, 5] (dC (.bl true))) sNil)))
def s_makes : PP.Sem := runF [] 4 d_makes
def m_makes (s0 s1 : PV) : Option (PV) := (m_is_tree s0 s1).bind fun (t1 : PV) => (truthF t1).bind fun b2 => if (!b2) = true then some (.bl false) else ((addF (.int 5) (.int 1)).bind fun t5 => (rgO1 t5).bind fun r6 => fldR (S := Unit) (R := PV) (fun (w4 : Unit) (x3 : PV) => ((enF s0).bind fun l9 => cmpG (fun (x7 : PV) => (un2 x7).bind fun (u10 : PV × PV) => (inF x3 u10.2).bind fun t11 => (asBl t11).bind fun b12 => if b12 = true then some (some u10.1) else some none) l9).bind fun (y13 : List PV) => (m_together (.lst y13) s1).bind fun (t14 : PV) => (truthF t14).bind fun b15 => if (!b15) = true then some (.inr (.bl false)) else some (.inl ())) (rgL r6) ()).bind fun (r16 : (Unit) ⊕ (PV)) => mSum r16 (fun (k17 : Unit) => some (.bl true)) (fun (v18 : PV) => some v18)
theorem q_makes (s0 s1 : PV) : s_makes [s0, s1] = (m_makes s0 s1).bind fun (r : PV) => some (r, [s0, s1]) := by
  refine Eq.trans ?_ (mTail_eq _ _); simp! only [s_makes, d_makes, m_makes, runF_ev, q_is_tree, q_together, C_makes_2_l, C_makes_2_q, D_makes_1_l, D_makes_1_q]
def C_making_1_e : Den := (dVar 1)
def C_making_1_t : DenT := (dTruth (.d (dCall s_makes [.d (dVar 0), .d (dVar 1)])))
theorem C_making_1_l (s0 : PV) (xs : List PV) : lcF (.nm 1) C_making_1_t C_making_1_e [1] xs [.val s0, .no] = (cmpG (fun (x1 : PV) => (m_makes s0 x1).bind fun (t5 : PV) => (truthF t5).bind fun b6 => if b6 = true then some (some x1) else some none) xs).bind fun ys => some (ys, [.val s0, .no]) := by
  refine lc_G (e := [.val s0, .no]) _ ?_ xs
  intro x; refine Eq.trans ?_ (mTail_eq _ _); simp! only [C_making_1_e, C_making_1_t, q_trees_of, q_makes]
def C_making_1 : Den := dLC (iSeq (dCall s_trees_of [.d (dVar 0)])) [1] (.nm 1) C_making_1_t C_making_1_e
theorem C_making_1_q (s0 : PV) : C_making_1 [.val s0, .no] = ((m_trees_of s0).bind fun (t3 : PV) => (seqOf t3).bind fun l4 => cmpG (fun (x1 : PV) => (m_makes s0 x1).bind fun (t5 : PV) => (truthF t5).bind fun b6 => if b6 = true then some (some x1) else some none) l4).bind fun (k : List PV) => some (.lst k, [.val s0, .no]) := by
  refine Eq.trans ?_ (mTail_eq _ _); simp! only [C_making_1, q_trees_of, q_makes, C_making_1_l]
def d_making : DenS := (sSeq (sRetK [0, 1] C_making_1) sNil)
def s_making : PP.Sem := runF [] 1 d_making
def m_making (s0 : PV) : Option (PV) := ((m_trees_of s0).bind fun (t3 : PV) => (seqOf t3).bind fun l4 => cmpG (fun (x1 : PV) => (m_makes s0 x1).bind fun (t5 : PV) => (truthF t5).bind fun b6 => if b6 = true then some (some x1) else some none) l4).bind fun (y7 : List PV) => some (.lst y7)
theorem q_making (s0 : PV) : s_making [s0] = (m_making s0).bind fun (r : PV) => some (r, [s0]) := by
  refine Eq.trans ?_ (mTail_eq _ _); simp! only [s_making, d_making, m_making, runF_ev, q_trees_of, q_makes, C_making_1_l, C_making_1_q]
def d_count_making : DenS := (sSeq (sDrop (dCall s_check_scopes [.d (dVar 0)])) (sSeq (sRetK [0] (dApp lenF [.d (dCall s_making [.d (dVar 0)])])) sNil))
def s_count_making : PP.Sem := runF [] 0 d_count_making
def m_count_making (s0 : PV) : Option (PV) := (m_check_scopes s0).bind fun (t1 : PV) => (m_making s0).bind fun (t2 : PV) => (lenF [t2]).bind fun t3 => some t3
theorem q_count_making (s0 : PV) : s_count_making [s0] = (m_count_making s0).bind fun (r : PV) => some (r, [s0]) := by
  refine Eq.trans ?_ (mTail_eq _ _); simp! only [s_count_making, d_count_making, m_count_making, runF_ev, q_check_scopes, q_making]
def V_first_making_1 : Den := dIf (dTruth (.d (dVar 1))) (dBin getF (dVar 1) (dC (.int 0))) (dC .non)
theorem V_first_making_1_q (s0 s1 : PV) : V_first_making_1 [.val s0, .val s1] = ((truthF s1).bind fun b3 => if b3 = true then (getF s1 (.int 0)).bind fun t4 => some t4 else some .non).bind fun (k : PV) => some (k, [.val s0, .val s1]) := by
  refine Eq.trans ?_ (mTail_eq _ _); simp! only [V_first_making_1, q_check_scopes, q_making]
def d_first_making : DenS := (sSeq (sDrop (dCall s_check_scopes [.d (dVar 0)])) (sSeq (sAsg (.nm 1) (dCall s_making [.d (dVar 0)])) (sSeq (sRetK [0, 1] V_first_making_1) sNil)))
def s_first_making : PP.Sem := runF [] 1 d_first_making
def m_first_making (s0 : PV) : Option (PV) := (m_check_scopes s0).bind fun (t1 : PV) => (m_making s0).bind fun (t2 : PV) => ((truthF t2).bind fun b3 => if b3 = true then (getF t2 (.int 0)).bind fun t4 => some t4 else some .non).bind fun (t5 : PV) => some t5
theorem q_first_making (s0 : PV) : s_first_making [s0] = (m_first_making s0).bind fun (r : PV) => some (r, [s0]) := by
  refine Eq.trans ?_ (mTail_eq _ _); simp! only [s_first_making, d_first_making, m_first_making, runF_ev, q_check_scopes, q_making, V_first_making_1_q]
def T_are_pairs_2 : DenT := (dOr (dNot (dTruth (.d (dIsI .tuple (.d (dVar 3)))))) (dB (dBin neF (dApp lenF [.d (dVar 3)]) (dC (.int 2)))))
theorem T_are_pairs_2_q (s0 s1 s2 s3 : PV) : T_are_pairs_2 [.val s0, .val s1, .val s2, .val s3, .no] = ((truthF (.bl (isTy .tuple s3))).bind fun b5 => if (!b5) = true then some true else (lenF [s3]).bind fun t6 => (neF t6 (.int 2)).bind fun t7 => (asBl t7).bind fun b8 => some b8).bind fun (k : Bool) => some (k, [.val s0, .val s1, .val s2, .val s3, .no]) := by
  refine Eq.trans ?_ (mTail_eq _ _); simp! only [T_are_pairs_2, q_is_whole]
def T_are_pairs_3 : DenT := (dOr (dNot (dTruth (.d (dCall s_is_whole [.d (dBin getF (dVar 3) (dC (.int 0))), .d (dC (.int 0)), .d (dVar 1)])))) (dNot (dTruth (.d (dCall s_is_whole [.d (dBin getF (dVar 3) (dC (.int 1))), .d (dC (.int 0)), .d (dVar 2)])))))
theorem T_are_pairs_3_q (s0 s1 s2 s3 : PV) : T_are_pairs_3 [.val s0, .val s1, .val s2, .val s3, .no] = ((getF s3 (.int 0)).bind fun t10 => (m_is_whole t10 (.int 0) s1).bind fun (t11 : PV) => (truthF t11).bind fun b12 => if (!b12) = true then some true else (getF s3 (.int 1)).bind fun t13 => (m_is_whole t13 (.int 0) s2).bind fun (t14 : PV) => (truthF t14).bind fun b15 => some (!b15)).bind fun (k : Bool) => some (k, [.val s0, .val s1, .val s2, .val s3, .no]) := by
  refine Eq.trans ?_ (mTail_eq _ _); simp! only [T_are_pairs_3, q_is_whole, T_are_pairs_2_q]
def D_are_pairs_1_b : DenS := sPost [3] (sSeq (sIf T_are_pairs_2 (sSeq (sRetK [0, 1, 2, 3, 4] (dC (.bl false))) sNil) sNil) (sSeq (sIf T_are_pairs_3 (sSeq (sRetK [0, 1, 2, 3, 4] (dC (.bl false))) sNil) sNil) sNil))
def D_are_pairs_1 : DenS := sFor (iSeq (dVar 0)) (.nm 3) D_are_pairs_1_b
theorem D_are_pairs_1_l (s0 s1 s2 : PV) (xs : List PV) : forF (.nm 3) D_are_pairs_1_b xs [.val s0, .val s1, .val s2, .no, .no] = (fldR (S := Unit) (R := PV) (fun (w3 : Unit) (x2 : PV) => ((truthF (.bl (isTy .tuple x2))).bind fun b5 => if (!b5) = true then some true else (lenF [x2]).bind fun t6 => (neF t6 (.int 2)).bind fun t7 => (asBl t7).bind fun b8 => some b8).bind fun (b9 : Bool) => if b9 = true then some (.inr (.bl false)) else ((getF x2 (.int 0)).bind fun t10 => (m_is_whole t10 (.int 0) s1).bind fun (t11 : PV) => (truthF t11).bind fun b12 => if (!b12) = true then some true else (getF x2 (.int 1)).bind fun t13 => (m_is_whole t13 (.int 0) s2).bind fun (t14 : PV) => (truthF t14).bind fun b15 => some (!b15)).bind fun (b16 : Bool) => if b16 = true then some (.inr (.bl false)) else some (.inl ())) xs ()).bind fun r => some (flS (fun (k : Unit) => [.val s0, .val s1, .val s2, .no, .no]) (fun (v : PV) => (v, [.no, .no, .no, .no, .no])) r) := by
  refine for_foldR (E := fun (w3 : Unit) => [.val s0, .val s1, .val s2, .no, .no]) (fun (v : PV) => (v, [.no, .no, .no, .no, .no])) _ ?_ xs ()
  intro z x; refine Eq.trans ?_ (mTail_eq _ _); simp! only [D_are_pairs_1_b, q_is_whole, T_are_pairs_2_q, T_are_pairs_3_q]
theorem D_are_pairs_1_q (s0 s1 s2 : PV) : D_are_pairs_1 [.val s0, .val s1, .val s2, .no, .no] = ((seqOf s0).bind fun l4 => fldR (S := Unit) (R := PV) (fun (w3 : Unit) (x2 : PV) => ((truthF (.bl (isTy .tuple x2))).bind fun b5 => if (!b5) = true then some true else (lenF [x2]).bind fun t6 => (neF t6 (.int 2)).bind fun t7 => (asBl t7).bind fun b8 => some b8).bind fun (b9 : Bool) => if b9 = true then some (.inr (.bl false)) else ((getF x2 (.int 0)).bind fun t10 => (m_is_whole t10 (.int 0) s1).bind fun (t11 : PV) => (truthF t11).bind fun b12 => if (!b12) = true then some true else (getF x2 (.int 1)).bind fun t13 => (m_is_whole t13 (.int 0) s2).bind fun (t14 : PV) => (truthF t14).bind fun b15 => some (!b15)).bind fun (b16 : Bool) => if b16 = true then some (.inr (.bl false)) else some (.inl ())) l4 ()).bind fun r => some (flS (fun (k : Unit) => [.val s0, .val s1, .val s2, .no, .no]) (fun (v : PV) => (v, [.no, .no, .no, .no, .no])) r) := by
  refine Eq.trans ?_ (mTail_eq _ _); simp! only [D_are_pairs_1, q_is_whole, T_are_pairs_2_q, T_are_pairs_3_q, D_are_pairs_1_l]
def C_are_pairs_4_e : Den := (dBin ltF (dBin getF (dVar 0) (dVar 4)) (dBin getF (dVar 0) (dBin addF (dVar 4) (dC (.int 1)))))
def C_are_pairs_4_t : DenT := dYes
theorem C_are_pairs_4_l (s0 s1 s2 : PV) (xs : List PV) : lcF (.nm 4) C_are_pairs_4_t C_are_pairs_4_e [4] xs [.val s0, .val s1, .val s2, .no, .no] = (cmpM (fun (x20 : PV) => (getF s0 x20).bind fun t25 => (addF x20 (.int 1)).bind fun t26 => (getF s0 t26).bind fun t27 => (ltF t25 t27).bind fun t28 => some t28) xs).bind fun ys => some (ys, [.val s0, .val s1, .val s2, .no, .no]) := by
  refine lc_M (e := [.val s0, .val s1, .val s2, .no, .no]) _ ?_ xs
  intro x; refine Eq.trans ?_ (mTail_eq _ _); simp! only [C_are_pairs_4_e, C_are_pairs_4_t, q_is_whole, T_are_pairs_2_q, T_are_pairs_3_q, D_are_pairs_1_l, D_are_pairs_1_q]
def C_are_pairs_4 : Den := dLC (iRange [(dBin subF (dApp lenF [.d (dVar 0)]) (dC (.int 1)))]) [4] (.nm 4) C_are_pairs_4_t C_are_pairs_4_e
theorem C_are_pairs_4_q (s0 s1 s2 : PV) : C_are_pairs_4 [.val s0, .val s1, .val s2, .no, .no] = ((lenF [s0]).bind fun t22 => (subF t22 (.int 1)).bind fun t23 => (rgO1 t23).bind fun r24 => cmpM (fun (x20 : PV) => (getF s0 x20).bind fun t25 => (addF x20 (.int 1)).bind fun t26 => (getF s0 t26).bind fun t27 => (ltF t25 t27).bind fun t28 => some t28) (rgL r24)).bind fun (k : List PV) => some (.lst k, [.val s0, .val s1, .val s2, .no, .no]) := by
  refine Eq.trans ?_ (mTail_eq _ _); simp! only [C_are_pairs_4, q_is_whole, T_are_pairs_2_q, T_are_pairs_3_q, D_are_pairs_1_l, D_are_pairs_1_q, C_are_pairs_4_l]
def d_are_pairs : DenS := (sSeq (sIf (dNot (dTruth (.d (dIsI .tuple (.d (dVar 0)))))) (sSeq (sRetK [0, 1, 2, 3, 4] (dC (.bl false))) sNil) sNil) (sSeq D_are_pairs_1 (sSeq (sRetK [0, 1, 2, 3, 4] (dApp allF [.d C_are_pairs_4])) sNil)))
def s_are_pairs : PP.Sem := runF [] 2 d_are_pairs
def m_are_pairs (s0 s1 s2 : PV) : Option (PV) := (truthF (.bl (isTy .tuple s0))).bind fun b1 => if (!b1) = true then some (.bl false) else ((seqOf s0).bind fun l4 => fldR (S := Unit) (R := PV) (fun (w3 : Unit) (x2 : PV) => ((truthF (.bl (isTy .tuple x2))).bind fun b5 => if (!b5) = true then some true else (lenF [x2]).bind fun t6 => (neF t6 (.int 2)).bind fun t7 => (asBl t7).bind fun b8 => some b8).bind fun (b9 : Bool) => if b9 = true then some (.inr (.bl false)) else ((getF x2 (.int 0)).bind fun t10 => (m_is_whole t10 (.int 0) s1).bind fun (t11 : PV) => (truthF t11).bind fun b12 => if (!b12) = true then some true else (getF x2 (.int 1)).bind fun t13 => (m_is_whole t13 (.int 0) s2).bind fun (t14 : PV) => (truthF t14).bind fun b15 => some (!b15)).bind fun (b16 : Bool) => if b16 = true then some (.inr (.bl false)) else some (.inl ())) l4 ()).bind fun (r17 : (Unit) ⊕ (PV)) => mSum r17 (fun (k18 : Unit) => ((lenF [s0]).bind fun t22 => (subF t22 (.int 1)).bind fun t23 => (rgO1 t23).bind fun r24 => cmpM (fun (x20 : PV) => (getF s0 x20).bind fun t25 => (addF x20 (.int 1)).bind fun t26 => (getF s0 t26).bind fun t27 => (ltF t25 t27).bind fun t28 => some t28) (rgL r24)).bind fun (y29 : List PV) => (allF [(.lst y29)]).bind fun t30 => some t30) (fun (v19 : PV) => some v19)
theorem q_are_pairs (s0 s1 s2 : PV) : s_are_pairs [s0, s1, s2] = (m_are_pairs s0 s1 s2).bind fun (r : PV) => some (r, [s0, s1, s2]) := by
  refine Eq.trans ?_ (mTail_eq _ _); simp! only [s_are_pairs, d_are_pairs, m_are_pairs, runF_ev, q_is_whole, T_are_pairs_2_q, T_are_pairs_3_q, D_are_pairs_1_l, D_are_pairs_1_q, C_are_pairs_4_l, C_are_pairs_4_q]
def C_are_edges_2_e : Den := (dBin ltF (dVar 3) (dVar 4))
def C_are_edges_2_t : DenT := dYes
theorem C_are_edges_2_l (s0 s1 s2 : PV) (xs : List PV) : lcF (.tp [(.nm 3), (.nm 4)]) C_are_edges_2_t C_are_edges_2_e [3, 4] xs [.val s0, .val s1, .val s2, .no, .no] = (cmpM (fun (x4 : PV) => (un2 x4).bind fun (u7 : PV × PV) => (ltF u7.1 u7.2).bind fun t8 => some t8) xs).bind fun ys => some (ys, [.val s0, .val s1, .val s2, .no, .no]) := by
  refine lc_M (e := [.val s0, .val s1, .val s2, .no, .no]) _ ?_ xs
  intro x; refine Eq.trans ?_ (mTail_eq _ _); simp! only [C_are_edges_2_e, C_are_edges_2_t, q_are_pairs]
def C_are_edges_2 : Den := dLC (iSeq (dVar 1)) [3, 4] (.tp [(.nm 3), (.nm 4)]) C_are_edges_2_t C_are_edges_2_e
theorem C_are_edges_2_q (s0 s1 s2 : PV) : C_are_edges_2 [.val s0, .val s1, .val s2, .no, .no] = ((seqOf s1).bind fun l6 => cmpM (fun (x4 : PV) => (un2 x4).bind fun (u7 : PV × PV) => (ltF u7.1 u7.2).bind fun t8 => some t8) l6).bind fun (k : List PV) => some (.lst k, [.val s0, .val s1, .val s2, .no, .no]) := by
  refine Eq.trans ?_ (mTail_eq _ _); simp! only [C_are_edges_2, q_are_pairs, C_are_edges_2_l]
def V_are_edges_1 : Den := (dAndV (dCall s_are_pairs [.d (dVar 1), .d (dVar 2), .d (dVar 2)]) (dApp allF [.d C_are_edges_2]))
theorem V_are_edges_1_q (s0 s1 s2 : PV) : V_are_edges_1 [.val s0, .val s1, .val s2, .no, .no] = ((m_are_pairs s1 s2 s2).bind fun (t3 : PV) => mAV t3 (((seqOf s1).bind fun l6 => cmpM (fun (x4 : PV) => (un2 x4).bind fun (u7 : PV × PV) => (ltF u7.1 u7.2).bind fun t8 => some t8) l6).bind fun (y9 : List PV) => (allF [(.lst y9)]).bind fun t10 => some t10)).bind fun (k : PV) => some (k, [.val s0, .val s1, .val s2, .no, .no]) := by
  refine Eq.trans ?_ (mTail_eq _ _); simp! only [V_are_edges_1, q_are_pairs, C_are_edges_2_l, C_are_edges_2_q]
def d_are_edges : DenS := (sSeq (sAsg (.nm 2) (dBin subF (dApp lenF [.d (dVar 0)]) (dC (.int 1)))) (sSeq (sRetK [0, 1, 2, 3, 4] V_are_edges_1) sNil))
def s_are_edges : PP.Sem := runF [] 3 d_are_edges
def m_are_edges (s0 s1 : PV) : Option (PV) := (lenF [s0]).bind fun t1 => (subF t1 (.int 1)).bind fun t2 => ((m_are_pairs s1 t2 t2).bind fun (t3 : PV) => mAV t3 (((seqOf s1).bind fun l6 => cmpM (fun (x4 : PV) => (un2 x4).bind fun (u7 : PV × PV) => (ltF u7.1 u7.2).bind fun t8 => some t8) l6).bind fun (y9 : List PV) => (allF [(.lst y9)]).bind fun t10 => some t10)).bind fun (t11 : PV) => some t11
theorem q_are_edges (s0 s1 : PV) : s_are_edges [s0, s1] = (m_are_edges s0 s1).bind fun (r : PV) => some (r, [s0, s1]) := by
  refine Eq.trans ?_ (mTail_eq _ _); simp! only [s_are_edges, d_are_edges, m_are_edges, runF_ev, q_are_pairs, C_are_edges_2_l, C_are_edges_2_q, V_are_edges_1_q]
def d_check_edges : DenS := (sSeq (sDrop (dCall s_check_scopes [.d (dVar 0)])) (sSeq (sIf (dNot (dTruth (.d (dCall s_are_edges [.d (dVar 0), .d (dVar 1)])))) (sSeq sNever sNil) sNil) sNil))
def s_check_edges : PP.Sem := runF [] 0 d_check_edges
def m_check_edges (s0 s1 : PV) : Option (PV) := (m_check_scopes s0).bind fun (t1 : PV) => (m_are_edges s0 s1).bind fun (t2 : PV) => (truthF t2).bind fun b3 => if (!b3) = true then none else some .non
theorem q_check_edges (s0 s1 : PV) : s_check_edges [s0, s1] = (m_check_edges s0 s1).bind fun (r : PV) => some (r, [s0, s1]) := by
  refine Eq.trans ?_ (mTail_eq _ _); simp! only [s_check_edges, d_check_edges, m_check_edges, runF_ev, q_check_scopes, q_are_edges]
def d_makes_tree : DenS := (sSeq (sDrop (dCall s_check_edges [.d (dVar 0), .d (dVar 1)])) (sSeq (sRetK [0, 1] (dCall s_makes [.d (dVar 0), .d (dVar 1)])) sNil))
def s_makes_tree : PP.Sem := runF [] 0 d_makes_tree
def m_makes_tree (s0 s1 : PV) : Option (PV) := (m_check_edges s0 s1).bind fun (t1 : PV) => (m_makes s0 s1).bind fun (t2 : PV) => some t2
theorem q_makes_tree (s0 s1 : PV) : s_makes_tree [s0, s1] = (m_makes_tree s0 s1).bind fun (r : PV) => some (r, [s0, s1]) := by
  refine Eq.trans ?_ (mTail_eq _ _); simp! only [s_makes_tree, d_makes_tree, m_makes_tree, runF_ev, q_check_edges, q_makes]
def C__law_shared_2_e : Den := (dVar 5)
def C__law_shared_2_t : DenT := (dB (dBin inF (dVar 5) (dBin getF (dVar 0) (dVar 4))))
theorem C__law_shared_2_l (s0 s1 s2 s3 s4 : PV) (xs : List PV) : lcF (.nm 5) C__law_shared_2_t C__law_shared_2_e [5] xs [.val s0, .val s1, .val s2, .val s3, .val s4, .no] = (cmpG (fun (x5 : PV) => (getF s0 s4).bind fun t9 => (inF x5 t9).bind fun t10 => (asBl t10).bind fun b11 => if b11 = true then some (some x5) else some none) xs).bind fun ys => some (ys, [.val s0, .val s1, .val s2, .val s3, .val s4, .no]) := by
  refine lc_G (e := [.val s0, .val s1, .val s2, .val s3, .val s4, .no]) _ ?_ xs
  intro x; refine Eq.trans ?_ (mTail_eq _ _); simp! only [C__law_shared_2_e, C__law_shared_2_t]
def C__law_shared_2 : Den := dLC (iSeq (dBin getF (dVar 0) (dVar 3))) [5] (.nm 5) C__law_shared_2_t C__law_shared_2_e
theorem C__law_shared_2_q (s0 s1 s2 s3 s4 : PV) : C__law_shared_2 [.val s0, .val s1, .val s2, .val s3, .val s4, .no] = ((getF s0 s3).bind fun t7 => (seqOf t7).bind fun l8 => cmpG (fun (x5 : PV) => (getF s0 s4).bind fun t9 => (inF x5 t9).bind fun t10 => (asBl t10).bind fun b11 => if b11 = true then some (some x5) else some none) l8).bind fun (k : List PV) => some (.lst k, [.val s0, .val s1, .val s2, .val s3, .val s4, .no]) := by
  refine Eq.trans ?_ (mTail_eq _ _); simp! only [C__law_shared_2, C__law_shared_2_l]
def D__law_shared_1_b : DenS := sPost [3, 4] (sSeq (sAsg (.nm 2) (dBin addF (dVar 2) (dApp lenF [.d C__law_shared_2]))) sNil)
def D__law_shared_1 : DenS := sFor (iSeq (dVar 1)) (.tp [(.nm 3), (.nm 4)]) D__law_shared_1_b
theorem D__law_shared_1_l (s0 s1 : PV) (z2 : PV) (xs : List PV) : forF (.tp [(.nm 3), (.nm 4)]) D__law_shared_1_b xs [.val s0, .val s1, .val z2, .no, .no, .no] = (fldM (fun (w2 : PV) (x1 : PV) => (un2 x1).bind fun (u4 : PV × PV) => ((getF s0 u4.1).bind fun t7 => (seqOf t7).bind fun l8 => cmpG (fun (x5 : PV) => (getF s0 u4.2).bind fun t9 => (inF x5 t9).bind fun t10 => (asBl t10).bind fun b11 => if b11 = true then some (some x5) else some none) l8).bind fun (y12 : List PV) => (lenF [(.lst y12)]).bind fun t13 => (addF w2 t13).bind fun t14 => some t14) xs z2).bind fun (k : PV) => some (.nx [.val s0, .val s1, .val k, .no, .no, .no]) := by
  refine for_fold (E := fun (w2 : PV) => [.val s0, .val s1, .val w2, .no, .no, .no]) _ ?_ xs z2
  intro z x; refine Eq.trans ?_ (mTail_eq _ _); simp! only [D__law_shared_1_b, C__law_shared_2_l, C__law_shared_2_q]
theorem D__law_shared_1_q (s0 s1 s2 : PV) : D__law_shared_1 [.val s0, .val s1, .val s2, .no, .no, .no] = ((seqOf s1).bind fun l3 => fldM (fun (w2 : PV) (x1 : PV) => (un2 x1).bind fun (u4 : PV × PV) => ((getF s0 u4.1).bind fun t7 => (seqOf t7).bind fun l8 => cmpG (fun (x5 : PV) => (getF s0 u4.2).bind fun t9 => (inF x5 t9).bind fun t10 => (asBl t10).bind fun b11 => if b11 = true then some (some x5) else some none) l8).bind fun (y12 : List PV) => (lenF [(.lst y12)]).bind fun t13 => (addF w2 t13).bind fun t14 => some t14) l3 s2).bind fun (k : PV) => some (.nx [.val s0, .val s1, .val k, .no, .no, .no]) := by
  refine Eq.trans ?_ (mTail_eq _ _); simp! only [D__law_shared_1, C__law_shared_2_l, C__law_shared_2_q, D__law_shared_1_l]
def d__law_shared : DenS := (sSeq (sAsg (.nm 2) (dC (.int 0))) (sSeq D__law_shared_1 (sSeq (sRetK [0, 1, 2, 3, 4, 5] (dVar 2)) sNil)))
def s__law_shared : PP.Sem := runF [] 4 d__law_shared
def m__law_shared (s0 s1 : PV) : Option (PV) := ((seqOf s1).bind fun l3 => fldM (fun (w2 : PV) (x1 : PV) => (un2 x1).bind fun (u4 : PV × PV) => ((getF s0 u4.1).bind fun t7 => (seqOf t7).bind fun l8 => cmpG (fun (x5 : PV) => (getF s0 u4.2).bind fun t9 => (inF x5 t9).bind fun t10 => (asBl t10).bind fun b11 => if b11 = true then some (some x5) else some none) l8).bind fun (y12 : List PV) => (lenF [(.lst y12)]).bind fun t13 => (addF w2 t13).bind fun t14 => some t14) l3 (.int 0)).bind fun (k15 : PV) => some k15
theorem q__law_shared (s0 s1 : PV) : s__law_shared [s0, s1] = (m__law_shared s0 s1).bind fun (r : PV) => some (r, [s0, s1]) := by
  refine Eq.trans ?_ (mTail_eq _ _); simp! only [s__law_shared, d__law_shared, m__law_shared, runF_ev, C__law_shared_2_l, C__law_shared_2_q, D__law_shared_1_l, D__law_shared_1_q]
def C_shared_of_2_e : Den := (dVar 2)
def C_shared_of_2_t : DenT := (dB (dBin inF (dVar 2) (dBin getF (dVar 0) (dVar 4))))
theorem C_shared_of_2_l (s0 s1 s3 s4 : PV) (xs : List PV) : lcF (.nm 2) C_shared_of_2_t C_shared_of_2_e [2] xs [.val s0, .val s1, .no, .val s3, .val s4] = (cmpG (fun (x5 : PV) => (getF s0 s4).bind fun t9 => (inF x5 t9).bind fun t10 => (asBl t10).bind fun b11 => if b11 = true then some (some x5) else some none) xs).bind fun ys => some (ys, [.val s0, .val s1, .no, .val s3, .val s4]) := by
  refine lc_G (e := [.val s0, .val s1, .no, .val s3, .val s4]) _ ?_ xs
  intro x; refine Eq.trans ?_ (mTail_eq _ _); simp! only [C_shared_of_2_e, C_shared_of_2_t]
def C_shared_of_2 : Den := dLC (iSeq (dBin getF (dVar 0) (dVar 3))) [2] (.nm 2) C_shared_of_2_t C_shared_of_2_e
theorem C_shared_of_2_q (s0 s1 s3 s4 : PV) : C_shared_of_2 [.val s0, .val s1, .no, .val s3, .val s4] = ((getF s0 s3).bind fun t7 => (seqOf t7).bind fun l8 => cmpG (fun (x5 : PV) => (getF s0 s4).bind fun t9 => (inF x5 t9).bind fun t10 => (asBl t10).bind fun b11 => if b11 = true then some (some x5) else some none) l8).bind fun (k : List PV) => some (.lst k, [.val s0, .val s1, .no, .val s3, .val s4]) := by
  refine Eq.trans ?_ (mTail_eq _ _); simp! only [C_shared_of_2, C_shared_of_2_l]
def C_shared_of_1_e : Den := (dApp lenF [.d C_shared_of_2])
def C_shared_of_1_t : DenT := dYes
theorem C_shared_of_1_l (s0 s1 : PV) (xs : List PV) : lcF (.tp [(.nm 3), (.nm 4)]) C_shared_of_1_t C_shared_of_1_e [3, 4] xs [.val s0, .val s1, .no, .no, .no] = (cmpM (fun (x1 : PV) => (un2 x1).bind fun (u4 : PV × PV) => ((getF s0 u4.1).bind fun t7 => (seqOf t7).bind fun l8 => cmpG (fun (x5 : PV) => (getF s0 u4.2).bind fun t9 => (inF x5 t9).bind fun t10 => (asBl t10).bind fun b11 => if b11 = true then some (some x5) else some none) l8).bind fun (y12 : List PV) => (lenF [(.lst y12)]).bind fun t13 => some t13) xs).bind fun ys => some (ys, [.val s0, .val s1, .no, .no, .no]) := by
  refine lc_M (e := [.val s0, .val s1, .no, .no, .no]) _ ?_ xs
  intro x; refine Eq.trans ?_ (mTail_eq _ _); simp! only [C_shared_of_1_e, C_shared_of_1_t, C_shared_of_2_l, C_shared_of_2_q]
def C_shared_of_1 : Den := dLC (iSeq (dVar 1)) [3, 4] (.tp [(.nm 3), (.nm 4)]) C_shared_of_1_t C_shared_of_1_e
theorem C_shared_of_1_q (s0 s1 : PV) : C_shared_of_1 [.val s0, .val s1, .no, .no, .no] = ((seqOf s1).bind fun l3 => cmpM (fun (x1 : PV) => (un2 x1).bind fun (u4 : PV × PV) => ((getF s0 u4.1).bind fun t7 => (seqOf t7).bind fun l8 => cmpG (fun (x5 : PV) => (getF s0 u4.2).bind fun t9 => (inF x5 t9).bind fun t10 => (asBl t10).bind fun b11 => if b11 = true then some (some x5) else some none) l8).bind fun (y12 : List PV) => (lenF [(.lst y12)]).bind fun t13 => some t13) l3).bind fun (k : List PV) => some (.lst k, [.val s0, .val s1, .no, .no, .no]) := by
  refine Eq.trans ?_ (mTail_eq _ _); simp! only [C_shared_of_1, C_shared_of_2_l, C_shared_of_2_q, C_shared_of_1_l]
def d_shared_of : DenS := (sSeq (sRetK [0, 1, 2, 3, 4] (dApp sumF [.d C_shared_of_1])) sNil)
def s_shared_of : PP.Sem := runF [] 3 d_shared_of
def m_shared_of (s0 s1 : PV) : Option (PV) := ((seqOf s1).bind fun l3 => cmpM (fun (x1 : PV) => (un2 x1).bind fun (u4 : PV × PV) => ((getF s0 u4.1).bind fun t7 => (seqOf t7).bind fun l8 => cmpG (fun (x5 : PV) => (getF s0 u4.2).bind fun t9 => (inF x5 t9).bind fun t10 => (asBl t10).bind fun b11 => if b11 = true then some (some x5) else some none) l8).bind fun (y12 : List PV) => (lenF [(.lst y12)]).bind fun t13 => some t13) l3).bind fun (y14 : List PV) => (sumF [(.lst y14)]).bind fun t15 => some t15
theorem q_shared_of (s0 s1 : PV) : s_shared_of [s0, s1] = (m_shared_of s0 s1).bind fun (r : PV) => some (r, [s0, s1]) := by
  refine Eq.trans ?_ (mTail_eq _ _); simp! only [s_shared_of, d_shared_of, m_shared_of, runF_ev, C_shared_of_2_l, C_shared_of_2_q, C_shared_of_1_l, C_shared_of_1_q]
def d_shared_number : DenS := (sSeq (sDrop (dCall s_check_edges [.d (dVar 0), .d (dVar 1)])) (sSeq (sRetK [0, 1] (dCall s_shared_of [.d (dVar 0), .d (dVar 1)])) sNil))
def s_shared_number : PP.Sem := runF [] 0 d_shared_number
def m_shared_number (s0 s1 : PV) : Option (PV) := (m_check_edges s0 s1).bind fun (t1 : PV) => (m_shared_of s0 s1).bind fun (t2 : PV) => some t2
theorem q_shared_number (s0 s1 : PV) : s_shared_number [s0, s1] = (m_shared_number s0 s1).bind fun (r : PV) => some (r, [s0, s1]) := by
  refine Eq.trans ?_ (mTail_eq _ _); simp! only [s_shared_number, d_shared_number, m_shared_number, runF_ev, q_check_edges, q_shared_of]
def C_most_shared_1_e : Den := (dCall s_shared_of [.d (dVar 0), .d (dVar 1)])
def C_most_shared_1_t : DenT := dYes
theorem C_most_shared_1_l (s0 : PV) (xs : List PV) : lcF (.nm 1) C_most_shared_1_t C_most_shared_1_e [1] xs [.val s0, .no] = (cmpM (fun (x2 : PV) => (m_shared_of s0 x2).bind fun (t6 : PV) => some t6) xs).bind fun ys => some (ys, [.val s0, .no]) := by
  refine lc_M (e := [.val s0, .no]) _ ?_ xs
  intro x; refine Eq.trans ?_ (mTail_eq _ _); simp! only [C_most_shared_1_e, C_most_shared_1_t, q_check_scopes, q_shared_of, q_trees_of]
def C_most_shared_1 : Den := dLC (iSeq (dCall s_trees_of [.d (dVar 0)])) [1] (.nm 1) C_most_shared_1_t C_most_shared_1_e
theorem C_most_shared_1_q (s0 : PV) : C_most_shared_1 [.val s0, .no] = ((m_trees_of s0).bind fun (t4 : PV) => (seqOf t4).bind fun l5 => cmpM (fun (x2 : PV) => (m_shared_of s0 x2).bind fun (t6 : PV) => some t6) l5).bind fun (k : List PV) => some (.lst k, [.val s0, .no]) := by
  refine Eq.trans ?_ (mTail_eq _ _); simp! only [C_most_shared_1, q_check_scopes, q_shared_of, q_trees_of, C_most_shared_1_l]
def d_most_shared : DenS := (sSeq (sDrop (dCall s_check_scopes [.d (dVar 0)])) (sSeq (sRetK [0, 1] (dApp maxF [.d C_most_shared_1])) sNil))
def s_most_shared : PP.Sem := runF [] 1 d_most_shared
def m_most_shared (s0 : PV) : Option (PV) := (m_check_scopes s0).bind fun (t1 : PV) => ((m_trees_of s0).bind fun (t4 : PV) => (seqOf t4).bind fun l5 => cmpM (fun (x2 : PV) => (m_shared_of s0 x2).bind fun (t6 : PV) => some t6) l5).bind fun (y7 : List PV) => (maxF [(.lst y7)]).bind fun t8 => some t8
theorem q_most_shared (s0 : PV) : s_most_shared [s0] = (m_most_shared s0).bind fun (r : PV) => some (r, [s0]) := by
  refine Eq.trans ?_ (mTail_eq _ _); simp! only [s_most_shared, d_most_shared, m_most_shared, runF_ev, q_check_scopes, q_shared_of, q_trees_of, C_most_shared_1_l, C_most_shared_1_q]
def T__law_way_6 : DenT := (dAnd (dB (dBin eqF (dBin getF (dVar 5) (dUn negF (dC (.int 1)))) (dVar 8))) (dAnd (dB (dBin notInF (dVar 9) (dVar 5))) (dB (dBinR notInF (dBin addF (dVar 5) (dTup [(dVar 9)])) 3))))
theorem T__law_way_6_q (s0 s1 s2 s3 s4 s5 s6 s7 s8 s9 : PV) : T__law_way_6 [.val s0, .val s1, .val s2, .own s3, .val s4, .val s5, .val s6, .val s7, .val s8, .val s9] = ((negF (.int 1)).bind fun t16 => (getF s5 t16).bind fun t17 => (eqF t17 s8).bind fun t18 => (asBl t18).bind fun b19 => if b19 = true then (notInF s9 s5).bind fun t20 => (asBl t20).bind fun b21 => if b21 = true then (addF s5 (.tup [s9])).bind fun t22 => (notInF t22 s3).bind fun t23 => (asBl t23).bind fun b24 => some b24 else some false else some false).bind fun (k : Bool) => some (k, [.val s0, .val s1, .val s2, .own s3, .val s4, .val s5, .val s6, .val s7, .val s8, .val s9]) := by
  refine Eq.trans ?_ (mTail_eq _ _); simp! only [T__law_way_6]
def D__law_way_5 : DenS := (sIf T__law_way_6 (sSeq (sDrop (dMut appendF 3 [(dBin addF (dVar 5) (dTup [(dVar 9)]))])) sNil) sNil)
theorem D__law_way_5_q (s0 s1 s2 s3 s4 s5 s6 s7 s8 s9 : PV) : D__law_way_5 [.val s0, .val s1, .val s2, .own s3, .val s4, .val s5, .val s6, .val s7, .val s8, .val s9] = (((negF (.int 1)).bind fun t16 => (getF s5 t16).bind fun t17 => (eqF t17 s8).bind fun t18 => (asBl t18).bind fun b19 => if b19 = true then (notInF s9 s5).bind fun t20 => (asBl t20).bind fun b21 => if b21 = true then (addF s5 (.tup [s9])).bind fun t22 => (notInF t22 s3).bind fun t23 => (asBl t23).bind fun b24 => some b24 else some false else some false).bind fun (b25 : Bool) => if b25 = true then (asL s3).bind fun _ => (addF s5 (.tup [s9])).bind fun t26 => (asL s3).bind fun l27 => (appendF l27 [t26]).bind fun (z28 : PV × List PV) => some (.lst z28.2) else some s3).bind fun (k : PV) => some (.nx [.val s0, .val s1, .val s2, .own k, .val s4, .val s5, .val s6, .val s7, .val s8, .val s9]) := by
  refine Eq.trans ?_ (mTail_eq _ _); simp! only [D__law_way_5, T__law_way_6_q]
def D__law_way_4_b : DenS := sPost [8, 9] (sSeq D__law_way_5 sNil)
def D__law_way_4 : DenS := sFor (iSeq (dLst [(dTup [(dVar 6), (dVar 7)]), (dTup [(dVar 7), (dVar 6)])])) (.tp [(.nm 8), (.nm 9)]) D__law_way_4_b
theorem D__law_way_4_l (s0 s1 s2 s4 s5 s6 s7 : PV) (z3 : PV) (xs : List PV) : forF (.tp [(.nm 8), (.nm 9)]) D__law_way_4_b xs [.val s0, .val s1, .val s2, .own z3, .val s4, .val s5, .val s6, .val s7, .no, .no] = (fldM (fun (w13 : PV) (x12 : PV) => (un2 x12).bind fun (u15 : PV × PV) => (((negF (.int 1)).bind fun t16 => (getF s5 t16).bind fun t17 => (eqF t17 u15.1).bind fun t18 => (asBl t18).bind fun b19 => if b19 = true then (notInF u15.2 s5).bind fun t20 => (asBl t20).bind fun b21 => if b21 = true then (addF s5 (.tup [u15.2])).bind fun t22 => (notInF t22 w13).bind fun t23 => (asBl t23).bind fun b24 => some b24 else some false else some false).bind fun (b25 : Bool) => if b25 = true then (asL w13).bind fun _ => (addF s5 (.tup [u15.2])).bind fun t26 => (asL w13).bind fun l27 => (appendF l27 [t26]).bind fun (z28 : PV × List PV) => some (.lst z28.2) else some w13).bind fun (k29 : PV) => some k29) xs z3).bind fun (k : PV) => some (.nx [.val s0, .val s1, .val s2, .own k, .val s4, .val s5, .val s6, .val s7, .no, .no]) := by
  refine for_fold (E := fun (w13 : PV) => [.val s0, .val s1, .val s2, .own w13, .val s4, .val s5, .val s6, .val s7, .no, .no]) _ ?_ xs z3
  intro z x; refine Eq.trans ?_ (mTail_eq _ _); simp! only [D__law_way_4_b, T__law_way_6_q, D__law_way_5_q]
theorem D__law_way_4_q (s0 s1 s2 s3 s4 s5 s6 s7 : PV) : D__law_way_4 [.val s0, .val s1, .val s2, .own s3, .val s4, .val s5, .val s6, .val s7, .no, .no] = ((seqOf (.lst [(.tup [s6, s7]), (.tup [s7, s6])])).bind fun l14 => fldM (fun (w13 : PV) (x12 : PV) => (un2 x12).bind fun (u15 : PV × PV) => (((negF (.int 1)).bind fun t16 => (getF s5 t16).bind fun t17 => (eqF t17 u15.1).bind fun t18 => (asBl t18).bind fun b19 => if b19 = true then (notInF u15.2 s5).bind fun t20 => (asBl t20).bind fun b21 => if b21 = true then (addF s5 (.tup [u15.2])).bind fun t22 => (notInF t22 w13).bind fun t23 => (asBl t23).bind fun b24 => some b24 else some false else some false).bind fun (b25 : Bool) => if b25 = true then (asL w13).bind fun _ => (addF s5 (.tup [u15.2])).bind fun t26 => (asL w13).bind fun l27 => (appendF l27 [t26]).bind fun (z28 : PV × List PV) => some (.lst z28.2) else some w13).bind fun (k29 : PV) => some k29) l14 s3).bind fun (k : PV) => some (.nx [.val s0, .val s1, .val s2, .own k, .val s4, .val s5, .val s6, .val s7, .no, .no]) := by
  refine Eq.trans ?_ (mTail_eq _ _); simp! only [D__law_way_4, T__law_way_6_q, D__law_way_5_q, D__law_way_4_l]
def D__law_way_3_b : DenS := sPost [6, 7, 8, 9] (sSeq D__law_way_4 sNil)
def D__law_way_3 : DenS := sFor (iSeq (dVar 0)) (.tp [(.nm 6), (.nm 7)]) D__law_way_3_b
theorem D__law_way_3_l (s0 s1 s2 s4 s5 : PV) (z3 : PV) (xs : List PV) : forF (.tp [(.nm 6), (.nm 7)]) D__law_way_3_b xs [.val s0, .val s1, .val s2, .own z3, .val s4, .val s5, .no, .no, .no, .no] = (fldM (fun (w9 : PV) (x8 : PV) => (un2 x8).bind fun (u11 : PV × PV) => ((seqOf (.lst [(.tup [u11.1, u11.2]), (.tup [u11.2, u11.1])])).bind fun l14 => fldM (fun (w13 : PV) (x12 : PV) => (un2 x12).bind fun (u15 : PV × PV) => (((negF (.int 1)).bind fun t16 => (getF s5 t16).bind fun t17 => (eqF t17 u15.1).bind fun t18 => (asBl t18).bind fun b19 => if b19 = true then (notInF u15.2 s5).bind fun t20 => (asBl t20).bind fun b21 => if b21 = true then (addF s5 (.tup [u15.2])).bind fun t22 => (notInF t22 w13).bind fun t23 => (asBl t23).bind fun b24 => some b24 else some false else some false).bind fun (b25 : Bool) => if b25 = true then (asL w13).bind fun _ => (addF s5 (.tup [u15.2])).bind fun t26 => (asL w13).bind fun l27 => (appendF l27 [t26]).bind fun (z28 : PV × List PV) => some (.lst z28.2) else some w13).bind fun (k29 : PV) => some k29) l14 w9).bind fun (k30 : PV) => some k30) xs z3).bind fun (k : PV) => some (.nx [.val s0, .val s1, .val s2, .own k, .val s4, .val s5, .no, .no, .no, .no]) := by
  refine for_fold (E := fun (w9 : PV) => [.val s0, .val s1, .val s2, .own w9, .val s4, .val s5, .no, .no, .no, .no]) _ ?_ xs z3
  intro z x; refine Eq.trans ?_ (mTail_eq _ _); simp! only [D__law_way_3_b, T__law_way_6_q, D__law_way_5_q, D__law_way_4_l, D__law_way_4_q]
theorem D__law_way_3_q (s0 s1 s2 s3 s4 s5 : PV) : D__law_way_3 [.val s0, .val s1, .val s2, .own s3, .val s4, .val s5, .no, .no, .no, .no] = ((seqOf s0).bind fun l10 => fldM (fun (w9 : PV) (x8 : PV) => (un2 x8).bind fun (u11 : PV × PV) => ((seqOf (.lst [(.tup [u11.1, u11.2]), (.tup [u11.2, u11.1])])).bind fun l14 => fldM (fun (w13 : PV) (x12 : PV) => (un2 x12).bind fun (u15 : PV × PV) => (((negF (.int 1)).bind fun t16 => (getF s5 t16).bind fun t17 => (eqF t17 u15.1).bind fun t18 => (asBl t18).bind fun b19 => if b19 = true then (notInF u15.2 s5).bind fun t20 => (asBl t20).bind fun b21 => if b21 = true then (addF s5 (.tup [u15.2])).bind fun t22 => (notInF t22 w13).bind fun t23 => (asBl t23).bind fun b24 => some b24 else some false else some false).bind fun (b25 : Bool) => if b25 = true then (asL w13).bind fun _ => (addF s5 (.tup [u15.2])).bind fun t26 => (asL w13).bind fun l27 => (appendF l27 [t26]).bind fun (z28 : PV × List PV) => some (.lst z28.2) else some w13).bind fun (k29 : PV) => some k29) l14 w9).bind fun (k30 : PV) => some k30) l10 s3).bind fun (k : PV) => some (.nx [.val s0, .val s1, .val s2, .own k, .val s4, .val s5, .no, .no, .no, .no]) := by
  refine Eq.trans ?_ (mTail_eq _ _); simp! only [D__law_way_3, T__law_way_6_q, D__law_way_5_q, D__law_way_4_l, D__law_way_4_q, D__law_way_3_l]
def D__law_way_2_b : DenS := sPost [5, 6, 7, 8, 9] (sSeq D__law_way_3 sNil)
def D__law_way_2 : DenS := sFor (iSeq (dApp listF [.b 3])) (.nm 5) D__law_way_2_b
theorem D__law_way_2_l (s0 s1 s2 s4 : PV) (z3 : PV) (xs : List PV) : forF (.nm 5) D__law_way_2_b xs [.val s0, .val s1, .val s2, .own z3, .val s4, .no, .no, .no, .no, .no] = (fldM (fun (w5 : PV) (x4 : PV) => ((seqOf s0).bind fun l10 => fldM (fun (w9 : PV) (x8 : PV) => (un2 x8).bind fun (u11 : PV × PV) => ((seqOf (.lst [(.tup [u11.1, u11.2]), (.tup [u11.2, u11.1])])).bind fun l14 => fldM (fun (w13 : PV) (x12 : PV) => (un2 x12).bind fun (u15 : PV × PV) => (((negF (.int 1)).bind fun t16 => (getF x4 t16).bind fun t17 => (eqF t17 u15.1).bind fun t18 => (asBl t18).bind fun b19 => if b19 = true then (notInF u15.2 x4).bind fun t20 => (asBl t20).bind fun b21 => if b21 = true then (addF x4 (.tup [u15.2])).bind fun t22 => (notInF t22 w13).bind fun t23 => (asBl t23).bind fun b24 => some b24 else some false else some false).bind fun (b25 : Bool) => if b25 = true then (asL w13).bind fun _ => (addF x4 (.tup [u15.2])).bind fun t26 => (asL w13).bind fun l27 => (appendF l27 [t26]).bind fun (z28 : PV × List PV) => some (.lst z28.2) else some w13).bind fun (k29 : PV) => some k29) l14 w9).bind fun (k30 : PV) => some k30) l10 w5).bind fun (k31 : PV) => some k31) xs z3).bind fun (k : PV) => some (.nx [.val s0, .val s1, .val s2, .own k, .val s4, .no, .no, .no, .no, .no]) := by
  refine for_fold (E := fun (w5 : PV) => [.val s0, .val s1, .val s2, .own w5, .val s4, .no, .no, .no, .no, .no]) _ ?_ xs z3
  intro z x; refine Eq.trans ?_ (mTail_eq _ _); simp! only [D__law_way_2_b, T__law_way_6_q, D__law_way_5_q, D__law_way_4_l, D__law_way_4_q, D__law_way_3_l, D__law_way_3_q]
theorem D__law_way_2_q (s0 s1 s2 s3 s4 : PV) : D__law_way_2 [.val s0, .val s1, .val s2, .own s3, .val s4, .no, .no, .no, .no, .no] = ((listF [s3]).bind fun t6 => (seqOf t6).bind fun l7 => fldM (fun (w5 : PV) (x4 : PV) => ((seqOf s0).bind fun l10 => fldM (fun (w9 : PV) (x8 : PV) => (un2 x8).bind fun (u11 : PV × PV) => ((seqOf (.lst [(.tup [u11.1, u11.2]), (.tup [u11.2, u11.1])])).bind fun l14 => fldM (fun (w13 : PV) (x12 : PV) => (un2 x12).bind fun (u15 : PV × PV) => (((negF (.int 1)).bind fun t16 => (getF x4 t16).bind fun t17 => (eqF t17 u15.1).bind fun t18 => (asBl t18).bind fun b19 => if b19 = true then (notInF u15.2 x4).bind fun t20 => (asBl t20).bind fun b21 => if b21 = true then (addF x4 (.tup [u15.2])).bind fun t22 => (notInF t22 w13).bind fun t23 => (asBl t23).bind fun b24 => some b24 else some false else some false).bind fun (b25 : Bool) => if b25 = true then (asL w13).bind fun _ => (addF x4 (.tup [u15.2])).bind fun t26 => (asL w13).bind fun l27 => (appendF l27 [t26]).bind fun (z28 : PV × List PV) => some (.lst z28.2) else some w13).bind fun (k29 : PV) => some k29) l14 w9).bind fun (k30 : PV) => some k30) l10 w5).bind fun (k31 : PV) => some k31) l7 s3).bind fun (k : PV) => some (.nx [.val s0, .val s1, .val s2, .own k, .val s4, .no, .no, .no, .no, .no]) := by
  refine Eq.trans ?_ (mTail_eq _ _); simp! only [D__law_way_2, T__law_way_6_q, D__law_way_5_q, D__law_way_4_l, D__law_way_4_q, D__law_way_3_l, D__law_way_3_q, D__law_way_2_l]
def D__law_way_1_b : DenS := sPost [4, 5, 6, 7, 8, 9] (sSeq D__law_way_2 sNil)
def D__law_way_1 : DenS := sFor (iRange [(dC (.int 6))]) (.nm 4) D__law_way_1_b
theorem D__law_way_1_l (s0 s1 s2 : PV) (z3 : PV) (xs : List PV) : forF (.nm 4) D__law_way_1_b xs [.val s0, .val s1, .val s2, .own z3, .no, .no, .no, .no, .no, .no] = (fldM (fun (w2 : PV) (x1 : PV) => ((listF [w2]).bind fun t6 => (seqOf t6).bind fun l7 => fldM (fun (w5 : PV) (x4 : PV) => ((seqOf s0).bind fun l10 => fldM (fun (w9 : PV) (x8 : PV) => (un2 x8).bind fun (u11 : PV × PV) => ((seqOf (.lst [(.tup [u11.1, u11.2]), (.tup [u11.2, u11.1])])).bind fun l14 => fldM (fun (w13 : PV) (x12 : PV) => (un2 x12).bind fun (u15 : PV × PV) => (((negF (.int 1)).bind fun t16 => (getF x4 t16).bind fun t17 => (eqF t17 u15.1).bind fun t18 => (asBl t18).bind fun b19 => if b19 = true then (notInF u15.2 x4).bind fun t20 => (asBl t20).bind fun b21 => if b21 = true then (addF x4 (.tup [u15.2])).bind fun t22 => (notInF t22 w13).bind fun t23 => (asBl t23).bind fun b24 => some b24 else some false else some false).bind fun (b25 : Bool) => if b25 = true then (asL w13).bind fun _ => (addF x4 (.tup [u15.2])).bind fun t26 => (asL w13).bind fun l27 => (appendF l27 [t26]).bind fun (z28 : PV × List PV) => some (.lst z28.2) else some w13).bind fun (k29 : PV) => some k29) l14 w9).bind fun (k30 : PV) => some k30) l10 w5).bind fun (k31 : PV) => some k31) l7 w2).bind fun (k32 : PV) => some k32) xs z3).bind fun (k : PV) => some (.nx [.val s0, .val s1, .val s2, .own k, .no, .no, .no, .no, .no, .no]) := by
  refine for_fold (E := fun (w2 : PV) => [.val s0, .val s1, .val s2, .own w2, .no, .no, .no, .no, .no, .no]) _ ?_ xs z3
  intro z x; refine Eq.trans ?_ (mTail_eq _ _); simp! only [D__law_way_1_b, T__law_way_6_q, D__law_way_5_q, D__law_way_4_l, D__law_way_4_q, D__law_way_3_l, D__law_way_3_q, D__law_way_2_l, D__law_way_2_q]
theorem D__law_way_1_q (s0 s1 s2 s3 : PV) : D__law_way_1 [.val s0, .val s1, .val s2, .own s3, .no, .no, .no, .no, .no, .no] = ((rgO1 (.int 6)).bind fun r3 => fldM (fun (w2 : PV) (x1 : PV) => ((listF [w2]).bind fun t6 => (seqOf t6).bind fun l7 => fldM (fun (w5 : PV) (x4 : PV) => ((seqOf s0).bind fun l10 => fldM (fun (w9 : PV) (x8 : PV) => (un2 x8).bind fun (u11 : PV × PV) => ((seqOf (.lst [(.tup [u11.1, u11.2]), (.tup [u11.2, u11.1])])).bind fun l14 => fldM (fun (w13 : PV) (x12 : PV) => (un2 x12).bind fun (u15 : PV × PV) => (((negF (.int 1)).bind fun t16 => (getF x4 t16).bind fun t17 => (eqF t17 u15.1).bind fun t18 => (asBl t18).bind fun b19 => if b19 = true then (notInF u15.2 x4).bind fun t20 => (asBl t20).bind fun b21 => if b21 = true then (addF x4 (.tup [u15.2])).bind fun t22 => (notInF t22 w13).bind fun t23 => (asBl t23).bind fun b24 => some b24 else some false else some false).bind fun (b25 : Bool) => if b25 = true then (asL w13).bind fun _ => (addF x4 (.tup [u15.2])).bind fun t26 => (asL w13).bind fun l27 => (appendF l27 [t26]).bind fun (z28 : PV × List PV) => some (.lst z28.2) else some w13).bind fun (k29 : PV) => some k29) l14 w9).bind fun (k30 : PV) => some k30) l10 w5).bind fun (k31 : PV) => some k31) l7 w2).bind fun (k32 : PV) => some k32) (rgL r3) s3).bind fun (k : PV) => some (.nx [.val s0, .val s1, .val s2, .own k, .no, .no, .no, .no, .no, .no]) := by
  refine Eq.trans ?_ (mTail_eq _ _); simp! only [D__law_way_1, T__law_way_6_q, D__law_way_5_q, D__law_way_4_l, D__law_way_4_q, D__law_way_3_l, D__law_way_3_q, D__law_way_2_l, D__law_way_2_q, D__law_way_1_l]
def C__law_way_7_e : Den := (dVar 5)
def C__law_way_7_t : DenT := (dB (dBin eqF (dBin getF (dVar 5) (dUn negF (dC (.int 1)))) (dVar 2)))
theorem C__law_way_7_l (s0 s1 s2 s3 : PV) (xs : List PV) : lcF (.nm 5) C__law_way_7_t C__law_way_7_e [5] xs [.val s0, .val s1, .val s2, .val s3, .no, .no, .no, .no, .no, .no] = (cmpG (fun (x34 : PV) => (negF (.int 1)).bind fun t37 => (getF x34 t37).bind fun t38 => (eqF t38 s2).bind fun t39 => (asBl t39).bind fun b40 => if b40 = true then some (some x34) else some none) xs).bind fun ys => some (ys, [.val s0, .val s1, .val s2, .val s3, .no, .no, .no, .no, .no, .no]) := by
  refine lc_G (e := [.val s0, .val s1, .val s2, .val s3, .no, .no, .no, .no, .no, .no]) _ ?_ xs
  intro x; refine Eq.trans ?_ (mTail_eq _ _); simp! only [C__law_way_7_e, C__law_way_7_t, T__law_way_6_q, D__law_way_5_q, D__law_way_4_l, D__law_way_4_q, D__law_way_3_l, D__law_way_3_q, D__law_way_2_l, D__law_way_2_q, D__law_way_1_l, D__law_way_1_q]
def C__law_way_7 : Den := dLC (iSeq (dVar 3)) [5] (.nm 5) C__law_way_7_t C__law_way_7_e
theorem C__law_way_7_q (s0 s1 s2 s3 : PV) : C__law_way_7 [.val s0, .val s1, .val s2, .own s3, .no, .no, .no, .no, .no, .no] = ((seqOf s3).bind fun l36 => cmpG (fun (x34 : PV) => (negF (.int 1)).bind fun t37 => (getF x34 t37).bind fun t38 => (eqF t38 s2).bind fun t39 => (asBl t39).bind fun b40 => if b40 = true then some (some x34) else some none) l36).bind fun (k : List PV) => some (.lst k, [.val s0, .val s1, .val s2, .val s3, .no, .no, .no, .no, .no, .no]) := by
  refine Eq.trans ?_ (mTail_eq _ _); simp! only [C__law_way_7, T__law_way_6_q, D__law_way_5_q, D__law_way_4_l, D__law_way_4_q, D__law_way_3_l, D__law_way_3_q, D__law_way_2_l, D__law_way_2_q, D__law_way_1_l, D__law_way_1_q, C__law_way_7_l]
def d__law_way : DenS := (sSeq (sOwn 3 (dLst [(dTup [(dVar 1)])])) (sSeq D__law_way_1 (sSeq (sRetK [0, 1, 2, 3, 4, 5, 6, 7, 8, 9] (dBin getF C__law_way_7 (dC (.int 0)))) sNil)))
def s__law_way : PP.Sem := runF [] 7 d__law_way
def m__law_way (s0 s1 s2 : PV) : Option (PV) := ((rgO1 (.int 6)).bind fun r3 => fldM (fun (w2 : PV) (x1 : PV) => ((listF [w2]).bind fun t6 => (seqOf t6).bind fun l7 => fldM (fun (w5 : PV) (x4 : PV) => ((seqOf s0).bind fun l10 => fldM (fun (w9 : PV) (x8 : PV) => (un2 x8).bind fun (u11 : PV × PV) => ((seqOf (.lst [(.tup [u11.1, u11.2]), (.tup [u11.2, u11.1])])).bind fun l14 => fldM (fun (w13 : PV) (x12 : PV) => (un2 x12).bind fun (u15 : PV × PV) => (((negF (.int 1)).bind fun t16 => (getF x4 t16).bind fun t17 => (eqF t17 u15.1).bind fun t18 => (asBl t18).bind fun b19 => if b19 = true then (notInF u15.2 x4).bind fun t20 => (asBl t20).bind fun b21 => if b21 = true then (addF x4 (.tup [u15.2])).bind fun t22 => (notInF t22 w13).bind fun t23 => (asBl t23).bind fun b24 => some b24 else some false else some false).bind fun (b25 : Bool) => if b25 = true then (asL w13).bind fun _ => (addF x4 (.tup [u15.2])).bind fun t26 => (asL w13).bind fun l27 => (appendF l27 [t26]).bind fun (z28 : PV × List PV) => some (.lst z28.2) else some w13).bind fun (k29 : PV) => some k29) l14 w9).bind fun (k30 : PV) => some k30) l10 w5).bind fun (k31 : PV) => some k31) l7 w2).bind fun (k32 : PV) => some k32) (rgL r3) (.lst [(.tup [s1])])).bind fun (k33 : PV) => ((seqOf k33).bind fun l36 => cmpG (fun (x34 : PV) => (negF (.int 1)).bind fun t37 => (getF x34 t37).bind fun t38 => (eqF t38 s2).bind fun t39 => (asBl t39).bind fun b40 => if b40 = true then some (some x34) else some none) l36).bind fun (y41 : List PV) => (getF (.lst y41) (.int 0)).bind fun t42 => some t42
theorem q__law_way (s0 s1 s2 : PV) : s__law_way [s0, s1, s2] = (m__law_way s0 s1 s2).bind fun (r : PV) => some (r, [s0, s1, s2]) := by
  refine Eq.trans ?_ (mTail_eq _ _); simp! only [s__law_way, d__law_way, m__law_way, runF_ev, T__law_way_6_q, D__law_way_5_q, D__law_way_4_l, D__law_way_4_q, D__law_way_3_l, D__law_way_3_q, D__law_way_2_l, D__law_way_2_q, D__law_way_1_l, D__law_way_1_q, C__law_way_7_l, C__law_way_7_q]
def C__law_additions_4_e : Den := (dVar 6)
def C__law_additions_4_t : DenT := (dB (dBin inF (dVar 6) (dBin getF (dVar 0) (dVar 3))))
theorem C__law_additions_4_l (s0 s1 s2 s3 s4 s5 : PV) (xs : List PV) : lcF (.nm 6) C__law_additions_4_t C__law_additions_4_e [6] xs [.val s0, .val s1, .own s2, .val s3, .val s4, .val s5, .no, .no] = (cmpG (fun (x11 : PV) => (getF s0 s3).bind fun t15 => (inF x11 t15).bind fun t16 => (asBl t16).bind fun b17 => if b17 = true then some (some x11) else some none) xs).bind fun ys => some (ys, [.val s0, .val s1, .own s2, .val s3, .val s4, .val s5, .no, .no]) := by
  refine lc_G (e := [.val s0, .val s1, .own s2, .val s3, .val s4, .val s5, .no, .no]) _ ?_ xs
  intro x; refine Eq.trans ?_ (mTail_eq _ _); simp! only [C__law_additions_4_e, C__law_additions_4_t, q__law_way]
def C__law_additions_4 : Den := dLC (iSeq (dBin getF (dVar 0) (dVar 4))) [6] (.nm 6) C__law_additions_4_t C__law_additions_4_e
theorem C__law_additions_4_q (s0 s1 s2 s3 s4 s5 : PV) : C__law_additions_4 [.val s0, .val s1, .own s2, .val s3, .val s4, .val s5, .no, .no] = ((getF s0 s4).bind fun t13 => (seqOf t13).bind fun l14 => cmpG (fun (x11 : PV) => (getF s0 s3).bind fun t15 => (inF x11 t15).bind fun t16 => (asBl t16).bind fun b17 => if b17 = true then some (some x11) else some none) l14).bind fun (k : List PV) => some (.lst k, [.val s0, .val s1, .own s2, .val s3, .val s4, .val s5, .no, .no]) := by
  refine Eq.trans ?_ (mTail_eq _ _); simp! only [C__law_additions_4, q__law_way, C__law_additions_4_l]
def T__law_additions_7 : DenT := (dAnd (dB (dBin notInF (dVar 6) (dBin getF (dVar 0) (dVar 7)))) (dB (dBinR notInF (dTup [(dVar 7), (dVar 6)]) 2)))
theorem T__law_additions_7_q (s0 s1 s2 s3 s4 s5 s6 s7 : PV) : T__law_additions_7 [.val s0, .val s1, .own s2, .val s3, .val s4, .val s5, .val s6, .val s7] = ((getF s0 s7).bind fun t23 => (notInF s6 t23).bind fun t24 => (asBl t24).bind fun b25 => if b25 = true then (notInF (.tup [s7, s6]) s2).bind fun t26 => (asBl t26).bind fun b27 => some b27 else some false).bind fun (k : Bool) => some (k, [.val s0, .val s1, .own s2, .val s3, .val s4, .val s5, .val s6, .val s7]) := by
  refine Eq.trans ?_ (mTail_eq _ _); simp! only [T__law_additions_7, q__law_way, C__law_additions_4_l, C__law_additions_4_q]
def D__law_additions_6 : DenS := (sIf T__law_additions_7 (sSeq (sDrop (dMut appendF 2 [(dTup [(dVar 7), (dVar 6)])])) sNil) sNil)
theorem D__law_additions_6_q (s0 s1 s2 s3 s4 s5 s6 s7 : PV) : D__law_additions_6 [.val s0, .val s1, .own s2, .val s3, .val s4, .val s5, .val s6, .val s7] = (((getF s0 s7).bind fun t23 => (notInF s6 t23).bind fun t24 => (asBl t24).bind fun b25 => if b25 = true then (notInF (.tup [s7, s6]) s2).bind fun t26 => (asBl t26).bind fun b27 => some b27 else some false).bind fun (b28 : Bool) => if b28 = true then (asL s2).bind fun _ => (asL s2).bind fun l29 => (appendF l29 [(.tup [s7, s6])]).bind fun (z30 : PV × List PV) => some (.lst z30.2) else some s2).bind fun (k : PV) => some (.nx [.val s0, .val s1, .own k, .val s3, .val s4, .val s5, .val s6, .val s7]) := by
  refine Eq.trans ?_ (mTail_eq _ _); simp! only [D__law_additions_6, q__law_way, C__law_additions_4_l, C__law_additions_4_q, T__law_additions_7_q]
def D__law_additions_5_b : DenS := sPost [7] (sSeq D__law_additions_6 sNil)
def D__law_additions_5 : DenS := sFor (iSeq (dVar 5)) (.nm 7) D__law_additions_5_b
theorem D__law_additions_5_l (s0 s1 s3 s4 s5 s6 : PV) (z2 : PV) (xs : List PV) : forF (.nm 7) D__law_additions_5_b xs [.val s0, .val s1, .own z2, .val s3, .val s4, .val s5, .val s6, .no] = (fldM (fun (w21 : PV) (x20 : PV) => (((getF s0 x20).bind fun t23 => (notInF s6 t23).bind fun t24 => (asBl t24).bind fun b25 => if b25 = true then (notInF (.tup [x20, s6]) w21).bind fun t26 => (asBl t26).bind fun b27 => some b27 else some false).bind fun (b28 : Bool) => if b28 = true then (asL w21).bind fun _ => (asL w21).bind fun l29 => (appendF l29 [(.tup [x20, s6])]).bind fun (z30 : PV × List PV) => some (.lst z30.2) else some w21).bind fun (k31 : PV) => some k31) xs z2).bind fun (k : PV) => some (.nx [.val s0, .val s1, .own k, .val s3, .val s4, .val s5, .val s6, .no]) := by
  refine for_fold (E := fun (w21 : PV) => [.val s0, .val s1, .own w21, .val s3, .val s4, .val s5, .val s6, .no]) _ ?_ xs z2
  intro z x; refine Eq.trans ?_ (mTail_eq _ _); simp! only [D__law_additions_5_b, q__law_way, C__law_additions_4_l, C__law_additions_4_q, T__law_additions_7_q, D__law_additions_6_q]
theorem D__law_additions_5_q (s0 s1 s2 s3 s4 s5 s6 : PV) : D__law_additions_5 [.val s0, .val s1, .own s2, .val s3, .val s4, .val s5, .val s6, .no] = ((seqOf s5).bind fun l22 => fldM (fun (w21 : PV) (x20 : PV) => (((getF s0 x20).bind fun t23 => (notInF s6 t23).bind fun t24 => (asBl t24).bind fun b25 => if b25 = true then (notInF (.tup [x20, s6]) w21).bind fun t26 => (asBl t26).bind fun b27 => some b27 else some false).bind fun (b28 : Bool) => if b28 = true then (asL w21).bind fun _ => (asL w21).bind fun l29 => (appendF l29 [(.tup [x20, s6])]).bind fun (z30 : PV × List PV) => some (.lst z30.2) else some w21).bind fun (k31 : PV) => some k31) l22 s2).bind fun (k : PV) => some (.nx [.val s0, .val s1, .own k, .val s3, .val s4, .val s5, .val s6, .no]) := by
  refine Eq.trans ?_ (mTail_eq _ _); simp! only [D__law_additions_5, q__law_way, C__law_additions_4_l, C__law_additions_4_q, T__law_additions_7_q, D__law_additions_6_q, D__law_additions_5_l]
def D__law_additions_3_b : DenS := sPost [6, 7] (sSeq D__law_additions_5 sNil)
def D__law_additions_3 : DenS := sFor (iSeq C__law_additions_4) (.nm 6) D__law_additions_3_b
theorem D__law_additions_3_l (s0 s1 s3 s4 s5 : PV) (z2 : PV) (xs : List PV) : forF (.nm 6) D__law_additions_3_b xs [.val s0, .val s1, .own z2, .val s3, .val s4, .val s5, .no, .no] = (fldM (fun (w10 : PV) (x9 : PV) => ((seqOf s5).bind fun l22 => fldM (fun (w21 : PV) (x20 : PV) => (((getF s0 x20).bind fun t23 => (notInF x9 t23).bind fun t24 => (asBl t24).bind fun b25 => if b25 = true then (notInF (.tup [x20, x9]) w21).bind fun t26 => (asBl t26).bind fun b27 => some b27 else some false).bind fun (b28 : Bool) => if b28 = true then (asL w21).bind fun _ => (asL w21).bind fun l29 => (appendF l29 [(.tup [x20, x9])]).bind fun (z30 : PV × List PV) => some (.lst z30.2) else some w21).bind fun (k31 : PV) => some k31) l22 w10).bind fun (k32 : PV) => some k32) xs z2).bind fun (k : PV) => some (.nx [.val s0, .val s1, .own k, .val s3, .val s4, .val s5, .no, .no]) := by
  refine for_fold (E := fun (w10 : PV) => [.val s0, .val s1, .own w10, .val s3, .val s4, .val s5, .no, .no]) _ ?_ xs z2
  intro z x; refine Eq.trans ?_ (mTail_eq _ _); simp! only [D__law_additions_3_b, q__law_way, C__law_additions_4_l, C__law_additions_4_q, T__law_additions_7_q, D__law_additions_6_q, D__law_additions_5_l, D__law_additions_5_q]
theorem D__law_additions_3_q (s0 s1 s2 s3 s4 s5 : PV) : D__law_additions_3 [.val s0, .val s1, .own s2, .val s3, .val s4, .val s5, .no, .no] = (((getF s0 s4).bind fun t13 => (seqOf t13).bind fun l14 => cmpG (fun (x11 : PV) => (getF s0 s3).bind fun t15 => (inF x11 t15).bind fun t16 => (asBl t16).bind fun b17 => if b17 = true then some (some x11) else some none) l14).bind fun (y18 : List PV) => (seqOf (.lst y18)).bind fun l19 => fldM (fun (w10 : PV) (x9 : PV) => ((seqOf s5).bind fun l22 => fldM (fun (w21 : PV) (x20 : PV) => (((getF s0 x20).bind fun t23 => (notInF x9 t23).bind fun t24 => (asBl t24).bind fun b25 => if b25 = true then (notInF (.tup [x20, x9]) w21).bind fun t26 => (asBl t26).bind fun b27 => some b27 else some false).bind fun (b28 : Bool) => if b28 = true then (asL w21).bind fun _ => (asL w21).bind fun l29 => (appendF l29 [(.tup [x20, x9])]).bind fun (z30 : PV × List PV) => some (.lst z30.2) else some w21).bind fun (k31 : PV) => some k31) l22 w10).bind fun (k32 : PV) => some k32) l19 s2).bind fun (k : PV) => some (.nx [.val s0, .val s1, .own k, .val s3, .val s4, .val s5, .no, .no]) := by
  refine Eq.trans ?_ (mTail_eq _ _); simp! only [D__law_additions_3, q__law_way, C__law_additions_4_l, C__law_additions_4_q, T__law_additions_7_q, D__law_additions_6_q, D__law_additions_5_l, D__law_additions_5_q, D__law_additions_3_l]
def D__law_additions_2_b : DenS := sPost [4, 5, 6, 7] (sSeq (sAsg (.nm 5) (dCall s__law_way [.d (dVar 1), .d (dVar 4), .d (dVar 3)])) (sSeq D__law_additions_3 sNil))
def D__law_additions_2 : DenS := sFor (iRange [(dVar 3)]) (.nm 4) D__law_additions_2_b
theorem D__law_additions_2_l (s0 s1 s3 : PV) (z2 : PV) (xs : List PV) : forF (.nm 4) D__law_additions_2_b xs [.val s0, .val s1, .own z2, .val s3, .no, .no, .no, .no] = (fldM (fun (w6 : PV) (x5 : PV) => (m__law_way s1 x5 s3).bind fun (t8 : PV) => (((getF s0 x5).bind fun t13 => (seqOf t13).bind fun l14 => cmpG (fun (x11 : PV) => (getF s0 s3).bind fun t15 => (inF x11 t15).bind fun t16 => (asBl t16).bind fun b17 => if b17 = true then some (some x11) else some none) l14).bind fun (y18 : List PV) => (seqOf (.lst y18)).bind fun l19 => fldM (fun (w10 : PV) (x9 : PV) => ((seqOf t8).bind fun l22 => fldM (fun (w21 : PV) (x20 : PV) => (((getF s0 x20).bind fun t23 => (notInF x9 t23).bind fun t24 => (asBl t24).bind fun b25 => if b25 = true then (notInF (.tup [x20, x9]) w21).bind fun t26 => (asBl t26).bind fun b27 => some b27 else some false).bind fun (b28 : Bool) => if b28 = true then (asL w21).bind fun _ => (asL w21).bind fun l29 => (appendF l29 [(.tup [x20, x9])]).bind fun (z30 : PV × List PV) => some (.lst z30.2) else some w21).bind fun (k31 : PV) => some k31) l22 w10).bind fun (k32 : PV) => some k32) l19 w6).bind fun (k33 : PV) => some k33) xs z2).bind fun (k : PV) => some (.nx [.val s0, .val s1, .own k, .val s3, .no, .no, .no, .no]) := by
  refine for_fold (E := fun (w6 : PV) => [.val s0, .val s1, .own w6, .val s3, .no, .no, .no, .no]) _ ?_ xs z2
  intro z x; refine Eq.trans ?_ (mTail_eq _ _); simp! only [D__law_additions_2_b, q__law_way, C__law_additions_4_l, C__law_additions_4_q, T__law_additions_7_q, D__law_additions_6_q, D__law_additions_5_l, D__law_additions_5_q, D__law_additions_3_l, D__law_additions_3_q]
theorem D__law_additions_2_q (s0 s1 s2 s3 : PV) : D__law_additions_2 [.val s0, .val s1, .own s2, .val s3, .no, .no, .no, .no] = ((rgO1 s3).bind fun r7 => fldM (fun (w6 : PV) (x5 : PV) => (m__law_way s1 x5 s3).bind fun (t8 : PV) => (((getF s0 x5).bind fun t13 => (seqOf t13).bind fun l14 => cmpG (fun (x11 : PV) => (getF s0 s3).bind fun t15 => (inF x11 t15).bind fun t16 => (asBl t16).bind fun b17 => if b17 = true then some (some x11) else some none) l14).bind fun (y18 : List PV) => (seqOf (.lst y18)).bind fun l19 => fldM (fun (w10 : PV) (x9 : PV) => ((seqOf t8).bind fun l22 => fldM (fun (w21 : PV) (x20 : PV) => (((getF s0 x20).bind fun t23 => (notInF x9 t23).bind fun t24 => (asBl t24).bind fun b25 => if b25 = true then (notInF (.tup [x20, x9]) w21).bind fun t26 => (asBl t26).bind fun b27 => some b27 else some false).bind fun (b28 : Bool) => if b28 = true then (asL w21).bind fun _ => (asL w21).bind fun l29 => (appendF l29 [(.tup [x20, x9])]).bind fun (z30 : PV × List PV) => some (.lst z30.2) else some w21).bind fun (k31 : PV) => some k31) l22 w10).bind fun (k32 : PV) => some k32) l19 w6).bind fun (k33 : PV) => some k33) (rgL r7) s2).bind fun (k : PV) => some (.nx [.val s0, .val s1, .own k, .val s3, .no, .no, .no, .no]) := by
  refine Eq.trans ?_ (mTail_eq _ _); simp! only [D__law_additions_2, q__law_way, C__law_additions_4_l, C__law_additions_4_q, T__law_additions_7_q, D__law_additions_6_q, D__law_additions_5_l, D__law_additions_5_q, D__law_additions_3_l, D__law_additions_3_q, D__law_additions_2_l]
def D__law_additions_1_b : DenS := sPost [3, 4, 5, 6, 7] (sSeq D__law_additions_2 sNil)
def D__law_additions_1 : DenS := sFor (iRange [(dApp lenF [.d (dVar 0)])]) (.nm 3) D__law_additions_1_b
theorem D__law_additions_1_l (s0 s1 : PV) (z2 : PV) (xs : List PV) : forF (.nm 3) D__law_additions_1_b xs [.val s0, .val s1, .own z2, .no, .no, .no, .no, .no] = (fldM (fun (w2 : PV) (x1 : PV) => ((rgO1 x1).bind fun r7 => fldM (fun (w6 : PV) (x5 : PV) => (m__law_way s1 x5 x1).bind fun (t8 : PV) => (((getF s0 x5).bind fun t13 => (seqOf t13).bind fun l14 => cmpG (fun (x11 : PV) => (getF s0 x1).bind fun t15 => (inF x11 t15).bind fun t16 => (asBl t16).bind fun b17 => if b17 = true then some (some x11) else some none) l14).bind fun (y18 : List PV) => (seqOf (.lst y18)).bind fun l19 => fldM (fun (w10 : PV) (x9 : PV) => ((seqOf t8).bind fun l22 => fldM (fun (w21 : PV) (x20 : PV) => (((getF s0 x20).bind fun t23 => (notInF x9 t23).bind fun t24 => (asBl t24).bind fun b25 => if b25 = true then (notInF (.tup [x20, x9]) w21).bind fun t26 => (asBl t26).bind fun b27 => some b27 else some false).bind fun (b28 : Bool) => if b28 = true then (asL w21).bind fun _ => (asL w21).bind fun l29 => (appendF l29 [(.tup [x20, x9])]).bind fun (z30 : PV × List PV) => some (.lst z30.2) else some w21).bind fun (k31 : PV) => some k31) l22 w10).bind fun (k32 : PV) => some k32) l19 w6).bind fun (k33 : PV) => some k33) (rgL r7) w2).bind fun (k34 : PV) => some k34) xs z2).bind fun (k : PV) => some (.nx [.val s0, .val s1, .own k, .no, .no, .no, .no, .no]) := by
  refine for_fold (E := fun (w2 : PV) => [.val s0, .val s1, .own w2, .no, .no, .no, .no, .no]) _ ?_ xs z2
  intro z x; refine Eq.trans ?_ (mTail_eq _ _); simp! only [D__law_additions_1_b, q__law_way, C__law_additions_4_l, C__law_additions_4_q, T__law_additions_7_q, D__law_additions_6_q, D__law_additions_5_l, D__law_additions_5_q, D__law_additions_3_l, D__law_additions_3_q, D__law_additions_2_l, D__law_additions_2_q]
theorem D__law_additions_1_q (s0 s1 s2 : PV) : D__law_additions_1 [.val s0, .val s1, .own s2, .no, .no, .no, .no, .no] = ((lenF [s0]).bind fun t3 => (rgO1 t3).bind fun r4 => fldM (fun (w2 : PV) (x1 : PV) => ((rgO1 x1).bind fun r7 => fldM (fun (w6 : PV) (x5 : PV) => (m__law_way s1 x5 x1).bind fun (t8 : PV) => (((getF s0 x5).bind fun t13 => (seqOf t13).bind fun l14 => cmpG (fun (x11 : PV) => (getF s0 x1).bind fun t15 => (inF x11 t15).bind fun t16 => (asBl t16).bind fun b17 => if b17 = true then some (some x11) else some none) l14).bind fun (y18 : List PV) => (seqOf (.lst y18)).bind fun l19 => fldM (fun (w10 : PV) (x9 : PV) => ((seqOf t8).bind fun l22 => fldM (fun (w21 : PV) (x20 : PV) => (((getF s0 x20).bind fun t23 => (notInF x9 t23).bind fun t24 => (asBl t24).bind fun b25 => if b25 = true then (notInF (.tup [x20, x9]) w21).bind fun t26 => (asBl t26).bind fun b27 => some b27 else some false).bind fun (b28 : Bool) => if b28 = true then (asL w21).bind fun _ => (asL w21).bind fun l29 => (appendF l29 [(.tup [x20, x9])]).bind fun (z30 : PV × List PV) => some (.lst z30.2) else some w21).bind fun (k31 : PV) => some k31) l22 w10).bind fun (k32 : PV) => some k32) l19 w6).bind fun (k33 : PV) => some k33) (rgL r7) w2).bind fun (k34 : PV) => some k34) (rgL r4) s2).bind fun (k : PV) => some (.nx [.val s0, .val s1, .own k, .no, .no, .no, .no, .no]) := by
  refine Eq.trans ?_ (mTail_eq _ _); simp! only [D__law_additions_1, q__law_way, C__law_additions_4_l, C__law_additions_4_q, T__law_additions_7_q, D__law_additions_6_q, D__law_additions_5_l, D__law_additions_5_q, D__law_additions_3_l, D__law_additions_3_q, D__law_additions_2_l, D__law_additions_2_q, D__law_additions_1_l]
def d__law_additions : DenS := (sSeq (sOwn 2 (dLst [])) (sSeq D__law_additions_1 (sSeq (sRetK [0, 1, 2, 3, 4, 5, 6, 7] (dApp tupleF [.d (dApp sortedF [.b 2])])) sNil)))
def s__law_additions : PP.Sem := runF [] 6 d__law_additions
def m__law_additions (s0 s1 : PV) : Option (PV) := ((lenF [s0]).bind fun t3 => (rgO1 t3).bind fun r4 => fldM (fun (w2 : PV) (x1 : PV) => ((rgO1 x1).bind fun r7 => fldM (fun (w6 : PV) (x5 : PV) => (m__law_way s1 x5 x1).bind fun (t8 : PV) => (((getF s0 x5).bind fun t13 => (seqOf t13).bind fun l14 => cmpG (fun (x11 : PV) => (getF s0 x1).bind fun t15 => (inF x11 t15).bind fun t16 => (asBl t16).bind fun b17 => if b17 = true then some (some x11) else some none) l14).bind fun (y18 : List PV) => (seqOf (.lst y18)).bind fun l19 => fldM (fun (w10 : PV) (x9 : PV) => ((seqOf t8).bind fun l22 => fldM (fun (w21 : PV) (x20 : PV) => (((getF s0 x20).bind fun t23 => (notInF x9 t23).bind fun t24 => (asBl t24).bind fun b25 => if b25 = true then (notInF (.tup [x20, x9]) w21).bind fun t26 => (asBl t26).bind fun b27 => some b27 else some false).bind fun (b28 : Bool) => if b28 = true then (asL w21).bind fun _ => (asL w21).bind fun l29 => (appendF l29 [(.tup [x20, x9])]).bind fun (z30 : PV × List PV) => some (.lst z30.2) else some w21).bind fun (k31 : PV) => some k31) l22 w10).bind fun (k32 : PV) => some k32) l19 w6).bind fun (k33 : PV) => some k33) (rgL r7) w2).bind fun (k34 : PV) => some k34) (rgL r4) (.lst [])).bind fun (k35 : PV) => (sortedF [k35]).bind fun t36 => (tupleF [t36]).bind fun t37 => some t37
theorem q__law_additions (s0 s1 : PV) : s__law_additions [s0, s1] = (m__law_additions s0 s1).bind fun (r : PV) => some (r, [s0, s1]) := by
  refine Eq.trans ?_ (mTail_eq _ _); simp! only [s__law_additions, d__law_additions, m__law_additions, runF_ev, q__law_way, C__law_additions_4_l, C__law_additions_4_q, T__law_additions_7_q, D__law_additions_6_q, D__law_additions_5_l, D__law_additions_5_q, D__law_additions_3_l, D__law_additions_3_q, D__law_additions_2_l, D__law_additions_2_q, D__law_additions_1_l, D__law_additions_1_q]
def T_nodes_beyond_4 : DenT := (dAnd (dB (dBinR inF (dVar 5) 3)) (dAnd (dB (dBin neF (dVar 6) (dVar 1))) (dB (dBinR notInF (dVar 6) 3))))
theorem T_nodes_beyond_4_q (s0 s1 s2 s3 s4 s5 s6 : PV) : T_nodes_beyond_4 [.val s0, .val s1, .val s2, .own s3, .val s4, .val s5, .val s6] = ((inF s5 s3).bind fun t8 => (asBl t8).bind fun b9 => if b9 = true then (neF s6 s1).bind fun t10 => (asBl t10).bind fun b11 => if b11 = true then (notInF s6 s3).bind fun t12 => (asBl t12).bind fun b13 => some b13 else some false else some false).bind fun (k : Bool) => some (k, [.val s0, .val s1, .val s2, .own s3, .val s4, .val s5, .val s6]) := by
  refine Eq.trans ?_ (mTail_eq _ _); simp! only [T_nodes_beyond_4]
def D_nodes_beyond_3 : DenS := (sIf T_nodes_beyond_4 (sSeq (sDrop (dMut appendF 3 [(dVar 6)])) sNil) sNil)
theorem D_nodes_beyond_3_q (s0 s1 s2 s3 s4 s5 s6 : PV) : D_nodes_beyond_3 [.val s0, .val s1, .val s2, .own s3, .val s4, .val s5, .val s6] = (((inF s5 s3).bind fun t8 => (asBl t8).bind fun b9 => if b9 = true then (neF s6 s1).bind fun t10 => (asBl t10).bind fun b11 => if b11 = true then (notInF s6 s3).bind fun t12 => (asBl t12).bind fun b13 => some b13 else some false else some false).bind fun (b14 : Bool) => if b14 = true then (asL s3).bind fun _ => (asL s3).bind fun l15 => (appendF l15 [s6]).bind fun (z16 : PV × List PV) => some (.lst z16.2) else some s3).bind fun (k : PV) => some (.nx [.val s0, .val s1, .val s2, .own k, .val s4, .val s5, .val s6]) := by
  refine Eq.trans ?_ (mTail_eq _ _); simp! only [D_nodes_beyond_3, T_nodes_beyond_4_q]
def T_nodes_beyond_6 : DenT := (dAnd (dB (dBinR inF (dVar 6) 3)) (dAnd (dB (dBin neF (dVar 5) (dVar 1))) (dB (dBinR notInF (dVar 5) 3))))
theorem T_nodes_beyond_6_q (s0 s1 s2 s3 s4 s5 s6 : PV) : T_nodes_beyond_6 [.val s0, .val s1, .val s2, .own s3, .val s4, .val s5, .val s6] = ((inF s6 s3).bind fun t18 => (asBl t18).bind fun b19 => if b19 = true then (neF s5 s1).bind fun t20 => (asBl t20).bind fun b21 => if b21 = true then (notInF s5 s3).bind fun t22 => (asBl t22).bind fun b23 => some b23 else some false else some false).bind fun (k : Bool) => some (k, [.val s0, .val s1, .val s2, .own s3, .val s4, .val s5, .val s6]) := by
  refine Eq.trans ?_ (mTail_eq _ _); simp! only [T_nodes_beyond_6, T_nodes_beyond_4_q, D_nodes_beyond_3_q]
def D_nodes_beyond_5 : DenS := (sIf T_nodes_beyond_6 (sSeq (sDrop (dMut appendF 3 [(dVar 5)])) sNil) sNil)
theorem D_nodes_beyond_5_q (s0 s1 s2 s3 s4 s5 s6 : PV) : D_nodes_beyond_5 [.val s0, .val s1, .val s2, .own s3, .val s4, .val s5, .val s6] = (((inF s6 s3).bind fun t18 => (asBl t18).bind fun b19 => if b19 = true then (neF s5 s1).bind fun t20 => (asBl t20).bind fun b21 => if b21 = true then (notInF s5 s3).bind fun t22 => (asBl t22).bind fun b23 => some b23 else some false else some false).bind fun (b24 : Bool) => if b24 = true then (asL s3).bind fun _ => (asL s3).bind fun l25 => (appendF l25 [s5]).bind fun (z26 : PV × List PV) => some (.lst z26.2) else some s3).bind fun (k : PV) => some (.nx [.val s0, .val s1, .val s2, .own k, .val s4, .val s5, .val s6]) := by
  refine Eq.trans ?_ (mTail_eq _ _); simp! only [D_nodes_beyond_5, T_nodes_beyond_4_q, D_nodes_beyond_3_q, T_nodes_beyond_6_q]
def D_nodes_beyond_2_b : DenS := sPost [5, 6] (sSeq D_nodes_beyond_3 (sSeq D_nodes_beyond_5 sNil))
def D_nodes_beyond_2 : DenS := sFor (iSeq (dVar 0)) (.tp [(.nm 5), (.nm 6)]) D_nodes_beyond_2_b
theorem D_nodes_beyond_2_l (s0 s1 s2 s4 : PV) (z3 : PV) (xs : List PV) : forF (.tp [(.nm 5), (.nm 6)]) D_nodes_beyond_2_b xs [.val s0, .val s1, .val s2, .own z3, .val s4, .no, .no] = (fldM (fun (w5 : PV) (x4 : PV) => (un2 x4).bind fun (u7 : PV × PV) => (((inF u7.1 w5).bind fun t8 => (asBl t8).bind fun b9 => if b9 = true then (neF u7.2 s1).bind fun t10 => (asBl t10).bind fun b11 => if b11 = true then (notInF u7.2 w5).bind fun t12 => (asBl t12).bind fun b13 => some b13 else some false else some false).bind fun (b14 : Bool) => if b14 = true then (asL w5).bind fun _ => (asL w5).bind fun l15 => (appendF l15 [u7.2]).bind fun (z16 : PV × List PV) => some (.lst z16.2) else some w5).bind fun (k17 : PV) => (((inF u7.2 k17).bind fun t18 => (asBl t18).bind fun b19 => if b19 = true then (neF u7.1 s1).bind fun t20 => (asBl t20).bind fun b21 => if b21 = true then (notInF u7.1 k17).bind fun t22 => (asBl t22).bind fun b23 => some b23 else some false else some false).bind fun (b24 : Bool) => if b24 = true then (asL k17).bind fun _ => (asL k17).bind fun l25 => (appendF l25 [u7.1]).bind fun (z26 : PV × List PV) => some (.lst z26.2) else some k17).bind fun (k27 : PV) => some k27) xs z3).bind fun (k : PV) => some (.nx [.val s0, .val s1, .val s2, .own k, .val s4, .no, .no]) := by
  refine for_fold (E := fun (w5 : PV) => [.val s0, .val s1, .val s2, .own w5, .val s4, .no, .no]) _ ?_ xs z3
  intro z x; refine Eq.trans ?_ (mTail_eq _ _); simp! only [D_nodes_beyond_2_b, T_nodes_beyond_4_q, D_nodes_beyond_3_q, T_nodes_beyond_6_q, D_nodes_beyond_5_q]
theorem D_nodes_beyond_2_q (s0 s1 s2 s3 s4 : PV) : D_nodes_beyond_2 [.val s0, .val s1, .val s2, .own s3, .val s4, .no, .no] = ((seqOf s0).bind fun l6 => fldM (fun (w5 : PV) (x4 : PV) => (un2 x4).bind fun (u7 : PV × PV) => (((inF u7.1 w5).bind fun t8 => (asBl t8).bind fun b9 => if b9 = true then (neF u7.2 s1).bind fun t10 => (asBl t10).bind fun b11 => if b11 = true then (notInF u7.2 w5).bind fun t12 => (asBl t12).bind fun b13 => some b13 else some false else some false).bind fun (b14 : Bool) => if b14 = true then (asL w5).bind fun _ => (asL w5).bind fun l15 => (appendF l15 [u7.2]).bind fun (z16 : PV × List PV) => some (.lst z16.2) else some w5).bind fun (k17 : PV) => (((inF u7.2 k17).bind fun t18 => (asBl t18).bind fun b19 => if b19 = true then (neF u7.1 s1).bind fun t20 => (asBl t20).bind fun b21 => if b21 = true then (notInF u7.1 k17).bind fun t22 => (asBl t22).bind fun b23 => some b23 else some false else some false).bind fun (b24 : Bool) => if b24 = true then (asL k17).bind fun _ => (asL k17).bind fun l25 => (appendF l25 [u7.1]).bind fun (z26 : PV × List PV) => some (.lst z26.2) else some k17).bind fun (k27 : PV) => some k27) l6 s3).bind fun (k : PV) => some (.nx [.val s0, .val s1, .val s2, .own k, .val s4, .no, .no]) := by
  refine Eq.trans ?_ (mTail_eq _ _); simp! only [D_nodes_beyond_2, T_nodes_beyond_4_q, D_nodes_beyond_3_q, T_nodes_beyond_6_q, D_nodes_beyond_5_q, D_nodes_beyond_2_l]
def D_nodes_beyond_1_b : DenS := sPost [4, 5, 6] (sSeq D_nodes_beyond_2 sNil)
def D_nodes_beyond_1 : DenS := sFor (iSeq (dVar 0)) (.nm 4) D_nodes_beyond_1_b
theorem D_nodes_beyond_1_l (s0 s1 s2 : PV) (z3 : PV) (xs : List PV) : forF (.nm 4) D_nodes_beyond_1_b xs [.val s0, .val s1, .val s2, .own z3, .no, .no, .no] = (fldM (fun (w2 : PV) (x1 : PV) => ((seqOf s0).bind fun l6 => fldM (fun (w5 : PV) (x4 : PV) => (un2 x4).bind fun (u7 : PV × PV) => (((inF u7.1 w5).bind fun t8 => (asBl t8).bind fun b9 => if b9 = true then (neF u7.2 s1).bind fun t10 => (asBl t10).bind fun b11 => if b11 = true then (notInF u7.2 w5).bind fun t12 => (asBl t12).bind fun b13 => some b13 else some false else some false).bind fun (b14 : Bool) => if b14 = true then (asL w5).bind fun _ => (asL w5).bind fun l15 => (appendF l15 [u7.2]).bind fun (z16 : PV × List PV) => some (.lst z16.2) else some w5).bind fun (k17 : PV) => (((inF u7.2 k17).bind fun t18 => (asBl t18).bind fun b19 => if b19 = true then (neF u7.1 s1).bind fun t20 => (asBl t20).bind fun b21 => if b21 = true then (notInF u7.1 k17).bind fun t22 => (asBl t22).bind fun b23 => some b23 else some false else some false).bind fun (b24 : Bool) => if b24 = true then (asL k17).bind fun _ => (asL k17).bind fun l25 => (appendF l25 [u7.1]).bind fun (z26 : PV × List PV) => some (.lst z26.2) else some k17).bind fun (k27 : PV) => some k27) l6 w2).bind fun (k28 : PV) => some k28) xs z3).bind fun (k : PV) => some (.nx [.val s0, .val s1, .val s2, .own k, .no, .no, .no]) := by
  refine for_fold (E := fun (w2 : PV) => [.val s0, .val s1, .val s2, .own w2, .no, .no, .no]) _ ?_ xs z3
  intro z x; refine Eq.trans ?_ (mTail_eq _ _); simp! only [D_nodes_beyond_1_b, T_nodes_beyond_4_q, D_nodes_beyond_3_q, T_nodes_beyond_6_q, D_nodes_beyond_5_q, D_nodes_beyond_2_l, D_nodes_beyond_2_q]
theorem D_nodes_beyond_1_q (s0 s1 s2 s3 : PV) : D_nodes_beyond_1 [.val s0, .val s1, .val s2, .own s3, .no, .no, .no] = ((seqOf s0).bind fun l3 => fldM (fun (w2 : PV) (x1 : PV) => ((seqOf s0).bind fun l6 => fldM (fun (w5 : PV) (x4 : PV) => (un2 x4).bind fun (u7 : PV × PV) => (((inF u7.1 w5).bind fun t8 => (asBl t8).bind fun b9 => if b9 = true then (neF u7.2 s1).bind fun t10 => (asBl t10).bind fun b11 => if b11 = true then (notInF u7.2 w5).bind fun t12 => (asBl t12).bind fun b13 => some b13 else some false else some false).bind fun (b14 : Bool) => if b14 = true then (asL w5).bind fun _ => (asL w5).bind fun l15 => (appendF l15 [u7.2]).bind fun (z16 : PV × List PV) => some (.lst z16.2) else some w5).bind fun (k17 : PV) => (((inF u7.2 k17).bind fun t18 => (asBl t18).bind fun b19 => if b19 = true then (neF u7.1 s1).bind fun t20 => (asBl t20).bind fun b21 => if b21 = true then (notInF u7.1 k17).bind fun t22 => (asBl t22).bind fun b23 => some b23 else some false else some false).bind fun (b24 : Bool) => if b24 = true then (asL k17).bind fun _ => (asL k17).bind fun l25 => (appendF l25 [u7.1]).bind fun (z26 : PV × List PV) => some (.lst z26.2) else some k17).bind fun (k27 : PV) => some k27) l6 w2).bind fun (k28 : PV) => some k28) l3 s3).bind fun (k : PV) => some (.nx [.val s0, .val s1, .val s2, .own k, .no, .no, .no]) := by
  refine Eq.trans ?_ (mTail_eq _ _); simp! only [D_nodes_beyond_1, T_nodes_beyond_4_q, D_nodes_beyond_3_q, T_nodes_beyond_6_q, D_nodes_beyond_5_q, D_nodes_beyond_2_l, D_nodes_beyond_2_q, D_nodes_beyond_1_l]
def d_nodes_beyond : DenS := (sSeq (sOwn 3 (dLst [(dVar 2)])) (sSeq D_nodes_beyond_1 (sSeq (sRetK [0, 1, 2, 3, 4, 5, 6] (dVar 3)) sNil)))
def s_nodes_beyond : PP.Sem := runF [] 4 d_nodes_beyond
def m_nodes_beyond (s0 s1 s2 : PV) : Option (PV) := ((seqOf s0).bind fun l3 => fldM (fun (w2 : PV) (x1 : PV) => ((seqOf s0).bind fun l6 => fldM (fun (w5 : PV) (x4 : PV) => (un2 x4).bind fun (u7 : PV × PV) => (((inF u7.1 w5).bind fun t8 => (asBl t8).bind fun b9 => if b9 = true then (neF u7.2 s1).bind fun t10 => (asBl t10).bind fun b11 => if b11 = true then (notInF u7.2 w5).bind fun t12 => (asBl t12).bind fun b13 => some b13 else some false else some false).bind fun (b14 : Bool) => if b14 = true then (asL w5).bind fun _ => (asL w5).bind fun l15 => (appendF l15 [u7.2]).bind fun (z16 : PV × List PV) => some (.lst z16.2) else some w5).bind fun (k17 : PV) => (((inF u7.2 k17).bind fun t18 => (asBl t18).bind fun b19 => if b19 = true then (neF u7.1 s1).bind fun t20 => (asBl t20).bind fun b21 => if b21 = true then (notInF u7.1 k17).bind fun t22 => (asBl t22).bind fun b23 => some b23 else some false else some false).bind fun (b24 : Bool) => if b24 = true then (asL k17).bind fun _ => (asL k17).bind fun l25 => (appendF l25 [u7.1]).bind fun (z26 : PV × List PV) => some (.lst z26.2) else some k17).bind fun (k27 : PV) => some k27) l6 w2).bind fun (k28 : PV) => some k28) l3 (.lst [s2])).bind fun (k29 : PV) => some k29
theorem q_nodes_beyond (s0 s1 s2 : PV) : s_nodes_beyond [s0, s1, s2] = (m_nodes_beyond s0 s1 s2).bind fun (r : PV) => some (r, [s0, s1, s2]) := by
  refine Eq.trans ?_ (mTail_eq _ _); simp! only [s_nodes_beyond, d_nodes_beyond, m_nodes_beyond, runF_ev, T_nodes_beyond_4_q, D_nodes_beyond_3_q, T_nodes_beyond_6_q, D_nodes_beyond_5_q, D_nodes_beyond_2_l, D_nodes_beyond_2_q, D_nodes_beyond_1_l, D_nodes_beyond_1_q]
def C_lacks_1_e : Den := (dVar 6)
def C_lacks_1_t : DenT := (dB (dBin eqF (dVar 5) (dVar 2)))
theorem C_lacks_1_l (s0 s1 s2 s3 : PV) (xs : List PV) : lcF (.tp [(.nm 5), (.nm 6)]) C_lacks_1_t C_lacks_1_e [5, 6] xs [.val s0, .val s1, .val s2, .val s3, .no, .no, .no, .no, .no] = (cmpG (fun (x4 : PV) => (un2 x4).bind fun (u7 : PV × PV) => (eqF u7.1 s2).bind fun t8 => (asBl t8).bind fun b9 => if b9 = true then some (some u7.2) else some none) xs).bind fun ys => some (ys, [.val s0, .val s1, .val s2, .val s3, .no, .no, .no, .no, .no]) := by
  refine lc_G (e := [.val s0, .val s1, .val s2, .val s3, .no, .no, .no, .no, .no]) _ ?_ xs
  intro x; refine Eq.trans ?_ (mTail_eq _ _); simp! only [C_lacks_1_e, C_lacks_1_t, q_nodes_beyond]
def C_lacks_1 : Den := dLC (iSeq (dVar 1)) [5, 6] (.tp [(.nm 5), (.nm 6)]) C_lacks_1_t C_lacks_1_e
theorem C_lacks_1_q (s0 s1 s2 s3 : PV) : C_lacks_1 [.val s0, .val s1, .val s2, .val s3, .no, .no, .no, .no, .no] = ((seqOf s1).bind fun l6 => cmpG (fun (x4 : PV) => (un2 x4).bind fun (u7 : PV × PV) => (eqF u7.1 s2).bind fun t8 => (asBl t8).bind fun b9 => if b9 = true then some (some u7.2) else some none) l6).bind fun (k : List PV) => some (.lst k, [.val s0, .val s1, .val s2, .val s3, .no, .no, .no, .no, .no]) := by
  refine Eq.trans ?_ (mTail_eq _ _); simp! only [C_lacks_1, q_nodes_beyond, C_lacks_1_l]
def C_lacks_2_e : Den := (dVar 5)
def C_lacks_2_t : DenT := (dB (dBin eqF (dVar 6) (dVar 2)))
theorem C_lacks_2_l (s0 s1 s2 s3 : PV) (xs : List PV) : lcF (.tp [(.nm 5), (.nm 6)]) C_lacks_2_t C_lacks_2_e [5, 6] xs [.val s0, .val s1, .val s2, .val s3, .no, .no, .no, .no, .no] = (cmpG (fun (x11 : PV) => (un2 x11).bind fun (u14 : PV × PV) => (eqF u14.2 s2).bind fun t15 => (asBl t15).bind fun b16 => if b16 = true then some (some u14.1) else some none) xs).bind fun ys => some (ys, [.val s0, .val s1, .val s2, .val s3, .no, .no, .no, .no, .no]) := by
  refine lc_G (e := [.val s0, .val s1, .val s2, .val s3, .no, .no, .no, .no, .no]) _ ?_ xs
  intro x; refine Eq.trans ?_ (mTail_eq _ _); simp! only [C_lacks_2_e, C_lacks_2_t, q_nodes_beyond, C_lacks_1_l, C_lacks_1_q]
def C_lacks_2 : Den := dLC (iSeq (dVar 1)) [5, 6] (.tp [(.nm 5), (.nm 6)]) C_lacks_2_t C_lacks_2_e
theorem C_lacks_2_q (s0 s1 s2 s3 : PV) : C_lacks_2 [.val s0, .val s1, .val s2, .val s3, .no, .no, .no, .no, .no] = ((seqOf s1).bind fun l13 => cmpG (fun (x11 : PV) => (un2 x11).bind fun (u14 : PV × PV) => (eqF u14.2 s2).bind fun t15 => (asBl t15).bind fun b16 => if b16 = true then some (some u14.1) else some none) l13).bind fun (k : List PV) => some (.lst k, [.val s0, .val s1, .val s2, .val s3, .no, .no, .no, .no, .no]) := by
  refine Eq.trans ?_ (mTail_eq _ _); simp! only [C_lacks_2, q_nodes_beyond, C_lacks_1_l, C_lacks_1_q, C_lacks_2_l]
def C_lacks_4_e : Den := (dBin inF (dVar 3) (dBin getF (dVar 0) (dVar 6)))
def C_lacks_4_t : DenT := dYes
theorem C_lacks_4_l (s0 s1 s2 s3 s4 s7 s8 : PV) (xs : List PV) : lcF (.nm 6) C_lacks_4_t C_lacks_4_e [6] xs [.val s0, .val s1, .val s2, .val s3, .val s4, .no, .no, .val s7, .val s8] = (cmpM (fun (x22 : PV) => (getF s0 x22).bind fun t26 => (inF s3 t26).bind fun t27 => some t27) xs).bind fun ys => some (ys, [.val s0, .val s1, .val s2, .val s3, .val s4, .no, .no, .val s7, .val s8]) := by
  refine lc_M (e := [.val s0, .val s1, .val s2, .val s3, .val s4, .no, .no, .val s7, .val s8]) _ ?_ xs
  intro x; refine Eq.trans ?_ (mTail_eq _ _); simp! only [C_lacks_4_e, C_lacks_4_t, q_nodes_beyond, C_lacks_1_l, C_lacks_1_q, C_lacks_2_l, C_lacks_2_q]
def C_lacks_4 : Den := dLC (iSeq (dCall s_nodes_beyond [.d (dVar 1), .d (dVar 2), .d (dVar 8)])) [6] (.nm 6) C_lacks_4_t C_lacks_4_e
theorem C_lacks_4_q (s0 s1 s2 s3 s4 s7 s8 : PV) : C_lacks_4 [.val s0, .val s1, .val s2, .val s3, .val s4, .no, .no, .val s7, .val s8] = ((m_nodes_beyond s1 s2 s8).bind fun (t24 : PV) => (seqOf t24).bind fun l25 => cmpM (fun (x22 : PV) => (getF s0 x22).bind fun t26 => (inF s3 t26).bind fun t27 => some t27) l25).bind fun (k : List PV) => some (.lst k, [.val s0, .val s1, .val s2, .val s3, .val s4, .no, .no, .val s7, .val s8]) := by
  refine Eq.trans ?_ (mTail_eq _ _); simp! only [C_lacks_4, q_nodes_beyond, C_lacks_1_l, C_lacks_1_q, C_lacks_2_l, C_lacks_2_q, C_lacks_4_l]
def D_lacks_3_b : DenS := sPost [8] (sSeq (sAsg (.nm 7) (dBin addF (dVar 7) (dApp intTF [.d (dApp anyF [.d C_lacks_4])]))) sNil)
def D_lacks_3 : DenS := sFor (iSeq (dVar 4)) (.nm 8) D_lacks_3_b
theorem D_lacks_3_l (s0 s1 s2 s3 s4 : PV) (z7 : PV) (xs : List PV) : forF (.nm 8) D_lacks_3_b xs [.val s0, .val s1, .val s2, .val s3, .val s4, .no, .no, .val z7, .no] = (fldM (fun (w20 : PV) (x19 : PV) => ((m_nodes_beyond s1 s2 x19).bind fun (t24 : PV) => (seqOf t24).bind fun l25 => cmpM (fun (x22 : PV) => (getF s0 x22).bind fun t26 => (inF s3 t26).bind fun t27 => some t27) l25).bind fun (y28 : List PV) => (anyF [(.lst y28)]).bind fun t29 => (intTF [t29]).bind fun t30 => (addF w20 t30).bind fun t31 => some t31) xs z7).bind fun (k : PV) => some (.nx [.val s0, .val s1, .val s2, .val s3, .val s4, .no, .no, .val k, .no]) := by
  refine for_fold (E := fun (w20 : PV) => [.val s0, .val s1, .val s2, .val s3, .val s4, .no, .no, .val w20, .no]) _ ?_ xs z7
  intro z x; refine Eq.trans ?_ (mTail_eq _ _); simp! only [D_lacks_3_b, q_nodes_beyond, C_lacks_1_l, C_lacks_1_q, C_lacks_2_l, C_lacks_2_q, C_lacks_4_l, C_lacks_4_q]
theorem D_lacks_3_q (s0 s1 s2 s3 s4 s7 : PV) : D_lacks_3 [.val s0, .val s1, .val s2, .val s3, .val s4, .no, .no, .val s7, .no] = ((seqOf s4).bind fun l21 => fldM (fun (w20 : PV) (x19 : PV) => ((m_nodes_beyond s1 s2 x19).bind fun (t24 : PV) => (seqOf t24).bind fun l25 => cmpM (fun (x22 : PV) => (getF s0 x22).bind fun t26 => (inF s3 t26).bind fun t27 => some t27) l25).bind fun (y28 : List PV) => (anyF [(.lst y28)]).bind fun t29 => (intTF [t29]).bind fun t30 => (addF w20 t30).bind fun t31 => some t31) l21 s7).bind fun (k : PV) => some (.nx [.val s0, .val s1, .val s2, .val s3, .val s4, .no, .no, .val k, .no]) := by
  refine Eq.trans ?_ (mTail_eq _ _); simp! only [D_lacks_3, q_nodes_beyond, C_lacks_1_l, C_lacks_1_q, C_lacks_2_l, C_lacks_2_q, C_lacks_4_l, C_lacks_4_q, D_lacks_3_l]
def d_lacks : DenS := (sSeq (sIf (dB (dBin inF (dVar 3) (dBin getF (dVar 0) (dVar 2)))) (sSeq (sRetK [0, 1, 2, 3, 4, 5, 6, 7, 8] (dC (.bl false))) sNil) sNil) (sSeq (sAsg (.nm 4) (dBin addF C_lacks_1 C_lacks_2)) (sSeq (sAsg (.nm 7) (dC (.int 0))) (sSeq D_lacks_3 (sSeq (sRetK [0, 1, 2, 3, 4, 5, 6, 7, 8] (dBin gtF (dVar 7) (dC (.int 1)))) sNil)))))
def s_lacks : PP.Sem := runF [] 5 d_lacks
def m_lacks (s0 s1 s2 s3 : PV) : Option (PV) := (getF s0 s2).bind fun t1 => (inF s3 t1).bind fun t2 => (asBl t2).bind fun b3 => if b3 = true then some (.bl false) else ((seqOf s1).bind fun l6 => cmpG (fun (x4 : PV) => (un2 x4).bind fun (u7 : PV × PV) => (eqF u7.1 s2).bind fun t8 => (asBl t8).bind fun b9 => if b9 = true then some (some u7.2) else some none) l6).bind fun (y10 : List PV) => ((seqOf s1).bind fun l13 => cmpG (fun (x11 : PV) => (un2 x11).bind fun (u14 : PV × PV) => (eqF u14.2 s2).bind fun t15 => (asBl t15).bind fun b16 => if b16 = true then some (some u14.1) else some none) l13).bind fun (y17 : List PV) => (addF (.lst y10) (.lst y17)).bind fun t18 => ((seqOf t18).bind fun l21 => fldM (fun (w20 : PV) (x19 : PV) => ((m_nodes_beyond s1 s2 x19).bind fun (t24 : PV) => (seqOf t24).bind fun l25 => cmpM (fun (x22 : PV) => (getF s0 x22).bind fun t26 => (inF s3 t26).bind fun t27 => some t27) l25).bind fun (y28 : List PV) => (anyF [(.lst y28)]).bind fun t29 => (intTF [t29]).bind fun t30 => (addF w20 t30).bind fun t31 => some t31) l21 (.int 0)).bind fun (k32 : PV) => (gtF k32 (.int 1)).bind fun t33 => some t33
theorem q_lacks (s0 s1 s2 s3 : PV) : s_lacks [s0, s1, s2, s3] = (m_lacks s0 s1 s2 s3).bind fun (r : PV) => some (r, [s0, s1, s2, s3]) := by
  refine Eq.trans ?_ (mTail_eq _ _); simp! only [s_lacks, d_lacks, m_lacks, runF_ev, q_nodes_beyond, C_lacks_1_l, C_lacks_1_q, C_lacks_2_l, C_lacks_2_q, C_lacks_4_l, C_lacks_4_q, D_lacks_3_l, D_lacks_3_q]
def C_additions_of_2_e : Den := (dVar 5)
def C_additions_of_2_t : DenT := (dTruth (.d (dCall s_lacks [.d (dVar 0), .d (dVar 1), .d (dVar 3), .d (dVar 5)])))
theorem C_additions_of_2_l (s0 s1 s2 s3 : PV) (xs : List PV) : lcF (.nm 5) C_additions_of_2_t C_additions_of_2_e [5] xs [.val s0, .val s1, .own s2, .val s3, .no, .no, .no] = (cmpG (fun (x5 : PV) => (m_lacks s0 s1 s3 x5).bind fun (t9 : PV) => (truthF t9).bind fun b10 => if b10 = true then some (some x5) else some none) xs).bind fun ys => some (ys, [.val s0, .val s1, .own s2, .val s3, .no, .no, .no]) := by
  refine lc_G (e := [.val s0, .val s1, .own s2, .val s3, .no, .no, .no]) _ ?_ xs
  intro x; refine Eq.trans ?_ (mTail_eq _ _); simp! only [C_additions_of_2_e, C_additions_of_2_t, q_lacks]
def C_additions_of_2 : Den := dLC (iRange [(dBin addF (dC (.int 5)) (dC (.int 1)))]) [5] (.nm 5) C_additions_of_2_t C_additions_of_2_e
theorem C_additions_of_2_q (s0 s1 s2 s3 : PV) : C_additions_of_2 [.val s0, .val s1, .own s2, .val s3, .no, .no, .no] = ((addF (.int 5) (.int 1)).bind fun t7 => (rgO1 t7).bind fun r8 => cmpG (fun (x5 : PV) => (m_lacks s0 s1 s3 x5).bind fun (t9 : PV) => (truthF t9).bind fun b10 => if b10 = true then some (some x5) else some none) (rgL r8)).bind fun (k : List PV) => some (.lst k, [.val s0, .val s1, .own s2, .val s3, .no, .no, .no]) := by
  refine Eq.trans ?_ (mTail_eq _ _); simp! only [C_additions_of_2, q_lacks, C_additions_of_2_l]
def C_additions_of_3_e : Den := (dTup [(dVar 3), (dVar 6)])
def C_additions_of_3_t : DenT := dYes
theorem C_additions_of_3_l (s0 s1 s2 s3 s4 : PV) (xs : List PV) : lcF (.nm 6) C_additions_of_3_t C_additions_of_3_e [6] xs [.val s0, .val s1, .own s2, .val s3, .val s4, .no, .no] = (cmpM (fun (x12 : PV) => some (.tup [s3, x12])) xs).bind fun ys => some (ys, [.val s0, .val s1, .own s2, .val s3, .val s4, .no, .no]) := by
  refine lc_M (e := [.val s0, .val s1, .own s2, .val s3, .val s4, .no, .no]) _ ?_ xs
  intro x; refine Eq.trans ?_ (mTail_eq _ _); simp! only [C_additions_of_3_e, C_additions_of_3_t, q_lacks, C_additions_of_2_l, C_additions_of_2_q]
def C_additions_of_3 : Den := dLC (iSeq (dVar 4)) [6] (.nm 6) C_additions_of_3_t C_additions_of_3_e
theorem C_additions_of_3_q (s0 s1 s2 s3 s4 : PV) : C_additions_of_3 [.val s0, .val s1, .own s2, .val s3, .val s4, .no, .no] = ((seqOf s4).bind fun l14 => cmpM (fun (x12 : PV) => some (.tup [s3, x12])) l14).bind fun (k : List PV) => some (.lst k, [.val s0, .val s1, .own s2, .val s3, .val s4, .no, .no]) := by
  refine Eq.trans ?_ (mTail_eq _ _); simp! only [C_additions_of_3, q_lacks, C_additions_of_2_l, C_additions_of_2_q, C_additions_of_3_l]
def D_additions_of_1_b : DenS := sPost [3, 4] (sSeq (sFz 4 (sOwn 4 C_additions_of_2)) (sSeq (sDrop (dMut extendF 2 [C_additions_of_3])) sNil))
def D_additions_of_1 : DenS := sFor (iRange [(dApp lenF [.d (dVar 0)])]) (.nm 3) D_additions_of_1_b
theorem D_additions_of_1_l (s0 s1 : PV) (z2 : PV) (xs : List PV) : forF (.nm 3) D_additions_of_1_b xs [.val s0, .val s1, .own z2, .no, .no, .no, .no] = (fldM (fun (w2 : PV) (x1 : PV) => ((addF (.int 5) (.int 1)).bind fun t7 => (rgO1 t7).bind fun r8 => cmpG (fun (x5 : PV) => (m_lacks s0 s1 x1 x5).bind fun (t9 : PV) => (truthF t9).bind fun b10 => if b10 = true then some (some x5) else some none) (rgL r8)).bind fun (y11 : List PV) => (asL w2).bind fun _ => ((seqOf (.lst y11)).bind fun l14 => cmpM (fun (x12 : PV) => some (.tup [x1, x12])) l14).bind fun (y15 : List PV) => (asL w2).bind fun l16 => (extendF l16 [(.lst y15)]).bind fun (z17 : PV × List PV) => some (.lst z17.2)) xs z2).bind fun (k : PV) => some (.nx [.val s0, .val s1, .own k, .no, .no, .no, .no]) := by
  refine for_fold (E := fun (w2 : PV) => [.val s0, .val s1, .own w2, .no, .no, .no, .no]) _ ?_ xs z2
  intro z x; refine Eq.trans ?_ (mTail_eq _ _); simp! only [D_additions_of_1_b, q_lacks, C_additions_of_2_l, C_additions_of_2_q, C_additions_of_3_l, C_additions_of_3_q]
theorem D_additions_of_1_q (s0 s1 s2 : PV) : D_additions_of_1 [.val s0, .val s1, .own s2, .no, .no, .no, .no] = ((lenF [s0]).bind fun t3 => (rgO1 t3).bind fun r4 => fldM (fun (w2 : PV) (x1 : PV) => ((addF (.int 5) (.int 1)).bind fun t7 => (rgO1 t7).bind fun r8 => cmpG (fun (x5 : PV) => (m_lacks s0 s1 x1 x5).bind fun (t9 : PV) => (truthF t9).bind fun b10 => if b10 = true then some (some x5) else some none) (rgL r8)).bind fun (y11 : List PV) => (asL w2).bind fun _ => ((seqOf (.lst y11)).bind fun l14 => cmpM (fun (x12 : PV) => some (.tup [x1, x12])) l14).bind fun (y15 : List PV) => (asL w2).bind fun l16 => (extendF l16 [(.lst y15)]).bind fun (z17 : PV × List PV) => some (.lst z17.2)) (rgL r4) s2).bind fun (k : PV) => some (.nx [.val s0, .val s1, .own k, .no, .no, .no, .no]) := by
  refine Eq.trans ?_ (mTail_eq _ _); simp! only [D_additions_of_1, q_lacks, C_additions_of_2_l, C_additions_of_2_q, C_additions_of_3_l, C_additions_of_3_q, D_additions_of_1_l]
def d_additions_of : DenS := (sSeq (sOwn 2 (dLst [])) (sSeq D_additions_of_1 (sSeq (sRetK [0, 1, 2, 3, 4, 5, 6] (dApp tupleF [.b 2])) sNil)))
def s_additions_of : PP.Sem := runF [] 5 d_additions_of
def m_additions_of (s0 s1 : PV) : Option (PV) := ((lenF [s0]).bind fun t3 => (rgO1 t3).bind fun r4 => fldM (fun (w2 : PV) (x1 : PV) => ((addF (.int 5) (.int 1)).bind fun t7 => (rgO1 t7).bind fun r8 => cmpG (fun (x5 : PV) => (m_lacks s0 s1 x1 x5).bind fun (t9 : PV) => (truthF t9).bind fun b10 => if b10 = true then some (some x5) else some none) (rgL r8)).bind fun (y11 : List PV) => (asL w2).bind fun _ => ((seqOf (.lst y11)).bind fun l14 => cmpM (fun (x12 : PV) => some (.tup [x1, x12])) l14).bind fun (y15 : List PV) => (asL w2).bind fun l16 => (extendF l16 [(.lst y15)]).bind fun (z17 : PV × List PV) => some (.lst z17.2)) (rgL r4) (.lst [])).bind fun (k18 : PV) => (tupleF [k18]).bind fun t19 => some t19
theorem q_additions_of (s0 s1 : PV) : s_additions_of [s0, s1] = (m_additions_of s0 s1).bind fun (r : PV) => some (r, [s0, s1]) := by
  refine Eq.trans ?_ (mTail_eq _ _); simp! only [s_additions_of, d_additions_of, m_additions_of, runF_ev, q_lacks, C_additions_of_2_l, C_additions_of_2_q, C_additions_of_3_l, C_additions_of_3_q, D_additions_of_1_l, D_additions_of_1_q]
def C_told_tree_1_e : Den := (dTup [(dVar 2), (dCall s_additions_of [.d (dVar 0), .d (dVar 2)])])
def C_told_tree_1_t : DenT := dYes
theorem C_told_tree_1_l (s0 : PV) (xs : List PV) : lcF (.nm 2) C_told_tree_1_t C_told_tree_1_e [2] xs [.val s0, .no, .no, .no, .no, .no] = (cmpM (fun (x2 : PV) => (m_additions_of s0 x2).bind fun (t6 : PV) => some (.tup [x2, t6])) xs).bind fun ys => some (ys, [.val s0, .no, .no, .no, .no, .no]) := by
  refine lc_M (e := [.val s0, .no, .no, .no, .no, .no]) _ ?_ xs
  intro x; refine Eq.trans ?_ (mTail_eq _ _); simp! only [C_told_tree_1_e, C_told_tree_1_t, q_check_scopes, q_additions_of, q_trees_of]
def C_told_tree_1 : Den := dLC (iSeq (dCall s_trees_of [.d (dVar 0)])) [2] (.nm 2) C_told_tree_1_t C_told_tree_1_e
theorem C_told_tree_1_q (s0 : PV) : C_told_tree_1 [.val s0, .no, .no, .no, .no, .no] = ((m_trees_of s0).bind fun (t4 : PV) => (seqOf t4).bind fun l5 => cmpM (fun (x2 : PV) => (m_additions_of s0 x2).bind fun (t6 : PV) => some (.tup [x2, t6])) l5).bind fun (k : List PV) => some (.lst k, [.val s0, .no, .no, .no, .no, .no]) := by
  refine Eq.trans ?_ (mTail_eq _ _); simp! only [C_told_tree_1, q_check_scopes, q_additions_of, q_trees_of, C_told_tree_1_l]
def C_told_tree_2_e : Den := (dApp lenF [.d (dVar 4)])
def C_told_tree_2_t : DenT := dYes
theorem C_told_tree_2_l (s0 s1 : PV) (xs : List PV) : lcF (.tp [(.nm 2), (.nm 4)]) C_told_tree_2_t C_told_tree_2_e [2, 4] xs [.val s0, .val s1, .no, .no, .no, .no] = (cmpM (fun (x8 : PV) => (un2 x8).bind fun (u11 : PV × PV) => (lenF [u11.2]).bind fun t12 => some t12) xs).bind fun ys => some (ys, [.val s0, .val s1, .no, .no, .no, .no]) := by
  refine lc_M (e := [.val s0, .val s1, .no, .no, .no, .no]) _ ?_ xs
  intro x; refine Eq.trans ?_ (mTail_eq _ _); simp! only [C_told_tree_2_e, C_told_tree_2_t, q_check_scopes, q_additions_of, q_trees_of, C_told_tree_1_l, C_told_tree_1_q]
def C_told_tree_2 : Den := dLC (iSeq (dVar 1)) [2, 4] (.tp [(.nm 2), (.nm 4)]) C_told_tree_2_t C_told_tree_2_e
theorem C_told_tree_2_q (s0 s1 : PV) : C_told_tree_2 [.val s0, .val s1, .no, .no, .no, .no] = ((seqOf s1).bind fun l10 => cmpM (fun (x8 : PV) => (un2 x8).bind fun (u11 : PV × PV) => (lenF [u11.2]).bind fun t12 => some t12) l10).bind fun (k : List PV) => some (.lst k, [.val s0, .val s1, .no, .no, .no, .no]) := by
  refine Eq.trans ?_ (mTail_eq _ _); simp! only [C_told_tree_2, q_check_scopes, q_additions_of, q_trees_of, C_told_tree_1_l, C_told_tree_1_q, C_told_tree_2_l]
def C_told_tree_3_e : Den := (dVar 5)
def C_told_tree_3_t : DenT := (dB (dBin eqF (dApp lenF [.d (dBin getF (dVar 5) (dC (.int 1)))]) (dVar 3)))
theorem C_told_tree_3_l (s0 s1 s3 : PV) (xs : List PV) : lcF (.nm 5) C_told_tree_3_t C_told_tree_3_e [5] xs [.val s0, .val s1, .no, .val s3, .no, .no] = (cmpG (fun (x15 : PV) => (getF x15 (.int 1)).bind fun t18 => (lenF [t18]).bind fun t19 => (eqF t19 s3).bind fun t20 => (asBl t20).bind fun b21 => if b21 = true then some (some x15) else some none) xs).bind fun ys => some (ys, [.val s0, .val s1, .no, .val s3, .no, .no]) := by
  refine lc_G (e := [.val s0, .val s1, .no, .val s3, .no, .no]) _ ?_ xs
  intro x; refine Eq.trans ?_ (mTail_eq _ _); simp! only [C_told_tree_3_e, C_told_tree_3_t, q_check_scopes, q_additions_of, q_trees_of, C_told_tree_1_l, C_told_tree_1_q, C_told_tree_2_l, C_told_tree_2_q]
def C_told_tree_3 : Den := dLC (iSeq (dVar 1)) [5] (.nm 5) C_told_tree_3_t C_told_tree_3_e
theorem C_told_tree_3_q (s0 s1 s3 : PV) : C_told_tree_3 [.val s0, .val s1, .no, .val s3, .no, .no] = ((seqOf s1).bind fun l17 => cmpG (fun (x15 : PV) => (getF x15 (.int 1)).bind fun t18 => (lenF [t18]).bind fun t19 => (eqF t19 s3).bind fun t20 => (asBl t20).bind fun b21 => if b21 = true then some (some x15) else some none) l17).bind fun (k : List PV) => some (.lst k, [.val s0, .val s1, .no, .val s3, .no, .no]) := by
  refine Eq.trans ?_ (mTail_eq _ _); simp! only [C_told_tree_3, q_check_scopes, q_additions_of, q_trees_of, C_told_tree_1_l, C_told_tree_1_q, C_told_tree_2_l, C_told_tree_2_q, C_told_tree_3_l]
def d_told_tree : DenS := (sSeq (sDrop (dCall s_check_scopes [.d (dVar 0)])) (sSeq (sFz 1 (sOwn 1 C_told_tree_1)) (sSeq (sAsg (.nm 3) (dApp minF [.d C_told_tree_2])) (sSeq (sRetK [0, 1, 2, 3, 4, 5] (dBin getF C_told_tree_3 (dC (.int 0)))) sNil))))
def s_told_tree : PP.Sem := runF [] 5 d_told_tree
def m_told_tree (s0 : PV) : Option (PV) := (m_check_scopes s0).bind fun (t1 : PV) => ((m_trees_of s0).bind fun (t4 : PV) => (seqOf t4).bind fun l5 => cmpM (fun (x2 : PV) => (m_additions_of s0 x2).bind fun (t6 : PV) => some (.tup [x2, t6])) l5).bind fun (y7 : List PV) => ((seqOf (.lst y7)).bind fun l10 => cmpM (fun (x8 : PV) => (un2 x8).bind fun (u11 : PV × PV) => (lenF [u11.2]).bind fun t12 => some t12) l10).bind fun (y13 : List PV) => (minF [(.lst y13)]).bind fun t14 => ((seqOf (.lst y7)).bind fun l17 => cmpG (fun (x15 : PV) => (getF x15 (.int 1)).bind fun t18 => (lenF [t18]).bind fun t19 => (eqF t19 t14).bind fun t20 => (asBl t20).bind fun b21 => if b21 = true then some (some x15) else some none) l17).bind fun (y22 : List PV) => (getF (.lst y22) (.int 0)).bind fun t23 => some t23
theorem q_told_tree (s0 : PV) : s_told_tree [s0] = (m_told_tree s0).bind fun (r : PV) => some (r, [s0]) := by
  refine Eq.trans ?_ (mTail_eq _ _); simp! only [s_told_tree, d_told_tree, m_told_tree, runF_ev, q_check_scopes, q_additions_of, q_trees_of, C_told_tree_1_l, C_told_tree_1_q, C_told_tree_2_l, C_told_tree_2_q, C_told_tree_3_l, C_told_tree_3_q]
def C_accepts_additions_1_e : Den := (dBin inF (dVar 4) (dBin getF (dVar 0) (dVar 3)))
def C_accepts_additions_1_t : DenT := dYes
theorem C_accepts_additions_1_l (s0 s1 s2 : PV) (xs : List PV) : lcF (.tp [(.nm 3), (.nm 4)]) C_accepts_additions_1_t C_accepts_additions_1_e [3, 4] xs [.val s0, .val s1, .val s2, .no, .no, .no, .no, .no] = (cmpM (fun (x6 : PV) => (un2 x6).bind fun (u9 : PV × PV) => (getF s0 u9.1).bind fun t10 => (inF u9.2 t10).bind fun t11 => some t11) xs).bind fun ys => some (ys, [.val s0, .val s1, .val s2, .no, .no, .no, .no, .no]) := by
  refine lc_M (e := [.val s0, .val s1, .val s2, .no, .no, .no, .no, .no]) _ ?_ xs
  intro x; refine Eq.trans ?_ (mTail_eq _ _); simp! only [C_accepts_additions_1_e, C_accepts_additions_1_t, q_check_edges, q_are_pairs, q_makes]
def C_accepts_additions_1 : Den := dLC (iSeq (dVar 2)) [3, 4] (.tp [(.nm 3), (.nm 4)]) C_accepts_additions_1_t C_accepts_additions_1_e
theorem C_accepts_additions_1_q (s0 s1 s2 : PV) : C_accepts_additions_1 [.val s0, .val s1, .val s2, .no, .no, .no, .no, .no] = ((seqOf s2).bind fun l8 => cmpM (fun (x6 : PV) => (un2 x6).bind fun (u9 : PV × PV) => (getF s0 u9.1).bind fun t10 => (inF u9.2 t10).bind fun t11 => some t11) l8).bind fun (k : List PV) => some (.lst k, [.val s0, .val s1, .val s2, .no, .no, .no, .no, .no]) := by
  refine Eq.trans ?_ (mTail_eq _ _); simp! only [C_accepts_additions_1, q_check_edges, q_are_pairs, q_makes, C_accepts_additions_1_l]
def C_accepts_additions_3_e : Den := (dVar 4)
def C_accepts_additions_3_t : DenT := (dB (dBin eqF (dVar 7) (dVar 3)))
theorem C_accepts_additions_3_l (s0 s1 s2 s3 s5 s6 : PV) (xs : List PV) : lcF (.tp [(.nm 7), (.nm 4)]) C_accepts_additions_3_t C_accepts_additions_3_e [7, 4] xs [.val s0, .val s1, .val s2, .val s3, .no, .own s5, .val s6, .no] = (cmpG (fun (x19 : PV) => (un2 x19).bind fun (u22 : PV × PV) => (eqF u22.1 s3).bind fun t23 => (asBl t23).bind fun b24 => if b24 = true then some (some u22.2) else some none) xs).bind fun ys => some (ys, [.val s0, .val s1, .val s2, .val s3, .no, .own s5, .val s6, .no]) := by
  refine lc_G (e := [.val s0, .val s1, .val s2, .val s3, .no, .own s5, .val s6, .no]) _ ?_ xs
  intro x; refine Eq.trans ?_ (mTail_eq _ _); simp! only [C_accepts_additions_3_e, C_accepts_additions_3_t, q_check_edges, q_are_pairs, q_makes, C_accepts_additions_1_l, C_accepts_additions_1_q]
def C_accepts_additions_3 : Den := dLC (iSeq (dVar 2)) [7, 4] (.tp [(.nm 7), (.nm 4)]) C_accepts_additions_3_t C_accepts_additions_3_e
theorem C_accepts_additions_3_q (s0 s1 s2 s3 s5 s6 : PV) : C_accepts_additions_3 [.val s0, .val s1, .val s2, .val s3, .no, .own s5, .val s6, .no] = ((seqOf s2).bind fun l21 => cmpG (fun (x19 : PV) => (un2 x19).bind fun (u22 : PV × PV) => (eqF u22.1 s3).bind fun t23 => (asBl t23).bind fun b24 => if b24 = true then some (some u22.2) else some none) l21).bind fun (k : List PV) => some (.lst k, [.val s0, .val s1, .val s2, .val s3, .no, .own s5, .val s6, .no]) := by
  refine Eq.trans ?_ (mTail_eq _ _); simp! only [C_accepts_additions_3, q_check_edges, q_are_pairs, q_makes, C_accepts_additions_1_l, C_accepts_additions_1_q, C_accepts_additions_3_l]
def D_accepts_additions_2_b : DenS := sPost [3, 6] (sSeq (sDrop (dMut appendF 5 [(dBin addF (dVar 6) (dApp tupleF [.d C_accepts_additions_3]))])) sNil)
def D_accepts_additions_2 : DenS := sFor (iEnum1 (dVar 0)) (.tp [(.nm 3), (.nm 6)]) D_accepts_additions_2_b
theorem D_accepts_additions_2_l (s0 s1 s2 : PV) (z5 : PV) (xs : List PV) : forF (.tp [(.nm 3), (.nm 6)]) D_accepts_additions_2_b xs [.val s0, .val s1, .val s2, .no, .no, .own z5, .no, .no] = (fldM (fun (w16 : PV) (x15 : PV) => (un2 x15).bind fun (u18 : PV × PV) => (asL w16).bind fun _ => ((seqOf s2).bind fun l21 => cmpG (fun (x19 : PV) => (un2 x19).bind fun (u22 : PV × PV) => (eqF u22.1 u18.1).bind fun t23 => (asBl t23).bind fun b24 => if b24 = true then some (some u22.2) else some none) l21).bind fun (y25 : List PV) => (tupleF [(.lst y25)]).bind fun t26 => (addF u18.2 t26).bind fun t27 => (asL w16).bind fun l28 => (appendF l28 [t27]).bind fun (z29 : PV × List PV) => some (.lst z29.2)) xs z5).bind fun (k : PV) => some (.nx [.val s0, .val s1, .val s2, .no, .no, .own k, .no, .no]) := by
  refine for_fold (E := fun (w16 : PV) => [.val s0, .val s1, .val s2, .no, .no, .own w16, .no, .no]) _ ?_ xs z5
  intro z x; refine Eq.trans ?_ (mTail_eq _ _); simp! only [D_accepts_additions_2_b, q_check_edges, q_are_pairs, q_makes, C_accepts_additions_1_l, C_accepts_additions_1_q, C_accepts_additions_3_l, C_accepts_additions_3_q]
theorem D_accepts_additions_2_q (s0 s1 s2 s5 : PV) : D_accepts_additions_2 [.val s0, .val s1, .val s2, .no, .no, .own s5, .no, .no] = ((enF s0).bind fun l17 => fldM (fun (w16 : PV) (x15 : PV) => (un2 x15).bind fun (u18 : PV × PV) => (asL w16).bind fun _ => ((seqOf s2).bind fun l21 => cmpG (fun (x19 : PV) => (un2 x19).bind fun (u22 : PV × PV) => (eqF u22.1 u18.1).bind fun t23 => (asBl t23).bind fun b24 => if b24 = true then some (some u22.2) else some none) l21).bind fun (y25 : List PV) => (tupleF [(.lst y25)]).bind fun t26 => (addF u18.2 t26).bind fun t27 => (asL w16).bind fun l28 => (appendF l28 [t27]).bind fun (z29 : PV × List PV) => some (.lst z29.2)) l17 s5).bind fun (k : PV) => some (.nx [.val s0, .val s1, .val s2, .no, .no, .own k, .no, .no]) := by
  refine Eq.trans ?_ (mTail_eq _ _); simp! only [D_accepts_additions_2, q_check_edges, q_are_pairs, q_makes, C_accepts_additions_1_l, C_accepts_additions_1_q, C_accepts_additions_3_l, C_accepts_additions_3_q, D_accepts_additions_2_l]
def d_accepts_additions : DenS := (sSeq (sDrop (dCall s_check_edges [.d (dVar 0), .d (dVar 1)])) (sSeq (sIf (dNot (dTruth (.d (dCall s_are_pairs [.d (dVar 2), .d (dBin subF (dApp lenF [.d (dVar 0)]) (dC (.int 1))), .d (dC (.int 5))])))) (sSeq (sRetK [0, 1, 2, 3, 4, 5, 6, 7] (dC (.bl false))) sNil) sNil) (sSeq (sIf (dTruth (.d (dApp anyF [.d C_accepts_additions_1]))) (sSeq (sRetK [0, 1, 2, 3, 4, 5, 6, 7] (dC (.bl false))) sNil) sNil) (sSeq (sOwn 5 (dLst [])) (sSeq D_accepts_additions_2 (sSeq (sRetK [0, 1, 2, 3, 4, 5, 6, 7] (dCall s_makes [.d (dVar 5), .d (dVar 1)])) sNil))))))
def s_accepts_additions : PP.Sem := runF [] 5 d_accepts_additions
def m_accepts_additions (s0 s1 s2 : PV) : Option (PV) := (m_check_edges s0 s1).bind fun (t1 : PV) => (lenF [s0]).bind fun t2 => (subF t2 (.int 1)).bind fun t3 => (m_are_pairs s2 t3 (.int 5)).bind fun (t4 : PV) => (truthF t4).bind fun b5 => if (!b5) = true then some (.bl false) else ((seqOf s2).bind fun l8 => cmpM (fun (x6 : PV) => (un2 x6).bind fun (u9 : PV × PV) => (getF s0 u9.1).bind fun t10 => (inF u9.2 t10).bind fun t11 => some t11) l8).bind fun (y12 : List PV) => (anyF [(.lst y12)]).bind fun t13 => (truthF t13).bind fun b14 => if b14 = true then some (.bl false) else ((enF s0).bind fun l17 => fldM (fun (w16 : PV) (x15 : PV) => (un2 x15).bind fun (u18 : PV × PV) => (asL w16).bind fun _ => ((seqOf s2).bind fun l21 => cmpG (fun (x19 : PV) => (un2 x19).bind fun (u22 : PV × PV) => (eqF u22.1 u18.1).bind fun t23 => (asBl t23).bind fun b24 => if b24 = true then some (some u22.2) else some none) l21).bind fun (y25 : List PV) => (tupleF [(.lst y25)]).bind fun t26 => (addF u18.2 t26).bind fun t27 => (asL w16).bind fun l28 => (appendF l28 [t27]).bind fun (z29 : PV × List PV) => some (.lst z29.2)) l17 (.lst [])).bind fun (k30 : PV) => (m_makes k30 s1).bind fun (t31 : PV) => some t31
theorem q_accepts_additions (s0 s1 s2 : PV) : s_accepts_additions [s0, s1, s2] = (m_accepts_additions s0 s1 s2).bind fun (r : PV) => some (r, [s0, s1, s2]) := by
  refine Eq.trans ?_ (mTail_eq _ _); simp! only [s_accepts_additions, d_accepts_additions, m_accepts_additions, runF_ev, q_check_edges, q_are_pairs, q_makes, C_accepts_additions_1_l, C_accepts_additions_1_q, C_accepts_additions_3_l, C_accepts_additions_3_q, D_accepts_additions_2_l, D_accepts_additions_2_q]
def C__law_wide_2_e : Den := (dVar 5)
def C__law_wide_2_t : DenT := (dB (dBin eqF (dVar 4) (dVar 3)))
theorem C__law_wide_2_l (s0 s1 s2 s3 : PV) (xs : List PV) : lcF (.tp [(.nm 4), (.nm 5)]) C__law_wide_2_t C__law_wide_2_e [4, 5] xs [.val s0, .val s1, .own s2, .val s3, .no, .no] = (cmpG (fun (x6 : PV) => (un2 x6).bind fun (u9 : PV × PV) => (eqF u9.1 s3).bind fun t10 => (asBl t10).bind fun b11 => if b11 = true then some (some u9.2) else some none) xs).bind fun ys => some (ys, [.val s0, .val s1, .own s2, .val s3, .no, .no]) := by
  refine lc_G (e := [.val s0, .val s1, .own s2, .val s3, .no, .no]) _ ?_ xs
  intro x; refine Eq.trans ?_ (mTail_eq _ _); simp! only [C__law_wide_2_e, C__law_wide_2_t]
def C__law_wide_2 : Den := dLC (iSeq (dVar 1)) [4, 5] (.tp [(.nm 4), (.nm 5)]) C__law_wide_2_t C__law_wide_2_e
theorem C__law_wide_2_q (s0 s1 s2 s3 : PV) : C__law_wide_2 [.val s0, .val s1, .own s2, .val s3, .no, .no] = ((seqOf s1).bind fun l8 => cmpG (fun (x6 : PV) => (un2 x6).bind fun (u9 : PV × PV) => (eqF u9.1 s3).bind fun t10 => (asBl t10).bind fun b11 => if b11 = true then some (some u9.2) else some none) l8).bind fun (k : List PV) => some (.lst k, [.val s0, .val s1, .own s2, .val s3, .no, .no]) := by
  refine Eq.trans ?_ (mTail_eq _ _); simp! only [C__law_wide_2, C__law_wide_2_l]
def D__law_wide_1_b : DenS := sPost [3] (sSeq (sDrop (dMut appendF 2 [(dBin addF (dBin getF (dVar 0) (dVar 3)) (dApp tupleF [.d C__law_wide_2]))])) sNil)
def D__law_wide_1 : DenS := sFor (iRange [(dApp lenF [.d (dVar 0)])]) (.nm 3) D__law_wide_1_b
theorem D__law_wide_1_l (s0 s1 : PV) (z2 : PV) (xs : List PV) : forF (.nm 3) D__law_wide_1_b xs [.val s0, .val s1, .own z2, .no, .no, .no] = (fldM (fun (w2 : PV) (x1 : PV) => (asL w2).bind fun _ => (getF s0 x1).bind fun t5 => ((seqOf s1).bind fun l8 => cmpG (fun (x6 : PV) => (un2 x6).bind fun (u9 : PV × PV) => (eqF u9.1 x1).bind fun t10 => (asBl t10).bind fun b11 => if b11 = true then some (some u9.2) else some none) l8).bind fun (y12 : List PV) => (tupleF [(.lst y12)]).bind fun t13 => (addF t5 t13).bind fun t14 => (asL w2).bind fun l15 => (appendF l15 [t14]).bind fun (z16 : PV × List PV) => some (.lst z16.2)) xs z2).bind fun (k : PV) => some (.nx [.val s0, .val s1, .own k, .no, .no, .no]) := by
  refine for_fold (E := fun (w2 : PV) => [.val s0, .val s1, .own w2, .no, .no, .no]) _ ?_ xs z2
  intro z x; refine Eq.trans ?_ (mTail_eq _ _); simp! only [D__law_wide_1_b, C__law_wide_2_l, C__law_wide_2_q]
theorem D__law_wide_1_q (s0 s1 s2 : PV) : D__law_wide_1 [.val s0, .val s1, .own s2, .no, .no, .no] = ((lenF [s0]).bind fun t3 => (rgO1 t3).bind fun r4 => fldM (fun (w2 : PV) (x1 : PV) => (asL w2).bind fun _ => (getF s0 x1).bind fun t5 => ((seqOf s1).bind fun l8 => cmpG (fun (x6 : PV) => (un2 x6).bind fun (u9 : PV × PV) => (eqF u9.1 x1).bind fun t10 => (asBl t10).bind fun b11 => if b11 = true then some (some u9.2) else some none) l8).bind fun (y12 : List PV) => (tupleF [(.lst y12)]).bind fun t13 => (addF t5 t13).bind fun t14 => (asL w2).bind fun l15 => (appendF l15 [t14]).bind fun (z16 : PV × List PV) => some (.lst z16.2)) (rgL r4) s2).bind fun (k : PV) => some (.nx [.val s0, .val s1, .own k, .no, .no, .no]) := by
  refine Eq.trans ?_ (mTail_eq _ _); simp! only [D__law_wide_1, C__law_wide_2_l, C__law_wide_2_q, D__law_wide_1_l]
def d__law_wide : DenS := (sSeq (sOwn 2 (dLst [])) (sSeq D__law_wide_1 (sSeq (sRetK [0, 1, 2, 3, 4, 5] (dVar 2)) sNil)))
def s__law_wide : PP.Sem := runF [] 4 d__law_wide
def m__law_wide (s0 s1 : PV) : Option (PV) := ((lenF [s0]).bind fun t3 => (rgO1 t3).bind fun r4 => fldM (fun (w2 : PV) (x1 : PV) => (asL w2).bind fun _ => (getF s0 x1).bind fun t5 => ((seqOf s1).bind fun l8 => cmpG (fun (x6 : PV) => (un2 x6).bind fun (u9 : PV × PV) => (eqF u9.1 x1).bind fun t10 => (asBl t10).bind fun b11 => if b11 = true then some (some u9.2) else some none) l8).bind fun (y12 : List PV) => (tupleF [(.lst y12)]).bind fun t13 => (addF t5 t13).bind fun t14 => (asL w2).bind fun l15 => (appendF l15 [t14]).bind fun (z16 : PV × List PV) => some (.lst z16.2)) (rgL r4) (.lst [])).bind fun (k17 : PV) => some k17
theorem q__law_wide (s0 s1 : PV) : s__law_wide [s0, s1] = (m__law_wide s0 s1).bind fun (r : PV) => some (r, [s0, s1]) := by
  refine Eq.trans ?_ (mTail_eq _ _); simp! only [s__law_wide, d__law_wide, m__law_wide, runF_ev, C__law_wide_2_l, C__law_wide_2_q, D__law_wide_1_l, D__law_wide_1_q]
def D_law_2 : DenS := (sIf (dTruth (.d (dCall s__law_is_tree [.d (dVar 2), .d (dVar 4)]))) (sSeq (sDrop (dMut appendF 3 [(dTup [(dVar 4), (dCall s__law_additions [.d (dVar 2), .d (dVar 4)])])])) sNil) sNil)
theorem D_law_2_q (s0 s1 s2 s3 s4 : PV) : D_law_2 [.val s0, .own s1, .val s2, .own s3, .val s4, .no, .no, .no, .no, .no, .no] = ((m__law_is_tree s2 s4).bind fun (t8 : PV) => (truthF t8).bind fun b9 => if b9 = true then (asL s3).bind fun _ => (m__law_additions s2 s4).bind fun (t10 : PV) => (asL s3).bind fun l11 => (appendF l11 [(.tup [s4, t10])]).bind fun (z12 : PV × List PV) => some (.lst z12.2) else some s3).bind fun (k : PV) => some (.nx [.val s0, .own s1, .val s2, .own k, .val s4, .no, .no, .no, .no, .no, .no]) := by
  refine Eq.trans ?_ (mTail_eq _ _); simp! only [D_law_2, q__law_stream, q__law_scopes, q__law_edge_sets, q__law_is_tree, q__law_additions, q_told_tree, q__law_equal__4, q_accepts_additions]
def D_law_1_b : DenS := sPost [4] (sSeq D_law_2 sNil)
def D_law_1 : DenS := sFor (iSeq (dCall s__law_edge_sets [.d (dApp lenF [.d (dVar 2)])])) (.nm 4) D_law_1_b
theorem D_law_1_l (s0 s1 s2 : PV) (z3 : PV) (xs : List PV) : forF (.nm 4) D_law_1_b xs [.val s0, .own s1, .val s2, .own z3, .no, .no, .no, .no, .no, .no, .no] = (fldM (fun (w4 : PV) (x3 : PV) => ((m__law_is_tree s2 x3).bind fun (t8 : PV) => (truthF t8).bind fun b9 => if b9 = true then (asL w4).bind fun _ => (m__law_additions s2 x3).bind fun (t10 : PV) => (asL w4).bind fun l11 => (appendF l11 [(.tup [x3, t10])]).bind fun (z12 : PV × List PV) => some (.lst z12.2) else some w4).bind fun (k13 : PV) => some k13) xs z3).bind fun (k : PV) => some (.nx [.val s0, .own s1, .val s2, .own k, .no, .no, .no, .no, .no, .no, .no]) := by
  refine for_fold (E := fun (w4 : PV) => [.val s0, .own s1, .val s2, .own w4, .no, .no, .no, .no, .no, .no, .no]) _ ?_ xs z3
  intro z x; refine Eq.trans ?_ (mTail_eq _ _); simp! only [D_law_1_b, q__law_stream, q__law_scopes, q__law_edge_sets, q__law_is_tree, q__law_additions, q_told_tree, q__law_equal__4, q_accepts_additions, D_law_2_q]
theorem D_law_1_q (s0 s1 s2 s3 : PV) : D_law_1 [.val s0, .own s1, .val s2, .own s3, .no, .no, .no, .no, .no, .no, .no] = ((lenF [s2]).bind fun t5 => (m__law_edge_sets t5).bind fun (t6 : PV) => (seqOf t6).bind fun l7 => fldM (fun (w4 : PV) (x3 : PV) => ((m__law_is_tree s2 x3).bind fun (t8 : PV) => (truthF t8).bind fun b9 => if b9 = true then (asL w4).bind fun _ => (m__law_additions s2 x3).bind fun (t10 : PV) => (asL w4).bind fun l11 => (appendF l11 [(.tup [x3, t10])]).bind fun (z12 : PV × List PV) => some (.lst z12.2) else some w4).bind fun (k13 : PV) => some k13) l7 s3).bind fun (k : PV) => some (.nx [.val s0, .own s1, .val s2, .own k, .no, .no, .no, .no, .no, .no, .no]) := by
  refine Eq.trans ?_ (mTail_eq _ _); simp! only [D_law_1, q__law_stream, q__law_scopes, q__law_edge_sets, q__law_is_tree, q__law_additions, q_told_tree, q__law_equal__4, q_accepts_additions, D_law_2_q, D_law_1_l]
def C_law_3_e : Den := (dApp lenF [.d (dVar 6)])
def C_law_3_t : DenT := dYes
theorem C_law_3_l (s0 s1 s2 s3 : PV) (xs : List PV) : lcF (.tp [(.nm 4), (.nm 6)]) C_law_3_t C_law_3_e [4, 6] xs [.val s0, .own s1, .val s2, .val s3, .no, .no, .no, .no, .no, .no, .no] = (cmpM (fun (x15 : PV) => (un2 x15).bind fun (u18 : PV × PV) => (lenF [u18.2]).bind fun t19 => some t19) xs).bind fun ys => some (ys, [.val s0, .own s1, .val s2, .val s3, .no, .no, .no, .no, .no, .no, .no]) := by
  refine lc_M (e := [.val s0, .own s1, .val s2, .val s3, .no, .no, .no, .no, .no, .no, .no]) _ ?_ xs
  intro x; refine Eq.trans ?_ (mTail_eq _ _); simp! only [C_law_3_e, C_law_3_t, q__law_stream, q__law_scopes, q__law_edge_sets, q__law_is_tree, q__law_additions, q_told_tree, q__law_equal__4, q_accepts_additions, D_law_2_q, D_law_1_l, D_law_1_q]
def C_law_3 : Den := dLC (iSeq (dVar 3)) [4, 6] (.tp [(.nm 4), (.nm 6)]) C_law_3_t C_law_3_e
theorem C_law_3_q (s0 s1 s2 s3 : PV) : C_law_3 [.val s0, .own s1, .val s2, .own s3, .no, .no, .no, .no, .no, .no, .no] = ((seqOf s3).bind fun l17 => cmpM (fun (x15 : PV) => (un2 x15).bind fun (u18 : PV × PV) => (lenF [u18.2]).bind fun t19 => some t19) l17).bind fun (k : List PV) => some (.lst k, [.val s0, .own s1, .val s2, .val s3, .no, .no, .no, .no, .no, .no, .no]) := by
  refine Eq.trans ?_ (mTail_eq _ _); simp! only [C_law_3, q__law_stream, q__law_scopes, q__law_edge_sets, q__law_is_tree, q__law_additions, q_told_tree, q__law_equal__4, q_accepts_additions, D_law_2_q, D_law_1_l, D_law_1_q, C_law_3_l]
def C_law_4_e : Den := (dVar 8)
def C_law_4_t : DenT := (dB (dBin eqF (dApp lenF [.d (dBin getF (dVar 8) (dC (.int 1)))]) (dVar 5)))
theorem C_law_4_l (s0 s1 s2 s3 s5 : PV) (xs : List PV) : lcF (.nm 8) C_law_4_t C_law_4_e [8] xs [.val s0, .own s1, .val s2, .val s3, .no, .val s5, .no, .no, .no, .no, .no] = (cmpG (fun (x22 : PV) => (getF x22 (.int 1)).bind fun t25 => (lenF [t25]).bind fun t26 => (eqF t26 s5).bind fun t27 => (asBl t27).bind fun b28 => if b28 = true then some (some x22) else some none) xs).bind fun ys => some (ys, [.val s0, .own s1, .val s2, .val s3, .no, .val s5, .no, .no, .no, .no, .no]) := by
  refine lc_G (e := [.val s0, .own s1, .val s2, .val s3, .no, .val s5, .no, .no, .no, .no, .no]) _ ?_ xs
  intro x; refine Eq.trans ?_ (mTail_eq _ _); simp! only [C_law_4_e, C_law_4_t, q__law_stream, q__law_scopes, q__law_edge_sets, q__law_is_tree, q__law_additions, q_told_tree, q__law_equal__4, q_accepts_additions, D_law_2_q, D_law_1_l, D_law_1_q, C_law_3_l, C_law_3_q]
def C_law_4 : Den := dLC (iSeq (dVar 3)) [8] (.nm 8) C_law_4_t C_law_4_e
theorem C_law_4_q (s0 s1 s2 s3 s5 : PV) : C_law_4 [.val s0, .own s1, .val s2, .val s3, .no, .val s5, .no, .no, .no, .no, .no] = ((seqOf s3).bind fun l24 => cmpG (fun (x22 : PV) => (getF x22 (.int 1)).bind fun t25 => (lenF [t25]).bind fun t26 => (eqF t26 s5).bind fun t27 => (asBl t27).bind fun b28 => if b28 = true then some (some x22) else some none) l24).bind fun (k : List PV) => some (.lst k, [.val s0, .own s1, .val s2, .val s3, .no, .val s5, .no, .no, .no, .no, .no]) := by
  refine Eq.trans ?_ (mTail_eq _ _); simp! only [C_law_4, q__law_stream, q__law_scopes, q__law_edge_sets, q__law_is_tree, q__law_additions, q_told_tree, q__law_equal__4, q_accepts_additions, D_law_2_q, D_law_1_l, D_law_1_q, C_law_3_l, C_law_3_q, C_law_4_l]
def T_law_5 : DenT := (dOr (dNot (dTruth (.d (dCall s__law_equal__4 [.d (dVar 9), .d (dVar 7)])))) (dB (dBin notBF (dCall s_accepts_additions [.d (dVar 2), .d (dBin getF (dVar 9) (dC (.int 0))), .d (dBin getF (dVar 9) (dC (.int 1)))]) (dC (.bl true)))))
theorem T_law_5_q (s0 s1 s2 s3 s5 s7 s9 : PV) : T_law_5 [.val s0, .own s1, .val s2, .val s3, .no, .val s5, .no, .val s7, .no, .val s9, .no] = ((m__law_equal__4 s9 s7).bind fun (t32 : PV) => (truthF t32).bind fun b33 => if (!b33) = true then some true else (getF s9 (.int 0)).bind fun t34 => (getF s9 (.int 1)).bind fun t35 => (m_accepts_additions s2 t34 t35).bind fun (t36 : PV) => (notBF t36 (.bl true)).bind fun t37 => (asBl t37).bind fun b38 => some b38).bind fun (k : Bool) => some (k, [.val s0, .own s1, .val s2, .val s3, .no, .val s5, .no, .val s7, .no, .val s9, .no]) := by
  refine Eq.trans ?_ (mTail_eq _ _); simp! only [T_law_5, q__law_stream, q__law_scopes, q__law_edge_sets, q__law_is_tree, q__law_additions, q_told_tree, q__law_equal__4, q_accepts_additions, D_law_2_q, D_law_1_l, D_law_1_q, C_law_3_l, C_law_3_q, C_law_4_l, C_law_4_q]
def D_law_6_b : DenS := sPost [10] (sSeq (sIf (dB (dBin notBF (dCall s_accepts_additions [.d (dVar 2), .d (dBin getF (dVar 9) (dC (.int 0))), .d (dBin addF (dSlice (.d (dBin getF (dVar 9) (dC (.int 1)))) dNoPart (dPart (dVar 10))) (dSlice (.d (dBin getF (dVar 9) (dC (.int 1)))) (dPart (dBin addF (dVar 10) (dC (.int 1)))) dNoPart))]) (dC (.bl false)))) (sSeq (sRetK [0, 1, 2, 3, 4, 5, 6, 7, 8, 9, 10] (dC (.bl false))) sNil) sNil) sNil)
def D_law_6 : DenS := sFor (iRange [(dApp lenF [.d (dBin getF (dVar 9) (dC (.int 1)))])]) (.nm 10) D_law_6_b
theorem D_law_6_l (s0 s1 s2 s3 s5 s7 s9 : PV) (xs : List PV) : forF (.nm 10) D_law_6_b xs [.val s0, .own s1, .val s2, .val s3, .no, .val s5, .no, .val s7, .no, .val s9, .no] = (fldR (S := Unit) (R := PV) (fun (w41 : Unit) (x40 : PV) => (getF s9 (.int 0)).bind fun t45 => (getF s9 (.int 1)).bind fun t46 => (asI x40).bind fun i47 => (sliceF t46 none (some i47)).bind fun t48 => (getF s9 (.int 1)).bind fun t49 => (addF x40 (.int 1)).bind fun t50 => (asI t50).bind fun i51 => (sliceF t49 (some i51) none).bind fun t52 => (addF t48 t52).bind fun t53 => (m_accepts_additions s2 t45 t53).bind fun (t54 : PV) => (notBF t54 (.bl false)).bind fun t55 => (asBl t55).bind fun b56 => if b56 = true then some (.inr (.bl false)) else some (.inl ())) xs ()).bind fun r => some (flS (fun (k : Unit) => [.val s0, .own s1, .val s2, .val s3, .no, .val s5, .no, .val s7, .no, .val s9, .no]) (fun (v : PV) => (v, [.no, .no, .no, .no, .no, .no, .no, .no, .no, .no, .no])) r) := by
  refine for_foldR (E := fun (w41 : Unit) => [.val s0, .own s1, .val s2, .val s3, .no, .val s5, .no, .val s7, .no, .val s9, .no]) (fun (v : PV) => (v, [.no, .no, .no, .no, .no, .no, .no, .no, .no, .no, .no])) _ ?_ xs ()
  intro z x; refine Eq.trans ?_ (mTail_eq _ _); simp! only [D_law_6_b, q__law_stream, q__law_scopes, q__law_edge_sets, q__law_is_tree, q__law_additions, q_told_tree, q__law_equal__4, q_accepts_additions, D_law_2_q, D_law_1_l, D_law_1_q, C_law_3_l, C_law_3_q, C_law_4_l, C_law_4_q, T_law_5_q]
theorem D_law_6_q (s0 s1 s2 s3 s5 s7 s9 : PV) : D_law_6 [.val s0, .own s1, .val s2, .val s3, .no, .val s5, .no, .val s7, .no, .val s9, .no] = ((getF s9 (.int 1)).bind fun t42 => (lenF [t42]).bind fun t43 => (rgO1 t43).bind fun r44 => fldR (S := Unit) (R := PV) (fun (w41 : Unit) (x40 : PV) => (getF s9 (.int 0)).bind fun t45 => (getF s9 (.int 1)).bind fun t46 => (asI x40).bind fun i47 => (sliceF t46 none (some i47)).bind fun t48 => (getF s9 (.int 1)).bind fun t49 => (addF x40 (.int 1)).bind fun t50 => (asI t50).bind fun i51 => (sliceF t49 (some i51) none).bind fun t52 => (addF t48 t52).bind fun t53 => (m_accepts_additions s2 t45 t53).bind fun (t54 : PV) => (notBF t54 (.bl false)).bind fun t55 => (asBl t55).bind fun b56 => if b56 = true then some (.inr (.bl false)) else some (.inl ())) (rgL r44) ()).bind fun r => some (flS (fun (k : Unit) => [.val s0, .own s1, .val s2, .val s3, .no, .val s5, .no, .val s7, .no, .val s9, .no]) (fun (v : PV) => (v, [.no, .no, .no, .no, .no, .no, .no, .no, .no, .no, .no])) r) := by
  refine Eq.trans ?_ (mTail_eq _ _); simp! only [D_law_6, q__law_stream, q__law_scopes, q__law_edge_sets, q__law_is_tree, q__law_additions, q_told_tree, q__law_equal__4, q_accepts_additions, D_law_2_q, D_law_1_l, D_law_1_q, C_law_3_l, C_law_3_q, C_law_4_l, C_law_4_q, T_law_5_q, D_law_6_l]
def d_law : DenS := (sSeq (sOwn 1 (dCallN s__law_stream [(dVar 0)])) (sSeq (sAsg (.nm 2) (dCall s__law_scopes [.b 1, .d (dC (.int 4)), .d (dC (.int 4))])) (sSeq (sOwn 3 (dLst [])) (sSeq D_law_1 (sSeq (sAsg (.nm 5) (dApp minF [.d C_law_3])) (sSeq (sAsg (.nm 7) (dBin getF C_law_4 (dC (.int 0)))) (sSeq (sAsg (.nm 9) (dCall s_told_tree [.d (dVar 2)])) (sSeq (sIf T_law_5 (sSeq (sRetK [0, 1, 2, 3, 4, 5, 6, 7, 8, 9, 10] (dC (.bl false))) sNil) sNil) (sSeq D_law_6 (sSeq (sRetK [0, 1, 2, 3, 4, 5, 6, 7, 8, 9, 10] (dC (.bl true))) sNil))))))))))
def s_law : PP.Sem := runF [] 10 d_law
def m_law (s0 : PV) : Option (PV) := (m__law_stream s0).bind fun t1 => (m__law_scopes t1 (.int 4) (.int 4)).bind fun (t2 : PV × PV) => ((lenF [t2.1]).bind fun t5 => (m__law_edge_sets t5).bind fun (t6 : PV) => (seqOf t6).bind fun l7 => fldM (fun (w4 : PV) (x3 : PV) => ((m__law_is_tree t2.1 x3).bind fun (t8 : PV) => (truthF t8).bind fun b9 => if b9 = true then (asL w4).bind fun _ => (m__law_additions t2.1 x3).bind fun (t10 : PV) => (asL w4).bind fun l11 => (appendF l11 [(.tup [x3, t10])]).bind fun (z12 : PV × List PV) => some (.lst z12.2) else some w4).bind fun (k13 : PV) => some k13) l7 (.lst [])).bind fun (k14 : PV) => ((seqOf k14).bind fun l17 => cmpM (fun (x15 : PV) => (un2 x15).bind fun (u18 : PV × PV) => (lenF [u18.2]).bind fun t19 => some t19) l17).bind fun (y20 : List PV) => (minF [(.lst y20)]).bind fun t21 => ((seqOf k14).bind fun l24 => cmpG (fun (x22 : PV) => (getF x22 (.int 1)).bind fun t25 => (lenF [t25]).bind fun t26 => (eqF t26 t21).bind fun t27 => (asBl t27).bind fun b28 => if b28 = true then some (some x22) else some none) l24).bind fun (y29 : List PV) => (getF (.lst y29) (.int 0)).bind fun t30 => (m_told_tree t2.1).bind fun (t31 : PV) => ((m__law_equal__4 t31 t30).bind fun (t32 : PV) => (truthF t32).bind fun b33 => if (!b33) = true then some true else (getF t31 (.int 0)).bind fun t34 => (getF t31 (.int 1)).bind fun t35 => (m_accepts_additions t2.1 t34 t35).bind fun (t36 : PV) => (notBF t36 (.bl true)).bind fun t37 => (asBl t37).bind fun b38 => some b38).bind fun (b39 : Bool) => if b39 = true then some (.bl false) else ((getF t31 (.int 1)).bind fun t42 => (lenF [t42]).bind fun t43 => (rgO1 t43).bind fun r44 => fldR (S := Unit) (R := PV) (fun (w41 : Unit) (x40 : PV) => (getF t31 (.int 0)).bind fun t45 => (getF t31 (.int 1)).bind fun t46 => (asI x40).bind fun i47 => (sliceF t46 none (some i47)).bind fun t48 => (getF t31 (.int 1)).bind fun t49 => (addF x40 (.int 1)).bind fun t50 => (asI t50).bind fun i51 => (sliceF t49 (some i51) none).bind fun t52 => (addF t48 t52).bind fun t53 => (m_accepts_additions t2.1 t45 t53).bind fun (t54 : PV) => (notBF t54 (.bl false)).bind fun t55 => (asBl t55).bind fun b56 => if b56 = true then some (.inr (.bl false)) else some (.inl ())) (rgL r44) ()).bind fun (r57 : (Unit) ⊕ (PV)) => mSum r57 (fun (k58 : Unit) => some (.bl true)) (fun (v59 : PV) => some v59)
theorem q_law (s0 : PV) : s_law [s0] = (m_law s0).bind fun (r : PV) => some (r, [s0]) := by
  refine Eq.trans ?_ (mTail_eq _ _); simp! only [s_law, d_law, m_law, runF_ev, q__law_stream, q__law_scopes, q__law_edge_sets, q__law_is_tree, q__law_additions, q_told_tree, q__law_equal__4, q_accepts_additions, D_law_2_q, D_law_1_l, D_law_1_q, C_law_3_l, C_law_3_q, C_law_4_l, C_law_4_q, T_law_5_q, D_law_6_l, D_law_6_q]
end WK
namespace QQ
open PP WK
/-! ### the stream -/
def stP (ns : List Int) (c k : Int) : PV := .lst [.lst (ns.map PV.int), .int c, .int k]
@[simp] theorem st0 {ns : List Int} {c k : Int} : getF (stP ns c k) (.int 0) = some (.lst (ns.map PV.int)) := getF_l0 _ _
@[simp] theorem st1 {ns : List Int} {c k : Int} : getF (stP ns c k) (.int 1) = some (.int c) := getF_l1 _ _ _
@[simp] theorem st2 {ns : List Int} {c k : Int} : getF (stP ns c k) (.int 2) = some (.int k) := getF_l2 _ _ _ _
@[simp] theorem st_s1 {ns : List Int} {c k d : Int} : setF (stP ns c k) (.int 1) (.int d) = some (stP ns d k) := setF_l1 _ _ _ _
@[simp] theorem st_s2 {ns : List Int} {c k d : Int} : setF (stP ns c k) (.int 2) (.int d) = some (stP ns c d) := setF_l2 _ _ _ _ _
theorem cell_nn (x k : Int) : ∃ u v, 0 ≤ u ∧ 0 ≤ v ∧ (x * 48271 + k * 69621 + 11) % 2147483647 = u ∧ (u * 16807 + 13) % 2147483647 = v := ⟨_, _, Int.emod_nonneg _ (by decide), Int.emod_nonneg _ (by decide), rfl, rfl⟩
structure St where
  ns : List Int
  c : Int
  k : Nat
  hc : 0 ≤ c
def St.p (s : St) : PV := stP s.ns s.c s.k
theorem next_ok (s : St) (many : Int) (h : 0 < many) (hm : many < 1000000) : ∃ (d : Int) (s' : St), 0 ≤ d ∧ d < many ∧ m__law_next s.p (.int many) = some (.int d, s'.p) := by
  obtain ⟨ns, c, k, hc⟩ := s
  have e1 : ∀ x : Int, modF (.int x) (.int many) = some (.int (x % many)) := fun x => modF_int x many h
  have e2 : ∀ x : Int, divF (.int x) (.int many) = some (.int (x / many)) := fun x => divF_int x many ⟨h, by omega⟩
  have e3 : ∀ x : Int, modF (.int x) (.int 2147483647) = some (.int (x % 2147483647)) := fun x => modF_int x _ (by decide)
  have e4 : ∀ x : Int, mulF (.int x) (.int 48271) = some (.int (x * 48271)) := fun x => mulF_int _ _ (.inr (by decide))
  have e5 : ∀ x : Int, mulF (.int x) (.int 69621) = some (.int (x * 69621)) := fun x => mulF_int _ _ (.inr (by decide))
  have e6 : ∀ x : Int, mulF (.int x) (.int 16807) = some (.int (x * 16807)) := fun x => mulF_int _ _ (.inr (by decide))
  have e7 : ∀ x : Int, mulF (.int x) (.int 65537) = some (.int (x * 65537)) := fun x => mulF_int _ _ (.inr (by decide))
  unfold m__law_next St.p
  by_cases h0 : c = 0
  · subst h0
    -- the cell
    have hx : ∃ x : Int, 0 ≤ x ∧ (((getF (stP ns 0 k) (.int 0)).bind fun t6 => (lenF [t6]).bind fun t7 => (ltF (.int k) t7).bind fun t8 => (asBl t8).bind fun b9 => if b9 = true then (getF (stP ns 0 k) (.int 0)).bind fun t10 => (getF t10 (.int k)).bind fun t11 => (absF [t11]).bind fun t12 => some t12 else some (.int (7 + k))) : Option PV) = some (.int x) := by
      by_cases hk : (k : Int) < ns.length
      · have g := getF_at ns k (by omega)
        exact ⟨if ns[k] < 0 then -ns[k] else ns[k], by split <;> omega, by simp [hk, g, absF]⟩
      · exact ⟨7 + k, by omega, by simp [hk]⟩
    obtain ⟨x, hx0, hx⟩ := hx
    simp only [st1, st2, eqF_int, Option.bind_some, asBl_ev, decide_true, if_true, addF_int, hx]
    by_cases hb : x < 1000000000000000000
    · obtain ⟨u, v, hu, hv, q1, q2⟩ := cell_nn x k
      refine ⟨(v * 65537 + u) % many, ⟨ns, (v * 65537 + u) / many, k + 1, Int.ediv_nonneg (Int.add_nonneg (Int.mul_nonneg hv (by decide)) hu) (by omega)⟩, Int.emod_nonneg _ (by omega), Int.emod_lt_of_pos _ h, ?_⟩
      simp [pow18, hb, e1, e2, e3, e4, e5, e6, e7, q1, q2]
    · refine ⟨x % many, ⟨ns, x / many, k + 1, Int.ediv_nonneg hx0 (by omega)⟩, Int.emod_nonneg _ (by omega), Int.emod_lt_of_pos _ h, ?_⟩
      simp [pow18, hb, e1, e2]
  · refine ⟨c % many, ⟨ns, c / many, k, Int.ediv_nonneg hc (by omega)⟩, Int.emod_nonneg _ (by omega), Int.emod_lt_of_pos _ h, ?_⟩
    simp [h0, e1, e2]
theorem stream_ok (ns : List Int) : m__law_stream (.lst (ns.map PV.int)) = some (St.p ⟨ns, 0, 0, by decide⟩) := by
  simp [m__law_stream, St.p, stP]
@[simp] theorem isInt_ok (i : Int) : m__law_is_integer (.int i) = some (.bl true) := by simp [m__law_is_integer]
@[simp] theorem isInt_non : m__law_is_integer .non = some (.bl false) := by simp [m__law_is_integer]
/-! ### scopes -/
def OkS (l : List Int) : Prop := l.Pairwise (· < ·) ∧ (∀ x ∈ l, 0 ≤ x ∧ x < 6) ∧ l.length ≤ 3
theorem nextOk (s : St) (many : Int) (h : 0 < many) (hm : many < 1000000) : Ok (m__law_next s.p (.int many)) fun r => ∃ (d : Int) (s' : St), 0 ≤ d ∧ d < many ∧ r = (.int d, s'.p) := by
  obtain ⟨d, s', h0, h1, e⟩ := next_ok s many h hm
  exact ⟨_, e, d, s', h0, h1, rfl⟩
/-! ### graphs -/
def lt2 (p q : Int × Int) : Prop := p.1 < q.1 ∨ (p.1 = q.1 ∧ p.2 < q.2)
def pE (p : Int × Int) : PV := .tup [.int p.1, .int p.2]
abbrev scP (sc : List (List Int)) : PV := .tup (sc.map tI)
abbrev edP (ed : List (Int × Int)) : PV := .tup (ed.map pE)
def gP (v : Int) (sc : List (List Int)) (ed : List (Int × Int)) : PV := .tup [.int v, scP sc, edP ed]
@[simp] theorem g_0 {v : Int} {sc : List (List Int)} {ed : List (Int × Int)} : getF (gP v sc ed) (.int 0) = some (.int v) := getF_t0 _ _
@[simp] theorem g_1 {v : Int} {sc : List (List Int)} {ed : List (Int × Int)} : getF (gP v sc ed) (.int 1) = some (scP sc) := getF_t1 _ _ _
@[simp] theorem g_2 {v : Int} {sc : List (List Int)} {ed : List (Int × Int)} : getF (gP v sc ed) (.int 2) = some (edP ed) := getF_t2 _ _ _ _
@[simp] theorem g_u {v : Int} {sc : List (List Int)} {ed : List (Int × Int)} : un3 (gP v sc ed) = some (.int v, scP sc, edP ed) := id rfl
@[simp] theorem g_l {v : Int} {sc : List (List Int)} {ed : List (Int × Int)} : lenF [gP v sc ed] = some (.int 3) := id rfl
@[simp] theorem g_t {v : Int} {sc : List (List Int)} {ed : List (Int × Int)} : isTy .tuple (gP v sc ed) = true := id rfl
@[simp] theorem pE_0 {p : Int × Int} : getF (pE p) (.int 0) = some (.int p.1) := getF_t0 _ _
@[simp] theorem pE_1 {p : Int × Int} : getF (pE p) (.int 1) = some (.int p.2) := getF_t1 _ _ _
@[simp] theorem pE_u {p : Int × Int} : un2 (pE p) = some (.int p.1, .int p.2) := id rfl
@[simp] theorem pE_q {p : Int × Int} : seqOf (pE p) = some [.int p.1, .int p.2] := id rfl
@[simp] theorem pE_l {p : Int × Int} : lenF [pE p] = some (.int 2) := id rfl
@[simp] theorem pE_t {p : Int × Int} : isTy .tuple (pE p) = true := id rfl
def unE : PV → Int × Int
  | .tup [.int a, .int b] => (a, b)
  | _ => (0, 0)
theorem sorted_edges (ed : List (Int × Int)) (h : ed.Pairwise fun p q => p ≠ q) : ∃ ed' : List (Int × Int), sortedF [.lst (ed.map pE)] = some (.lst (ed'.map pE)) ∧ ed'.Perm ed ∧ ed'.Pairwise lt2 := by
  obtain ⟨h1, h2⟩ := perm_map (f := pE) (g := unE) (fun p => rfl) (sortL_perm (ed.map pE))
  have pw := sortL_pw (ed.map pE)
  have e1 : ed.map pE = (ed.map fun p => [p.1, p.2]).map fun a => .tup (a.map PV.int) := by
    rw [List.map_map]; rfl
  refine ⟨(sortL (ed.map pE)).map unE, ?_, h2, ?_⟩
  · simp only [sortedF]
    rw [show comparable (ed.map pE) = true by rw [e1]; exact comparable_tups _, show sortable (ed.map pE) = true by rw [e1]; exact sortable_tups _ (fun a ha => by obtain ⟨p, _, rfl⟩ := List.mem_map.mp ha; simp), ← h1]
    rfl
  · rw [h1, List.pairwise_map] at pw
    have nd : ((sortL (ed.map pE)).map unE).Pairwise fun p q => p ≠ q := (h2.pairwise_iff (fun {p q} z => fun e => z e.symm)).mpr h
    refine (pw.and nd).imp fun {p q} z => ?_
    have e2 : leP (pE p) (pE q) = !HT.lexLt [q.1, q.2] [p.1, p.2] := leP_tup [p.1, p.2] [q.1, q.2]
    have z1 := z.1
    rw [e2] at z1
    simp only [HT.lexLt, Bool.not_eq_true'] at z1
    by_cases h3 : q.1 = p.1
    · rw [if_pos h3] at z1
      by_cases h4 : q.2 = p.2
      · exact absurd (Prod.ext h3.symm h4.symm) z.2
      · rw [if_neg h4] at z1
        have : ¬ q.2 < p.2 := by simpa using z1
        exact .inr ⟨h3.symm, by omega⟩
    · rw [if_neg h3] at z1
      have : ¬ q.1 < p.1 := by simpa using z1
      exact .inl (by omega)
abbrev ndI (ns : List Nat) : List PV := ns.map fun i : Nat => .int (i : Int)
def scA (sc : List (List Int)) (i : Nat) : List Int := sc.getD i []
theorem scA_mem {sc : List (List Int)} {i : Nat} (h : i < sc.length) : scA sc i ∈ sc := by
  unfold scA; rw [List.getD_eq_getElem?_getD, List.getElem?_eq_getElem h]; exact List.getElem_mem h
theorem sc_at {sc : List (List Int)} {i : Nat} (h : i < sc.length) : getF (scP sc) (.int (i : Int)) = some (tI (scA sc i)) :=
  getF_seq rfl (by unfold scA; simp [List.getElem?_map, List.getElem?_eq_getElem h, List.getD_eq_getElem?_getD])
theorem whole_ok (i a b : Int) : m_is_whole (.int i) (.int a) (.int b) = some (.bl (decide (a ≤ i) && decide (i ≤ b))) := by
  unfold m_is_whole
  by_cases h : a ≤ i <;> simp [h]
theorem rgO1_int (j : Int) (h : -100 ≤ j ∧ j ≤ 16777216) : rgO1 (.int j) = some (0, j) := by
  show (if _ then _ else _) = _
  rw [if_pos (by omega)]
/-- each less than the next -/
theorem climb_ok (d : PV) (xs : List PV) (hs : seqOf d = some xs) (hl : xs.length ≤ 1000000) (h : ∀ (i : Nat) (x y : PV), xs[i]? = some x → xs[i + 1]? = some y → ltF x y = some (.bl true)) : m_is_climbing d = some (.bl true) := by
  have hn : lenF [d] = some (.int xs.length) := by simp [lenF, hs]
  unfold m_is_climbing
  simp only [hn, Option.bind_some, subF_int]
  rw [rgO1_int _ (by omega)]
  simp only [Option.bind_some, rgL_def]
  rw [show ((xs.length : Int) - 1 - 0).toNat = xs.length - 1 by omega]
  rw [← rgN_rng]
  unfold rgN
  rw [cmp_all fun i hi => by
    have hi := List.mem_range.mp hi
    have l1 : i < xs.length := by omega
    have l2 : i + 1 < xs.length := by omega
    have g1 : getF d (.int i) = some xs[i] := getF_seq hs (List.getElem?_eq_getElem l1)
    have g2 : getF d (.int (i + 1)) = some xs[i + 1] := getF_seq (k := i + 1) hs (List.getElem?_eq_getElem l2)
    have g3 := h i _ _ (List.getElem?_eq_getElem l1) (List.getElem?_eq_getElem l2)
    simp [g1, g2, g3]]
  simp only [Option.bind_some, all_true]
theorem pw_at {α : Type} {R : α → α → Prop} {f : α → PV} {l : List α} (h : l.Pairwise R) (hf : ∀ a b, R a b → ltF (f a) (f b) = some (.bl true)) (i : Nat) (x y : PV) (hx : (l.map f)[i]? = some x) (hy : (l.map f)[i + 1]? = some y) : ltF x y = some (.bl true) := by
  rw [List.getElem?_map] at hx hy
  obtain ⟨a, ha, rfl⟩ := Option.map_eq_some_iff.mp hx
  obtain ⟨b, hb, rfl⟩ := Option.map_eq_some_iff.mp hy
  obtain ⟨h1, e1⟩ := List.getElem?_eq_some_iff.mp ha
  obtain ⟨h2, e2⟩ := List.getElem?_eq_some_iff.mp hb
  subst e1 e2
  exact hf _ _ (List.pairwise_iff_getElem.mp h i (i + 1) h1 h2 (by omega))
theorem lt_pE (p q : Int × Int) (h : lt2 p q) : ltF (pE p) (pE q) = some (.bl true) := by
  have e := lt_tI [p.1, p.2] [q.1, q.2]
  have : HT.lexLt [p.1, p.2] [q.1, q.2] = true := by
    simp only [HT.lexLt]
    rcases h with h | ⟨h1, h2⟩
    · rw [if_neg (by omega)]; simpa using h
    · rw [if_pos h1, if_neg (by omega)]; simpa using h2
  rw [this] at e
  exact e
theorem variables_chk (l : List Int) (h : OkS l) : m_are_variables (tI l) = some (.bl true) := by
  have cl := climb_ok (tI l) (l.map PV.int) rfl (by have := h.2.2; simp; omega) (pw_at h.1 fun a b hab => by simp [hab])
  unfold m_are_variables
  simp only [isTy_tt, truthF_bl, Option.bind_some, seqOf_tup]
  rw [cmp_all fun x hx => by have := h.2.1 x hx; simp [whole_ok]; omega]
  simp [all_true, cl]
theorem scope_chk (l : List Int) (h : OkS l) : m_is_scope (tI l) = some (.bl true) := by
  have hl : (l.length : Int) ≤ 3 := by have := h.2.2; omega
  unfold m_is_scope
  simp [variables_chk l h, hl]
/-! ### equality -/
def eqvs (xs ys : List PV) : Bool := PySem.PyData.eqvAll (toDs xs) (toDs ys)
theorem eqv_tt (xs ys : List PV) : eqv (.tup xs) (.tup ys) = eqvs xs ys := by simp only [eqv, eqvs, toD, PySem.PyData.eqv]
theorem eqv_tf (xs ys : List PV) : eqv (.tup xs) (.fup ys) = eqvs xs ys := by simp only [eqv, eqvs, toD, PySem.PyData.eqv]
theorem eqv_ft (xs ys : List PV) : eqv (.fup xs) (.tup ys) = eqvs xs ys := by simp only [eqv, eqvs, toD, PySem.PyData.eqv]
theorem eqv_ff (xs ys : List PV) : eqv (.fup xs) (.fup ys) = eqvs xs ys := by simp only [eqv, eqvs, toD, PySem.PyData.eqv]
theorem eqv_ll (xs ys : List PV) : eqv (.lst xs) (.lst ys) = eqvs xs ys := by simp only [eqv, eqvs, toD, PySem.PyData.eqv]
theorem eqvs_nil : eqvs [] [] = true := by simp [eqvs, toDs, PySem.PyData.eqvAll]
theorem eqvs_nc (y : PV) (ys : List PV) : eqvs [] (y :: ys) = false := by simp [eqvs, toDs, PySem.PyData.eqvAll]
theorem eqvs_cn (y : PV) (ys : List PV) : eqvs (y :: ys) [] = false := by simp [eqvs, toDs, PySem.PyData.eqvAll]
theorem eqvs_cons (x y : PV) (xs ys : List PV) : eqvs (x :: xs) (y :: ys) = (eqv x y && eqvs xs ys) := by simp [eqvs, eqv, toDs, PySem.PyData.eqvAll]
theorem eqvs_map {α : Type} [DecidableEq α] {f : α → PV} (h : ∀ a b, eqv (f a) (f b) = decide (a = b)) : ∀ xs ys : List α, eqvs (xs.map f) (ys.map f) = decide (xs = ys)
  | [], [] => by simp [eqvs_nil]
  | [], y :: ys => by simp [eqvs_nc]
  | x :: xs, [] => by simp [eqvs_cn]
  | x :: xs, y :: ys => by
    rw [List.map_cons, List.map_cons, eqvs_cons, h, eqvs_map h xs ys]
    by_cases h1 : x = y <;> by_cases h2 : xs = ys <;> simp [h1, h2]
theorem all_map {α : Type} {f : α → PV} {n : Nat} {l : List α} (h : ∀ a ∈ l, okD n (f a) = true) : (l.map f).all (okD n) = true := by
  rw [List.all_eq_true]
  intro x hx
  obtain ⟨a, ha, rfl⟩ := List.mem_map.mp hx
  exact h a ha
theorem okD_l {n : Nat} {l : List PV} (h : l.all (okD n) = true) : okD (n + 1) (.lst l) = true := by simpa [okD] using h
theorem eqF_ok {p q : PV} (h : okD 60 p = true) (h2 : okD 60 q = true) : eqF p q = some (.bl (eqv p q)) := by
  unfold eqF
  rw [h, h2]
  rfl
theorem neF_ok {p q : PV} (h : okD 60 p = true) (h2 : okD 60 q = true) : neF p q = some (.bl (!eqv p q)) := by
  unfold neF
  rw [h, h2]
  rfl
theorem any_map_eqv {α : Type} [DecidableEq α] {f : α → PV} (h : ∀ a b, eqv (f a) (f b) = decide (a = b)) (x : α) (l : List α) : (l.map f).any (fun z => eqv z (f x)) = decide (x ∈ l) := by
  rw [List.any_map]
  have e : ((fun z => eqv z (f x)) ∘ f) = fun z => decide (z = x) := by funext z; exact h z x
  rw [e]
  by_cases hx : x ∈ l
  · rw [decide_eq_true hx, List.any_eq_true]; exact ⟨x, hx, by simp⟩
  · rw [decide_eq_false hx, List.any_eq_false]
    intro z hz
    simp only [decide_eq_true_eq]
    rintro rfl
    exact hx hz
@[simp] theorem neF_bl (a b : Bool) : neF (.bl a) (.bl b) = some (.bl (!decide (a = b))) := by cases a <;> cases b <;> rfl
@[simp] theorem eqF_bl (a b : Bool) : eqF (.bl a) (.bl b) = some (.bl (decide (a = b))) := by cases a <;> cases b <;> rfl
theorem slice_to {α : Type} {f : α → PV} {xs : List α} {k : Nat} (h : k < xs.length) : sliceF (.tup (xs.map f)) none (some (k : Int)) = some (.tup ((xs.take k).map f)) := by
  simp only [sliceF, tupOf_tup, Option.bind_some, cutP, HT.sIx_none, HT.sIx_nat, List.length_map]
  rw [if_neg (by omega)]
  simp only [List.drop_zero, Nat.sub_zero, Nat.min_eq_left (Nat.le_of_lt h), List.map_take]
theorem slice_from {α : Type} {f : α → PV} {xs : List α} {k : Nat} (h : 0 < k) (h2 : k ≤ xs.length) : sliceF (.tup (xs.map f)) (some (k : Int)) none = some (.tup ((xs.drop k).map f)) := by
  simp only [sliceF, tupOf_tup, Option.bind_some, cutP, HT.sIx_none, HT.sIx_nat, List.length_map]
  rw [if_neg (by omega)]
  simp only [Nat.min_eq_left h2, List.map_drop]
  rw [List.take_of_length_le (by simp)]
end QQ

namespace QQ
open PP WK
/-! ### drawn scopes -/
theorem drawn_sub {α : Type} (f : α → PV) (s : St) (many c : Int) (h : 0 < many ∧ many < 1000) (l : List α) : Ok (cmpS (fun (w12 : PV) (x11 : PV) => (m__law_next w12 (.int many)).bind fun (t14 : PV × PV) => (eqF t14.1 (.int c)).bind fun t15 => (asBl t15).bind fun b16 => if b16 = true then some (some x11, t14.2) else some (none, t14.2)) (l.map f) s.p) fun q => ∃ (k : List α) (s' : St), q = (k.map f, s'.p) ∧ k.Sublist l := by
  refine Ok.cmpS (P := fun w => ∃ s : St, w = s.p) (G := fun x y => y = x) ⟨s, rfl⟩ ?_ ?_
  · rintro x _ _ ⟨s, rfl⟩
    obtain ⟨d, s', _, _, e⟩ := next_ok s many (by omega) (by omega)
    by_cases hd : d = c
    · exact Ok.of (v := (some x, s'.p)) (by simp [e, hd]) ⟨⟨s', rfl⟩, fun y h => by cases h; rfl⟩
    · exact Ok.of (v := (none, s'.p)) (by simp [e, hd]) ⟨⟨s', rfl⟩, fun y h => by cases h⟩
  · rintro ys _ ⟨s', rfl⟩ h
    obtain ⟨k, rfl, hs⟩ := made_same (fun a y h => h) h
    exact ⟨k, s', rfl, hs⟩
def asc4 : List Int := (List.range 4).map fun i : Nat => (i : Int)
theorem slice3 (xs : List Int) : sliceF (.lst (xs.map PV.int)) none (some 3) = some (.lst ((xs.take 3).map PV.int)) := by
  have e : HT.sIx xs.length xs.length (some ((3 : Nat) : Int)) = min 3 xs.length := HT.sIx_nat ..
  simp only [sliceF, cutP, HT.sIx_none, List.length_map]
  rw [show (some (3 : Int)) = some ((3 : Nat) : Int) from rfl, e]
  simp only [List.drop_zero, Nat.sub_zero, ← List.map_take]
  congr 3
  by_cases h : 3 ≤ xs.length
  · rw [Nat.min_eq_left h]
  · rw [Nat.min_eq_right (by omega), List.take_of_length_le (Nat.le_refl _), List.take_of_length_le (by omega)]
theorem scopes_ok (s : St) (most : Nat) (hm : 1 ≤ most ∧ most ≤ 4) (vars : Nat) (hv : vars ≤ 4) : Ok (m__law_scopes s.p (.int (most : Int)) (.int (vars : Int))) fun r => ∃ (sc : List (List Int)) (s' : St), r = (scP sc, s'.p) ∧ 1 ≤ sc.length ∧ sc.length ≤ most ∧ (∀ l ∈ sc, OkS l) ∧ ∀ l ∈ sc, ∀ x ∈ l, x < vars := by
  unfold m__law_scopes
  refine Ok.bind ?_
  refine Ok.then (nextOk s most (by omega) (by omega)) ?_
  rintro _ ⟨d, s', h0, h1, rfl⟩
  obtain ⟨n, rfl⟩ : ∃ n : Nat, d = n := ⟨d.toNat, by omega⟩
  simp only [addF_int, Option.bind_some]
  rw [show (1 : Int) + (n : Int) = ((n + 1 : Nat) : Int) by omega, rgO1_nat (by omega)]
  simp only [Option.bind_some, rgL_nat, rgN_rng]
  refine Ok.imp (Ok.fld (P := fun rem w => ∃ (s : St) (sc : List (List Int)) (i k : Nat), w = (s.p, .lst (sc.map tI)) ∧ rem = rngP i k ∧ i + k = n + 1 ∧ sc.length = i ∧ (∀ l ∈ sc, OkS l) ∧ ∀ l ∈ sc, ∀ x ∈ l, x < vars) ⟨s', [], 0, n + 1, rfl, rfl, by omega, rfl, by simp, by simp⟩ ?_ (fun w h => h)) ?_
  · rintro x xs w ⟨s, sc, i, k, rfl, hr, hk, hl, ho, hx⟩
    obtain ⟨k', rfl, rfl, rfl⟩ := rngP_cons hr
    simp only [rgO1_nat (show vars ≤ 16777216 by omega), Option.bind_some, rgL_nat]
    refine Ok.then (drawn_sub (fun i : Nat => PV.int (i : Int)) s 2 1 (by decide) (List.range vars)) ?_
    rintro _ ⟨l, s2, rfl, hs⟩
    have hl2 : l.map (fun i : Nat => PV.int (i : Int)) = (l.map fun i : Nat => (i : Int)).map PV.int := by rw [List.map_map]; rfl
    have hasc : (l.map fun i : Nat => (i : Int)).Pairwise (· < ·) := by
      rw [List.pairwise_map]
      exact (List.Pairwise.sublist hs List.pairwise_lt_range).imp fun {a b} h => by omega
    have hmem : ∀ x ∈ (l.map fun i : Nat => (i : Int)), 0 ≤ x ∧ x < vars := by
      intro x hx
      obtain ⟨j, hj, rfl⟩ := List.mem_map.mp hx
      have := List.mem_range.mp (hs.subset hj)
      omega
    generalize (l.map fun i : Nat => (i : Int)) = m at *
    have ha := appendF_ok (sc.map tI) (tI (m.take 3)) (by rw [List.length_map]; omega)
    refine Ok.of (v := (s2.p, .lst ((sc ++ [m.take 3]).map tI))) ?_ ⟨s2, sc ++ [m.take 3], i + 1, k', rfl, by simp, by omega, by simp [hl], ?_, ?_⟩
    · simp only [hl2, asL_l, asI_i, Option.bind_some, slice3, tupleF_lst, ha, List.map_append, List.map_cons, List.map_nil]
    · intro l hl
      rcases List.mem_append.mp hl with h | h
      · exact ho l h
      · rw [List.mem_singleton.mp h]
        exact ⟨hasc.sublist (List.take_sublist _ _), fun x hx => by have := hmem x (List.mem_of_mem_take hx); omega, by simp; omega⟩
    · intro l hl
      rcases List.mem_append.mp hl with h | h
      · exact hx l h
      · rw [List.mem_singleton.mp h]
        intro x hx; exact (hmem x (List.mem_of_mem_take hx)).2
  · rintro _ ⟨s, sc, i, k, rfl, hr, hk, hl, ho, hx⟩
    have := rngP_nil hr
    subst this
    simp only [tupleF_lst, Option.bind_some]
    exact Ok.s ⟨sc, s, rfl, by omega, by omega, ho, hx⟩
/-! ### what hangs together -/
def stepE (nodes found : List Int) (p : Int × Int) : List Int :=
  let f1 := if p.1 ∈ found ∧ p.2 ∈ nodes ∧ p.2 ∉ found then found ++ [p.2] else found
  if p.2 ∈ f1 ∧ p.1 ∈ nodes ∧ p.1 ∉ f1 then f1 ++ [p.1] else f1
def hangL (nodes : List Int) (ed : List (Int × Int)) : List Int := nodes.foldl (fun f _ => ed.foldl (stepE nodes) f) (nodes.take 1)
def hangB (nodes : List Int) (ed : List (Int × Int)) : Bool := decide ((hangL nodes ed).length = nodes.length)
theorem in_lst (x : Int) (l : List Int) : inF (.int x) (.lst (l.map PV.int)) = some (.bl (decide (x ∈ l))) := by
  simp only [inF, seqOf_lst]
  rw [okD_int, okD_lst (okD_ints 59 l), any_int]
  rfl
theorem notin_lst (x : Int) (l : List Int) : notInF (.int x) (.lst (l.map PV.int)) = some (.bl (!decide (x ∈ l))) := by
  simp only [notInF, seqOf_lst]
  rw [okD_int, okD_lst (okD_ints 59 l), any_int]
  rfl
theorem slice1 (xs : List Int) : sliceF (.lst (xs.map PV.int)) none (some 1) = some (.lst ((xs.take 1).map PV.int)) := by
  have e : HT.sIx xs.length xs.length (some ((1 : Nat) : Int)) = min 1 xs.length := HT.sIx_nat ..
  simp only [sliceF, cutP, HT.sIx_none, List.length_map]
  rw [show (some (1 : Int)) = some ((1 : Nat) : Int) from rfl, e]
  simp only [List.drop_zero, Nat.sub_zero, ← List.map_take]
  cases xs <;> simp
theorem step_len (nodes found : List Int) (p : Int × Int) : (stepE nodes found p).length ≤ found.length + 2 := by
  unfold stepE
  simp only
  split <;> split <;> simp <;> omega
theorem step_ok (nodes found : List Int) (p : Int × Int) (h : found.length < 1000) : (fun (w8 : PV) (x7 : PV) => (un2 x7).bind fun (u10 : PV × PV) => (((inF u10.1 w8).bind fun t11 => (asBl t11).bind fun b12 => if b12 = true then (inF u10.2 (.lst (nodes.map PV.int))).bind fun t13 => (asBl t13).bind fun b14 => if b14 = true then (notInF u10.2 w8).bind fun t15 => (asBl t15).bind fun b16 => some b16 else some false else some false).bind fun (b17 : Bool) => if b17 = true then (asL w8).bind fun _ => (asL w8).bind fun l18 => (appendF l18 [u10.2]).bind fun (z19 : PV × List PV) => some (.lst z19.2) else some w8).bind fun (k20 : PV) => (((inF u10.2 k20).bind fun t21 => (asBl t21).bind fun b22 => if b22 = true then (inF u10.1 (.lst (nodes.map PV.int))).bind fun t23 => (asBl t23).bind fun b24 => if b24 = true then (notInF u10.1 k20).bind fun t25 => (asBl t25).bind fun b26 => some b26 else some false else some false).bind fun (b27 : Bool) => if b27 = true then (asL k20).bind fun _ => (asL k20).bind fun l28 => (appendF l28 [u10.1]).bind fun (z29 : PV × List PV) => some (.lst z29.2) else some k20).bind fun (k30 : PV) => some k30) (.lst (found.map PV.int)) (pE p) = some (.lst ((stepE nodes found p).map PV.int)) := by
  have ha := fun (f : List Int) (x : Int) (hf : f.length < 1000000) => appendF_ok (f.map PV.int) (.int x) (by rw [List.length_map]; exact hf)
  have half : ∀ (f : List Int) (x y : Int), f.length < 1000000 → ((((inF (.int x) (.lst (f.map PV.int))).bind fun t11 => (asBl t11).bind fun b12 => if b12 = true then (inF (.int y) (.lst (nodes.map PV.int))).bind fun t13 => (asBl t13).bind fun b14 => if b14 = true then (notInF (.int y) (.lst (f.map PV.int))).bind fun t15 => (asBl t15).bind fun b16 => some b16 else some false else some false).bind fun (b17 : Bool) => if b17 = true then (asL (.lst (f.map PV.int))).bind fun _ => (asL (.lst (f.map PV.int))).bind fun l18 => (appendF l18 [.int y]).bind fun (z19 : PV × List PV) => some (.lst z19.2) else some (.lst (f.map PV.int))) : Option PV) = some (.lst ((if x ∈ f ∧ y ∈ nodes ∧ y ∉ f then f ++ [y] else f).map PV.int)) := by
    intro f x y hf
    simp only [in_lst, notin_lst, Option.bind_some, asBl_ev]
    by_cases h1 : x ∈ f <;> by_cases h2 : y ∈ nodes <;> by_cases h3 : y ∈ f <;> simp [h1, h2, h3, ha f y hf]
  simp only [pE_u, Option.bind_some]
  rw [half found p.1 p.2 (by omega)]
  simp only [Option.bind_some]
  rw [half _ p.2 p.1 (by split <;> (try rw [List.length_append]) <;> (try simp only [List.length_cons, List.length_nil]) <;> omega)]
  rfl
theorem hang_ok (nodes : List Int) (ed : List (Int × Int)) (hn : nodes.length ≤ 10) (he : ed.length ≤ 10) : m__law_hang (.lst (nodes.map PV.int)) (edP ed) = some (.bl (hangB nodes ed)) := by
  unfold m__law_hang
  simp only [asI_i, Option.bind_some, slice1, listF, seqOf_lst, Option.map_some]
  rw [(fldM_map (E := fun f : List Int => PV.lst (f.map PV.int)) (g := PV.int) (k := fun f _ => ed.foldl (stepE nodes) f) (fun q f => f.length ≤ 1 + 20 * q) nodes 0 (nodes.take 1) (fun q f x _ _ hq hI => by
    have inner := fldM_map (f := fun (w8 : PV) (x7 : PV) => (un2 x7).bind fun (u10 : PV × PV) => (((inF u10.1 w8).bind fun t11 => (asBl t11).bind fun b12 => if b12 = true then (inF u10.2 (.lst (nodes.map PV.int))).bind fun t13 => (asBl t13).bind fun b14 => if b14 = true then (notInF u10.2 w8).bind fun t15 => (asBl t15).bind fun b16 => some b16 else some false else some false).bind fun (b17 : Bool) => if b17 = true then (asL w8).bind fun _ => (asL w8).bind fun l18 => (appendF l18 [u10.2]).bind fun (z19 : PV × List PV) => some (.lst z19.2) else some w8).bind fun (k20 : PV) => (((inF u10.2 k20).bind fun t21 => (asBl t21).bind fun b22 => if b22 = true then (inF u10.1 (.lst (nodes.map PV.int))).bind fun t23 => (asBl t23).bind fun b24 => if b24 = true then (notInF u10.1 k20).bind fun t25 => (asBl t25).bind fun b26 => some b26 else some false else some false).bind fun (b27 : Bool) => if b27 = true then (asL k20).bind fun _ => (asL k20).bind fun l28 => (appendF l28 [u10.1]).bind fun (z29 : PV × List PV) => some (.lst z29.2) else some k20).bind fun (k30 : PV) => some k30)
      (E := fun f : List Int => PV.lst (f.map PV.int)) (g := pE) (k := stepE nodes) (fun j g => g.length ≤ f.length + 2 * j) ed 0 f (fun j g p _ _ hj hJ => by
        refine ⟨step_ok nodes g p (by omega), ?_⟩
        have := step_len nodes g p
        omega) (by omega)
    refine ⟨?_, by have := inner.2; omega⟩
    simp only [seqOf_tup, Option.bind_some]
    rw [inner.1]
    rfl) (by simp; omega)).1]
  simp only [Option.bind_some, lenF_lst, List.length_map, eqF_int]
  show some (PV.bl (decide (((hangL nodes ed).length : Int) = (nodes.length : Int)))) = some (PV.bl (decide ((hangL nodes ed).length = nodes.length)))
  congr 2
  by_cases h : (hangL nodes ed).length = nodes.length
  · rw [decide_eq_true h, decide_eq_true (by omega)]
  · rw [decide_eq_false h, decide_eq_false (by omega)]
theorem hang_same : m_together = m__law_hang := rfl
end QQ

namespace QQ
open PP WK
/-! ### sets of edges -/
def pairsL (n : Nat) : List (Int × Int) := (List.range n).flatMap fun a => (List.range' (a + 1) (n - (a + 1))).map fun b : Nat => ((a : Int), (b : Int))
def setsL (n : Nat) : List (List (Int × Int)) := ((combL (pairsL n).length 2000 (List.range (n - 1))).getD []).map fun c => pickX (pairsL n) c
theorem pairs_ok (n : Nat) (h : 1 ≤ n ∧ n ≤ 4) : m__law_pairs (.int (n : Int)) = some (.lst ((pairsL n).map pE)) := by
  have : n = 1 ∨ n = 2 ∨ n = 3 ∨ n = 4 := by omega
  rcases this with rfl | rfl | rfl | rfl <;> kernel_rfl
theorem comb_ok (n : Nat) (h : 1 ≤ n ∧ n ≤ 4) : combF (.lst ((pairsL n).map pE)) (.int ((n : Int) - 1)) = some ((setsL n).map edP) := by
  have : n = 1 ∨ n = 2 ∨ n = 3 ∨ n = 4 := by omega
  rcases this with rfl | rfl | rfl | rfl <;> kernel_rfl
def usL (n : Nat) : List (List (Int × Int)) := ((pairsL n).foldl (fun w p => w ++ w.map (· ++ [p])) [[]]).filter fun r => decide ((r.length : Int) = (n : Int) - 1)
def unP : PV → Int × Int
  | .tup [.int a, .int b] => (a, b)
  | _ => (0, 0)
def unEd : PV → List (Int × Int)
  | .tup xs => xs.map unP
  | _ => []
theorem unEd_ed (l : List (Int × Int)) : unEd (edP l) = l := by
  show (l.map pE).map unP = l
  rw [List.map_map]
  exact (List.map_congr_left fun p _ => rfl).trans (List.map_id _)
def antiB (S : List (List (Int × Int))) : Bool := S.all fun a => S.all fun b => !(leP (edP a) (edP b) && leP (edP b) (edP a)) || decide (a = b)
def pwB (S : List (List (Int × Int))) : Bool := match S with
  | [] => true
  | a :: r => r.all (fun b => leP (edP a) (edP b)) && pwB r
theorem pwB_pw : ∀ {S : List (List (Int × Int))}, pwB S = true → S.Pairwise fun a b => leP (edP a) (edP b) = true
  | [], _ => .nil
  | a :: r, h => by
    unfold pwB at h
    rw [Bool.and_eq_true, List.all_eq_true] at h
    exact .cons h.1 (pwB_pw h.2)
theorem sort_sets {U S : List (List (Int × Int))} (p : S.Perm U) (h1 : antiB S = true) (h2 : pwB S = true) : sortL (U.map edP) = S.map edP := by
  obtain ⟨e1, e2⟩ := perm_map (f := edP) (g := unEd) unEd_ed (sortL_perm (U.map edP))
  have pw := sortL_pw (U.map edP)
  rw [e1, List.pairwise_map] at pw
  rw [e1]
  congr 1
  have pp : ((sortL (U.map edP)).map unEd).Perm S := e2.trans p.symm
  refine pp.eq_of_pairwise (fun a b ha hb x y => ?_) pw (pwB_pw h2)
  unfold antiB at h1
  rw [List.all_eq_true] at h1
  have h3 := h1 a (pp.mem_iff.mp ha)
  rw [List.all_eq_true] at h3
  have h4 := h3 b hb
  rw [x, y] at h4
  simpa using h4
theorem us_perm (n : Nat) (h : 1 ≤ n ∧ n ≤ 4) : (setsL n).Perm (usL n) := by
  have : n = 1 ∨ n = 2 ∨ n = 3 ∨ n = 4 := by omega
  rcases this with rfl | rfl | rfl | rfl <;> decide +kernel
theorem us_sort (n : Nat) (h : 1 ≤ n ∧ n ≤ 4) : antiB (setsL n) = true ∧ pwB (setsL n) = true ∧ comparable ((usL n).map edP) = true ∧ sortable ((usL n).map edP) = true := by
  have : n = 1 ∨ n = 2 ∨ n = 3 ∨ n = 4 := by omega
  rcases this with rfl | rfl | rfl | rfl <;> refine ⟨?_, ?_, ?_, ?_⟩ <;> kernel_rfl
theorem us_eval (n : Nat) (h : 1 ≤ n ∧ n ≤ 4) : m__law_edge_sets (.int (n : Int)) = (sortedF [.lst ((usL n).map edP)]).bind fun t20 => some t20 := by
  have : n = 1 ∨ n = 2 ∨ n = 3 ∨ n = 4 := by omega
  rcases this with rfl | rfl | rfl | rfl <;> kernel_rfl
theorem sets_ok (n : Nat) (h : 1 ≤ n ∧ n ≤ 4) : m__law_edge_sets (.int (n : Int)) = some (.lst ((setsL n).map edP)) := by
  obtain ⟨h1, h2, h3, h4⟩ := us_sort n h
  rw [us_eval n h]
  simp only [sortedF]
  rw [h3, h4, sort_sets (us_perm n h) h1 h2]
  rfl
end QQ

namespace QQ
open PP WK
/-! ### trees, junction trees -/
def ndZ (n : Nat) : List Int := (List.range n).map fun i : Nat => (i : Int)
theorem ndZ_rg (n : Nat) : rgN n = (ndZ n).map PV.int := by unfold rgN ndZ; rw [List.map_map]; rfl
def treeB (n : Nat) (ed : List (Int × Int)) : Bool := decide ((ed.length : Int) = (n : Int) - 1) && hangB (ndZ n) ed
def hav (sc : List (List Int)) (x : Int) : List Int := ((List.range sc.length).filter fun i => decide (x ∈ scA sc i)).map fun i : Nat => (i : Int)
def makesB (sc : List (List Int)) (ed : List (Int × Int)) : Bool := treeB sc.length ed && (List.range 6).all fun x => hangB (hav sc x) ed
section
variable {sc : List (List Int)} {ed : List (Int × Int)}
theorem ltree_ok (hn : 1 ≤ sc.length ∧ sc.length ≤ 4) (he : ed.length ≤ 10) : m__law_is_tree (scP sc) (edP ed) = some (.bl (treeB sc.length ed)) := by
  unfold m__law_is_tree treeB
  have hh := hang_ok (ndZ sc.length) ed (by simp [ndZ]; omega) he
  simp only [lenF_tup, List.length_map, Option.bind_some, subF_int, eqF_int, rgO1_nat (show sc.length ≤ 16777216 by omega), rgL_nat, ndZ_rg, hh]
  by_cases h : (ed.length : Int) = (sc.length : Int) - 1
  · rw [decide_eq_true h]; rfl
  · rw [decide_eq_false h]; rfl
theorem tree_ok (hn : 1 ≤ sc.length ∧ sc.length ≤ 4) (he : ed.length ≤ 10) : m_is_tree (scP sc) (edP ed) = some (.bl (treeB sc.length ed)) := by
  unfold m_is_tree treeB
  have hh := hang_ok (ndZ sc.length) ed (by simp [ndZ]; omega) he
  have hl : (ndZ sc.length).length = sc.length := by simp [ndZ]
  simp only [hang_same, lenF_tup, List.length_map, Option.bind_some, subF_int, eqF_int, rgO1_nat (show sc.length ≤ 16777216 by omega), rgL_nat, ndZ_rg, hh, lenF_lst, hl]
  by_cases h : (ed.length : Int) = (sc.length : Int) - 1
  · rw [decide_eq_true h]; rfl
  · rw [decide_eq_false h]; rfl
theorem all_find {α : Type} {p : α → Bool} (l : List α) : (match l.find? (fun x => !p x) with | none => true | some _ => false) = l.all p := by
  induction l with
  | nil => rfl
  | cons a l ih =>
    rw [List.all_cons]
    cases h : p a with
    | true => rw [List.find?_cons_of_neg (by simp [h]), ih]; rfl
    | false => rw [List.find?_cons_of_pos (by simp [h])]; rfl
theorem find_map {α : Type} {p : α → Bool} (l : List α) : (match (l.find? fun x => !p x).map fun _ => PV.bl false with | none => (.inl () : Unit ⊕ PV) | some v => .inr v) = if l.all p = true then .inl () else .inr (.bl false) := by
  rw [← all_find]
  cases l.find? fun x => !p x <;> rfl
theorem hav_len (x : Int) (hn : sc.length ≤ 4) : (hav sc x).length ≤ 10 := by
  unfold hav
  rw [List.length_map]
  have := List.length_filter_le (fun i => decide (x ∈ scA sc i)) (List.range sc.length)
  rw [List.length_range] at this
  omega
theorem all_loop {f : Unit → PV → Option (Unit ⊕ PV)} {p : Nat → Bool} (h : ∀ i : Nat, i < 6 → f () (.int (i : Int)) = some (if p i = true then .inl () else .inr (.bl false))) : (fldR f (rgN 6) ()).bind (fun r16 => mSum r16 (fun (_ : Unit) => some (.bl true)) (fun (v18 : PV) => some v18)) = some (.bl ((List.range 6).all p)) := by
  have key : ∀ l : List Nat, (∀ i ∈ l, i < 6) → fldR f (l.map fun i : Nat => PV.int (i : Int)) () = some (if l.all p = true then .inl () else .inr (.bl false)) := by
    intro l
    induction l with
    | nil => intro _; rfl
    | cons a l ih =>
      intro hl
      rw [List.map_cons, fldR, h a (hl a List.mem_cons_self), List.all_cons]
      cases hp : p a with
      | true =>
        have := ih fun i hi => hl i (List.mem_cons_of_mem _ hi)
        simp only [if_true, Option.bind_some, Bool.true_and]
        exact this
      | false => rfl
  unfold rgN
  rw [key _ fun i hi => List.mem_range.mp hi]
  cases (List.range 6).all p <;> rfl
theorem lmakes_ok (hn : 1 ≤ sc.length ∧ sc.length ≤ 4) (he : ed.length ≤ 10) : m__law_makes (scP sc) (edP ed) = some (.bl (makesB sc ed)) := by
  unfold m__law_makes makesB
  simp only [ltree_ok hn he, Option.bind_some, truthF_bl]
  cases treeB sc.length ed with
  | false => rfl
  | true =>
    simp only [Bool.not_true, Bool.false_eq_true, if_false, Bool.true_and]
    rw [show rgO1 (.int 6) = some (0, ((6 : Nat) : Int)) from rgO1_nat (by decide)]
    simp only [Option.bind_some, rgL_nat]
    exact all_loop (p := fun x => hangB (hav sc x) ed) fun x hx => by
      simp only [lenF_tup, List.length_map, Option.bind_some, rgO1_nat (show sc.length ≤ 16777216 by omega), rgL_nat]
      rw [show rgN sc.length = (List.range sc.length).map fun i : Nat => PV.int (i : Int) from rfl, cmpG_map (p := fun i => decide ((x : Int) ∈ scA sc i)) (h := fun i : Nat => PV.int (i : Int)) fun i hi => by
        rw [sc_at (List.mem_range.mp hi)]
        simp only [Option.bind_some, inF_t, asBl_ev]]
      have e : ((List.range sc.length).filter fun i => decide ((x : Int) ∈ scA sc i)).map (fun i : Nat => PV.int (i : Int)) = (hav sc x).map PV.int := by unfold hav; rw [List.map_map]; rfl
      rw [e]
      simp only [Option.bind_some, hang_ok (hav sc x) ed (hav_len _ hn.2) he, truthF_bl]
      cases hangB (hav sc x) ed <;> rfl
theorem enP_map (sc : List (List Int)) : ∀ (l : List (List Int)) (k : Nat), sc.drop k = l → enP k (l.map tI) = (List.range' k l.length).map fun i : Nat => .tup [.int (i : Int), tI (scA sc i)]
  | [], _, _ => rfl
  | a :: l, k, h => by
    have hk : scA sc k = a := by
      unfold scA
      rw [List.getD_eq_getElem?_getD]
      have := congrArg (fun z => z[0]?) h
      simp only [List.getElem?_drop, Nat.add_zero, List.getElem?_cons_zero] at this
      rw [this]; rfl
    have ht : sc.drop (k + 1) = l := by
      have := congrArg List.tail h
      rwa [List.tail_drop, List.tail_cons] at this
    rw [List.map_cons, enP, enP_map sc l (k + 1) ht, List.length_cons, List.range'_succ, List.map_cons, hk]
theorem makes_ok (hn : 1 ≤ sc.length ∧ sc.length ≤ 4) (he : ed.length ≤ 10) : m_makes (scP sc) (edP ed) = some (.bl (makesB sc ed)) := by
  unfold m_makes makesB
  simp only [tree_ok hn he, Option.bind_some, truthF_bl]
  cases treeB sc.length ed with
  | false => rfl
  | true =>
    simp only [Bool.not_true, Bool.false_eq_true, if_false, Bool.true_and, addF_int, Option.bind_some]
    rw [show rgO1 (.int (5 + 1)) = some (0, ((6 : Nat) : Int)) from rgO1_nat (by decide)]
    simp only [Option.bind_some, rgL_nat]
    exact all_loop (p := fun x => hangB (hav sc x) ed) fun x hx => by
      have en : enF (scP sc) = some ((List.range sc.length).map fun i : Nat => .tup [.int (i : Int), tI (scA sc i)]) := by
        show some (enP 0 (sc.map tI)) = _
        rw [enP_map sc sc 0 rfl, List.range_eq_range']
      rw [en]
      simp only [Option.bind_some]
      rw [cmpG_map (p := fun i => decide ((x : Int) ∈ scA sc i)) (h := fun i : Nat => PV.int (i : Int)) fun i hi => by
        simp only [un2_t, Option.bind_some, inF_t, asBl_ev]]
      have e : ((List.range sc.length).filter fun i => decide ((x : Int) ∈ scA sc i)).map (fun i : Nat => PV.int (i : Int)) = (hav sc x).map PV.int := by unfold hav; rw [List.map_map]; rfl
      rw [e]
      simp only [Option.bind_some, hang_same, hang_ok (hav sc x) ed (hav_len _ hn.2) he, truthF_bl]
      cases hangB (hav sc x) ed <;> rfl
end
end QQ

namespace QQ
open PP WK
/-! ### equal values -/
@[simp] theorem isNF_non (p : PV) : isNF p .non = some (.bl (isNone p)) := rfl
@[simp] theorem isNone_int (i : Int) : isNone (.int i) = false := rfl
@[simp] theorem isNone_bl (i : Bool) : isNone (.bl i) = false := rfl
@[simp] theorem isNone_tup (i : List PV) : isNone (.tup i) = false := rfl
@[simp] theorem isNone_lst (i : List PV) : isNone (.lst i) = false := rfl
@[simp] theorem isNone_non : isNone .non = true := rfl
@[simp] theorem isTyB_i (i : Int) : isTy .bool (.int i) = false := rfl
@[simp] theorem isTyB_t (i : List PV) : isTy .bool (.tup i) = false := rfl
@[simp] theorem isTyB_l (i : List PV) : isTy .bool (.lst i) = false := rfl
@[simp] theorem isTyI_t (i : List PV) : isTy .int (.tup i) = false := rfl
@[simp] theorem isTyI_l (i : List PV) : isTy .int (.lst i) = false := rfl
@[simp] theorem isTyS_t (i : List PV) : isTy .str (.tup i) = false := rfl
@[simp] theorem isTyS_l (i : List PV) : isTy .str (.lst i) = false := rfl
@[simp] theorem isTyT_t (i : List PV) : isTy .tuple (.tup i) = true := rfl
@[simp] theorem isTyT_l (i : List PV) : isTy .tuple (.lst i) = false := rfl
@[simp] theorem isTyL_t (i : List PV) : isTy .list (.tup i) = false := rfl
@[simp] theorem eq_int0 (i j : Int) : m__law_equal__0 (.int i) (.int j) = some (.bl (decide (i = j))) := by simp [m__law_equal__0]
@[simp] theorem eq_bl0 (i j : Bool) : m__law_equal__0 (.bl i) (.bl j) = some (.bl (decide (i = j))) := by simp [m__law_equal__0]
@[simp] theorem eq_non0 : m__law_equal__0 .non .non = some (.bl true) := by simp [m__law_equal__0]
@[simp] theorem eq_int1 (i j : Int) : m__law_equal__1 (.int i) (.int j) = some (.bl (decide (i = j))) := by simp [m__law_equal__1]
@[simp] theorem eq_bl1 (i j : Bool) : m__law_equal__1 (.bl i) (.bl j) = some (.bl (decide (i = j))) := by simp [m__law_equal__1]
@[simp] theorem eq_non1 : m__law_equal__1 .non .non = some (.bl true) := by simp [m__law_equal__1]
@[simp] theorem eq_int2 (i j : Int) : m__law_equal__2 (.int i) (.int j) = some (.bl (decide (i = j))) := by simp [m__law_equal__2]
@[simp] theorem eq_bl2 (i j : Bool) : m__law_equal__2 (.bl i) (.bl j) = some (.bl (decide (i = j))) := by simp [m__law_equal__2]
@[simp] theorem eq_non2 : m__law_equal__2 .non .non = some (.bl true) := by simp [m__law_equal__2]
@[simp] theorem eq_int3 (i j : Int) : m__law_equal__3 (.int i) (.int j) = some (.bl (decide (i = j))) := by simp [m__law_equal__3]
@[simp] theorem eq_bl3 (i j : Bool) : m__law_equal__3 (.bl i) (.bl j) = some (.bl (decide (i = j))) := by simp [m__law_equal__3]
@[simp] theorem eq_non3 : m__law_equal__3 .non .non = some (.bl true) := by simp [m__law_equal__3]
@[simp] theorem eq_int4 (i j : Int) : m__law_equal__4 (.int i) (.int j) = some (.bl (decide (i = j))) := by simp [m__law_equal__4]
@[simp] theorem eq_bl4 (i j : Bool) : m__law_equal__4 (.bl i) (.bl j) = some (.bl (decide (i = j))) := by simp [m__law_equal__4]
@[simp] theorem eq_non4 : m__law_equal__4 .non .non = some (.bl true) := by simp [m__law_equal__4]
theorem eq_tup1 {xs : List PV} (hl : xs.length ≤ 1000) (h : ∀ x ∈ xs, m__law_equal__0 x x = some (.bl true)) : m__law_equal__1 (.tup xs) (.tup xs) = some (.bl true) := by
  unfold m__law_equal__1
  simp only [isNF_non, isNone_tup, Option.bind_some, asBl_ev, Bool.false_eq_true, if_false, isTyB_t, isTyI_t, isTyS_t, truthF_bl, isTyT_t, isTyL_t, isTy_ll, if_true, Bool.not_true, lenF_tup, neF_int, decide_true]
  rw [rgO1_nat (by omega)]
  simp only [Option.bind_some, rgL_nat]
  rw [show rgN xs.length = (List.range xs.length).map fun i : Nat => PV.int (i : Int) from rfl, cmpM_map (h := fun _ => PV.bl true) fun i hi => by
    have hi := List.mem_range.mp hi
    have g : getF (.tup xs) (.int (i : Int)) = some xs[i] := getF_seq rfl (List.getElem?_eq_getElem hi)
    simp only [g, Option.bind_some, h _ (List.getElem_mem hi)]]
  simp only [Option.bind_some, all_true]
theorem eq_lst1 {xs : List PV} (hl : xs.length ≤ 1000) (h : ∀ x ∈ xs, m__law_equal__0 x x = some (.bl true)) : m__law_equal__1 (.lst xs) (.lst xs) = some (.bl true) := by
  unfold m__law_equal__1
  simp only [isNF_non, isNone_lst, Option.bind_some, asBl_ev, Bool.false_eq_true, if_false, isTyB_l, isTyI_l, isTyS_l, truthF_bl, isTyT_l, isTy_ll, isTy_ll, if_true, Bool.not_true, lenF_lst, neF_int, decide_true]
  rw [rgO1_nat (by omega)]
  simp only [Option.bind_some, rgL_nat]
  rw [show rgN xs.length = (List.range xs.length).map fun i : Nat => PV.int (i : Int) from rfl, cmpM_map (h := fun _ => PV.bl true) fun i hi => by
    have hi := List.mem_range.mp hi
    have g : getF (.lst xs) (.int (i : Int)) = some xs[i] := getF_seq rfl (List.getElem?_eq_getElem hi)
    simp only [g, Option.bind_some, h _ (List.getElem_mem hi)]]
  simp only [Option.bind_some, all_true]
theorem eq_tup2 {xs : List PV} (hl : xs.length ≤ 1000) (h : ∀ x ∈ xs, m__law_equal__1 x x = some (.bl true)) : m__law_equal__2 (.tup xs) (.tup xs) = some (.bl true) := by
  unfold m__law_equal__2
  simp only [isNF_non, isNone_tup, Option.bind_some, asBl_ev, Bool.false_eq_true, if_false, isTyB_t, isTyI_t, isTyS_t, truthF_bl, isTyT_t, isTyL_t, isTy_ll, if_true, Bool.not_true, lenF_tup, neF_int, decide_true]
  rw [rgO1_nat (by omega)]
  simp only [Option.bind_some, rgL_nat]
  rw [show rgN xs.length = (List.range xs.length).map fun i : Nat => PV.int (i : Int) from rfl, cmpM_map (h := fun _ => PV.bl true) fun i hi => by
    have hi := List.mem_range.mp hi
    have g : getF (.tup xs) (.int (i : Int)) = some xs[i] := getF_seq rfl (List.getElem?_eq_getElem hi)
    simp only [g, Option.bind_some, h _ (List.getElem_mem hi)]]
  simp only [Option.bind_some, all_true]
theorem eq_lst2 {xs : List PV} (hl : xs.length ≤ 1000) (h : ∀ x ∈ xs, m__law_equal__1 x x = some (.bl true)) : m__law_equal__2 (.lst xs) (.lst xs) = some (.bl true) := by
  unfold m__law_equal__2
  simp only [isNF_non, isNone_lst, Option.bind_some, asBl_ev, Bool.false_eq_true, if_false, isTyB_l, isTyI_l, isTyS_l, truthF_bl, isTyT_l, isTy_ll, isTy_ll, if_true, Bool.not_true, lenF_lst, neF_int, decide_true]
  rw [rgO1_nat (by omega)]
  simp only [Option.bind_some, rgL_nat]
  rw [show rgN xs.length = (List.range xs.length).map fun i : Nat => PV.int (i : Int) from rfl, cmpM_map (h := fun _ => PV.bl true) fun i hi => by
    have hi := List.mem_range.mp hi
    have g : getF (.lst xs) (.int (i : Int)) = some xs[i] := getF_seq rfl (List.getElem?_eq_getElem hi)
    simp only [g, Option.bind_some, h _ (List.getElem_mem hi)]]
  simp only [Option.bind_some, all_true]
theorem eq_tup3 {xs : List PV} (hl : xs.length ≤ 1000) (h : ∀ x ∈ xs, m__law_equal__2 x x = some (.bl true)) : m__law_equal__3 (.tup xs) (.tup xs) = some (.bl true) := by
  unfold m__law_equal__3
  simp only [isNF_non, isNone_tup, Option.bind_some, asBl_ev, Bool.false_eq_true, if_false, isTyB_t, isTyI_t, isTyS_t, truthF_bl, isTyT_t, isTyL_t, isTy_ll, if_true, Bool.not_true, lenF_tup, neF_int, decide_true]
  rw [rgO1_nat (by omega)]
  simp only [Option.bind_some, rgL_nat]
  rw [show rgN xs.length = (List.range xs.length).map fun i : Nat => PV.int (i : Int) from rfl, cmpM_map (h := fun _ => PV.bl true) fun i hi => by
    have hi := List.mem_range.mp hi
    have g : getF (.tup xs) (.int (i : Int)) = some xs[i] := getF_seq rfl (List.getElem?_eq_getElem hi)
    simp only [g, Option.bind_some, h _ (List.getElem_mem hi)]]
  simp only [Option.bind_some, all_true]
theorem eq_lst3 {xs : List PV} (hl : xs.length ≤ 1000) (h : ∀ x ∈ xs, m__law_equal__2 x x = some (.bl true)) : m__law_equal__3 (.lst xs) (.lst xs) = some (.bl true) := by
  unfold m__law_equal__3
  simp only [isNF_non, isNone_lst, Option.bind_some, asBl_ev, Bool.false_eq_true, if_false, isTyB_l, isTyI_l, isTyS_l, truthF_bl, isTyT_l, isTy_ll, isTy_ll, if_true, Bool.not_true, lenF_lst, neF_int, decide_true]
  rw [rgO1_nat (by omega)]
  simp only [Option.bind_some, rgL_nat]
  rw [show rgN xs.length = (List.range xs.length).map fun i : Nat => PV.int (i : Int) from rfl, cmpM_map (h := fun _ => PV.bl true) fun i hi => by
    have hi := List.mem_range.mp hi
    have g : getF (.lst xs) (.int (i : Int)) = some xs[i] := getF_seq rfl (List.getElem?_eq_getElem hi)
    simp only [g, Option.bind_some, h _ (List.getElem_mem hi)]]
  simp only [Option.bind_some, all_true]
theorem eq_tup4 {xs : List PV} (hl : xs.length ≤ 1000) (h : ∀ x ∈ xs, m__law_equal__3 x x = some (.bl true)) : m__law_equal__4 (.tup xs) (.tup xs) = some (.bl true) := by
  unfold m__law_equal__4
  simp only [isNF_non, isNone_tup, Option.bind_some, asBl_ev, Bool.false_eq_true, if_false, isTyB_t, isTyI_t, isTyS_t, truthF_bl, isTyT_t, isTyL_t, isTy_ll, if_true, Bool.not_true, lenF_tup, neF_int, decide_true]
  rw [rgO1_nat (by omega)]
  simp only [Option.bind_some, rgL_nat]
  rw [show rgN xs.length = (List.range xs.length).map fun i : Nat => PV.int (i : Int) from rfl, cmpM_map (h := fun _ => PV.bl true) fun i hi => by
    have hi := List.mem_range.mp hi
    have g : getF (.tup xs) (.int (i : Int)) = some xs[i] := getF_seq rfl (List.getElem?_eq_getElem hi)
    simp only [g, Option.bind_some, h _ (List.getElem_mem hi)]]
  simp only [Option.bind_some, all_true]
theorem eq_lst4 {xs : List PV} (hl : xs.length ≤ 1000) (h : ∀ x ∈ xs, m__law_equal__3 x x = some (.bl true)) : m__law_equal__4 (.lst xs) (.lst xs) = some (.bl true) := by
  unfold m__law_equal__4
  simp only [isNF_non, isNone_lst, Option.bind_some, asBl_ev, Bool.false_eq_true, if_false, isTyB_l, isTyI_l, isTyS_l, truthF_bl, isTyT_l, isTy_ll, isTy_ll, if_true, Bool.not_true, lenF_lst, neF_int, decide_true]
  rw [rgO1_nat (by omega)]
  simp only [Option.bind_some, rgL_nat]
  rw [show rgN xs.length = (List.range xs.length).map fun i : Nat => PV.int (i : Int) from rfl, cmpM_map (h := fun _ => PV.bl true) fun i hi => by
    have hi := List.mem_range.mp hi
    have g : getF (.lst xs) (.int (i : Int)) = some xs[i] := getF_seq rfl (List.getElem?_eq_getElem hi)
    simp only [g, Option.bind_some, h _ (List.getElem_mem hi)]]
  simp only [Option.bind_some, all_true]
theorem eq_pE1 (p : Int × Int) : m__law_equal__1 (pE p) (pE p) = some (.bl true) := eq_tup1 (xs := [.int p.1, .int p.2]) (by simp) (by simp)
theorem eq_ed2 (ed : List (Int × Int)) (h : ed.length ≤ 1000) : m__law_equal__2 (edP ed) (edP ed) = some (.bl true) := eq_tup2 (by simpa using h) (by
  intro x hx
  obtain ⟨p, _, rfl⟩ := List.mem_map.mp hx
  exact eq_pE1 p)
theorem eq_pE2 (p : Int × Int) : m__law_equal__2 (pE p) (pE p) = some (.bl true) := eq_tup2 (xs := [.int p.1, .int p.2]) (by simp) (by simp)
theorem eq_ed3 (ed : List (Int × Int)) (h : ed.length ≤ 1000) : m__law_equal__3 (edP ed) (edP ed) = some (.bl true) := eq_tup3 (by simpa using h) (by
  intro x hx
  obtain ⟨p, _, rfl⟩ := List.mem_map.mp hx
  exact eq_pE2 p)
/-! ### edges that may be asked for -/
def subs {α : Type} : List α → List (List α)
  | [] => [[]]
  | a :: l => (subs l).map (a :: ·) ++ subs l
theorem subs_iff {α : Type} : ∀ {l s : List α}, s ∈ subs l ↔ s.Sublist l
  | [], s => by simp [subs]
  | a :: l, s => by
    unfold subs
    rw [List.mem_append, List.mem_map]
    constructor
    · rintro (⟨t, ht, rfl⟩ | h)
      · exact (subs_iff.mp ht).cons₂ a
      · exact (subs_iff.mp h).cons a
    · intro h
      cases h with
      | cons _ h => exact .inr (subs_iff.mpr h)
      | cons_cons _ h => exact .inl ⟨_, subs_iff.mpr h, rfl⟩
theorem sets_sub (n : Nat) (h : 1 ≤ n ∧ n ≤ 4) : ∀ s ∈ setsL n, s.Sublist (pairsL n) ∧ (s.length : Int) = (n : Int) - 1 := by
  have key : (setsL n).all (fun s => decide (s ∈ subs (pairsL n)) && decide ((s.length : Int) = (n : Int) - 1)) = true := by
    have : n = 1 ∨ n = 2 ∨ n = 3 ∨ n = 4 := by omega
    rcases this with rfl | rfl | rfl | rfl <;> decide +kernel
  rw [List.all_eq_true] at key
  intro s hs
  have := key s hs
  rw [Bool.and_eq_true, decide_eq_true_eq, decide_eq_true_eq] at this
  exact ⟨subs_iff.mp this.1, this.2⟩
theorem sub_sets (n : Nat) (h : 1 ≤ n ∧ n ≤ 4) : ∀ s : List (Int × Int), s.Sublist (pairsL n) → (s.length : Int) = (n : Int) - 1 → s ∈ setsL n := by
  have key : (subs (pairsL n)).all (fun s => !decide ((s.length : Int) = (n : Int) - 1) || decide (s ∈ setsL n)) = true := by
    have : n = 1 ∨ n = 2 ∨ n = 3 ∨ n = 4 := by omega
    rcases this with rfl | rfl | rfl | rfl <;> decide +kernel
  rw [List.all_eq_true] at key
  intro s hs hl
  have := key s (subs_iff.mpr hs)
  simpa [hl] using this
theorem pairs_good (n : Nat) (h : 1 ≤ n ∧ n ≤ 4) : (∀ p ∈ pairsL n, 0 ≤ p.1 ∧ p.1 < p.2 ∧ p.2 < n) ∧ (pairsL n).Pairwise lt2 ∧ (pairsL n).length ≤ 6 := by
  have : n = 1 ∨ n = 2 ∨ n = 3 ∨ n = 4 := by omega
  unfold lt2
  rcases this with rfl | rfl | rfl | rfl <;> decide +kernel
theorem fldR_all {α S R : Type} {f : S → PV → Option (S ⊕ R)} {g : α → PV} {s : S} : ∀ {l : List α}, (∀ x ∈ l, f s (g x) = some (.inl s)) → fldR f (l.map g) s = some (.inl s)
  | [], _ => rfl
  | a :: l, h => by
    rw [List.map_cons, fldR, h a List.mem_cons_self]
    exact fldR_all fun x hx => h x (List.mem_cons_of_mem _ hx)
section
variable {sc : List (List Int)} {ed : List (Int × Int)}
theorem scopes_chk (hn : 1 ≤ sc.length ∧ sc.length ≤ 5) (hs : ∀ l ∈ sc, OkS l) : m_check_scopes (scP sc) = some .non := by
  have h1 : (1 : Int) ≤ (sc.length : Int) := by omega
  have h2 : (sc.length : Int) ≤ 5 := by omega
  have e : m_are_scopes (scP sc) = some (.bl true) := by
    unfold m_are_scopes
    simp only [isTy_tt, mAV_true, lenF_tup, List.length_map, Option.bind_some, leF_int, decide_eq_true h1, decide_eq_true h2, seqOf_tup]
    rw [cmp_all fun l hl => by rw [scope_chk l (hs l hl)]; rfl]
    simp only [Option.bind_some, all_true]
  unfold m_check_scopes
  simp only [e, Option.bind_some, truthF_bl, Bool.not_true, Bool.false_eq_true, if_false]
theorem edges_chk (hn : 1 ≤ sc.length ∧ sc.length ≤ 4) (hs : ∀ l ∈ sc, OkS l) (he : ed.Sublist (pairsL sc.length)) : m_check_edges (scP sc) (edP ed) = some .non := by
  obtain ⟨g1, g2, g3⟩ := pairs_good sc.length hn
  have hb : ∀ p ∈ ed, 0 ≤ p.1 ∧ p.1 < p.2 ∧ p.2 < sc.length := fun p hp => g1 p (he.subset hp)
  have hl := he.length_le
  have c := climb_ok (edP ed) (ed.map pE) rfl (by simp; omega) (fun i x y hx hy => pw_at (g2.sublist he) (fun a b h => lt_pE a b h) i x y hx hy)
  unfold m_is_climbing at c
  have e1 : m_are_pairs (edP ed) (.int ((sc.length : Int) - 1)) (.int ((sc.length : Int) - 1)) = some (.bl true) := by
    unfold m_are_pairs
    simp only [isTy_tt, truthF_bl, Option.bind_some, Bool.not_true, Bool.false_eq_true, if_false, seqOf_tup]
    rw [fldR_all fun p hp => by
      obtain ⟨b1, b2, b3⟩ := hb p hp
      have a1 : p.1 ≤ (sc.length : Int) - 1 := by omega
      have a2 : p.2 ≤ (sc.length : Int) - 1 := by omega
      have a3 : 0 ≤ p.2 := by omega
      simp [whole_ok, b1, a1, a2, a3]]
    simp only [Option.bind_some, mSum_inl]
    exact c
  have e2 : m_are_edges (scP sc) (edP ed) = some (.bl true) := by
    unfold m_are_edges
    simp only [lenF_tup, List.length_map, Option.bind_some, subF_int, e1, mAV_true, seqOf_tup]
    rw [cmp_all fun p hp => by
      obtain ⟨b1, b2, b3⟩ := hb p hp
      simp [b2]]
    simp only [Option.bind_some, all_true]
  unfold m_check_edges
  simp only [scopes_chk ⟨hn.1, by omega⟩ hs, e2, Option.bind_some, truthF_bl, Bool.not_true, Bool.false_eq_true, if_false]
theorem eqv_pE (p q : Int × Int) : eqv (pE p) (pE q) = decide (p = q) := by
  unfold pE
  rw [eqv_tt, eqvs_cons, eqvs_cons, eqvs_nil, eqv_int, eqv_int]
  by_cases h1 : p.1 = q.1 <;> by_cases h2 : p.2 = q.2 <;> simp [h1, h2, Prod.ext_iff]
theorem eqv_ed (a b : List (Int × Int)) : eqv (edP a) (edP b) = decide (a = b) := by rw [eqv_tt, eqvs_map eqv_pE]
theorem okD_pE (n : Nat) (p : Int × Int) : okD (n + 1) (pE p) = true := okD_tup (by simp [okD_int])
theorem okD_ed (n : Nat) (l : List (Int × Int)) : okD (n + 2) (edP l) = true := okD_tup (all_map fun a _ => okD_pE n a)
theorem inF_sets (s : List (Int × Int)) (L : List (List (Int × Int))) : inF (edP s) (.lst (L.map edP)) = some (.bl (decide (s ∈ L))) := by
  simp only [inF, seqOf_lst]
  rw [okD_ed 58, okD_l (n := 59) (all_map fun a _ => okD_ed 57 a), any_map_eqv eqv_ed]
  simp
end
end QQ

namespace QQ
open PP WK
/-! ### ways and what lies beyond, of the trees -/
def treesL (n : Nat) : List (List (Int × Int)) := (setsL n).filter (treeB n)
def unInt : PV → Option Int
  | .int i => some i
  | _ => none
def unInts : List PV → Option (List Int)
  | [] => some []
  | x :: r => (unInt x).bind fun i => (unInts r).map (i :: ·)
theorem unInts_eq : ∀ {xs : List PV} {l : List Int}, unInts xs = some l → xs = l.map PV.int
  | [], l, h => by cases h; rfl
  | x :: r, l, h => by
    unfold unInts at h
    obtain ⟨i, hi, h⟩ := Option.bind_eq_some_iff.mp h
    obtain ⟨m, hm, rfl⟩ := Option.map_eq_some_iff.mp h
    cases x <;> simp only [unInt] at hi <;> cases hi
    rw [unInts_eq hm]; rfl
def unTup : Option PV → Option (List Int)
  | some (.tup xs) => unInts xs
  | _ => none
def unLst : Option PV → Option (List Int)
  | some (.lst xs) => unInts xs
  | _ => none
theorem unTup_eq {o : Option PV} {l : List Int} (h : unTup o = some l) : o = some (tI l) := by
  unfold unTup at h
  split at h
  · rw [unInts_eq h]
  · cases h
theorem unLst_eq {o : Option PV} {l : List Int} (h : unLst o = some l) : o = some (.lst (l.map PV.int)) := by
  unfold unLst at h
  split at h
  · rw [unInts_eq h]
  · cases h
def wayO (ed : List (Int × Int)) (a b : Nat) : Option (List Int) := unTup (m__law_way (edP ed) (.int (a : Int)) (.int (b : Int)))
def beyO (ed : List (Int × Int)) (a b : Nat) : Option (List Int) := unLst (m_nodes_beyond (edP ed) (.int (a : Int)) (.int (b : Int)))
theorem ways_there (n : Nat) (h : 1 ≤ n ∧ n ≤ 4) : (treesL n).all (fun ed => (List.range n).all fun b => (List.range b).all fun a => (wayO ed a b).isSome) = true := by
  have : n = 1 ∨ n = 2 ∨ n = 3 ∨ n = 4 := by omega
  rcases this with rfl | rfl | rfl | rfl <;> kernel_rfl
theorem beys_there (n : Nat) (h : 1 ≤ n ∧ n ≤ 4) : (treesL n).all (fun ed => (List.range n).all fun b => (List.range n).all fun a => (beyO ed a b).isSome) = true := by
  have : n = 1 ∨ n = 2 ∨ n = 3 ∨ n = 4 := by omega
  rcases this with rfl | rfl | rfl | rfl <;> kernel_rfl
end QQ

namespace QQ
open PP WK
/-! ### what a tree lacks -/
def wayL (ed : List (Int × Int)) (a b : Nat) : List Int := (wayO ed a b).getD []
def beyL (ed : List (Int × Int)) (a b : Nat) : List Int := (beyO ed a b).getD []
section
variable {n : Nat} {ed : List (Int × Int)}
theorem way_ok (h : 1 ≤ n ∧ n ≤ 4) (he : ed ∈ treesL n) {a b : Nat} (hb : b < n) (ha : a < b) : m__law_way (edP ed) (.int (a : Int)) (.int (b : Int)) = some (tI (wayL ed a b)) := by
  have k := ways_there n h
  rw [List.all_eq_true] at k
  have k := k ed he
  rw [List.all_eq_true] at k
  have k := k b (List.mem_range.mpr hb)
  rw [List.all_eq_true] at k
  have k := k a (List.mem_range.mpr ha)
  obtain ⟨l, hl⟩ := Option.isSome_iff_exists.mp k
  rw [unTup_eq hl]
  unfold wayL
  rw [hl]
  rfl
theorem bey_ok (h : 1 ≤ n ∧ n ≤ 4) (he : ed ∈ treesL n) {a b : Nat} (hb : b < n) (ha : a < n) : m_nodes_beyond (edP ed) (.int (a : Int)) (.int (b : Int)) = some (.lst ((beyL ed a b).map PV.int)) := by
  have k := beys_there n h
  rw [List.all_eq_true] at k
  have k := k ed he
  rw [List.all_eq_true] at k
  have k := k b (List.mem_range.mpr hb)
  rw [List.all_eq_true] at k
  have k := k a (List.mem_range.mpr ha)
  obtain ⟨l, hl⟩ := Option.isSome_iff_exists.mp k
  rw [unLst_eq hl]
  unfold beyL
  rw [hl]
  rfl
theorem trees_sub (h : 1 ≤ n ∧ n ≤ 4) (he : ed ∈ treesL n) : ed.Sublist (pairsL n) ∧ ed.length ≤ 3 := by
  obtain ⟨h1, h2⟩ := sets_sub n h ed (List.mem_filter.mp he).1
  exact ⟨h1, by omega⟩
end
def startsL (ed : List (Int × Int)) (node : Int) : List Int := (ed.filter fun p => decide (p.1 = node)).map (·.2) ++ (ed.filter fun p => decide (p.2 = node)).map (·.1)
def lackN (ed : List (Int × Int)) (U : List Int) (node : Nat) : List Int → Int → Int
  | [], c => c
  | s :: r, c => lackN ed U node r (c + if (beyL ed node s.toNat).any (fun o => decide (o ∈ U)) = true then 1 else 0)
def lackB (ed : List (Int × Int)) (U : List Int) (node : Nat) : Bool := !decide ((node : Int) ∈ U) && decide (lackN ed U node (startsL ed node) 0 > 1)
theorem bey_rng (n : Nat) (h : 1 ≤ n ∧ n ≤ 4) : ∀ ed ∈ treesL n, ∀ a < n, ∀ s ∈ startsL ed (a : Int), 0 ≤ s ∧ s < n ∧ ∀ o ∈ beyL ed a s.toNat, 0 ≤ o ∧ o < n := by
  have key : (treesL n).all (fun ed => (List.range n).all fun a => (startsL ed (a : Int)).all fun s => decide (0 ≤ s) && decide (s < n) && (beyL ed a s.toNat).all fun o => decide (0 ≤ o) && decide (o < n)) = true := by
    have : n = 1 ∨ n = 2 ∨ n = 3 ∨ n = 4 := by omega
    rcases this with rfl | rfl | rfl | rfl <;> kernel_rfl
  intro ed he a ha s hs
  rw [List.all_eq_true] at key
  have k := key ed he
  rw [List.all_eq_true] at k
  have k := k a (List.mem_range.mpr ha)
  rw [List.all_eq_true] at k
  have k := k s hs
  rw [Bool.and_eq_true, Bool.and_eq_true, decide_eq_true_eq, decide_eq_true_eq, List.all_eq_true] at k
  refine ⟨k.1.1, k.1.2, fun o ho => ?_⟩
  have := k.2 o ho
  rw [Bool.and_eq_true, decide_eq_true_eq, decide_eq_true_eq] at this
  exact this
section
variable {sc : List (List Int)} {ed : List (Int × Int)}
theorem hav_mem (x : Int) {o : Int} (h0 : 0 ≤ o) (h1 : o < sc.length) : o ∈ hav sc x ↔ x ∈ scA sc o.toNat := by
  unfold hav
  rw [List.mem_map]
  constructor
  · rintro ⟨i, hi, rfl⟩
    have := (List.mem_filter.mp hi).2
    simpa using this
  · intro h
    exact ⟨o.toNat, List.mem_filter.mpr ⟨List.mem_range.mpr (by omega), by simpa using h⟩, by omega⟩
theorem lacks_ok (hn : 1 ≤ sc.length ∧ sc.length ≤ 4) (he : ed ∈ treesL sc.length) {node : Nat} (hnode : node < sc.length) (x : Int) : m_lacks (scP sc) (edP ed) (.int (node : Int)) (.int x) = some (.bl (lackB ed (hav sc x) node)) := by
  obtain ⟨hsub, hlen⟩ := trees_sub hn he
  have rng := bey_rng sc.length hn ed he node hnode
  unfold m_lacks lackB
  simp only [sc_at hnode, Option.bind_some, inF_t, asBl_ev]
  have hm := hav_mem (sc := sc) x (o := (node : Int)) (by omega) (by omega)
  rw [Int.toNat_natCast] at hm
  by_cases hx : x ∈ scA sc node
  · rw [decide_eq_true hx, decide_eq_true (hm.mpr hx)]; rfl
  rw [decide_eq_false hx, decide_eq_false fun z => hx (hm.mp z)]
  simp only [Bool.false_eq_true, if_false, seqOf_tup, Option.bind_some, Bool.not_false, Bool.true_and]
  rw [cmpG_map (p := fun p : Int × Int => decide (p.1 = (node : Int))) (h := fun p => PV.int p.2) fun p _ => by simp, Option.bind_some,
    cmpG_map (p := fun p : Int × Int => decide (p.2 = (node : Int))) (h := fun p => PV.int p.1) fun p _ => by simp]
  have hst : (ed.filter fun p => decide (p.1 = (node : Int))).map (fun p => PV.int p.2) ++ (ed.filter fun p => decide (p.2 = (node : Int))).map (fun p => PV.int p.1) = (startsL ed node).map PV.int := by
    unfold startsL
    rw [List.map_append, List.map_map, List.map_map]; rfl
  have l1 := List.length_filter_le (fun p : Int × Int => decide (p.1 = (node : Int))) ed
  have l2 := List.length_filter_le (fun p : Int × Int => decide (p.2 = (node : Int))) ed
  simp only [Option.bind_some]
  rw [addL_ok _ _ (by rw [List.length_map, List.length_map]; omega), hst]
  simp only [Option.bind_some, seqOf_lst]
  have key : ∀ (l : List Int) (c : Int) (f : PV → PV → Option PV), (∀ s ∈ l, ∀ c : Int, f (.int c) (.int s) = some (.int (c + if (beyL ed node s.toNat).any (fun o => decide (o ∈ hav sc x)) = true then 1 else 0))) → fldM f (l.map PV.int) (.int c) = some (.int (lackN ed (hav sc x) node l c)) := by
    intro l
    induction l with
    | nil => intro c f _; rfl
    | cons s l ih =>
      intro c f hf
      rw [List.map_cons, fldM, hf s List.mem_cons_self, Option.bind_some]
      exact ih _ f fun q hq => hf q (List.mem_cons_of_mem _ hq)
  rw [key _ 0 _ fun s hs c => by
    obtain ⟨s0, s1, hb⟩ := rng s hs
    obtain ⟨k, rfl⟩ : ∃ k : Nat, s = k := ⟨s.toNat, by omega⟩
    rw [Int.toNat_natCast] at hb ⊢
    rw [bey_ok hn he (by omega) hnode]
    simp only [Option.bind_some, seqOf_lst]
    rw [cmpM_map (h := fun o : Int => PV.bl (decide (o ∈ hav sc x))) fun o ho => by
      obtain ⟨o0, o1⟩ := hb o ho
      obtain ⟨j, rfl⟩ : ∃ j : Nat, o = j := ⟨o.toNat, by omega⟩
      rw [sc_at (by omega)]
      have := hav_mem (sc := sc) x (o := (j : Int)) (by omega) (by omega)
      rw [Int.toNat_natCast] at this
      simp only [Option.bind_some, inF_t]
      by_cases hj : x ∈ scA sc j
      · rw [decide_eq_true hj, decide_eq_true (this.mpr hj)]
      · rw [decide_eq_false hj, decide_eq_false fun z => hj (this.mp z)]]
    simp only [Option.bind_some, anyF_map]
    cases (beyL ed node k).any fun o => decide (o ∈ hav sc x) <;> rfl]
  simp only [Option.bind_some, gtF_int]
end
end QQ

namespace QQ
open PP WK
/-! ### the told additions -/
def addL (sc : List (List Int)) (ed : List (Int × Int)) : List (Int × Int) := (List.range sc.length).flatMap fun node => ((List.range 6).filter fun x : Nat => lackB ed (hav sc (x : Int)) node).map fun x : Nat => ((node : Int), (x : Int))
theorem foldl_flat {α β : Type} (f : α → List β) : ∀ (l : List α) (acc : List β), l.foldl (fun acc a => acc ++ f a) acc = acc ++ l.flatMap f
  | [], acc => by simp
  | a :: l, acc => by rw [List.foldl_cons, foldl_flat f l, List.flatMap_cons, List.append_assoc]
theorem extendF_ok (xs ys : List PV) (h : xs.length + ys.length < 1000000) : extendF xs [.lst ys] = some (.non, xs ++ ys) := by
  show (if _ then _ else _) = _
  rw [if_pos h]
section
variable {sc : List (List Int)} {ed : List (Int × Int)}
theorem additions_ok (hn : 1 ≤ sc.length ∧ sc.length ≤ 4) (he : ed ∈ treesL sc.length) : m_additions_of (scP sc) (edP ed) = some (edP (addL sc ed)) := by
  unfold m_additions_of
  simp only [lenF_tup, List.length_map, Option.bind_some, rgO1_nat (show sc.length ≤ 16777216 by omega), rgL_nat]
  rw [show rgN sc.length = (List.range sc.length).map fun i : Nat => PV.int (i : Int) from rfl, show PV.lst [] = PV.lst (([] : List (Int × Int)).map pE) from rfl]
  rw [(fldM_map (E := fun L : List (Int × Int) => PV.lst (L.map pE)) (g := fun i : Nat => PV.int (i : Int)) (k := fun L node => L ++ ((List.range 6).filter fun x : Nat => lackB ed (hav sc (x : Int)) node).map fun x : Nat => ((node : Int), (x : Int))) (fun q L => L.length ≤ 6 * q) (List.range sc.length) 0 [] (fun q L node hnode _ hq hI => by
    have hnode := List.mem_range.mp hnode
    have hq4 : q < 4 := by simp at hq; omega
    have l6 := List.length_filter_le (fun x : Nat => lackB ed (hav sc (x : Int)) node) (List.range 6)
    rw [List.length_range] at l6
    refine ⟨?_, by rw [List.length_append, List.length_map]; omega⟩
    simp only [addF_int, Option.bind_some]
    rw [show rgO1 (.int (5 + 1)) = some (0, ((6 : Nat) : Int)) from rgO1_nat (by decide)]
    simp only [Option.bind_some, rgL_nat]
    rw [show rgN 6 = (List.range 6).map fun i : Nat => PV.int (i : Int) from rfl, cmpG_map (p := fun x : Nat => lackB ed (hav sc (x : Int)) node) (h := fun i : Nat => PV.int (i : Int)) fun x _ => by
      rw [lacks_ok hn he hnode]
      simp only [Option.bind_some, truthF_bl]]
    simp only [Option.bind_some, asL_l, seqOf_lst]
    rw [cmpM_map (f := fun (x12 : PV) => some (PV.tup [PV.int (node : Int), x12])) (g := fun i : Nat => PV.int (i : Int)) (h := fun x : Nat => pE ((node : Int), (x : Int))) fun x _ => rfl]
    simp only [Option.bind_some]
    rw [extendF_ok _ _ (by rw [List.length_map, List.length_map]; omega)]
    simp only [Option.bind_some, List.map_append, List.map_map]
    rfl) (by simp)).1]
  rw [foldl_flat]
  simp only [Option.bind_some, tupleF_lst, List.nil_append]
  rfl
end
/-! a law's own -/
def lk4 (sc : List (List Int)) (x : Int) (L : List (Int × Int)) (node : Int) : List (Int × Int) := if x ∉ scA sc node.toNat ∧ (node, x) ∉ L then L ++ [(node, x)] else L
def comL (sc : List (List Int)) (a b : Nat) : List Int := (scA sc a).filter fun x => decide (x ∈ scA sc b)
def lk2 (sc : List (List Int)) (ed : List (Int × Int)) (b : Nat) (L : List (Int × Int)) (a : Nat) : List (Int × Int) := (comL sc a b).foldl (fun L x => (wayL ed a b).foldl (lk4 sc x) L) L
def lk1 (sc : List (List Int)) (ed : List (Int × Int)) (L : List (Int × Int)) (b : Nat) : List (Int × Int) := (List.range b).foldl (lk2 sc ed b) L
def lfound (sc : List (List Int)) (ed : List (Int × Int)) : List (Int × Int) := (List.range sc.length).foldl (lk1 sc ed) []
theorem mem_fold {α β : Type} {k : List β → α → List β} {R : α → β → Prop} : ∀ (l : List α) (L : List β), (∀ a ∈ l, ∀ L p, p ∈ k L a ↔ p ∈ L ∨ R a p) → ∀ p, p ∈ l.foldl k L ↔ p ∈ L ∨ ∃ a ∈ l, R a p
  | [], L, _, p => by simp
  | a :: l, L, h, p => by
    rw [List.foldl_cons, mem_fold l (k L a) (fun b hb => h b (List.mem_cons_of_mem _ hb)) p, h a List.mem_cons_self]
    constructor
    · rintro ((h1 | h1) | ⟨b, hb, h1⟩)
      · exact .inl h1
      · exact .inr ⟨a, List.mem_cons_self, h1⟩
      · exact .inr ⟨b, List.mem_cons_of_mem _ hb, h1⟩
    · rintro (h1 | ⟨b, hb, h1⟩)
      · exact .inl (.inl h1)
      · rcases List.mem_cons.mp hb with rfl | hb
        · exact .inl (.inr h1)
        · exact .inr ⟨b, hb, h1⟩
theorem nodup_fold {α β : Type} {k : List β → α → List β} (h : ∀ L a, L.Nodup → (k L a).Nodup) : ∀ (l : List α) (L : List β), L.Nodup → (l.foldl k L).Nodup
  | [], _, hL => hL
  | a :: l, L, hL => nodup_fold h l _ (h L a hL)
theorem lk4_mem (sc : List (List Int)) (x : Int) (L : List (Int × Int)) (node : Int) (p : Int × Int) : p ∈ lk4 sc x L node ↔ p ∈ L ∨ (p = (node, x) ∧ x ∉ scA sc node.toNat) := by
  unfold lk4
  by_cases h1 : x ∈ scA sc node.toNat
  · rw [if_neg fun z => z.1 h1]
    exact ⟨.inl, fun z => z.elim id fun y => absurd h1 y.2⟩
  · by_cases h2 : (node, x) ∈ L
    · rw [if_neg fun z => z.2 h2]
      exact ⟨.inl, fun z => z.elim id fun y => y.1 ▸ h2⟩
    · rw [if_pos ⟨h1, h2⟩, List.mem_append, List.mem_singleton]
      exact ⟨fun z => z.imp id fun y => ⟨y, h1⟩, fun z => z.imp id fun y => y.1⟩
theorem lk4_nodup (sc : List (List Int)) (x : Int) (L : List (Int × Int)) (node : Int) (h : L.Nodup) : (lk4 sc x L node).Nodup := by
  unfold lk4
  split
  · rename_i z
    rw [List.nodup_append]
    exact ⟨h, by simp, fun a ha b hb => by rw [List.mem_singleton.mp hb]; rintro rfl; exact z.2 ha⟩
  · exact h
theorem found_mem (sc : List (List Int)) (ed : List (Int × Int)) (p : Int × Int) : p ∈ lfound sc ed ↔ ∃ b ∈ List.range sc.length, ∃ a ∈ List.range b, ∃ x ∈ comL sc a b, ∃ node ∈ wayL ed a b, p = (node, x) ∧ x ∉ scA sc node.toNat := by
  unfold lfound
  rw [mem_fold (R := fun b p => ∃ a ∈ List.range b, ∃ x ∈ comL sc a b, ∃ node ∈ wayL ed a b, p = (node, x) ∧ x ∉ scA sc node.toNat) _ _ fun b _ L p => by
    unfold lk1
    exact mem_fold (R := fun a p => ∃ x ∈ comL sc a b, ∃ node ∈ wayL ed a b, p = (node, x) ∧ x ∉ scA sc node.toNat) _ _ (fun a _ L p => by
      unfold lk2
      exact mem_fold (R := fun x p => ∃ node ∈ wayL ed a b, p = (node, x) ∧ x ∉ scA sc node.toNat) _ _ (fun x _ L p => mem_fold (R := fun node p => p = (node, x) ∧ x ∉ scA sc node.toNat) _ _ (fun node _ L p => lk4_mem sc x L node p) p) p) p]
  simp
theorem found_nd (sc : List (List Int)) (ed : List (Int × Int)) : (lfound sc ed).Nodup :=
  nodup_fold (fun L b h => nodup_fold (fun L a h => nodup_fold (fun L x h => nodup_fold (fun L node h => lk4_nodup sc x L node h) _ _ h) _ _ h) _ _ h) _ _ List.nodup_nil
end QQ

namespace QQ
open PP WK
theorem way_rng (n : Nat) (h : 1 ≤ n ∧ n ≤ 4) : ∀ ed ∈ treesL n, ∀ b < n, ∀ a < b, (wayL ed a b).length ≤ 4 ∧ ∀ o ∈ wayL ed a b, 0 ≤ o ∧ o < n := by
  have key : (treesL n).all (fun ed => (List.range n).all fun b => (List.range b).all fun a => decide ((wayL ed a b).length ≤ 4) && (wayL ed a b).all fun o => decide (0 ≤ o) && decide (o < n)) = true := by
    have : n = 1 ∨ n = 2 ∨ n = 3 ∨ n = 4 := by omega
    rcases this with rfl | rfl | rfl | rfl <;> kernel_rfl
  intro ed he b hb a ha
  rw [List.all_eq_true] at key
  have k := key ed he
  rw [List.all_eq_true] at k
  have k := k b (List.mem_range.mpr hb)
  rw [List.all_eq_true] at k
  have k := k a (List.mem_range.mpr ha)
  rw [Bool.and_eq_true, decide_eq_true_eq, List.all_eq_true] at k
  refine ⟨k.1, fun o ho => ?_⟩
  have := k.2 o ho
  rw [Bool.and_eq_true, decide_eq_true_eq, decide_eq_true_eq] at this
  exact this
def lackW (n : Nat) (ed : List (Int × Int)) (U : List Int) (node : Nat) : Bool := !decide ((node : Int) ∈ U) && (List.range n).any fun b => (List.range b).any fun a => decide ((a : Int) ∈ U) && decide ((b : Int) ∈ U) && decide ((node : Int) ∈ wayL ed a b)
theorem lack_way (n : Nat) (h : 1 ≤ n ∧ n ≤ 4) : ∀ ed ∈ treesL n, ∀ U ∈ subs (ndZ n), ∀ node < n, lackB ed U node = lackW n ed U node := by
  have key : (treesL n).all (fun ed => (subs (ndZ n)).all fun U => (List.range n).all fun node => lackB ed U node == lackW n ed U node) = true := by
    have : n = 1 ∨ n = 2 ∨ n = 3 ∨ n = 4 := by omega
    rcases this with rfl | rfl | rfl | rfl <;> kernel_rfl
  intro ed he U hU node hnode
  rw [List.all_eq_true] at key
  have k := key ed he
  rw [List.all_eq_true] at k
  have k := k U hU
  rw [List.all_eq_true] at k
  have k := k node (List.mem_range.mpr hnode)
  exact eq_of_beq k
section
variable {sc : List (List Int)} {ed : List (Int × Int)}
theorem hav_subs (x : Int) : hav sc x ∈ subs (ndZ sc.length) := subs_iff.mpr ((List.filter_sublist).map _)
theorem notin_pairs (p : Int × Int) (L : List (Int × Int)) : notInF (pE p) (.lst (L.map pE)) = some (.bl (!decide (p ∈ L))) := by
  simp only [notInF, seqOf_lst]
  rw [okD_pE 59, okD_l (n := 59) (all_map fun a _ => okD_pE 58 a), any_map_eqv eqv_pE]
  simp
theorem lk4_len (x : Int) (L : List (Int × Int)) (node : Int) : (lk4 sc x L node).length ≤ L.length + 1 := by
  unfold lk4
  split <;> simp
theorem lfound_ok (hn : 1 ≤ sc.length ∧ sc.length ≤ 4) (hs : ∀ l ∈ sc, OkS l) (he : ed ∈ treesL sc.length) : m__law_additions (scP sc) (edP ed) = (sortedF [.lst ((lfound sc ed).map pE)]).bind fun t36 => (tupleF [t36]).bind fun t37 => some t37 := by
  unfold m__law_additions
  simp only [lenF_tup, List.length_map, Option.bind_some, rgO1_nat (show sc.length ≤ 16777216 by omega), rgL_nat]
  rw [show rgN sc.length = (List.range sc.length).map fun i : Nat => PV.int (i : Int) from rfl, show PV.lst [] = PV.lst (([] : List (Int × Int)).map pE) from rfl]
  rw [(fldM_map (E := fun L : List (Int × Int) => PV.lst (L.map pE)) (g := fun i : Nat => PV.int (i : Int)) (k := lk1 sc ed) (fun q L => L.length ≤ 48 * q) (List.range sc.length) 0 [] (fun q L b hb _ hq hI => by
    have hb := List.mem_range.mp hb
    have hq4 : q < 4 := by simp at hq; omega
    rw [rgO1_nat (show b ≤ 16777216 by omega)]
    simp only [Option.bind_some, rgL_nat]
    rw [show rgN b = (List.range b).map fun i : Nat => PV.int (i : Int) from rfl]
    have in1 := fldM_map (f := fun (w6 : PV) (x5 : PV) => (m__law_way (edP ed) x5 (.int (b : Int))).bind fun (t8 : PV) => (((getF (scP sc) x5).bind fun t13 => (seqOf t13).bind fun l14 => cmpG (fun (x11 : PV) => (getF (scP sc) (.int (b : Int))).bind fun t15 => (inF x11 t15).bind fun t16 => (asBl t16).bind fun b17 => if b17 = true then some (some x11) else some none) l14).bind fun (y18 : List PV) => (seqOf (.lst y18)).bind fun l19 => fldM (fun (w10 : PV) (x9 : PV) => ((seqOf t8).bind fun l22 => fldM (fun (w21 : PV) (x20 : PV) => (((getF (scP sc) x20).bind fun t23 => (notInF x9 t23).bind fun t24 => (asBl t24).bind fun b25 => if b25 = true then (notInF (.tup [x20, x9]) w21).bind fun t26 => (asBl t26).bind fun b27 => some b27 else some false).bind fun (b28 : Bool) => if b28 = true then (asL w21).bind fun _ => (asL w21).bind fun l29 => (appendF l29 [(.tup [x20, x9])]).bind fun (z30 : PV × List PV) => some (.lst z30.2) else some w21).bind fun (k31 : PV) => some k31) l22 w10).bind fun (k32 : PV) => some k32) l19 w6).bind fun (k33 : PV) => some k33)
      (E := fun L : List (Int × Int) => PV.lst (L.map pE)) (g := fun i : Nat => PV.int (i : Int)) (k := lk2 sc ed b) (fun r M => M.length ≤ L.length + 12 * r) (List.range b) 0 L (fun r M a ha _ hr hJ => by
        have ha := List.mem_range.mp ha
        have hr4 : r < 4 := by simp at hr; omega
        obtain ⟨wl, wr⟩ := way_rng sc.length hn ed he b hb a ha
        have hca : (scA sc a).length ≤ 3 := (hs _ (scA_mem (by omega))).2.2
        have hcl : (comL sc a b).length ≤ 3 := Nat.le_trans (List.length_filter_le _ _) hca
        rw [way_ok hn he hb ha]
        simp only [Option.bind_some, sc_at (show a < sc.length by omega), seqOf_tup]
        rw [cmpG_map (p := fun x => decide (x ∈ scA sc b)) (h := PV.int) fun x _ => by
          simp only [sc_at hb, Option.bind_some, inF_t, asBl_ev]]
        simp only [Option.bind_some, seqOf_lst]
        rw [show ((scA sc a).filter fun x => decide (x ∈ scA sc b)).map PV.int = (comL sc a b).map PV.int from rfl]
        have in2 := fldM_map (f := fun (w10 : PV) (x9 : PV) => (fldM (fun (w21 : PV) (x20 : PV) => (((getF (scP sc) x20).bind fun t23 => (notInF x9 t23).bind fun t24 => (asBl t24).bind fun b25 => if b25 = true then (notInF (.tup [x20, x9]) w21).bind fun t26 => (asBl t26).bind fun b27 => some b27 else some false).bind fun (b28 : Bool) => if b28 = true then (asL w21).bind fun _ => (asL w21).bind fun l29 => (appendF l29 [(.tup [x20, x9])]).bind fun (z30 : PV × List PV) => some (.lst z30.2) else some w21).bind fun (k31 : PV) => some k31) ((wayL ed a b).map PV.int) w10).bind fun (k32 : PV) => some k32)
          (E := fun L : List (Int × Int) => PV.lst (L.map pE)) (g := PV.int) (k := fun L x => (wayL ed a b).foldl (lk4 sc x) L) (fun t P => P.length ≤ M.length + 4 * t) (comL sc a b) 0 M (fun t P x _ _ ht hK => by
            have in3 := fldM_map (f := fun (w21 : PV) (x20 : PV) => (((getF (scP sc) x20).bind fun t23 => (notInF (.int x) t23).bind fun t24 => (asBl t24).bind fun b25 => if b25 = true then (notInF (.tup [x20, .int x]) w21).bind fun t26 => (asBl t26).bind fun b27 => some b27 else some false).bind fun (b28 : Bool) => if b28 = true then (asL w21).bind fun _ => (asL w21).bind fun l29 => (appendF l29 [(.tup [x20, .int x])]).bind fun (z30 : PV × List PV) => some (.lst z30.2) else some w21).bind fun (k31 : PV) => some k31)
              (E := fun L : List (Int × Int) => PV.lst (L.map pE)) (g := PV.int) (k := lk4 sc x) (fun u R => R.length ≤ P.length + u) (wayL ed a b) 0 P (fun u R node hnode _ hu hL => by
                obtain ⟨o0, o1⟩ := wr node hnode
                obtain ⟨j, rfl⟩ : ∃ j : Nat, node = j := ⟨node.toNat, by omega⟩
                have ll := lk4_len (sc := sc) x R (j : Int)
                refine ⟨?_, by omega⟩
                rw [sc_at (by omega), show (.tup [.int (j : Int), .int x] : PV) = pE ((j : Int), x) from rfl]
                have ha := appendF_ok (R.map pE) (pE ((j : Int), x)) (by rw [List.length_map]; omega)
                simp only [Option.bind_some, notInF_t, asBl_ev, notin_pairs]
                unfold lk4
                rw [Int.toNat_natCast]
                by_cases h1 : x ∈ scA sc j
                · have e : (if x ∉ scA sc j ∧ ((j : Int), x) ∉ R then R ++ [((j : Int), x)] else R) = R := if_neg fun z => z.1 h1
                  rw [e, decide_eq_true h1]; rfl
                · by_cases h2 : ((j : Int), x) ∈ R
                  · have e : (if x ∉ scA sc j ∧ ((j : Int), x) ∉ R then R ++ [((j : Int), x)] else R) = R := if_neg fun z => z.2 h2
                    rw [e, decide_eq_false h1, decide_eq_true h2]; rfl
                  · have e : (if x ∉ scA sc j ∧ ((j : Int), x) ∉ R then R ++ [((j : Int), x)] else R) = R ++ [((j : Int), x)] := if_pos ⟨h1, h2⟩
                    rw [e, decide_eq_false h1, decide_eq_false h2]
                    simp only [Bool.not_false, if_true, Option.bind_some, asL_l, ha, List.map_append, List.map_cons, List.map_nil]) (by omega)
            refine ⟨?_, by have := in3.2; omega⟩
            rw [in3.1]
            rfl) (by omega)
        refine ⟨?_, by have := in2.2; unfold lk2; omega⟩
        rw [in2.1]
        rfl) (by omega)
    refine ⟨?_, by have := in1.2; simp only [List.length_range] at this; unfold lk1; omega⟩
    rw [in1.1]
    rfl) (by simp)).1]
  rfl
end
end QQ

namespace QQ
open PP WK
section
variable {sc : List (List Int)} {ed : List (Int × Int)}
theorem add_mem {p : Int × Int} : p ∈ addL sc ed ↔ ∃ node : Nat, node < sc.length ∧ ∃ x : Nat, x < 6 ∧ lackB ed (hav sc (x : Int)) node = true ∧ p = ((node : Int), (x : Int)) := by
  unfold addL
  rw [List.mem_flatMap]
  constructor
  · rintro ⟨node, hn, h⟩
    obtain ⟨x, hx, rfl⟩ := List.mem_map.mp h
    obtain ⟨h1, h2⟩ := List.mem_filter.mp hx
    exact ⟨node, List.mem_range.mp hn, x, List.mem_range.mp h1, h2, rfl⟩
  · rintro ⟨node, hn, x, hx, h, rfl⟩
    exact ⟨node, List.mem_range.mpr hn, List.mem_map.mpr ⟨x, List.mem_filter.mpr ⟨List.mem_range.mpr hx, h⟩, rfl⟩⟩
theorem add_asc : (addL sc ed).Pairwise lt2 := by
  unfold addL
  rw [List.pairwise_flatMap]
  refine ⟨fun node _ => ?_, ?_⟩
  · rw [List.pairwise_map]
    exact (List.Pairwise.sublist List.filter_sublist List.pairwise_lt_range).imp fun {a b} h => .inr ⟨rfl, by show (a : Int) < (b : Int); omega⟩
  · refine List.pairwise_lt_range.imp fun {a b} h => ?_
    intro p hp q hq
    obtain ⟨x, _, rfl⟩ := List.mem_map.mp hp
    obtain ⟨y, _, rfl⟩ := List.mem_map.mp hq
    exact .inl (by show (a : Int) < (b : Int); omega)
theorem lt2_irr {p q : Int × Int} (h : lt2 p q) : p ≠ q := by
  rintro rfl
  rcases h with h | ⟨_, h⟩ <;> omega
theorem lt2_asym {p q : Int × Int} (h : lt2 p q) (h2 : lt2 q p) : False := by
  unfold lt2 at h h2
  omega
theorem found_add (hn : 1 ≤ sc.length ∧ sc.length ≤ 4) (hs : ∀ l ∈ sc, OkS l) (he : ed ∈ treesL sc.length) (p : Int × Int) : p ∈ lfound sc ed ↔ p ∈ addL sc ed := by
  rw [found_mem, add_mem]
  have hm := fun (x : Int) (o : Nat) (h : o < sc.length) => hav_mem (sc := sc) x (o := (o : Int)) (by omega) (by omega)
  constructor
  · rintro ⟨b, hb, a, ha, x, hx, node, hnode, rfl, hno⟩
    have hb := List.mem_range.mp hb
    have ha := List.mem_range.mp ha
    obtain ⟨x1, x2⟩ := List.mem_filter.mp hx
    rw [decide_eq_true_eq] at x2
    obtain ⟨o0, o1⟩ := (way_rng sc.length hn ed he b hb a ha).2 node hnode
    obtain ⟨j, rfl⟩ : ∃ j : Nat, node = j := ⟨node.toNat, by omega⟩
    have xb := (hs _ (scA_mem (show a < sc.length by omega))).2.1 x x1
    obtain ⟨y, rfl⟩ : ∃ y : Nat, x = y := ⟨x.toNat, by omega⟩
    refine ⟨j, by omega, y, by omega, ?_, rfl⟩
    rw [lack_way sc.length hn ed he _ (hav_subs _) j (by omega)]
    unfold lackW
    rw [Bool.and_eq_true, Bool.not_eq_true', decide_eq_false_iff_not]
    refine ⟨fun z => hno (by have := (hm y j (by omega)).mp z; simpa using this), ?_⟩
    rw [List.any_eq_true]
    refine ⟨b, List.mem_range.mpr hb, ?_⟩
    rw [List.any_eq_true]
    refine ⟨a, List.mem_range.mpr ha, ?_⟩
    rw [Bool.and_eq_true, Bool.and_eq_true, decide_eq_true_eq, decide_eq_true_eq, decide_eq_true_eq]
    exact ⟨⟨(hm y a (by omega)).mpr (by simpa using x1), (hm y b hb).mpr (by simpa using x2)⟩, hnode⟩
  · rintro ⟨j, hj, y, hy, hl, rfl⟩
    rw [lack_way sc.length hn ed he _ (hav_subs _) j hj] at hl
    unfold lackW at hl
    rw [Bool.and_eq_true, Bool.not_eq_true', decide_eq_false_iff_not, List.any_eq_true] at hl
    obtain ⟨hno, b, hb, h2⟩ := hl
    rw [List.any_eq_true] at h2
    obtain ⟨a, ha, h3⟩ := h2
    rw [Bool.and_eq_true, Bool.and_eq_true, decide_eq_true_eq, decide_eq_true_eq, decide_eq_true_eq] at h3
    have hb' := List.mem_range.mp hb
    have ha' := List.mem_range.mp ha
    have e1 := (hm y a (by omega)).mp h3.1.1
    have e2 := (hm y b hb').mp h3.1.2
    rw [Int.toNat_natCast] at e1 e2
    refine ⟨b, hb, a, ha, y, List.mem_filter.mpr ⟨e1, by simpa using e2⟩, j, h3.2, rfl, fun z => hno ((hm y j hj).mpr z)⟩
theorem laddL_ok (hn : 1 ≤ sc.length ∧ sc.length ≤ 4) (hs : ∀ l ∈ sc, OkS l) (he : ed ∈ treesL sc.length) : m__law_additions (scP sc) (edP ed) = some (edP (addL sc ed)) := by
  rw [lfound_ok hn hs he]
  obtain ⟨L, e, p, a⟩ := sorted_edges (lfound sc ed) (List.nodup_iff_pairwise_ne.mp (found_nd sc ed))
  have nd : (addL sc ed).Nodup := List.nodup_iff_pairwise_ne.mpr (add_asc.imp fun {p q} h => lt2_irr h)
  have p2 : (lfound sc ed).Perm (addL sc ed) := (List.perm_ext_iff_of_nodup (found_nd sc ed) nd).mpr fun q => found_add hn hs he q
  have eq : L = addL sc ed := (p.trans p2).eq_of_pairwise (fun a b _ _ h1 h2 => (lt2_asym h1 h2).elim) a add_asc
  rw [e, eq]
  simp only [Option.bind_some, tupleF_lst]
end
end QQ

namespace QQ
open PP WK
/-! ### the told tree -/
def rowT (sc : List (List Int)) (ed : List (Int × Int)) : PV := .tup [edP ed, edP (addL sc ed)]
def lenA (sc : List (List Int)) (ed : List (Int × Int)) : Int := ((addL sc ed).length : Int)
theorem trees_ne (n : Nat) (h : 1 ≤ n ∧ n ≤ 4) : treesL n ≠ [] := by
  have key : (treesL n).isEmpty = false := by
    have : n = 1 ∨ n = 2 ∨ n = 3 ∨ n = 4 := by omega
    rcases this with rfl | rfl | rfl | rfl <;> kernel_rfl
  intro z
  rw [z] at key
  cases key
theorem minF_ints {l : List Int} (h : l ≠ []) : ∃ f : Int, minF [.lst (l.map PV.int)] = some (.int f) ∧ f ∈ l := by
  cases l with
  | nil => exact absurd rfl h
  | cons a l =>
    have hc := comparable_ints (a :: l)
    have hm := minP_mem (PV.int a) (l.map PV.int)
    rw [← List.map_cons] at hm
    obtain ⟨f, hf, e⟩ := List.mem_map.mp hm
    refine ⟨f, ?_, hf⟩
    rw [List.map_cons] at hc ⊢
    show (if comparable (PV.int a :: l.map PV.int) = true then some (minP (PV.int a) (l.map PV.int)) else none) = _
    rw [if_pos hc, e]
section
variable {sc : List (List Int)}
theorem pick_ok (hn : 1 ≤ sc.length ∧ sc.length ≤ 4) : ∃ (f : Int) (ed : List (Int × Int)) (r : List (List (Int × Int))), ed ∈ treesL sc.length ∧ minF [.lst ((treesL sc.length).map fun ed => PV.int (lenA sc ed))] = some (.int f) ∧ (treesL sc.length).filter (fun ed => decide (lenA sc ed = f)) = ed :: r := by
  obtain ⟨f, h1, h2⟩ := minF_ints (l := (treesL sc.length).map (lenA sc)) (by simpa using trees_ne _ hn)
  rw [List.map_map] at h1
  obtain ⟨ed, he, hf⟩ := List.mem_map.mp h2
  cases hfl : (treesL sc.length).filter fun ed => decide (lenA sc ed = f) with
  | nil =>
    have : ed ∈ (treesL sc.length).filter fun ed => decide (lenA sc ed = f) := List.mem_filter.mpr ⟨he, by simpa using hf⟩
    rw [hfl] at this; cases this
  | cons e r =>
    have hm : e ∈ (treesL sc.length).filter fun ed => decide (lenA sc ed = f) := by rw [hfl]; exact List.mem_cons_self
    exact ⟨f, e, r, (List.mem_filter.mp hm).1, h1, hfl⟩
/-- lens, the fewest, the first with them -/
theorem tail_ok {f : Int} {ed : List (Int × Int)} {r : List (List (Int × Int))} (h1 : minF [.lst ((treesL sc.length).map fun ed => PV.int (lenA sc ed))] = some (.int f)) (h2 : (treesL sc.length).filter (fun ed => decide (lenA sc ed = f)) = ed :: r) {β : Type} (k : PV → Option β) :
    ((seqOf (.lst ((treesL sc.length).map (rowT sc)))).bind fun l10 => cmpM (fun (x8 : PV) => (un2 x8).bind fun (u11 : PV × PV) => (lenF [u11.2]).bind fun t12 => some t12) l10).bind (fun (y13 : List PV) => (minF [(.lst y13)]).bind fun t14 => ((seqOf (.lst ((treesL sc.length).map (rowT sc)))).bind fun l17 => cmpG (fun (x15 : PV) => (getF x15 (.int 1)).bind fun t18 => (lenF [t18]).bind fun t19 => (eqF t19 t14).bind fun t20 => (asBl t20).bind fun b21 => if b21 = true then some (some x15) else some none) l17).bind fun (y22 : List PV) => (getF (.lst y22) (.int 0)).bind fun t23 => k t23) = k (rowT sc ed) := by
  simp only [seqOf_lst, Option.bind_some]
  rw [cmpM_map (h := fun ed => PV.int (lenA sc ed)) fun ed _ => by
    show (lenF [edP (addL sc ed)]).bind _ = _
    simp only [lenF_tup, List.length_map, Option.bind_some]
    rfl]
  simp only [Option.bind_some, h1]
  rw [cmpG_map (p := fun ed => decide (lenA sc ed = f)) (h := rowT sc) fun ed _ => by
    show (some (edP (addL sc ed))).bind _ = _
    simp only [Option.bind_some, lenF_tup, List.length_map, eqF_int, asBl_ev]
    rfl]
  rw [h2]
  simp only [Option.bind_some, List.map_cons, getF_l0]
end
end QQ

namespace QQ
open PP WK
/-! ### wide scopes -/
section
variable {sc : List (List Int)} {ed : List (Int × Int)} {d : PV}
theorem treed_ok (hs : seqOf d = some (sc.map tI)) (hl : lenF [d] = some (.int (sc.length : Nat))) (hn : 1 ≤ sc.length ∧ sc.length ≤ 4) (he : ed.length ≤ 10) : m_is_tree d (edP ed) = some (.bl (treeB sc.length ed)) := by
  unfold m_is_tree treeB
  have hh := hang_ok (ndZ sc.length) ed (by simp [ndZ]; omega) he
  have hz : (ndZ sc.length).length = sc.length := by simp [ndZ]
  simp only [hang_same, hl, lenF_tup, List.length_map, Option.bind_some, subF_int, eqF_int, rgO1_nat (show sc.length ≤ 16777216 by omega), rgL_nat, ndZ_rg, hh, lenF_lst, hz]
  by_cases h : (ed.length : Int) = (sc.length : Int) - 1
  · rw [decide_eq_true h]; rfl
  · rw [decide_eq_false h]; rfl
theorem makesd_ok (hs : seqOf d = some (sc.map tI)) (hl : lenF [d] = some (.int (sc.length : Nat))) (hn : 1 ≤ sc.length ∧ sc.length ≤ 4) (he : ed.length ≤ 10) : m_makes d (edP ed) = some (.bl (makesB sc ed)) := by
  unfold m_makes makesB
  simp only [treed_ok hs hl hn he, Option.bind_some, truthF_bl]
  cases treeB sc.length ed with
  | false => rfl
  | true =>
    simp only [Bool.not_true, Bool.false_eq_true, if_false, Bool.true_and, addF_int, Option.bind_some]
    rw [show rgO1 (.int (5 + 1)) = some (0, ((6 : Nat) : Int)) from rgO1_nat (by decide)]
    simp only [Option.bind_some, rgL_nat]
    exact all_loop (p := fun x => hangB (hav sc x) ed) fun x hx => by
      have en : enF d = some ((List.range sc.length).map fun i : Nat => .tup [.int (i : Int), tI (scA sc i)]) := by
        show (seqOf d).map (enP 0) = _
        rw [hs]
        show some (enP 0 (sc.map tI)) = _
        rw [enP_map sc sc 0 rfl, List.range_eq_range']
      rw [en]
      simp only [Option.bind_some]
      rw [cmpG_map (p := fun i => decide ((x : Int) ∈ scA sc i)) (h := fun i : Nat => PV.int (i : Int)) fun i hi => by
        simp only [un2_t, Option.bind_some, inF_t, asBl_ev]]
      have e : ((List.range sc.length).filter fun i => decide ((x : Int) ∈ scA sc i)).map (fun i : Nat => PV.int (i : Int)) = (hav sc x).map PV.int := by unfold hav; rw [List.map_map]; rfl
      rw [e]
      simp only [Option.bind_some, hang_same, hang_ok (hav sc x) ed (hav_len _ hn.2) he, truthF_bl]
      cases hangB (hav sc x) ed <;> rfl
end
def widN (sc : List (List Int)) (L : List (Int × Int)) (i : Nat) : List Int := scA sc i ++ (L.filter fun p => decide (p.1 = (i : Int))).map (·.2)
def wideL (sc : List (List Int)) (L : List (Int × Int)) : List (List Int) := (List.range sc.length).map (widN sc L)
theorem wide_len (sc : List (List Int)) (L : List (Int × Int)) : (wideL sc L).length = sc.length := by simp [wideL]
theorem wide_at (sc : List (List Int)) (L : List (Int × Int)) {i : Nat} (h : i < sc.length) : scA (wideL sc L) i = widN sc L i := by
  unfold scA wideL
  rw [List.getD_eq_getElem?_getD, List.getElem?_map, List.getElem?_range h]
  rfl
theorem hav_wide (sc : List (List Int)) (L : List (Int × Int)) (x : Int) : hav (wideL sc L) x = ((List.range sc.length).filter fun i => decide (x ∈ scA sc i) || decide (((i : Int), x) ∈ L)).map fun i : Nat => (i : Int) := by
  unfold hav
  rw [wide_len]
  congr 1
  apply List.filter_congr
  intro i hi
  rw [wide_at sc L (List.mem_range.mp hi), ← Bool.decide_or, decide_eq_decide]
  unfold widN
  rw [List.mem_append, List.mem_map]
  constructor
  · rintro (h | ⟨p, hp, rfl⟩)
    · exact .inl h
    · obtain ⟨h1, h2⟩ := List.mem_filter.mp hp
      rw [decide_eq_true_eq] at h2
      exact .inr (by rw [← h2]; exact h1)
  · rintro (h | h)
    · exact .inl h
    · exact .inr ⟨_, List.mem_filter.mpr ⟨h, by simp⟩, rfl⟩
/-- additions that may be asked for -/
structure OkA (sc : List (List Int)) (L : List (Int × Int)) : Prop where
  bnd : ∀ p ∈ L, 0 ≤ p.1 ∧ p.1 < sc.length ∧ 0 ≤ p.2 ∧ p.2 < 6 ∧ p.2 ∉ scA sc p.1.toNat
  asc : L.Pairwise lt2
  len : L.length ≤ 100
section
variable {sc : List (List Int)} {ed L : List (Int × Int)}
theorem pairsA_ok (hn : 1 ≤ sc.length ∧ sc.length ≤ 4) (hL : OkA sc L) : m_are_pairs (edP L) (.int ((sc.length : Int) - 1)) (.int 5) = some (.bl true) := by
  have hl := hL.len
  have c := climb_ok (edP L) (L.map pE) rfl (by simp; omega) (fun i x y hx hy => pw_at hL.asc (fun a b h => lt_pE a b h) i x y hx hy)
  unfold m_is_climbing at c
  unfold m_are_pairs
  simp only [isTy_tt, truthF_bl, Option.bind_some, Bool.not_true, Bool.false_eq_true, if_false, seqOf_tup]
  rw [fldR_all fun p hp => by
    obtain ⟨b1, b2, b3, b4, _⟩ := hL.bnd p hp
    have a1 : p.1 ≤ (sc.length : Int) - 1 := by omega
    have a2 : p.2 ≤ 5 := by omega
    simp [whole_ok, b1, a1, a2, b3]]
  simp only [Option.bind_some, mSum_inl]
  exact c
theorem accepts_ok (hn : 1 ≤ sc.length ∧ sc.length ≤ 4) (ho : ∀ l ∈ sc, OkS l) (he : ed.Sublist (pairsL sc.length)) (hL : OkA sc L) : m_accepts_additions (scP sc) (edP ed) (edP L) = some (.bl (makesB (wideL sc L) ed)) := by
  have hl6 := (pairs_good _ hn).2.2
  have hel := he.length_le
  unfold m_accepts_additions
  simp only [edges_chk hn ho he, lenF_tup, List.length_map, Option.bind_some, subF_int, pairsA_ok hn hL, truthF_bl, Bool.not_true, Bool.false_eq_true, if_false, seqOf_tup]
  rw [cmpM_map (h := fun _ => PV.bl false) fun p hp => by
    obtain ⟨b1, b2, b3, b4, b5⟩ := hL.bnd p hp
    obtain ⟨j, hj⟩ : ∃ j : Nat, p.1 = j := ⟨p.1.toNat, by omega⟩
    rw [hj, Int.toNat_natCast] at b5
    simp only [pE_u, Option.bind_some, hj]
    rw [sc_at (by omega)]
    simp only [Option.bind_some, inF_t, decide_eq_false b5]]
  simp only [Option.bind_some, anyF_map (fun _ => false)]
  rw [show (L.any fun _ => false) = false by induction L <;> simp]
  simp only [truthF_bl, Option.bind_some, Bool.false_eq_true, if_false]
  have en : enF (scP sc) = some ((List.range sc.length).map fun i : Nat => .tup [.int (i : Int), tI (scA sc i)]) := by
    show some (enP 0 (sc.map tI)) = _
    rw [enP_map sc sc 0 rfl, List.range_eq_range']
  rw [en]
  simp only [Option.bind_some]
  rw [show PV.lst [] = PV.lst (([] : List (List Int)).map tI) from rfl]
  rw [(fldM_map (E := fun W : List (List Int) => PV.lst (W.map tI)) (g := fun i : Nat => PV.tup [.int (i : Int), tI (scA sc i)]) (k := fun W i => W ++ [widN sc L i]) (fun q W => W.length ≤ q) (List.range sc.length) 0 [] (fun q W i hi _ hq hI => by
    have hi := List.mem_range.mp hi
    have hq4 : q < 4 := by simp at hq; omega
    have hca := (ho _ (scA_mem hi)).2.2
    have hfl := List.length_filter_le (fun p : Int × Int => decide (p.1 = (i : Int))) L
    have hLl := hL.len
    refine ⟨?_, by rw [List.length_append, List.length_singleton]; omega⟩
    simp only [un2_t, Option.bind_some, asL_l, seqOf_tup]
    rw [cmpG_map (p := fun p : Int × Int => decide (p.1 = (i : Int))) (h := fun p => PV.int p.2) fun p _ => by simp]
    simp only [Option.bind_some, tupleF_lst]
    rw [addT_ok _ _ (by rw [List.length_map, List.length_map]; omega)]
    have ha := appendF_ok (W.map tI) (tI (widN sc L i)) (by rw [List.length_map]; omega)
    have hw : (.tup ((scA sc i).map PV.int ++ (L.filter fun p => decide (p.1 = (i : Int))).map fun p => PV.int p.2) : PV) = tI (widN sc L i) := by
      unfold widN tI
      rw [List.map_append, List.map_map]; rfl
    simp only [Option.bind_some, hw, ha, List.map_append, List.map_cons, List.map_nil]) (by simp)).1]
  have hf : (List.range sc.length).foldl (fun W i => W ++ [widN sc L i]) [] = wideL sc L := by
    rw [foldl_flat (fun i => [widN sc L i])]
    unfold wideL
    rw [List.nil_append]
    induction List.range sc.length with
    | nil => rfl
    | cons a l ih => rw [List.flatMap_cons, ih]; rfl
  rw [hf]
  simp only [Option.bind_some]
  rw [makesd_ok (sc := wideL sc L) rfl (by simp) (by rw [wide_len]; exact hn) (by omega)]
  rfl
end
end QQ

namespace QQ
open PP WK
/-! ### the told additions close all variables, and none can be left out -/
def closeL (n : Nat) (ed : List (Int × Int)) (U : List Int) : List Int := ((List.range n).filter fun i : Nat => decide ((i : Int) ∈ U) || lackB ed U i).map fun i : Nat => (i : Int)
def holeL (n : Nat) (ed : List (Int × Int)) (U : List Int) (j : Nat) : List Int := ((List.range n).filter fun i : Nat => decide ((i : Int) ∈ U) || (lackB ed U i && !decide (i = j))).map fun i : Nat => (i : Int)
theorem close_hang (n : Nat) (h : 1 ≤ n ∧ n ≤ 4) : ∀ ed ∈ treesL n, ∀ U ∈ subs (ndZ n), hangB (closeL n ed U) ed = true := by
  have key : (treesL n).all (fun ed => (subs (ndZ n)).all fun U => hangB (closeL n ed U) ed) = true := by
    have : n = 1 ∨ n = 2 ∨ n = 3 ∨ n = 4 := by omega
    rcases this with rfl | rfl | rfl | rfl <;> kernel_rfl
  intro ed he U hU
  rw [List.all_eq_true] at key
  have k := key ed he
  rw [List.all_eq_true] at k
  exact k U hU
theorem hole_hang (n : Nat) (h : 1 ≤ n ∧ n ≤ 4) : ∀ ed ∈ treesL n, ∀ U ∈ subs (ndZ n), ∀ j < n, lackB ed U j = true → hangB (holeL n ed U j) ed = false := by
  have key : (treesL n).all (fun ed => (subs (ndZ n)).all fun U => (List.range n).all fun j => !lackB ed U j || !hangB (holeL n ed U j) ed) = true := by
    have : n = 1 ∨ n = 2 ∨ n = 3 ∨ n = 4 := by omega
    rcases this with rfl | rfl | rfl | rfl <;> kernel_rfl
  intro ed he U hU j hj hl
  rw [List.all_eq_true] at key
  have k := key ed he
  rw [List.all_eq_true] at k
  have k := k U hU
  rw [List.all_eq_true] at k
  have k := k j (List.mem_range.mpr hj)
  rw [hl] at k
  simpa using k
section
variable {sc : List (List Int)} {ed L : List (Int × Int)}
theorem add_at {i x : Nat} (hi : i < sc.length) (hx : x < 6) : ((i : Int), (x : Int)) ∈ addL sc ed ↔ lackB ed (hav sc (x : Int)) i = true := by
  rw [add_mem]
  constructor
  · rintro ⟨a, _, b, _, h, e⟩
    have e1 : i = a := by have : (i : Int) = (a : Int) := congrArg Prod.fst e; omega
    have e2 : x = b := by have : (x : Int) = (b : Int) := congrArg Prod.snd e; omega
    subst e1 e2
    exact h
  · intro h; exact ⟨i, hi, x, hx, h, rfl⟩
theorem add_ok (hn : 1 ≤ sc.length ∧ sc.length ≤ 4) : OkA sc (addL sc ed) := by
  refine ⟨?_, add_asc, ?_⟩
  · intro p hp
    obtain ⟨i, hi, x, hx, h, rfl⟩ := add_mem.mp hp
    refine ⟨by show (0 : Int) ≤ (i : Int); omega, by show (i : Int) < _; omega, by show (0 : Int) ≤ (x : Int); omega, by show (x : Int) < 6; omega, fun z => ?_⟩
    unfold lackB at h
    rw [Bool.and_eq_true, Bool.not_eq_true', decide_eq_false_iff_not] at h
    exact h.1 ((hav_mem (sc := sc) (x : Int) (o := (i : Int)) (by omega) (by omega)).mpr z)
  · have key : ∀ l : List Nat, (l.flatMap fun node => ((List.range 6).filter fun x : Nat => lackB ed (hav sc (x : Int)) node).map fun x : Nat => ((node : Int), (x : Int))).length ≤ 6 * l.length := by
      intro l
      induction l with
      | nil => simp
      | cons a l ih =>
        have h6 := List.length_filter_le (fun x : Nat => lackB ed (hav sc (x : Int)) a) (List.range 6)
        rw [List.length_range] at h6
        rw [List.flatMap_cons, List.length_append, List.length_map, List.length_cons]
        omega
    have := key (List.range sc.length)
    rw [List.length_range] at this
    unfold addL
    omega
theorem OkA.sub {M : List (Int × Int)} (h : OkA sc L) (hs : M.Sublist L) : OkA sc M := ⟨fun p hp => h.bnd p (hs.subset hp), h.asc.sublist hs, Nat.le_trans hs.length_le h.len⟩
theorem tree_of (he : ed ∈ treesL sc.length) : treeB sc.length ed = true := (List.mem_filter.mp he).2
theorem in_hav {i : Nat} (hi : i < sc.length) (x : Int) : decide (x ∈ scA sc i) = decide ((i : Int) ∈ hav sc x) := by
  rw [decide_eq_decide]
  have := hav_mem (sc := sc) x (o := (i : Int)) (by omega) (by omega)
  rw [Int.toNat_natCast] at this
  exact this.symm
theorem makes_all (hn : 1 ≤ sc.length ∧ sc.length ≤ 4) (he : ed ∈ treesL sc.length) : makesB (wideL sc (addL sc ed)) ed = true := by
  unfold makesB
  rw [wide_len, tree_of he, Bool.true_and, List.all_eq_true]
  intro x hx
  have hx := List.mem_range.mp hx
  rw [hav_wide]
  have e : (List.range sc.length).filter (fun i : Nat => decide ((x : Int) ∈ scA sc i) || decide (((i : Int), (x : Int)) ∈ addL sc ed)) = (List.range sc.length).filter fun i : Nat => decide ((i : Int) ∈ hav sc (x : Int)) || lackB ed (hav sc (x : Int)) i := by
    apply List.filter_congr
    intro i hi
    have hi := List.mem_range.mp hi
    rw [in_hav hi]
    congr 1
    rw [Bool.eq_iff_iff, decide_eq_true_eq]
    exact add_at hi hx
  rw [e]
  exact close_hang sc.length hn ed he _ (hav_subs _)
theorem makes_hole (hn : 1 ≤ sc.length ∧ sc.length ≤ 4) (he : ed ∈ treesL sc.length) {k : Nat} (hk : k < (addL sc ed).length) : makesB (wideL sc ((addL sc ed).take k ++ (addL sc ed).drop (k + 1))) ed = false := by
  have hm : (addL sc ed)[k] ∈ addL sc ed := List.getElem_mem hk
  obtain ⟨j, hj, x, hx, hl, e⟩ := add_mem.mp hm
  have nd : (addL sc ed).Nodup := List.nodup_iff_pairwise_ne.mpr (add_asc.imp fun {p q} h => lt2_irr h)
  have mem : ∀ p, p ∈ (addL sc ed).take k ++ (addL sc ed).drop (k + 1) ↔ p ∈ addL sc ed ∧ p ≠ ((j : Int), (x : Int)) := by
    have es : addL sc ed = (addL sc ed).take k ++ ((j : Int), (x : Int)) :: (addL sc ed).drop (k + 1) := by
      conv => lhs; rw [← List.take_append_drop k (addL sc ed), List.drop_eq_getElem_cons hk, e]
    intro p
    generalize (addL sc ed).take k = A at es
    generalize (addL sc ed).drop (k + 1) = B at es
    rw [es] at nd ⊢
    rw [List.nodup_append, List.nodup_cons] at nd
    obtain ⟨_, ⟨n1, _⟩, n2⟩ := nd
    rw [List.mem_append, List.mem_append, List.mem_cons]
    constructor
    · rintro (h | h)
      · exact ⟨.inl h, fun z => n2 p h p (by rw [z]; exact List.mem_cons_self) rfl⟩
      · exact ⟨.inr (.inr h), fun z => n1 (z ▸ h)⟩
    · rintro ⟨h | h | h, ne⟩
      · exact .inl h
      · exact absurd h ne
      · exact .inr h
  generalize (addL sc ed).take k ++ (addL sc ed).drop (k + 1) = M at mem
  unfold makesB
  rw [wide_len, tree_of he, Bool.true_and, List.all_eq_false]
  refine ⟨x, List.mem_range.mpr hx, ?_⟩
  rw [hav_wide]
  have e2 : (List.range sc.length).filter (fun i : Nat => decide ((x : Int) ∈ scA sc i) || decide (((i : Int), (x : Int)) ∈ M)) = (List.range sc.length).filter fun i : Nat => decide ((i : Int) ∈ hav sc (x : Int)) || (lackB ed (hav sc (x : Int)) i && !decide (i = j)) := by
    apply List.filter_congr
    intro i hi
    have hi := List.mem_range.mp hi
    rw [in_hav hi]
    congr 1
    rw [Bool.eq_iff_iff, decide_eq_true_eq, mem, add_at hi hx, Bool.and_eq_true, Bool.not_eq_true', decide_eq_false_iff_not]
    constructor
    · rintro ⟨h1, h2⟩; exact ⟨h1, fun z => h2 (by rw [z])⟩
    · rintro ⟨h1, h2⟩; exact ⟨h1, fun z => h2 (by have : (i : Int) = (j : Int) := congrArg Prod.fst z; omega)⟩
  rw [e2, show ((List.range sc.length).filter fun i : Nat => decide ((i : Int) ∈ hav sc (x : Int)) || (lackB ed (hav sc (x : Int)) i && !decide (i = j))).map (fun i : Nat => (i : Int)) = holeL sc.length ed (hav sc (x : Int)) j from rfl]
  rw [hole_hang sc.length hn ed he _ (hav_subs _) j hj hl]
  simp
end
end QQ

namespace QQ
open PP WK
theorem tp_eval (n : Nat) (h : 1 ≤ n ∧ n ≤ 4) : ((rgO1 (.int (n : Int))).bind fun r4 => (cmpB (fun (x2 : PV) => (addF x2 (.int 1)).bind fun t5 => (rgO2 t5 (.int (n : Int))).bind fun r6 => cmpM (fun (x3 : PV) => some (.tup [x2, x3])) (rgL r6)) (rgL r4)).bind fun ys => (mLim ys).bind fun zs => some zs) = some ((pairsL n).map pE) := by
  have : n = 1 ∨ n = 2 ∨ n = 3 ∨ n = 4 := by omega
  rcases this with rfl | rfl | rfl | rfl <;> kernel_rfl
section
variable {sc : List (List Int)}
theorem trees_ok (hn : 1 ≤ sc.length ∧ sc.length ≤ 4) : m_trees_of (scP sc) = some (.lst ((treesL sc.length).map edP)) := by
  unfold m_trees_of
  simp only [lenF_tup, List.length_map, Option.bind_some]
  rw [tp_eval _ hn]
  simp only [Option.bind_some, subF_int]
  rw [comb_ok _ hn]
  simp only [Option.bind_some]
  rw [cmpG_map (p := treeB sc.length) (h := edP) fun s hs => by
    have hl := (sets_sub _ hn s hs).2
    rw [tree_ok hn (by omega)]
    simp only [Option.bind_some, truthF_bl]]
  rfl
theorem told_ok (hn : 1 ≤ sc.length ∧ sc.length ≤ 4) (ho : ∀ l ∈ sc, OkS l) {f : Int} {ed : List (Int × Int)} {r : List (List (Int × Int))} (h1 : minF [.lst ((treesL sc.length).map fun ed => PV.int (lenA sc ed))] = some (.int f)) (h2 : (treesL sc.length).filter (fun ed => decide (lenA sc ed = f)) = ed :: r) : m_told_tree (scP sc) = some (rowT sc ed) := by
  unfold m_told_tree
  simp only [scopes_chk ⟨hn.1, by omega⟩ ho, trees_ok hn, Option.bind_some, seqOf_lst]
  rw [cmpM_map (h := rowT sc) fun e he => by
    rw [additions_ok hn he]
    rfl]
  simp only [Option.bind_some]
  exact tail_ok h1 h2 fun t => some t
theorem row_eq {ed : List (Int × Int)} (h1 : ed.length ≤ 1000) (h2 : (addL sc ed).length ≤ 1000) : m__law_equal__4 (rowT sc ed) (rowT sc ed) = some (.bl true) := eq_tup4 (xs := [edP ed, edP (addL sc ed)]) (by simp) (by
  intro x hx
  rcases List.mem_cons.mp hx with rfl | hx
  · exact eq_ed3 _ h1
  · rw [List.mem_singleton.mp hx]; exact eq_ed3 _ h2)
/-- the law's rows -/
theorem lrows_ok (hn : 1 ≤ sc.length ∧ sc.length ≤ 4) (ho : ∀ l ∈ sc, OkS l) : fldM (fun (w4 : PV) (x3 : PV) => ((m__law_is_tree (scP sc) x3).bind fun (t8 : PV) => (truthF t8).bind fun b9 => if b9 = true then (asL w4).bind fun _ => (m__law_additions (scP sc) x3).bind fun (t10 : PV) => (asL w4).bind fun l11 => (appendF l11 [(.tup [x3, t10])]).bind fun (z12 : PV × List PV) => some (.lst z12.2) else some w4).bind fun (k13 : PV) => some k13) ((setsL sc.length).map edP) (.lst []) = some (.lst ((treesL sc.length).map (rowT sc))) := by
  have key : ∀ (l : List (List (Int × Int))) (acc : List (List (Int × Int))), (∀ s ∈ l, s ∈ setsL sc.length) → acc.length + l.length ≤ 1000 → fldM (fun (w4 : PV) (x3 : PV) => ((m__law_is_tree (scP sc) x3).bind fun (t8 : PV) => (truthF t8).bind fun b9 => if b9 = true then (asL w4).bind fun _ => (m__law_additions (scP sc) x3).bind fun (t10 : PV) => (asL w4).bind fun l11 => (appendF l11 [(.tup [x3, t10])]).bind fun (z12 : PV × List PV) => some (.lst z12.2) else some w4).bind fun (k13 : PV) => some k13) (l.map edP) (.lst (acc.map (rowT sc))) = some (.lst ((acc ++ l.filter (treeB sc.length)).map (rowT sc))) := by
    intro l
    induction l with
    | nil => intro acc _ _; simp [fldM]
    | cons s l ih =>
      intro acc hs hl
      rw [List.length_cons] at hl
      have hin := hs s List.mem_cons_self
      have hln := (sets_sub _ hn s hin).2
      rw [List.map_cons, fldM, ltree_ok hn (show s.length ≤ 10 by omega)]
      simp only [Option.bind_some, truthF_bl]
      cases ht : treeB sc.length s with
      | false =>
        rw [if_neg (by simp), Option.bind_some, Option.bind_some, ih acc (fun q hq => hs q (List.mem_cons_of_mem _ hq)) (by omega), List.filter_cons_of_neg (by simp [ht])]
      | true =>
        have hmem : s ∈ treesL sc.length := List.mem_filter.mpr ⟨hin, ht⟩
        have ha := appendF_ok (acc.map (rowT sc)) (rowT sc s) (by rw [List.length_map]; omega)
        rw [if_pos rfl, laddL_ok hn ho hmem]
        simp only [asL_l, Option.bind_some]
        rw [show (.tup [edP s, edP (addL sc s)] : PV) = rowT sc s from rfl, ha]
        simp only [Option.bind_some]
        have := ih (acc ++ [s]) (fun q hq => hs q (List.mem_cons_of_mem _ hq)) (by rw [List.length_append, List.length_singleton]; omega)
        rw [List.map_append, List.map_cons, List.map_nil] at this
        rw [this, List.filter_cons_of_pos ht, List.append_assoc, List.singleton_append]
  have h20 : (setsL sc.length).length ≤ 20 := by
    have : sc.length = 1 ∨ sc.length = 2 ∨ sc.length = 3 ∨ sc.length = 4 := by omega
    rcases this with e | e | e | e <;> rw [e] <;> decide +kernel
  exact key (setsL sc.length) [] (fun s h => h) (by simp; omega)
end
theorem m_ok (ns : List Int) : Ok (m_law (.lst (ns.map PV.int))) fun r => r = .bl true := by
  unfold m_law
  refine Ok.bind (Ok.of (stream_ok ns) ?_)
  refine Ok.then (scopes_ok ⟨ns, 0, 0, by decide⟩ 4 (by decide) 4 (by decide)) ?_
  rintro _ ⟨sc, s, rfl, hn1, hn4, ho, _⟩
  have hn : 1 ≤ sc.length ∧ sc.length ≤ 4 := ⟨hn1, hn4⟩
  obtain ⟨f, ed, r, he, h1, h2⟩ := pick_ok hn
  have hsub := (trees_sub hn he).1
  have hel := (trees_sub hn he).2
  have hA := add_ok (ed := ed) hn
  have hAl := hA.len
  simp -implicitDefEqProofs only [lenF_tup, List.length_map, Option.bind_some, sets_ok _ hn, seqOf_lst]
  rw [lrows_ok hn ho]
  simp -implicitDefEqProofs only [Option.bind_some]
  have tl := tail_ok (sc := sc) h1 h2 (β := PV)
  refine Ok.of (v := .bl true) ?_ rfl
  simp -implicitDefEqProofs only [seqOf_lst, Option.bind_some] at tl
  refine (tl _).trans ?_
  simp -implicitDefEqProofs only [told_ok hn ho h1 h2, Option.bind_some, row_eq (sc := sc) (ed := ed) (by omega) (by omega), truthF_bl, Bool.not_true, Bool.false_eq_true, if_false]
  have g0 : getF (rowT sc ed) (.int 0) = some (edP ed) := getF_t0 _ _
  have g1 : getF (rowT sc ed) (.int 1) = some (edP (addL sc ed)) := getF_t1 _ _ _
  simp -implicitDefEqProofs only [g0, g1, Option.bind_some, accepts_ok hn ho hsub hA, makes_all hn he]
  rw [show notBF (.bl true) (.bl true) = some (.bl false) from rfl]
  simp -implicitDefEqProofs only [Option.bind_some, asBl_ev, Bool.false_eq_true, if_false, lenF_tup, List.length_map]
  rw [rgO1_nat (by omega)]
  simp -implicitDefEqProofs only [Option.bind_some, rgL_nat]
  rw [show rgN (addL sc ed).length = (List.range (addL sc ed).length).map fun i : Nat => PV.int (i : Int) from rfl]
  rw [fldR_all fun k hk => by
    have hk := List.mem_range.mp hk
    simp -implicitDefEqProofs only [asI_i, Option.bind_some, slice_to hk, addF_int]
    rw [show ((k : Int) + 1) = ((k + 1 : Nat) : Int) by omega, slice_from (f := pE) (xs := addL sc ed) (by omega) hk]
    simp -implicitDefEqProofs only [Option.bind_some]
    rw [addT_ok _ _ (by rw [List.length_map, List.length_map, List.length_take, List.length_drop]; omega), ← List.map_append]
    simp -implicitDefEqProofs only [Option.bind_some]
    have hs2 : ((addL sc ed).take k ++ (addL sc ed).drop (k + 1)).Sublist (addL sc ed) := by
      conv => rhs; rw [← List.take_append_drop k (addL sc ed)]
      exact List.Sublist.append (List.Sublist.refl _) (by rw [List.drop_eq_getElem_cons hk]; exact (List.Sublist.refl _).cons _)
    rw [show (.tup (((addL sc ed).take k ++ (addL sc ed).drop (k + 1)).map pE) : PV) = edP ((addL sc ed).take k ++ (addL sc ed).drop (k + 1)) from rfl, accepts_ok hn ho hsub (hA.sub hs2), makes_hole hn he hk]
    rfl]
  rfl
theorem plain (ns : List Int) (hns : ns.length ≤ 63) : ∃ ws, s_law [.lst (ns.map PV.int)] = some (.bl true, ws) := by
  obtain ⟨r, e, rfl⟩ := m_ok ns
  exact ⟨_, by rw [q_law, e]; rfl⟩
end QQ

namespace WK
open PySem PySem.Spec PyProof.Rows L2 PP
def top (i : Nat) : Stmt := PySem.Challenge.pw_tabletalk_k52_whole_told_trees.main.body.getD i (.Pass ⟨0, 0, 0, 0⟩)
def FREE : List Str := ["len", "abs", "all", "any", "sum", "min", "max", "sorted", "isinstance", "int", "tuple", "list", "bool", "str", "range", "zip", "enumerate", "set"]
def INTS : List (Str × Int) := [("MOST_VARIABLE_tables", 5), ("WIDEST_SCOPE", 3), ("MOST_NODES", 5), ("MOST_VARIABLE_edges", 5)]
/-! _law_stream -/
def N__law_stream : List Str := ["_law_script"]
def e__law_stream : Expr := match defBody (top 29) with | [.Return (some e) _] => e | _ => .Constant .none 0 ⟨0, 0, 0, 0⟩
theorem b__law_stream {X : Cx} (c : Cn X N__law_stream (defScope (top 29)).names (defScope (top 29)).names 0) (g : GF X.mg FREE INTS) : VF X (e__law_stream) d__law_stream := by
  have v1_0 := fun pos => c.var (i := 0) (x := ("_law_script" : Str)) (by decide +kernel) pos
  have b1_list := c.bi g (x := ("list" : Str)) (v := .type "list") (by decide +kernel)
  exact (vf_lst (by decide) (va_cons rfl (b1_list.appTy cr_listF rfl (vab_d rfl (ve_var (v1_0 _)) vab_nil)) (va_cons rfl pe_iv (va_cons rfl pe_iv va_nil))))
/-! _law_next -/
def N__law_next : List Str := ["_law_stream_here", "_law_many", "_law_k", "_law_cell", "_law_digit"]
theorem b__law_next {X : Cx} (c : Cn X N__law_next (defScope (top 30)).names (defScope (top 30)).names 0) (g : GF X.mg FREE INTS) : VSs X [0] (defBody (top 30)) d__law_next := by
  have v1_0 := fun pos => c.var (i := 0) (x := ("_law_stream_here" : Str)) (by decide +kernel) pos
  have v1_2 := fun pos => c.var (i := 2) (x := ("_law_k" : Str)) (by decide +kernel) pos
  have v1_3 := fun pos => c.var (i := 3) (x := ("_law_cell" : Str)) (by decide +kernel) pos
  have v1_1 := fun pos => c.var (i := 1) (x := ("_law_many" : Str)) (by decide +kernel) pos
  have v1_4 := fun pos => c.var (i := 4) (x := ("_law_digit" : Str)) (by decide +kernel) pos
  have b1_len := c.bi g (x := ("len" : Str)) (v := .builtin "len") (by decide +kernel)
  have b1_abs := c.bi g (x := ("abs" : Str)) (v := .builtin "abs") (by decide +kernel)
  have b1_int := c.bi g (x := ("int" : Str)) (v := .type "int") (by decide +kernel)
  exact (vss_cons (vs_post [2, 3] (vs_if (vt_cmp (op_eqF c.hu64) rfl (ve_subL c.hu1 (plainIx trivial) (v1_0 _) pe_iv) pe_iv) (vss_cons (c.set (by decide) (by decide +kernel) (ve_subL c.hu1 (plainIx trivial) (v1_0 _) pe_iv) rfl) (vss_cons (c.set (by decide) (by decide +kernel) (ve_bin op_addF pe_iv (ve_var (v1_2 _))) rfl) (vss_cons (vs_if (vt_cmp (op_ltF c.hu0) rfl (ve_var (v1_2 _)) (b1_len.app cr_lenF rfl (vab_d rfl (ve_subL c.hu1 (plainIx trivial) (v1_0 _) pe_iv) vab_nil))) (vss_cons (c.set (by decide) (by decide +kernel) (b1_abs.app cr_absF rfl (vab_d rfl (ve_sub c.hu1 (plainIx trivial) (ve_subL c.hu1 (plainIx trivial) (v1_0 _) pe_iv) (ve_var (v1_2 _))) vab_nil)) rfl) vss_nil) vss_nil) (vss_cons (vs_if (vt_cmp (op_ltF c.hu0) rfl (ve_var (v1_3 _)) (ve_bin op_powF pe_iv pe_iv)) (vss_cons (c.set (by decide) (by decide +kernel) (ve_bin op_modF (b1_int.appTy cr_intTF rfl (vab_d rfl (ve_bin op_addF (ve_bin op_addF (ve_bin op_mulF (ve_var (v1_3 _)) pe_iv) (ve_bin op_mulF (ve_var (v1_2 _)) pe_iv)) pe_iv) vab_nil)) pe_iv) rfl) (vss_cons (c.set (by decide) (by decide +kernel) (ve_bin op_addF (ve_bin op_mulF (ve_bin op_modF (b1_int.appTy cr_intTF rfl (vab_d rfl (ve_bin op_addF (ve_bin op_mulF (ve_var (v1_3 _)) pe_iv) pe_iv) vab_nil)) pe_iv) pe_iv) (ve_var (v1_3 _))) rfl) vss_nil)) vss_nil) (vss_cons (vs_store c.hu1 (v1_0 _) pe_iv (ve_var (v1_3 _)) rfl rfl rfl (fun _ => rfl)) (vss_cons (vs_store c.hu1 (v1_0 _) pe_iv (ve_bin op_addF (ve_var (v1_2 _)) pe_iv) rfl rfl rfl (fun _ => rfl)) vss_nil)))))) vss_nil)) (vss_cons (c.set (by decide) (by decide +kernel) (ve_bin op_modF (b1_int.appTy cr_intTF rfl (vab_d rfl (ve_subL c.hu1 (plainIx trivial) (v1_0 _) pe_iv) vab_nil)) (ve_var (v1_1 _))) rfl) (vss_cons (vs_store c.hu1 (v1_0 _) pe_iv (ve_bin op_divF (ve_subL c.hu1 (plainIx trivial) (v1_0 _) pe_iv) (ve_var (v1_1 _))) rfl rfl rfl (fun _ => rfl)) (vss_cons (vs_retK [1, 2, 3, 4] (ve_var (v1_4 _))) vss_nil))))
/-! _law_scopes -/
def N__law_scopes : List Str := ["_law_stream_here", "_law_most", "_law_variables", "_law_found", "_law_node", "_law_scope", "_law_variable"]
theorem b__law_scopes {X : Cx} (c : Cn X N__law_scopes (defScope (top 33)).names (defScope (top 33)).names 1) (g : GF X.mg FREE INTS) (f__law_next : FavX X 1 "_law_next" 2 [true] s__law_next) : VSs X [0] (defBody (top 33)) d__law_scopes := by
  have v1_0 := fun pos => c.var (i := 0) (x := ("_law_stream_here" : Str)) (by decide +kernel) pos
  have v1_1 := fun pos => c.var (i := 1) (x := ("_law_most" : Str)) (by decide +kernel) pos
  have v1_2 := fun pos => c.var (i := 2) (x := ("_law_variables" : Str)) (by decide +kernel) pos
  have v1_5 := fun pos => c.var (i := 5) (x := ("_law_scope" : Str)) (by decide +kernel) pos
  have v1_3 := fun pos => c.var (i := 3) (x := ("_law_found" : Str)) (by decide +kernel) pos
  have b1_range := c.bi g (x := ("range" : Str)) (v := .type "range") (by decide +kernel)
  have b1_tuple := c.bi g (x := ("tuple" : Str)) (v := .type "tuple") (by decide +kernel)
  have t1_4 := fun pos => c.tgt (i := 4) (x := ("_law_node" : Str)) (by decide +kernel) pos
  exact (vss_cons (c.ownF (by decide) (by decide +kernel) (vf_lst (by decide) va_nil) rfl) (vss_cons (vs_for c.xe c.calm (refs_tgt (by decide)) (b1_range.range1 rfl (ve_bin op_addF pe_iv (c.call f__law_next (by decide) (by decide +kernel) rfl (by rfl) (by decide) (by rfl) (vc_b rfl (v1_0 _) (vc_d rfl (ve_var (v1_1 _)) vc_nil))))) (t1_4 _) (vss_post [4, 5] (vss_cons (vs_fz 5 (c.ownLc (by decide) (by decide +kernel) (by decide +kernel) (by decide +kernel) (c.lc (own := [(("_law_variable" : Str), 6)]) (b1_range.range1 rfl (ve_var (v1_2 _))) (by decide +kernel) rfl (by decide) (fun _ => rfl) (fun _ _ _ _ _ c2 => by (have v2_0 := fun pos => c2.var (i := 0) (x := ("_law_stream_here" : Str)) (by decide +kernel) pos; have v2_6 := fun pos => c2.var (i := 6) (x := ("_law_variable" : Str)) (by decide +kernel) pos; have t2_6 := fun pos => c2.tgt (i := 6) (x := ("_law_variable" : Str)) (by decide +kernel) pos; exact ⟨(t2_6 _), (vts_one (vt_cmp (op_eqF c2.hu64) rfl (c2.call f__law_next (by decide) (by decide +kernel) rfl (by rfl) (by decide) (by rfl) (vc_b rfl (v2_0 _) (vc_d rfl pe_iv vc_nil))) pe_iv)), (ve_var (v2_6 _))⟩))))) (vss_cons (vs_drop rfl (ve_mut mm_append (mcall rfl rfl (by decide) (by decide +kernel)) (v1_3 _) (va_cons rfl (b1_tuple.appTy cr_tupleF rfl (vab_d rfl (ve_slice (.d (ve_var (v1_5 _))) vo_none (vo_some pe_iv)) vab_nil)) va_nil))) vss_nil))) (fun _ => rfl)) (vss_cons (vs_retK [1, 2, 3, 4, 5, 6] (b1_tuple.appTy cr_tupleF rfl (vab_b rfl (v1_3 _) vab_nil))) vss_nil)))
/-! _law_pairs -/
def N__law_pairs : List Str := ["_law_many", "_law_found", "_law_one", "_law_other"]
theorem b__law_pairs {X : Cx} (c : Cn X N__law_pairs (defScope (top 34)).names (defScope (top 34)).names 0) (g : GF X.mg FREE INTS) : VSs X [] (defBody (top 34)) d__law_pairs := by
  have v1_0 := fun pos => c.var (i := 0) (x := ("_law_many" : Str)) (by decide +kernel) pos
  have v1_1 := fun pos => c.var (i := 1) (x := ("_law_found" : Str)) (by decide +kernel) pos
  have v1_2 := fun pos => c.var (i := 2) (x := ("_law_one" : Str)) (by decide +kernel) pos
  have b1_range := c.bi g (x := ("range" : Str)) (v := .type "range") (by decide +kernel)
  have t1_2 := fun pos => c.tgt (i := 2) (x := ("_law_one" : Str)) (by decide +kernel) pos
  exact (vss_cons (c.set (by decide) (by decide +kernel) (ve_lst (by decide) va_nil) rfl) (vss_cons (vs_for c.xe c.calm (refs_tgt (by decide)) (b1_range.range1 rfl (ve_var (v1_0 _))) (t1_2 _) (vss_post [2] (vss_cons (c.set (by decide) (by decide +kernel) (ve_bin op_addF (ve_var (v1_1 _)) (vf_ve (c.vf (c.lc (own := [(("_law_other" : Str), 3)]) (b1_range.range2 rfl rfl (ve_bin op_addF (ve_var (v1_2 _)) pe_iv) (ve_var (v1_0 _))) (by decide +kernel) rfl (by decide) (fun _ => rfl) (fun _ _ _ _ _ c2 => by (have v2_2 := fun pos => c2.var (i := 2) (x := ("_law_one" : Str)) (by decide +kernel) pos; have v2_3 := fun pos => c2.var (i := 3) (x := ("_law_other" : Str)) (by decide +kernel) pos; have t2_3 := fun pos => c2.tgt (i := 3) (x := ("_law_other" : Str)) (by decide +kernel) pos; exact ⟨(t2_3 _), vts_nil, (ve_tup (by decide) (va_cons rfl (ve_var (v2_2 _)) (va_cons rfl (ve_var (v2_3 _)) va_nil)))⟩)))))) rfl) vss_nil)) (fun _ => rfl)) (vss_cons (vs_retK [0, 1, 2, 3] (ve_var (v1_1 _))) vss_nil)))
/-! _law_edge_sets -/
def N__law_edge_sets : List Str := ["_law_many", "_law_found", "_law_pair", "_law_row"]
theorem b__law_edge_sets {X : Cx} (c : Cn X N__law_edge_sets (defScope (top 37)).names (defScope (top 37)).names 1) (g : GF X.mg FREE INTS) (f__law_pairs : FavX X 1 "_law_pairs" 1 [] s__law_pairs) : VSs X [] (defBody (top 37)) d__law_edge_sets := by
  have v1_0 := fun pos => c.var (i := 0) (x := ("_law_many" : Str)) (by decide +kernel) pos
  have v1_1 := fun pos => c.var (i := 1) (x := ("_law_found" : Str)) (by decide +kernel) pos
  have b1_sorted := c.bi g (x := ("sorted" : Str)) (v := .builtin "sorted") (by decide +kernel)
  have t1_2 := fun pos => c.tgt (i := 2) (x := ("_law_pair" : Str)) (by decide +kernel) pos
  exact (vss_cons (c.set (by decide) (by decide +kernel) (ve_lst (by decide) (va_cons rfl (ve_tup (by decide) va_nil) va_nil)) rfl) (vss_cons (vs_for c.xe c.calm (refs_tgt (by decide)) (vi_seq (c.call f__law_pairs (by decide) (by decide +kernel) rfl (by rfl) (by decide) (by rfl) (vc_d rfl (ve_var (v1_0 _)) vc_nil))) (t1_2 _) (vss_post [2] (vss_cons (c.set (by decide) (by decide +kernel) (ve_bin op_addF (ve_var (v1_1 _)) (vf_ve (c.vf (c.lc (own := [(("_law_row" : Str), 3)]) (vi_seq (ve_var (v1_1 _))) (by decide +kernel) rfl (by decide) (fun _ => rfl) (fun _ _ _ _ _ c2 => by (have v2_3 := fun pos => c2.var (i := 3) (x := ("_law_row" : Str)) (by decide +kernel) pos; have v2_2 := fun pos => c2.var (i := 2) (x := ("_law_pair" : Str)) (by decide +kernel) pos; have t2_3 := fun pos => c2.tgt (i := 3) (x := ("_law_row" : Str)) (by decide +kernel) pos; exact ⟨(t2_3 _), vts_nil, (ve_bin op_addF (ve_var (v2_3 _)) (ve_tup (by decide) (va_cons rfl (ve_var (v2_2 _)) va_nil)))⟩)))))) rfl) vss_nil)) (fun _ => rfl)) (vss_cons (vs_retK [0, 1, 2, 3] (b1_sorted.app (cr_sortedF c.hu) rfl (vab_d rfl (vf_ve (c.vf (c.lc (own := [(("_law_row" : Str), 3)]) (vi_seq (ve_var (v1_1 _))) (by decide +kernel) rfl (by decide) (fun _ => rfl) (fun _ _ _ _ _ c3 => by (have v3_3 := fun pos => c3.var (i := 3) (x := ("_law_row" : Str)) (by decide +kernel) pos; have v3_0 := fun pos => c3.var (i := 0) (x := ("_law_many" : Str)) (by decide +kernel) pos; have b3_len := c3.bi g (x := ("len" : Str)) (v := .builtin "len") (by decide +kernel); have t3_3 := fun pos => c3.tgt (i := 3) (x := ("_law_row" : Str)) (by decide +kernel) pos; exact ⟨(t3_3 _), (vts_one (vt_cmp (op_eqF c3.hu64) rfl (b3_len.app cr_lenF rfl (vab_d rfl (ve_var (v3_3 _)) vab_nil)) (ve_bin op_subF (ve_var (v3_0 _)) pe_iv))), (ve_var (v3_3 _))⟩))))) vab_nil))) vss_nil)))
/-! _law_hang -/
def N__law_hang : List Str := ["_law_nodes", "_law_edges", "_law_found", "_law_turn", "_law_one", "_law_other"]
theorem b__law_hang {X : Cx} (c : Cn X N__law_hang (defScope (top 35)).names (defScope (top 35)).names 0) (g : GF X.mg FREE INTS) : VSs X [] (defBody (top 35)) d__law_hang := by
  have v1_0 := fun pos => c.var (i := 0) (x := ("_law_nodes" : Str)) (by decide +kernel) pos
  have v1_1 := fun pos => c.var (i := 1) (x := ("_law_edges" : Str)) (by decide +kernel) pos
  have v1_4 := fun pos => c.var (i := 4) (x := ("_law_one" : Str)) (by decide +kernel) pos
  have v1_2 := fun pos => c.var (i := 2) (x := ("_law_found" : Str)) (by decide +kernel) pos
  have v1_5 := fun pos => c.var (i := 5) (x := ("_law_other" : Str)) (by decide +kernel) pos
  have b1_list := c.bi g (x := ("list" : Str)) (v := .type "list") (by decide +kernel)
  have b1_len := c.bi g (x := ("len" : Str)) (v := .builtin "len") (by decide +kernel)
  have t1_3 := fun pos => c.tgt (i := 3) (x := ("_law_turn" : Str)) (by decide +kernel) pos
  have t1_5 := fun pos => c.tgt (i := 5) (x := ("_law_other" : Str)) (by decide +kernel) pos
  have t1_4 := fun pos => c.tgt (i := 4) (x := ("_law_one" : Str)) (by decide +kernel) pos
  exact (vss_cons (c.ownF (by decide) (by decide +kernel) (vf_list b1_list rfl (vab_d rfl (ve_slice (.d (ve_var (v1_0 _))) vo_none (vo_some pe_iv)) vab_nil)) rfl) (vss_cons (vs_for c.xe c.calm (refs_tgt (by decide)) (vi_seq (ve_var (v1_0 _))) (t1_3 _) (vss_post [3, 4, 5] (vss_cons (vs_for c.xe c.calm (refs_tgt (by decide)) (vi_seq (ve_var (v1_1 _))) (vg_tp c.calm rfl rfl (vgs_cons rfl (t1_4 _) (vgs_cons rfl (t1_5 _) vgs_nil))) (vss_post [4, 5] (vss_cons (vs_if (PW.pt (vw_and (vt_cmpR (op_inF c.hu65) rfl (ve_var (v1_4 _)) (v1_2 _)) (vw_and (vt_cmp (op_inF c.hu65) rfl (ve_var (v1_5 _)) (ve_var (v1_0 _))) (vw_and1 (vt_cmpR (op_notInF c.hu65) rfl (ve_var (v1_5 _)) (v1_2 _)))))) (vss_cons (vs_drop rfl (ve_mut mm_append (mcall rfl rfl (by decide) (by decide +kernel)) (v1_2 _) (va_cons rfl (ve_var (v1_5 _)) va_nil))) vss_nil) vss_nil) (vss_cons (vs_if (PW.pt (vw_and (vt_cmpR (op_inF c.hu65) rfl (ve_var (v1_5 _)) (v1_2 _)) (vw_and (vt_cmp (op_inF c.hu65) rfl (ve_var (v1_4 _)) (ve_var (v1_0 _))) (vw_and1 (vt_cmpR (op_notInF c.hu65) rfl (ve_var (v1_4 _)) (v1_2 _)))))) (vss_cons (vs_drop rfl (ve_mut mm_append (mcall rfl rfl (by decide) (by decide +kernel)) (v1_2 _) (va_cons rfl (ve_var (v1_4 _)) va_nil))) vss_nil) vss_nil) vss_nil))) (fun _ => rfl)) vss_nil)) (fun _ => rfl)) (vss_cons (vs_retK [0, 1, 2, 3, 4, 5] (ve_cmp (op_eqF c.hu64) rfl (b1_len.app cr_lenF rfl (vab_b rfl (v1_2 _) vab_nil)) (b1_len.app cr_lenF rfl (vab_d rfl (ve_var (v1_0 _)) vab_nil)))) vss_nil)))
/-! _law_is_tree -/
def N__law_is_tree : List Str := ["_law_scopes_here", "_law_edges"]
theorem b__law_is_tree {X : Cx} (c : Cn X N__law_is_tree (defScope (top 36)).names (defScope (top 36)).names 1) (g : GF X.mg FREE INTS) (f__law_hang : FavX X 1 "_law_hang" 2 [] s__law_hang) : VSs X [] (defBody (top 36)) d__law_is_tree := by
  have v1_1 := fun pos => c.var (i := 1) (x := ("_law_edges" : Str)) (by decide +kernel) pos
  have v1_0 := fun pos => c.var (i := 0) (x := ("_law_scopes_here" : Str)) (by decide +kernel) pos
  have b1_len := c.bi g (x := ("len" : Str)) (v := .builtin "len") (by decide +kernel)
  have b1_range := c.bi g (x := ("range" : Str)) (v := .type "range") (by decide +kernel)
  have b1_list := c.bi g (x := ("list" : Str)) (v := .type "list") (by decide +kernel)
  exact (vss_cons (vs_retK [0, 1] (ve_and (ve_cmp (op_eqF c.hu64) rfl (b1_len.app cr_lenF rfl (vab_d rfl (ve_var (v1_1 _)) vab_nil)) (ve_bin op_subF (b1_len.app cr_lenF rfl (vab_d rfl (ve_var (v1_0 _)) vab_nil)) pe_iv)) (ve_one (c.call f__law_hang (by decide) (by decide +kernel) rfl (by rfl) (by decide) (by rfl) (vc_d rfl (vf_ve (b1_list.listRg c.calm rfl (b1_range.prg1 rfl (b1_len.app cr_lenF rfl (vab_d rfl (ve_var (v1_0 _)) vab_nil))))) (vc_d rfl (ve_var (v1_1 _)) vc_nil)))))) vss_nil)
/-! _law_way -/
def N__law_way : List Str := ["_law_edges", "_law_one", "_law_other", "_law_ways", "_law_turn", "_law_way_here", "_law_left", "_law_right", "_law_node", "_law_near"]
theorem b__law_way {X : Cx} (c : Cn X N__law_way (defScope (top 38)).names (defScope (top 38)).names 0) (g : GF X.mg FREE INTS) : VSs X [] (defBody (top 38)) d__law_way := by
  have v1_1 := fun pos => c.var (i := 1) (x := ("_law_one" : Str)) (by decide +kernel) pos
  have v1_3 := fun pos => c.var (i := 3) (x := ("_law_ways" : Str)) (by decide +kernel) pos
  have v1_0 := fun pos => c.var (i := 0) (x := ("_law_edges" : Str)) (by decide +kernel) pos
  have v1_6 := fun pos => c.var (i := 6) (x := ("_law_left" : Str)) (by decide +kernel) pos
  have v1_7 := fun pos => c.var (i := 7) (x := ("_law_right" : Str)) (by decide +kernel) pos
  have v1_5 := fun pos => c.var (i := 5) (x := ("_law_way_here" : Str)) (by decide +kernel) pos
  have v1_8 := fun pos => c.var (i := 8) (x := ("_law_node" : Str)) (by decide +kernel) pos
  have v1_9 := fun pos => c.var (i := 9) (x := ("_law_near" : Str)) (by decide +kernel) pos
  have b1_range := c.bi g (x := ("range" : Str)) (v := .type "range") (by decide +kernel)
  have b1_list := c.bi g (x := ("list" : Str)) (v := .type "list") (by decide +kernel)
  have t1_4 := fun pos => c.tgt (i := 4) (x := ("_law_turn" : Str)) (by decide +kernel) pos
  have t1_5 := fun pos => c.tgt (i := 5) (x := ("_law_way_here" : Str)) (by decide +kernel) pos
  have t1_7 := fun pos => c.tgt (i := 7) (x := ("_law_right" : Str)) (by decide +kernel) pos
  have t1_6 := fun pos => c.tgt (i := 6) (x := ("_law_left" : Str)) (by decide +kernel) pos
  have t1_9 := fun pos => c.tgt (i := 9) (x := ("_law_near" : Str)) (by decide +kernel) pos
  have t1_8 := fun pos => c.tgt (i := 8) (x := ("_law_node" : Str)) (by decide +kernel) pos
  exact (vss_cons (c.ownF (by decide) (by decide +kernel) (vf_lst (by decide) (va_cons rfl (ve_tup (by decide) (va_cons rfl (ve_var (v1_1 _)) va_nil)) va_nil)) rfl) (vss_cons (vs_for c.xe c.calm (refs_tgt (by decide)) (b1_range.range1 rfl pe_iv) (t1_4 _) (vss_post [4, 5, 6, 7, 8, 9] (vss_cons (vs_for c.xe c.calm (refs_tgt (by decide)) (vi_seq (b1_list.appTy cr_listF rfl (vab_b rfl (v1_3 _) vab_nil))) (t1_5 _) (vss_post [5, 6, 7, 8, 9] (vss_cons (vs_for c.xe c.calm (refs_tgt (by decide)) (vi_seq (ve_var (v1_0 _))) (vg_tp c.calm rfl rfl (vgs_cons rfl (t1_6 _) (vgs_cons rfl (t1_7 _) vgs_nil))) (vss_post [6, 7, 8, 9] (vss_cons (vs_for c.xe c.calm (refs_tgt (by decide)) (vi_seq (ve_lst (by decide) (va_cons rfl (ve_tup (by decide) (va_cons rfl (ve_var (v1_6 _)) (va_cons rfl (ve_var (v1_7 _)) va_nil))) (va_cons rfl (ve_tup (by decide) (va_cons rfl (ve_var (v1_7 _)) (va_cons rfl (ve_var (v1_6 _)) va_nil))) va_nil)))) (vg_tp c.calm rfl rfl (vgs_cons rfl (t1_8 _) (vgs_cons rfl (t1_9 _) vgs_nil))) (vss_post [8, 9] (vss_cons (vs_if (PW.pt (vw_and (vt_cmp (op_eqF c.hu64) rfl (ve_sub c.hu1 (plainIx trivial) (ve_var (v1_5 _)) (ve_un un_negF pe_iv)) (ve_var (v1_8 _))) (vw_and (vt_cmp (op_notInF c.hu65) rfl (ve_var (v1_9 _)) (ve_var (v1_5 _))) (vw_and1 (vt_cmpR (op_notInF c.hu65) rfl (ve_bin op_addF (ve_var (v1_5 _)) (ve_tup (by decide) (va_cons rfl (ve_var (v1_9 _)) va_nil))) (v1_3 _)))))) (vss_cons (vs_drop rfl (ve_mut mm_append (mcall rfl rfl (by decide) (by decide +kernel)) (v1_3 _) (va_cons rfl (ve_bin op_addF (ve_var (v1_5 _)) (ve_tup (by decide) (va_cons rfl (ve_var (v1_9 _)) va_nil))) va_nil))) vss_nil) vss_nil) vss_nil)) (fun _ => rfl)) vss_nil)) (fun _ => rfl)) vss_nil)) (fun _ => rfl)) vss_nil)) (fun _ => rfl)) (vss_cons (vs_retK [0, 1, 2, 3, 4, 5, 6, 7, 8, 9] (ve_sub c.hu1 (plainIx trivial) (vf_ve (c.vf (c.lc (own := [(("_law_way_here" : Str), 5)]) (vi_seq (ve_var (v1_3 _))) (by decide +kernel) rfl (by decide) (fun _ => rfl) (fun _ _ _ _ _ c2 => by (have v2_5 := fun pos => c2.var (i := 5) (x := ("_law_way_here" : Str)) (by decide +kernel) pos; have v2_2 := fun pos => c2.var (i := 2) (x := ("_law_other" : Str)) (by decide +kernel) pos; have t2_5 := fun pos => c2.tgt (i := 5) (x := ("_law_way_here" : Str)) (by decide +kernel) pos; exact ⟨(t2_5 _), (vts_one (vt_cmp (op_eqF c2.hu64) rfl (ve_sub c2.hu1 (plainIx trivial) (ve_var (v2_5 _)) (ve_un un_negF pe_iv)) (ve_var (v2_2 _)))), (ve_var (v2_5 _))⟩))))) pe_iv)) vss_nil)))
/-! _law_additions -/
def N__law_additions : List Str := ["_law_scopes_here", "_law_edges", "_law_found", "_law_other", "_law_one", "_law_way_here", "_law_variable", "_law_node"]
theorem b__law_additions {X : Cx} (c : Cn X N__law_additions (defScope (top 39)).names (defScope (top 39)).names 1) (g : GF X.mg FREE INTS) (f__law_way : FavX X 1 "_law_way" 3 [] s__law_way) : VSs X [] (defBody (top 39)) d__law_additions := by
  have v1_0 := fun pos => c.var (i := 0) (x := ("_law_scopes_here" : Str)) (by decide +kernel) pos
  have v1_3 := fun pos => c.var (i := 3) (x := ("_law_other" : Str)) (by decide +kernel) pos
  have v1_1 := fun pos => c.var (i := 1) (x := ("_law_edges" : Str)) (by decide +kernel) pos
  have v1_4 := fun pos => c.var (i := 4) (x := ("_law_one" : Str)) (by decide +kernel) pos
  have v1_5 := fun pos => c.var (i := 5) (x := ("_law_way_here" : Str)) (by decide +kernel) pos
  have v1_6 := fun pos => c.var (i := 6) (x := ("_law_variable" : Str)) (by decide +kernel) pos
  have v1_7 := fun pos => c.var (i := 7) (x := ("_law_node" : Str)) (by decide +kernel) pos
  have v1_2 := fun pos => c.var (i := 2) (x := ("_law_found" : Str)) (by decide +kernel) pos
  have b1_range := c.bi g (x := ("range" : Str)) (v := .type "range") (by decide +kernel)
  have b1_len := c.bi g (x := ("len" : Str)) (v := .builtin "len") (by decide +kernel)
  have b1_sorted := c.bi g (x := ("sorted" : Str)) (v := .builtin "sorted") (by decide +kernel)
  have b1_tuple := c.bi g (x := ("tuple" : Str)) (v := .type "tuple") (by decide +kernel)
  have t1_3 := fun pos => c.tgt (i := 3) (x := ("_law_other" : Str)) (by decide +kernel) pos
  have t1_4 := fun pos => c.tgt (i := 4) (x := ("_law_one" : Str)) (by decide +kernel) pos
  have t1_6 := fun pos => c.tgt (i := 6) (x := ("_law_variable" : Str)) (by decide +kernel) pos
  have t1_7 := fun pos => c.tgt (i := 7) (x := ("_law_node" : Str)) (by decide +kernel) pos
  exact (vss_cons (c.ownF (by decide) (by decide +kernel) (vf_lst (by decide) va_nil) rfl) (vss_cons (vs_for c.xe c.calm (refs_tgt (by decide)) (b1_range.range1 rfl (b1_len.app cr_lenF rfl (vab_d rfl (ve_var (v1_0 _)) vab_nil))) (t1_3 _) (vss_post [3, 4, 5, 6, 7] (vss_cons (vs_for c.xe c.calm (refs_tgt (by decide)) (b1_range.range1 rfl (ve_var (v1_3 _))) (t1_4 _) (vss_post [4, 5, 6, 7] (vss_cons (c.set (by decide) (by decide +kernel) (c.call f__law_way (by decide) (by decide +kernel) rfl (by rfl) (by decide) (by rfl) (vc_d rfl (ve_var (v1_1 _)) (vc_d rfl (ve_var (v1_4 _)) (vc_d rfl (ve_var (v1_3 _)) vc_nil)))) rfl) (vss_cons (vs_for c.xe c.calm (refs_tgt (by decide)) (vi_seq (vf_ve (c.vf (c.lc (own := [(("_law_variable" : Str), 6)]) (vi_seq (ve_sub c.hu1 (plainIx trivial) (ve_var (v1_0 _)) (ve_var (v1_4 _)))) (by decide +kernel) rfl (by decide) (fun _ => rfl) (fun _ _ _ _ _ c2 => by (have v2_6 := fun pos => c2.var (i := 6) (x := ("_law_variable" : Str)) (by decide +kernel) pos; have v2_0 := fun pos => c2.var (i := 0) (x := ("_law_scopes_here" : Str)) (by decide +kernel) pos; have v2_3 := fun pos => c2.var (i := 3) (x := ("_law_other" : Str)) (by decide +kernel) pos; have t2_6 := fun pos => c2.tgt (i := 6) (x := ("_law_variable" : Str)) (by decide +kernel) pos; exact ⟨(t2_6 _), (vts_one (vt_cmp (op_inF c2.hu65) rfl (ve_var (v2_6 _)) (ve_sub c2.hu1 (plainIx trivial) (ve_var (v2_0 _)) (ve_var (v2_3 _))))), (ve_var (v2_6 _))⟩)))))) (t1_6 _) (vss_post [6, 7] (vss_cons (vs_for c.xe c.calm (refs_tgt (by decide)) (vi_seq (ve_var (v1_5 _))) (t1_7 _) (vss_post [7] (vss_cons (vs_if (PW.pt (vw_and (vt_cmp (op_notInF c.hu65) rfl (ve_var (v1_6 _)) (ve_sub c.hu1 (plainIx trivial) (ve_var (v1_0 _)) (ve_var (v1_7 _)))) (vw_and1 (vt_cmpR (op_notInF c.hu65) rfl (ve_tup (by decide) (va_cons rfl (ve_var (v1_7 _)) (va_cons rfl (ve_var (v1_6 _)) va_nil))) (v1_2 _))))) (vss_cons (vs_drop rfl (ve_mut mm_append (mcall rfl rfl (by decide) (by decide +kernel)) (v1_2 _) (va_cons rfl (ve_tup (by decide) (va_cons rfl (ve_var (v1_7 _)) (va_cons rfl (ve_var (v1_6 _)) va_nil))) va_nil))) vss_nil) vss_nil) vss_nil)) (fun _ => rfl)) vss_nil)) (fun _ => rfl)) vss_nil))) (fun _ => rfl)) vss_nil)) (fun _ => rfl)) (vss_cons (vs_retK [0, 1, 2, 3, 4, 5, 6, 7] (b1_tuple.appTy cr_tupleF rfl (vab_d rfl (b1_sorted.app (cr_sortedF c.hu) rfl (vab_b rfl (v1_2 _) vab_nil)) vab_nil))) vss_nil)))
/-! is_whole -/
def N_is_whole : List Str := ["value", "low", "high"]
theorem b_is_whole {X : Cx} (c : Cn X N_is_whole (defScope (top 7)).names (defScope (top 7)).names 0) (g : GF X.mg FREE INTS) : VSs X [] (defBody (top 7)) d_is_whole := by
  have v1_0 := fun pos => c.var (i := 0) (x := ("value" : Str)) (by decide +kernel) pos
  have v1_1 := fun pos => c.var (i := 1) (x := ("low" : Str)) (by decide +kernel) pos
  have v1_2 := fun pos => c.var (i := 2) (x := ("high" : Str)) (by decide +kernel) pos
  have b1_isinstance := c.bi g (x := ("isinstance" : Str)) (v := .builtin "isinstance") (by decide +kernel)
  have b1_int := c.bi g (x := ("int" : Str)) (v := .type "int") (by decide +kernel)
  have b1_bool := c.bi g (x := ("bool" : Str)) (v := .type "bool") (by decide +kernel)
  exact (vss_cons (vs_retK [0, 1, 2] (ve_and (b1_isinstance.isi (ty := .int) b1_int rfl (.d (ve_var (v1_0 _)))) (ve_and (ve_not (b1_isinstance.isi (ty := .bool) b1_bool rfl (.d (ve_var (v1_0 _))))) (ve_one (ve_chain op_leF op_leF (ve_var (v1_1 _)) (ve_var (v1_0 _)) (ve_var (v1_2 _)) rfl))))) vss_nil)
/-! is_climbing -/
def N_is_climbing : List Str := ["value", "at"]
theorem b_is_climbing {X : Cx} (c : Cn X N_is_climbing (defScope (top 8)).names (defScope (top 8)).names 0) (g : GF X.mg FREE INTS) : VSs X [] (defBody (top 8)) d_is_climbing := by
  have v1_0 := fun pos => c.var (i := 0) (x := ("value" : Str)) (by decide +kernel) pos
  have b1_range := c.bi g (x := ("range" : Str)) (v := .type "range") (by decide +kernel)
  have b1_len := c.bi g (x := ("len" : Str)) (v := .builtin "len") (by decide +kernel)
  have b1_all := c.bi g (x := ("all" : Str)) (v := .builtin "all") (by decide +kernel)
  exact (vss_cons (vs_retK [0, 1] (b1_all.app (cr_allF c.calm) rfl (vab_d rfl (vf_ve (c.vf (c.lc (own := [(("at" : Str), 1)]) (b1_range.range1 rfl (ve_bin op_subF (b1_len.app cr_lenF rfl (vab_d rfl (ve_var (v1_0 _)) vab_nil)) pe_iv)) (by decide +kernel) rfl (by decide) (fun _ => rfl) (fun _ _ _ _ _ c2 => by (have v2_0 := fun pos => c2.var (i := 0) (x := ("value" : Str)) (by decide +kernel) pos; have v2_1 := fun pos => c2.var (i := 1) (x := ("at" : Str)) (by decide +kernel) pos; have t2_1 := fun pos => c2.tgt (i := 1) (x := ("at" : Str)) (by decide +kernel) pos; exact ⟨(t2_1 _), vts_nil, (ve_cmp (op_ltF c2.hu0) rfl (ve_sub c2.hu1 (plainIx trivial) (ve_var (v2_0 _)) (ve_var (v2_1 _))) (ve_sub c2.hu1 (plainIx trivial) (ve_var (v2_0 _)) (ve_bin op_addF (ve_var (v2_1 _)) pe_iv)))⟩))))) vab_nil))) vss_nil)
/-! are_variables -/
def N_are_variables : List Str := ["value", "one"]
theorem b_are_variables {X : Cx} (c : Cn X N_are_variables (defScope (top 9)).names (defScope (top 9)).names 1) (g : GF X.mg FREE INTS) (f_is_whole : FavX X 1 "is_whole" 3 [] s_is_whole) (f_is_climbing : FavX X 1 "is_climbing" 1 [] s_is_climbing) : VSs X [] (defBody (top 9)) d_are_variables := by
  have v1_0 := fun pos => c.var (i := 0) (x := ("value" : Str)) (by decide +kernel) pos
  have b1_isinstance := c.bi g (x := ("isinstance" : Str)) (v := .builtin "isinstance") (by decide +kernel)
  have b1_tuple := c.bi g (x := ("tuple" : Str)) (v := .type "tuple") (by decide +kernel)
  have b1_all := c.bi g (x := ("all" : Str)) (v := .builtin "all") (by decide +kernel)
  exact (vss_cons (vs_if (PW.pt (vw_or (vt_not (vt_truth (fun _ => rfl) (.d (b1_isinstance.isi (ty := .tuple) b1_tuple rfl (.d (ve_var (v1_0 _))))))) (vw_or1 (vt_not (vt_truth (fun _ => rfl) (.d (b1_all.app (cr_allF c.calm) rfl (vab_d rfl (vf_ve (c.vf (c.lc (own := [(("one" : Str), 1)]) (vi_seq (ve_var (v1_0 _))) (by decide +kernel) rfl (by decide) (fun _ => rfl) (fun _ _ _ _ _ c2 => by (have v2_1 := fun pos => c2.var (i := 1) (x := ("one" : Str)) (by decide +kernel) pos; have i2_MOST_VARIABLE_tables := fun pos => c2.int g (x := ("MOST_VARIABLE_tables" : Str)) (i := 5) (by decide +kernel) pos; have t2_1 := fun pos => c2.tgt (i := 1) (x := ("one" : Str)) (by decide +kernel) pos; exact ⟨(t2_1 _), vts_nil, (c2.call f_is_whole (by decide) (by decide +kernel) rfl (by rfl) (by decide) (by rfl) (vc_d rfl (ve_var (v2_1 _)) (vc_d rfl pe_iv (vc_d rfl (i2_MOST_VARIABLE_tables _) vc_nil))))⟩))))) vab_nil)))))))) (vss_cons (vs_retK [0, 1] pe_bv) vss_nil) vss_nil) (vss_cons (vs_retK [0, 1] (c.call f_is_climbing (by decide) (by decide +kernel) rfl (by rfl) (by decide) (by rfl) (vc_d rfl (ve_var (v1_0 _)) vc_nil))) vss_nil))
/-! is_scope -/
def N_is_scope : List Str := ["value"]
theorem b_is_scope {X : Cx} (c : Cn X N_is_scope (defScope (top 10)).names (defScope (top 10)).names 2) (g : GF X.mg FREE INTS) (f_are_variables : FavX X 2 "are_variables" 1 [] s_are_variables) : VSs X [] (defBody (top 10)) d_is_scope := by
  have v1_0 := fun pos => c.var (i := 0) (x := ("value" : Str)) (by decide +kernel) pos
  have b1_len := c.bi g (x := ("len" : Str)) (v := .builtin "len") (by decide +kernel)
  have i1_WIDEST_SCOPE := fun pos => c.int g (x := ("WIDEST_SCOPE" : Str)) (i := 3) (by decide +kernel) pos
  exact (vss_cons (vs_retK [0] (ve_and (c.call f_are_variables (by decide) (by decide +kernel) rfl (by rfl) (by decide) (by rfl) (vc_d rfl (ve_var (v1_0 _)) vc_nil)) (ve_one (ve_cmp op_leF rfl (b1_len.app cr_lenF rfl (vab_d rfl (ve_var (v1_0 _)) vab_nil)) (i1_WIDEST_SCOPE _))))) vss_nil)
/-! are_scopes -/
def N_are_scopes : List Str := ["value", "scope"]
theorem b_are_scopes {X : Cx} (c : Cn X N_are_scopes (defScope (top 14)).names (defScope (top 14)).names 3) (g : GF X.mg FREE INTS) (f_is_scope : FavX X 3 "is_scope" 1 [] s_is_scope) : VSs X [] (defBody (top 14)) d_are_scopes := by
  have v1_0 := fun pos => c.var (i := 0) (x := ("value" : Str)) (by decide +kernel) pos
  have b1_isinstance := c.bi g (x := ("isinstance" : Str)) (v := .builtin "isinstance") (by decide +kernel)
  have b1_tuple := c.bi g (x := ("tuple" : Str)) (v := .type "tuple") (by decide +kernel)
  have b1_len := c.bi g (x := ("len" : Str)) (v := .builtin "len") (by decide +kernel)
  have b1_all := c.bi g (x := ("all" : Str)) (v := .builtin "all") (by decide +kernel)
  have i1_MOST_NODES := fun pos => c.int g (x := ("MOST_NODES" : Str)) (i := 5) (by decide +kernel) pos
  exact (vss_cons (vs_retK [0, 1] (ve_and (b1_isinstance.isi (ty := .tuple) b1_tuple rfl (.d (ve_var (v1_0 _)))) (ve_and (ve_chain op_leF op_leF pe_iv (b1_len.app cr_lenF rfl (vab_d rfl (ve_var (v1_0 _)) vab_nil)) (i1_MOST_NODES _) rfl) (ve_one (b1_all.app (cr_allF c.calm) rfl (vab_d rfl (vf_ve (c.vf (c.lc (own := [(("scope" : Str), 1)]) (vi_seq (ve_var (v1_0 _))) (by decide +kernel) rfl (by decide) (fun _ => rfl) (fun _ _ _ _ _ c2 => by (have v2_1 := fun pos => c2.var (i := 1) (x := ("scope" : Str)) (by decide +kernel) pos; have t2_1 := fun pos => c2.tgt (i := 1) (x := ("scope" : Str)) (by decide +kernel) pos; exact ⟨(t2_1 _), vts_nil, (c2.call f_is_scope (by decide) (by decide +kernel) rfl (by rfl) (by decide) (by rfl) (vc_d rfl (ve_var (v2_1 _)) vc_nil))⟩))))) vab_nil)))))) vss_nil)
/-! check_scopes -/
def N_check_scopes : List Str := ["scopes"]
theorem b_check_scopes {X : Cx} (c : Cn X N_check_scopes (defScope (top 15)).names (defScope (top 15)).names 4) (g : GF X.mg FREE INTS) (f_are_scopes : FavX X 4 "are_scopes" 1 [] s_are_scopes) : VSs X [] (defBody (top 15)) d_check_scopes := by
  have v1_0 := fun pos => c.var (i := 0) (x := ("scopes" : Str)) (by decide +kernel) pos
  exact (vss_cons (vs_if (vt_not (vt_truth (fun _ => rfl) (.d (c.call f_are_scopes (by decide) (by decide +kernel) rfl (by rfl) (by decide) (by rfl) (vc_d rfl (ve_var (v1_0 _)) vc_nil))))) (vss_cons vs_never vss_nil) vss_nil) vss_nil)
/-! nodes_beyond -/
def N_nodes_beyond : List Str := ["edges", "node", "start", "found", "turn", "one", "other"]
theorem b_nodes_beyond {X : Cx} (c : Cn X N_nodes_beyond (defScope (top 23)).names (defScope (top 23)).names 0) (g : GF X.mg FREE INTS) : VSs X [] (defBody (top 23)) d_nodes_beyond := by
  have v1_2 := fun pos => c.var (i := 2) (x := ("start" : Str)) (by decide +kernel) pos
  have v1_0 := fun pos => c.var (i := 0) (x := ("edges" : Str)) (by decide +kernel) pos
  have v1_5 := fun pos => c.var (i := 5) (x := ("one" : Str)) (by decide +kernel) pos
  have v1_3 := fun pos => c.var (i := 3) (x := ("found" : Str)) (by decide +kernel) pos
  have v1_6 := fun pos => c.var (i := 6) (x := ("other" : Str)) (by decide +kernel) pos
  have v1_1 := fun pos => c.var (i := 1) (x := ("node" : Str)) (by decide +kernel) pos
  have t1_4 := fun pos => c.tgt (i := 4) (x := ("turn" : Str)) (by decide +kernel) pos
  have t1_6 := fun pos => c.tgt (i := 6) (x := ("other" : Str)) (by decide +kernel) pos
  have t1_5 := fun pos => c.tgt (i := 5) (x := ("one" : Str)) (by decide +kernel) pos
  exact (vss_cons (c.ownF (by decide) (by decide +kernel) (vf_lst (by decide) (va_cons rfl (ve_var (v1_2 _)) va_nil)) rfl) (vss_cons (vs_for c.xe c.calm (refs_tgt (by decide)) (vi_seq (ve_var (v1_0 _))) (t1_4 _) (vss_post [4, 5, 6] (vss_cons (vs_for c.xe c.calm (refs_tgt (by decide)) (vi_seq (ve_var (v1_0 _))) (vg_tp c.calm rfl rfl (vgs_cons rfl (t1_5 _) (vgs_cons rfl (t1_6 _) vgs_nil))) (vss_post [5, 6] (vss_cons (vs_if (PW.pt (vw_and (vt_cmpR (op_inF c.hu65) rfl (ve_var (v1_5 _)) (v1_3 _)) (vw_and (vt_cmp (op_neF c.hu64) rfl (ve_var (v1_6 _)) (ve_var (v1_1 _))) (vw_and1 (vt_cmpR (op_notInF c.hu65) rfl (ve_var (v1_6 _)) (v1_3 _)))))) (vss_cons (vs_drop rfl (ve_mut mm_append (mcall rfl rfl (by decide) (by decide +kernel)) (v1_3 _) (va_cons rfl (ve_var (v1_6 _)) va_nil))) vss_nil) vss_nil) (vss_cons (vs_if (PW.pt (vw_and (vt_cmpR (op_inF c.hu65) rfl (ve_var (v1_6 _)) (v1_3 _)) (vw_and (vt_cmp (op_neF c.hu64) rfl (ve_var (v1_5 _)) (ve_var (v1_1 _))) (vw_and1 (vt_cmpR (op_notInF c.hu65) rfl (ve_var (v1_5 _)) (v1_3 _)))))) (vss_cons (vs_drop rfl (ve_mut mm_append (mcall rfl rfl (by decide) (by decide +kernel)) (v1_3 _) (va_cons rfl (ve_var (v1_5 _)) va_nil))) vss_nil) vss_nil) vss_nil))) (fun _ => rfl)) vss_nil)) (fun _ => rfl)) (vss_cons (vs_retK [0, 1, 2, 3, 4, 5, 6] (ve_var (v1_3 _))) vss_nil)))
/-! lacks -/
def N_lacks : List Str := ["scopes", "edges", "node", "variable", "starts", "one", "other", "having", "start"]
theorem b_lacks {X : Cx} (c : Cn X N_lacks (defScope (top 24)).names (defScope (top 24)).names 1) (g : GF X.mg FREE INTS) (f_nodes_beyond : FavX X 1 "nodes_beyond" 3 [] s_nodes_beyond) : VSs X [] (defBody (top 24)) d_lacks := by
  have v1_3 := fun pos => c.var (i := 3) (x := ("variable" : Str)) (by decide +kernel) pos
  have v1_0 := fun pos => c.var (i := 0) (x := ("scopes" : Str)) (by decide +kernel) pos
  have v1_2 := fun pos => c.var (i := 2) (x := ("node" : Str)) (by decide +kernel) pos
  have v1_1 := fun pos => c.var (i := 1) (x := ("edges" : Str)) (by decide +kernel) pos
  have v1_4 := fun pos => c.var (i := 4) (x := ("starts" : Str)) (by decide +kernel) pos
  have v1_7 := fun pos => c.var (i := 7) (x := ("having" : Str)) (by decide +kernel) pos
  have v1_8 := fun pos => c.var (i := 8) (x := ("start" : Str)) (by decide +kernel) pos
  have b1_any := c.bi g (x := ("any" : Str)) (v := .builtin "any") (by decide +kernel)
  have b1_int := c.bi g (x := ("int" : Str)) (v := .type "int") (by decide +kernel)
  have t1_8 := fun pos => c.tgt (i := 8) (x := ("start" : Str)) (by decide +kernel) pos
  exact (vss_cons (vs_if (vt_cmp (op_inF c.hu65) rfl (ve_var (v1_3 _)) (ve_sub c.hu1 (plainIx trivial) (ve_var (v1_0 _)) (ve_var (v1_2 _)))) (vss_cons (vs_retK [0, 1, 2, 3, 4, 5, 6, 7, 8] pe_bv) vss_nil) vss_nil) (vss_cons (c.set (by decide) (by decide +kernel) (ve_bin op_addF (vf_ve (c.vf (c.lc (own := [(("one" : Str), 5), (("other" : Str), 6)]) (vi_seq (ve_var (v1_1 _))) (by decide +kernel) rfl (by decide) (fun _ => rfl) (fun _ _ _ _ _ c2 => by (have v2_5 := fun pos => c2.var (i := 5) (x := ("one" : Str)) (by decide +kernel) pos; have v2_2 := fun pos => c2.var (i := 2) (x := ("node" : Str)) (by decide +kernel) pos; have v2_6 := fun pos => c2.var (i := 6) (x := ("other" : Str)) (by decide +kernel) pos; have t2_6 := fun pos => c2.tgt (i := 6) (x := ("other" : Str)) (by decide +kernel) pos; have t2_5 := fun pos => c2.tgt (i := 5) (x := ("one" : Str)) (by decide +kernel) pos; exact ⟨(vg_tp c2.calm rfl rfl (vgs_cons rfl (t2_5 _) (vgs_cons rfl (t2_6 _) vgs_nil))), (vts_one (vt_cmp (op_eqF c2.hu64) rfl (ve_var (v2_5 _)) (ve_var (v2_2 _)))), (ve_var (v2_6 _))⟩))))) (vf_ve (c.vf (c.lc (own := [(("one" : Str), 5), (("other" : Str), 6)]) (vi_seq (ve_var (v1_1 _))) (by decide +kernel) rfl (by decide) (fun _ => rfl) (fun _ _ _ _ _ c3 => by (have v3_6 := fun pos => c3.var (i := 6) (x := ("other" : Str)) (by decide +kernel) pos; have v3_2 := fun pos => c3.var (i := 2) (x := ("node" : Str)) (by decide +kernel) pos; have v3_5 := fun pos => c3.var (i := 5) (x := ("one" : Str)) (by decide +kernel) pos; have t3_6 := fun pos => c3.tgt (i := 6) (x := ("other" : Str)) (by decide +kernel) pos; have t3_5 := fun pos => c3.tgt (i := 5) (x := ("one" : Str)) (by decide +kernel) pos; exact ⟨(vg_tp c3.calm rfl rfl (vgs_cons rfl (t3_5 _) (vgs_cons rfl (t3_6 _) vgs_nil))), (vts_one (vt_cmp (op_eqF c3.hu64) rfl (ve_var (v3_6 _)) (ve_var (v3_2 _)))), (ve_var (v3_5 _))⟩)))))) rfl) (vss_cons (c.set (by decide) (by decide +kernel) pe_iv rfl) (vss_cons (vs_for c.xe c.calm (refs_tgt (by decide)) (vi_seq (ve_var (v1_4 _))) (t1_8 _) (vss_post [8] (vss_cons (c.set (by decide) (by decide +kernel) (ve_bin op_addF (ve_var (v1_7 _)) (b1_int.appTy cr_intTF rfl (vab_d rfl (b1_any.app (cr_anyF c.calm) rfl (vab_d rfl (vf_ve (c.vf (c.lc (own := [(("other" : Str), 6)]) (vi_seq (c.call f_nodes_beyond (by decide) (by decide +kernel) rfl (by rfl) (by decide) (by rfl) (vc_d rfl (ve_var (v1_1 _)) (vc_d rfl (ve_var (v1_2 _)) (vc_d rfl (ve_var (v1_8 _)) vc_nil))))) (by decide +kernel) rfl (by decide) (fun _ => rfl) (fun _ _ _ _ _ c4 => by (have v4_3 := fun pos => c4.var (i := 3) (x := ("variable" : Str)) (by decide +kernel) pos; have v4_0 := fun pos => c4.var (i := 0) (x := ("scopes" : Str)) (by decide +kernel) pos; have v4_6 := fun pos => c4.var (i := 6) (x := ("other" : Str)) (by decide +kernel) pos; have t4_6 := fun pos => c4.tgt (i := 6) (x := ("other" : Str)) (by decide +kernel) pos; exact ⟨(t4_6 _), vts_nil, (ve_cmp (op_inF c4.hu65) rfl (ve_var (v4_3 _)) (ve_sub c4.hu1 (plainIx trivial) (ve_var (v4_0 _)) (ve_var (v4_6 _))))⟩))))) vab_nil)) vab_nil))) rfl) vss_nil)) (fun _ => rfl)) (vss_cons (vs_retK [0, 1, 2, 3, 4, 5, 6, 7, 8] (ve_cmp op_gtF rfl (ve_var (v1_7 _)) pe_iv)) vss_nil)))))
/-! additions_of -/
def N_additions_of : List Str := ["scopes", "edges", "found", "node", "variables", "one", "variable"]
theorem b_additions_of {X : Cx} (c : Cn X N_additions_of (defScope (top 25)).names (defScope (top 25)).names 2) (g : GF X.mg FREE INTS) (f_lacks : FavX X 2 "lacks" 4 [] s_lacks) : VSs X [] (defBody (top 25)) d_additions_of := by
  have v1_0 := fun pos => c.var (i := 0) (x := ("scopes" : Str)) (by decide +kernel) pos
  have v1_4 := fun pos => c.var (i := 4) (x := ("variables" : Str)) (by decide +kernel) pos
  have v1_2 := fun pos => c.var (i := 2) (x := ("found" : Str)) (by decide +kernel) pos
  have b1_range := c.bi g (x := ("range" : Str)) (v := .type "range") (by decide +kernel)
  have b1_len := c.bi g (x := ("len" : Str)) (v := .builtin "len") (by decide +kernel)
  have b1_tuple := c.bi g (x := ("tuple" : Str)) (v := .type "tuple") (by decide +kernel)
  have i1_MOST_VARIABLE_edges := fun pos => c.int g (x := ("MOST_VARIABLE_edges" : Str)) (i := 5) (by decide +kernel) pos
  have t1_3 := fun pos => c.tgt (i := 3) (x := ("node" : Str)) (by decide +kernel) pos
  exact (vss_cons (c.ownF (by decide) (by decide +kernel) (vf_lst (by decide) va_nil) rfl) (vss_cons (vs_for c.xe c.calm (refs_tgt (by decide)) (b1_range.range1 rfl (b1_len.app cr_lenF rfl (vab_d rfl (ve_var (v1_0 _)) vab_nil))) (t1_3 _) (vss_post [3, 4] (vss_cons (vs_fz 4 (c.ownLc (by decide) (by decide +kernel) (by decide +kernel) (by decide +kernel) (c.lc (own := [(("one" : Str), 5)]) (b1_range.range1 rfl (ve_bin op_addF (i1_MOST_VARIABLE_edges _) pe_iv)) (by decide +kernel) rfl (by decide) (fun _ => rfl) (fun _ _ _ _ _ c2 => by (have v2_0 := fun pos => c2.var (i := 0) (x := ("scopes" : Str)) (by decide +kernel) pos; have v2_1 := fun pos => c2.var (i := 1) (x := ("edges" : Str)) (by decide +kernel) pos; have v2_3 := fun pos => c2.var (i := 3) (x := ("node" : Str)) (by decide +kernel) pos; have v2_5 := fun pos => c2.var (i := 5) (x := ("one" : Str)) (by decide +kernel) pos; have t2_5 := fun pos => c2.tgt (i := 5) (x := ("one" : Str)) (by decide +kernel) pos; exact ⟨(t2_5 _), (vts_one (vt_truth (fun _ => rfl) (.d (c2.call f_lacks (by decide) (by decide +kernel) rfl (by rfl) (by decide) (by rfl) (vc_d rfl (ve_var (v2_0 _)) (vc_d rfl (ve_var (v2_1 _)) (vc_d rfl (ve_var (v2_3 _)) (vc_d rfl (ve_var (v2_5 _)) vc_nil)))))))), (ve_var (v2_5 _))⟩))))) (vss_cons (vs_drop rfl (ve_mut mm_extend (mcall rfl rfl (by decide) (by decide +kernel)) (v1_2 _) (va_cons rfl (vf_ve (c.vf (c.lc (own := [(("variable" : Str), 6)]) (vi_seq (ve_var (v1_4 _))) (by decide +kernel) rfl (by decide) (fun _ => rfl) (fun _ _ _ _ _ c3 => by (have v3_3 := fun pos => c3.var (i := 3) (x := ("node" : Str)) (by decide +kernel) pos; have v3_6 := fun pos => c3.var (i := 6) (x := ("variable" : Str)) (by decide +kernel) pos; have t3_6 := fun pos => c3.tgt (i := 6) (x := ("variable" : Str)) (by decide +kernel) pos; exact ⟨(t3_6 _), vts_nil, (ve_tup (by decide) (va_cons rfl (ve_var (v3_3 _)) (va_cons rfl (ve_var (v3_6 _)) va_nil)))⟩))))) va_nil))) vss_nil))) (fun _ => rfl)) (vss_cons (vs_retK [0, 1, 2, 3, 4, 5, 6] (b1_tuple.appTy cr_tupleF rfl (vab_b rfl (v1_2 _) vab_nil))) vss_nil)))
/-! together -/
def N_together : List Str := ["nodes", "edges", "found", "turn", "one", "other"]
theorem b_together {X : Cx} (c : Cn X N_together (defScope (top 19)).names (defScope (top 19)).names 0) (g : GF X.mg FREE INTS) : VSs X [] (defBody (top 19)) d_together := by
  have v1_0 := fun pos => c.var (i := 0) (x := ("nodes" : Str)) (by decide +kernel) pos
  have v1_1 := fun pos => c.var (i := 1) (x := ("edges" : Str)) (by decide +kernel) pos
  have v1_4 := fun pos => c.var (i := 4) (x := ("one" : Str)) (by decide +kernel) pos
  have v1_2 := fun pos => c.var (i := 2) (x := ("found" : Str)) (by decide +kernel) pos
  have v1_5 := fun pos => c.var (i := 5) (x := ("other" : Str)) (by decide +kernel) pos
  have b1_list := c.bi g (x := ("list" : Str)) (v := .type "list") (by decide +kernel)
  have b1_len := c.bi g (x := ("len" : Str)) (v := .builtin "len") (by decide +kernel)
  have t1_3 := fun pos => c.tgt (i := 3) (x := ("turn" : Str)) (by decide +kernel) pos
  have t1_5 := fun pos => c.tgt (i := 5) (x := ("other" : Str)) (by decide +kernel) pos
  have t1_4 := fun pos => c.tgt (i := 4) (x := ("one" : Str)) (by decide +kernel) pos
  exact (vss_cons (c.ownF (by decide) (by decide +kernel) (vf_list b1_list rfl (vab_d rfl (ve_slice (.d (ve_var (v1_0 _))) vo_none (vo_some pe_iv)) vab_nil)) rfl) (vss_cons (vs_for c.xe c.calm (refs_tgt (by decide)) (vi_seq (ve_var (v1_0 _))) (t1_3 _) (vss_post [3, 4, 5] (vss_cons (vs_for c.xe c.calm (refs_tgt (by decide)) (vi_seq (ve_var (v1_1 _))) (vg_tp c.calm rfl rfl (vgs_cons rfl (t1_4 _) (vgs_cons rfl (t1_5 _) vgs_nil))) (vss_post [4, 5] (vss_cons (vs_if (PW.pt (vw_and (vt_cmpR (op_inF c.hu65) rfl (ve_var (v1_4 _)) (v1_2 _)) (vw_and (vt_cmp (op_inF c.hu65) rfl (ve_var (v1_5 _)) (ve_var (v1_0 _))) (vw_and1 (vt_cmpR (op_notInF c.hu65) rfl (ve_var (v1_5 _)) (v1_2 _)))))) (vss_cons (vs_drop rfl (ve_mut mm_append (mcall rfl rfl (by decide) (by decide +kernel)) (v1_2 _) (va_cons rfl (ve_var (v1_5 _)) va_nil))) vss_nil) vss_nil) (vss_cons (vs_if (PW.pt (vw_and (vt_cmpR (op_inF c.hu65) rfl (ve_var (v1_5 _)) (v1_2 _)) (vw_and (vt_cmp (op_inF c.hu65) rfl (ve_var (v1_4 _)) (ve_var (v1_0 _))) (vw_and1 (vt_cmpR (op_notInF c.hu65) rfl (ve_var (v1_4 _)) (v1_2 _)))))) (vss_cons (vs_drop rfl (ve_mut mm_append (mcall rfl rfl (by decide) (by decide +kernel)) (v1_2 _) (va_cons rfl (ve_var (v1_4 _)) va_nil))) vss_nil) vss_nil) vss_nil))) (fun _ => rfl)) vss_nil)) (fun _ => rfl)) (vss_cons (vs_retK [0, 1, 2, 3, 4, 5] (ve_cmp (op_eqF c.hu64) rfl (b1_len.app cr_lenF rfl (vab_b rfl (v1_2 _) vab_nil)) (b1_len.app cr_lenF rfl (vab_d rfl (ve_var (v1_0 _)) vab_nil)))) vss_nil)))
/-! is_tree -/
def N_is_tree : List Str := ["scopes", "edges", "nodes"]
theorem b_is_tree {X : Cx} (c : Cn X N_is_tree (defScope (top 20)).names (defScope (top 20)).names 1) (g : GF X.mg FREE INTS) (f_together : FavX X 1 "together" 2 [] s_together) : VSs X [] (defBody (top 20)) d_is_tree := by
  have v1_0 := fun pos => c.var (i := 0) (x := ("scopes" : Str)) (by decide +kernel) pos
  have v1_1 := fun pos => c.var (i := 1) (x := ("edges" : Str)) (by decide +kernel) pos
  have v1_2 := fun pos => c.var (i := 2) (x := ("nodes" : Str)) (by decide +kernel) pos
  have b1_range := c.bi g (x := ("range" : Str)) (v := .type "range") (by decide +kernel)
  have b1_len := c.bi g (x := ("len" : Str)) (v := .builtin "len") (by decide +kernel)
  have b1_list := c.bi g (x := ("list" : Str)) (v := .type "list") (by decide +kernel)
  exact (vss_cons (c.set (by decide) (by decide +kernel) (vf_ve (b1_list.listRg c.calm rfl (b1_range.prg1 rfl (b1_len.app cr_lenF rfl (vab_d rfl (ve_var (v1_0 _)) vab_nil))))) rfl) (vss_cons (vs_retK [0, 1, 2] (ve_and (ve_cmp (op_eqF c.hu64) rfl (b1_len.app cr_lenF rfl (vab_d rfl (ve_var (v1_1 _)) vab_nil)) (ve_bin op_subF (b1_len.app cr_lenF rfl (vab_d rfl (ve_var (v1_2 _)) vab_nil)) pe_iv)) (ve_one (c.call f_together (by decide) (by decide +kernel) rfl (by rfl) (by decide) (by rfl) (vc_d rfl (ve_var (v1_2 _)) (vc_d rfl (ve_var (v1_1 _)) vc_nil)))))) vss_nil))
/-! trees_of -/
def N_trees_of : List Str := ["scopes", "many", "pairs", "one", "other", "edges"]
theorem b_trees_of {X : Cx} (c : Cn X N_trees_of (defScope (top 22)).names (defScope (top 22)).names 2) (g : GF X.mg FREE INTS) (cb : X.mg ("combinations" : Str) = some (.type "itertools.combinations")) (f_is_tree : FavX X 2 "is_tree" 2 [] s_is_tree) : VSs X [] (defBody (top 22)) d_trees_of := by
  have v1_0 := fun pos => c.var (i := 0) (x := ("scopes" : Str)) (by decide +kernel) pos
  have v1_1 := fun pos => c.var (i := 1) (x := ("many" : Str)) (by decide +kernel) pos
  have v1_2 := fun pos => c.var (i := 2) (x := ("pairs" : Str)) (by decide +kernel) pos
  have b1_len := c.bi g (x := ("len" : Str)) (v := .builtin "len") (by decide +kernel)
  have b1_range := c.bi g (x := ("range" : Str)) (v := .type "range") (by decide +kernel)
  exact (vss_cons (c.set (by decide) (by decide +kernel) (b1_len.app cr_lenF rfl (vab_d rfl (ve_var (v1_0 _)) vab_nil)) rfl) (vss_cons (vs_fz 2 (c.ownLc2 (by decide) (by decide +kernel) (by decide +kernel) (by decide +kernel) (c.lc2 (own := [(("one" : Str), 3), (("other" : Str), 4)]) (vs1 := [4]) (b1_range.range1 rfl (ve_var (v1_1 _))) (by decide +kernel) rfl (by decide) (by decide) (by decide) (fun _ => rfl) (fun _ _ => rfl) (fun _ _ _ _ _ c2 => by (have v2_3 := fun pos => c2.var (i := 3) (x := ("one" : Str)) (by decide +kernel) pos; have v2_1 := fun pos => c2.var (i := 1) (x := ("many" : Str)) (by decide +kernel) pos; have v2_4 := fun pos => c2.var (i := 4) (x := ("other" : Str)) (by decide +kernel) pos; have b2_range := c2.bi g (x := ("range" : Str)) (v := .type "range") (by decide +kernel); have t2_3 := fun pos => c2.tgt (i := 3) (x := ("one" : Str)) (by decide +kernel) pos; have t2_4 := fun pos => c2.tgt (i := 4) (x := ("other" : Str)) (by decide +kernel) pos; exact ⟨(t2_3 _), vts_nil, (b2_range.range2 rfl rfl (ve_bin op_addF (ve_var (v2_3 _)) pe_iv) (ve_var (v2_1 _))), (t2_4 _), vts_nil, (ve_tup (by decide) (va_cons rfl (ve_var (v2_3 _)) (va_cons rfl (ve_var (v2_4 _)) va_nil)))⟩))))) (vss_cons (vs_retK [0, 1, 2, 3, 4, 5] (vf_ve (c.vf (c.lc (own := [(("edges" : Str), 5)]) (c.comb cb (by decide +kernel) rfl rfl (ve_var (v1_2 _)) (ve_bin op_subF (ve_var (v1_1 _)) pe_iv)) (by decide +kernel) rfl (by decide) (fun _ => rfl) (fun _ _ _ _ _ c3 => by (have v3_0 := fun pos => c3.var (i := 0) (x := ("scopes" : Str)) (by decide +kernel) pos; have v3_5 := fun pos => c3.var (i := 5) (x := ("edges" : Str)) (by decide +kernel) pos; have t3_5 := fun pos => c3.tgt (i := 5) (x := ("edges" : Str)) (by decide +kernel) pos; exact ⟨(t3_5 _), (vts_one (vt_truth (fun _ => rfl) (.d (c3.call f_is_tree (by decide) (by decide +kernel) rfl (by rfl) (by decide) (by rfl) (vc_d rfl (ve_var (v3_0 _)) (vc_d rfl (ve_var (v3_5 _)) vc_nil)))))), (ve_var (v3_5 _))⟩)))))) vss_nil)))
/-! told_tree -/
def N_told_tree : List Str := ["scopes", "rows", "edges", "fewest", "additions", "row"]
theorem b_told_tree {X : Cx} (c : Cn X N_told_tree (defScope (top 26)).names (defScope (top 26)).names 5) (g : GF X.mg FREE INTS) (f_check_scopes : FavX X 5 "check_scopes" 1 [] s_check_scopes) (f_trees_of : FavX X 3 "trees_of" 1 [] s_trees_of) (f_additions_of : FavX X 3 "additions_of" 2 [] s_additions_of) : VSs X [] (defBody (top 26)) d_told_tree := by
  have v1_0 := fun pos => c.var (i := 0) (x := ("scopes" : Str)) (by decide +kernel) pos
  have v1_1 := fun pos => c.var (i := 1) (x := ("rows" : Str)) (by decide +kernel) pos
  have b1_min := c.bi g (x := ("min" : Str)) (v := .builtin "min") (by decide +kernel)
  exact (vss_cons (vs_drop rfl (c.call f_check_scopes (by decide) (by decide +kernel) rfl (by rfl) (by decide) (by rfl) (vc_d rfl (ve_var (v1_0 _)) vc_nil))) (vss_cons (vs_fz 1 (c.ownLc (by decide) (by decide +kernel) (by decide +kernel) (by decide +kernel) (c.lc (own := [(("edges" : Str), 2)]) (vi_seq (c.call f_trees_of (by decide) (by decide +kernel) rfl (by rfl) (by decide) (by rfl) (vc_d rfl (ve_var (v1_0 _)) vc_nil))) (by decide +kernel) rfl (by decide) (fun _ => rfl) (fun _ _ _ _ _ c2 => by (have v2_2 := fun pos => c2.var (i := 2) (x := ("edges" : Str)) (by decide +kernel) pos; have v2_0 := fun pos => c2.var (i := 0) (x := ("scopes" : Str)) (by decide +kernel) pos; have t2_2 := fun pos => c2.tgt (i := 2) (x := ("edges" : Str)) (by decide +kernel) pos; exact ⟨(t2_2 _), vts_nil, (ve_tup (by decide) (va_cons rfl (ve_var (v2_2 _)) (va_cons rfl (c2.call f_additions_of (by decide) (by decide +kernel) rfl (by rfl) (by decide) (by rfl) (vc_d rfl (ve_var (v2_0 _)) (vc_d rfl (ve_var (v2_2 _)) vc_nil))) va_nil)))⟩))))) (vss_cons (c.set (by decide) (by decide +kernel) (b1_min.app (cr_minF c.calm c.hu) rfl (vab_d rfl (vf_ve (c.vf (c.lc (own := [(("edges" : Str), 2), (("additions" : Str), 4)]) (vi_seq (ve_var (v1_1 _))) (by decide +kernel) rfl (by decide) (fun _ => rfl) (fun _ _ _ _ _ c3 => by (have v3_4 := fun pos => c3.var (i := 4) (x := ("additions" : Str)) (by decide +kernel) pos; have b3_len := c3.bi g (x := ("len" : Str)) (v := .builtin "len") (by decide +kernel); have t3_4 := fun pos => c3.tgt (i := 4) (x := ("additions" : Str)) (by decide +kernel) pos; have t3_2 := fun pos => c3.tgt (i := 2) (x := ("edges" : Str)) (by decide +kernel) pos; exact ⟨(vg_tp c3.calm rfl rfl (vgs_cons rfl (t3_2 _) (vgs_cons rfl (t3_4 _) vgs_nil))), vts_nil, (b3_len.app cr_lenF rfl (vab_d rfl (ve_var (v3_4 _)) vab_nil))⟩))))) vab_nil)) rfl) (vss_cons (vs_retK [0, 1, 2, 3, 4, 5] (ve_sub c.hu1 (plainIx trivial) (vf_ve (c.vf (c.lc (own := [(("row" : Str), 5)]) (vi_seq (ve_var (v1_1 _))) (by decide +kernel) rfl (by decide) (fun _ => rfl) (fun _ _ _ _ _ c4 => by (have v4_5 := fun pos => c4.var (i := 5) (x := ("row" : Str)) (by decide +kernel) pos; have v4_3 := fun pos => c4.var (i := 3) (x := ("fewest" : Str)) (by decide +kernel) pos; have b4_len := c4.bi g (x := ("len" : Str)) (v := .builtin "len") (by decide +kernel); have t4_5 := fun pos => c4.tgt (i := 5) (x := ("row" : Str)) (by decide +kernel) pos; exact ⟨(t4_5 _), (vts_one (vt_cmp (op_eqF c4.hu64) rfl (b4_len.app cr_lenF rfl (vab_d rfl (ve_sub c4.hu1 (plainIx trivial) (ve_var (v4_5 _)) pe_iv) vab_nil)) (ve_var (v4_3 _)))), (ve_var (v4_5 _))⟩))))) pe_iv)) vss_nil))))
/-! _law_is_integer -/
def N__law_is_integer : List Str := ["_law_actual"]
theorem b__law_is_integer {X : Cx} (c : Cn X N__law_is_integer (defScope (top 31)).names (defScope (top 31)).names 0) (g : GF X.mg FREE INTS) : VSs X [] (defBody (top 31)) d__law_is_integer := by
  have v1_0 := fun pos => c.var (i := 0) (x := ("_law_actual" : Str)) (by decide +kernel) pos
  have b1_isinstance := c.bi g (x := ("isinstance" : Str)) (v := .builtin "isinstance") (by decide +kernel)
  have b1_int := c.bi g (x := ("int" : Str)) (v := .type "int") (by decide +kernel)
  have b1_bool := c.bi g (x := ("bool" : Str)) (v := .type "bool") (by decide +kernel)
  exact (vss_cons (vs_retK [0] (ve_and (b1_isinstance.isi (ty := .int) b1_int rfl (.d (ve_var (v1_0 _)))) (ve_one (ve_not (b1_isinstance.isi (ty := .bool) b1_bool rfl (.d (ve_var (v1_0 _)))))))) vss_nil)
/-! _law_equal__0 -/
def N__law_equal__0 : List Str := ["_law_actual", "_law_due", "_law_at"]
theorem b__law_equal__0 {X : Cx} (c : Cn X N__law_equal__0 (defScope (top 32)).names (defScope (top 32)).names 1) (g : GF X.mg FREE INTS) (f__law_is_integer : FavX X 1 "_law_is_integer" 1 [] s__law_is_integer) : VSs X [] (defBody (top 32)) d__law_equal__0 := by
  have v1_1 := fun pos => c.var (i := 1) (x := ("_law_due" : Str)) (by decide +kernel) pos
  have v1_0 := fun pos => c.var (i := 0) (x := ("_law_actual" : Str)) (by decide +kernel) pos
  have b1_isinstance := c.bi g (x := ("isinstance" : Str)) (v := .builtin "isinstance") (by decide +kernel)
  have b1_bool := c.bi g (x := ("bool" : Str)) (v := .type "bool") (by decide +kernel)
  have b1_int := c.bi g (x := ("int" : Str)) (v := .type "int") (by decide +kernel)
  have b1_str := c.bi g (x := ("str" : Str)) (v := .type "str") (by decide +kernel)
  have b1_tuple := c.bi g (x := ("tuple" : Str)) (v := .type "tuple") (by decide +kernel)
  have b1_list := c.bi g (x := ("list" : Str)) (v := .type "list") (by decide +kernel)
  have b1_len := c.bi g (x := ("len" : Str)) (v := .builtin "len") (by decide +kernel)
  have b1_range := c.bi g (x := ("range" : Str)) (v := .type "range") (by decide +kernel)
  have b1_all := c.bi g (x := ("all" : Str)) (v := .builtin "all") (by decide +kernel)
  exact (vss_cons (vs_if (vt_cmp op_isNF rfl (ve_var (v1_1 _)) pe_nv) (vss_cons (vs_retK [0, 1, 2] (ve_cmp op_isNF rfl (ve_var (v1_0 _)) pe_nv)) vss_nil) vss_nil) (vss_cons (vs_if (vt_truth (fun _ => rfl) (.d (b1_isinstance.isi (ty := .bool) b1_bool rfl (.d (ve_var (v1_1 _)))))) (vss_cons (vs_retK [0, 1, 2] (ve_and (b1_isinstance.isi (ty := .bool) b1_bool rfl (.d (ve_var (v1_0 _)))) (ve_one (ve_cmp (op_eqF c.hu64) rfl (ve_var (v1_0 _)) (ve_var (v1_1 _)))))) vss_nil) vss_nil) (vss_cons (vs_if (vt_truth (fun _ => rfl) (.d (b1_isinstance.isi (ty := .int) b1_int rfl (.d (ve_var (v1_1 _)))))) (vss_cons (vs_retK [0, 1, 2] (ve_and (c.call f__law_is_integer (by decide) (by decide +kernel) rfl (by rfl) (by decide) (by rfl) (vc_d rfl (ve_var (v1_0 _)) vc_nil)) (ve_one (ve_cmp (op_eqF c.hu64) rfl (ve_var (v1_0 _)) (ve_var (v1_1 _)))))) vss_nil) vss_nil) (vss_cons (vs_if (vt_truth (fun _ => rfl) (.d (b1_isinstance.isi (ty := .str) b1_str rfl (.d (ve_var (v1_1 _)))))) (vss_cons (vs_retK [0, 1, 2] (ve_and (b1_isinstance.isi (ty := .str) b1_str rfl (.d (ve_var (v1_0 _)))) (ve_one (ve_cmp (op_eqF c.hu64) rfl (ve_var (v1_0 _)) (ve_var (v1_1 _)))))) vss_nil) vss_nil) (vss_cons (vs_if (PW.pt (vw_and (vt_truth (fun _ => rfl) (.d (b1_isinstance.isi (ty := .tuple) b1_tuple rfl (.d (ve_var (v1_1 _)))))) (vw_and1 (vt_not (vt_truth (fun _ => rfl) (.d (b1_isinstance.isi (ty := .tuple) b1_tuple rfl (.d (ve_var (v1_0 _)))))))))) (vss_cons (vs_retK [0, 1, 2] pe_bv) vss_nil) vss_nil) (vss_cons (vs_if (PW.pt (vw_and (vt_truth (fun _ => rfl) (.d (b1_isinstance.isi (ty := .list) b1_list rfl (.d (ve_var (v1_1 _)))))) (vw_and1 (vt_not (vt_truth (fun _ => rfl) (.d (b1_isinstance.isi (ty := .list) b1_list rfl (.d (ve_var (v1_0 _)))))))))) (vss_cons (vs_retK [0, 1, 2] pe_bv) vss_nil) vss_nil) (vss_cons (vs_if (vt_cmp (op_neF c.hu64) rfl (b1_len.app cr_lenF rfl (vab_d rfl (ve_var (v1_0 _)) vab_nil)) (b1_len.app cr_lenF rfl (vab_d rfl (ve_var (v1_1 _)) vab_nil))) (vss_cons (vs_retK [0, 1, 2] pe_bv) vss_nil) vss_nil) (vss_cons (vs_retK [0, 1, 2] (b1_all.app (cr_allF c.calm) rfl (vab_d rfl (vf_ve (c.vf (c.lc (own := [(("_law_at" : Str), 2)]) (b1_range.range1 rfl (b1_len.app cr_lenF rfl (vab_d rfl (ve_var (v1_1 _)) vab_nil))) (by decide +kernel) rfl (by decide) (fun _ => rfl) (fun _ _ _ _ _ c2 => by (have t2_2 := fun pos => c2.tgt (i := 2) (x := ("_law_at" : Str)) (by decide +kernel) pos; exact ⟨(t2_2 _), vts_nil, ve_never⟩))))) vab_nil))) vss_nil))))))))
/-! _law_equal__1 -/
def N__law_equal__1 : List Str := ["_law_actual", "_law_due", "_law_at"]
theorem b__law_equal__1 {X : Cx} (c : Cn X N__law_equal__1 (defScope (top 32)).names (defScope (top 32)).names 2) (g : GF X.mg FREE INTS) (f__law_is_integer : FavX X 1 "_law_is_integer" 1 [] s__law_is_integer) (f__law_equal__0 : FavX X 2 "_law_equal" 2 [] s__law_equal__0) : VSs X [] (defBody (top 32)) d__law_equal__1 := by
  have v1_1 := fun pos => c.var (i := 1) (x := ("_law_due" : Str)) (by decide +kernel) pos
  have v1_0 := fun pos => c.var (i := 0) (x := ("_law_actual" : Str)) (by decide +kernel) pos
  have b1_isinstance := c.bi g (x := ("isinstance" : Str)) (v := .builtin "isinstance") (by decide +kernel)
  have b1_bool := c.bi g (x := ("bool" : Str)) (v := .type "bool") (by decide +kernel)
  have b1_int := c.bi g (x := ("int" : Str)) (v := .type "int") (by decide +kernel)
  have b1_str := c.bi g (x := ("str" : Str)) (v := .type "str") (by decide +kernel)
  have b1_tuple := c.bi g (x := ("tuple" : Str)) (v := .type "tuple") (by decide +kernel)
  have b1_list := c.bi g (x := ("list" : Str)) (v := .type "list") (by decide +kernel)
  have b1_len := c.bi g (x := ("len" : Str)) (v := .builtin "len") (by decide +kernel)
  have b1_range := c.bi g (x := ("range" : Str)) (v := .type "range") (by decide +kernel)
  have b1_all := c.bi g (x := ("all" : Str)) (v := .builtin "all") (by decide +kernel)
  exact (vss_cons (vs_if (vt_cmp op_isNF rfl (ve_var (v1_1 _)) pe_nv) (vss_cons (vs_retK [0, 1, 2] (ve_cmp op_isNF rfl (ve_var (v1_0 _)) pe_nv)) vss_nil) vss_nil) (vss_cons (vs_if (vt_truth (fun _ => rfl) (.d (b1_isinstance.isi (ty := .bool) b1_bool rfl (.d (ve_var (v1_1 _)))))) (vss_cons (vs_retK [0, 1, 2] (ve_and (b1_isinstance.isi (ty := .bool) b1_bool rfl (.d (ve_var (v1_0 _)))) (ve_one (ve_cmp (op_eqF c.hu64) rfl (ve_var (v1_0 _)) (ve_var (v1_1 _)))))) vss_nil) vss_nil) (vss_cons (vs_if (vt_truth (fun _ => rfl) (.d (b1_isinstance.isi (ty := .int) b1_int rfl (.d (ve_var (v1_1 _)))))) (vss_cons (vs_retK [0, 1, 2] (ve_and (c.call f__law_is_integer (by decide) (by decide +kernel) rfl (by rfl) (by decide) (by rfl) (vc_d rfl (ve_var (v1_0 _)) vc_nil)) (ve_one (ve_cmp (op_eqF c.hu64) rfl (ve_var (v1_0 _)) (ve_var (v1_1 _)))))) vss_nil) vss_nil) (vss_cons (vs_if (vt_truth (fun _ => rfl) (.d (b1_isinstance.isi (ty := .str) b1_str rfl (.d (ve_var (v1_1 _)))))) (vss_cons (vs_retK [0, 1, 2] (ve_and (b1_isinstance.isi (ty := .str) b1_str rfl (.d (ve_var (v1_0 _)))) (ve_one (ve_cmp (op_eqF c.hu64) rfl (ve_var (v1_0 _)) (ve_var (v1_1 _)))))) vss_nil) vss_nil) (vss_cons (vs_if (PW.pt (vw_and (vt_truth (fun _ => rfl) (.d (b1_isinstance.isi (ty := .tuple) b1_tuple rfl (.d (ve_var (v1_1 _)))))) (vw_and1 (vt_not (vt_truth (fun _ => rfl) (.d (b1_isinstance.isi (ty := .tuple) b1_tuple rfl (.d (ve_var (v1_0 _)))))))))) (vss_cons (vs_retK [0, 1, 2] pe_bv) vss_nil) vss_nil) (vss_cons (vs_if (PW.pt (vw_and (vt_truth (fun _ => rfl) (.d (b1_isinstance.isi (ty := .list) b1_list rfl (.d (ve_var (v1_1 _)))))) (vw_and1 (vt_not (vt_truth (fun _ => rfl) (.d (b1_isinstance.isi (ty := .list) b1_list rfl (.d (ve_var (v1_0 _)))))))))) (vss_cons (vs_retK [0, 1, 2] pe_bv) vss_nil) vss_nil) (vss_cons (vs_if (vt_cmp (op_neF c.hu64) rfl (b1_len.app cr_lenF rfl (vab_d rfl (ve_var (v1_0 _)) vab_nil)) (b1_len.app cr_lenF rfl (vab_d rfl (ve_var (v1_1 _)) vab_nil))) (vss_cons (vs_retK [0, 1, 2] pe_bv) vss_nil) vss_nil) (vss_cons (vs_retK [0, 1, 2] (b1_all.app (cr_allF c.calm) rfl (vab_d rfl (vf_ve (c.vf (c.lc (own := [(("_law_at" : Str), 2)]) (b1_range.range1 rfl (b1_len.app cr_lenF rfl (vab_d rfl (ve_var (v1_1 _)) vab_nil))) (by decide +kernel) rfl (by decide) (fun _ => rfl) (fun _ _ _ _ _ c2 => by (have v2_0 := fun pos => c2.var (i := 0) (x := ("_law_actual" : Str)) (by decide +kernel) pos; have v2_2 := fun pos => c2.var (i := 2) (x := ("_law_at" : Str)) (by decide +kernel) pos; have v2_1 := fun pos => c2.var (i := 1) (x := ("_law_due" : Str)) (by decide +kernel) pos; have t2_2 := fun pos => c2.tgt (i := 2) (x := ("_law_at" : Str)) (by decide +kernel) pos; exact ⟨(t2_2 _), vts_nil, (c2.call f__law_equal__0 (by decide) (by decide +kernel) rfl (by rfl) (by decide) (by rfl) (vc_d rfl (ve_sub c2.hu1 (plainIx trivial) (ve_var (v2_0 _)) (ve_var (v2_2 _))) (vc_d rfl (ve_sub c2.hu1 (plainIx trivial) (ve_var (v2_1 _)) (ve_var (v2_2 _))) vc_nil)))⟩))))) vab_nil))) vss_nil))))))))
/-! _law_equal__2 -/
def N__law_equal__2 : List Str := ["_law_actual", "_law_due", "_law_at"]
theorem b__law_equal__2 {X : Cx} (c : Cn X N__law_equal__2 (defScope (top 32)).names (defScope (top 32)).names 3) (g : GF X.mg FREE INTS) (f__law_is_integer : FavX X 1 "_law_is_integer" 1 [] s__law_is_integer) (f__law_equal__1 : FavX X 3 "_law_equal" 2 [] s__law_equal__1) : VSs X [] (defBody (top 32)) d__law_equal__2 := by
  have v1_1 := fun pos => c.var (i := 1) (x := ("_law_due" : Str)) (by decide +kernel) pos
  have v1_0 := fun pos => c.var (i := 0) (x := ("_law_actual" : Str)) (by decide +kernel) pos
  have b1_isinstance := c.bi g (x := ("isinstance" : Str)) (v := .builtin "isinstance") (by decide +kernel)
  have b1_bool := c.bi g (x := ("bool" : Str)) (v := .type "bool") (by decide +kernel)
  have b1_int := c.bi g (x := ("int" : Str)) (v := .type "int") (by decide +kernel)
  have b1_str := c.bi g (x := ("str" : Str)) (v := .type "str") (by decide +kernel)
  have b1_tuple := c.bi g (x := ("tuple" : Str)) (v := .type "tuple") (by decide +kernel)
  have b1_list := c.bi g (x := ("list" : Str)) (v := .type "list") (by decide +kernel)
  have b1_len := c.bi g (x := ("len" : Str)) (v := .builtin "len") (by decide +kernel)
  have b1_range := c.bi g (x := ("range" : Str)) (v := .type "range") (by decide +kernel)
  have b1_all := c.bi g (x := ("all" : Str)) (v := .builtin "all") (by decide +kernel)
  exact (vss_cons (vs_if (vt_cmp op_isNF rfl (ve_var (v1_1 _)) pe_nv) (vss_cons (vs_retK [0, 1, 2] (ve_cmp op_isNF rfl (ve_var (v1_0 _)) pe_nv)) vss_nil) vss_nil) (vss_cons (vs_if (vt_truth (fun _ => rfl) (.d (b1_isinstance.isi (ty := .bool) b1_bool rfl (.d (ve_var (v1_1 _)))))) (vss_cons (vs_retK [0, 1, 2] (ve_and (b1_isinstance.isi (ty := .bool) b1_bool rfl (.d (ve_var (v1_0 _)))) (ve_one (ve_cmp (op_eqF c.hu64) rfl (ve_var (v1_0 _)) (ve_var (v1_1 _)))))) vss_nil) vss_nil) (vss_cons (vs_if (vt_truth (fun _ => rfl) (.d (b1_isinstance.isi (ty := .int) b1_int rfl (.d (ve_var (v1_1 _)))))) (vss_cons (vs_retK [0, 1, 2] (ve_and (c.call f__law_is_integer (by decide) (by decide +kernel) rfl (by rfl) (by decide) (by rfl) (vc_d rfl (ve_var (v1_0 _)) vc_nil)) (ve_one (ve_cmp (op_eqF c.hu64) rfl (ve_var (v1_0 _)) (ve_var (v1_1 _)))))) vss_nil) vss_nil) (vss_cons (vs_if (vt_truth (fun _ => rfl) (.d (b1_isinstance.isi (ty := .str) b1_str rfl (.d (ve_var (v1_1 _)))))) (vss_cons (vs_retK [0, 1, 2] (ve_and (b1_isinstance.isi (ty := .str) b1_str rfl (.d (ve_var (v1_0 _)))) (ve_one (ve_cmp (op_eqF c.hu64) rfl (ve_var (v1_0 _)) (ve_var (v1_1 _)))))) vss_nil) vss_nil) (vss_cons (vs_if (PW.pt (vw_and (vt_truth (fun _ => rfl) (.d (b1_isinstance.isi (ty := .tuple) b1_tuple rfl (.d (ve_var (v1_1 _)))))) (vw_and1 (vt_not (vt_truth (fun _ => rfl) (.d (b1_isinstance.isi (ty := .tuple) b1_tuple rfl (.d (ve_var (v1_0 _)))))))))) (vss_cons (vs_retK [0, 1, 2] pe_bv) vss_nil) vss_nil) (vss_cons (vs_if (PW.pt (vw_and (vt_truth (fun _ => rfl) (.d (b1_isinstance.isi (ty := .list) b1_list rfl (.d (ve_var (v1_1 _)))))) (vw_and1 (vt_not (vt_truth (fun _ => rfl) (.d (b1_isinstance.isi (ty := .list) b1_list rfl (.d (ve_var (v1_0 _)))))))))) (vss_cons (vs_retK [0, 1, 2] pe_bv) vss_nil) vss_nil) (vss_cons (vs_if (vt_cmp (op_neF c.hu64) rfl (b1_len.app cr_lenF rfl (vab_d rfl (ve_var (v1_0 _)) vab_nil)) (b1_len.app cr_lenF rfl (vab_d rfl (ve_var (v1_1 _)) vab_nil))) (vss_cons (vs_retK [0, 1, 2] pe_bv) vss_nil) vss_nil) (vss_cons (vs_retK [0, 1, 2] (b1_all.app (cr_allF c.calm) rfl (vab_d rfl (vf_ve (c.vf (c.lc (own := [(("_law_at" : Str), 2)]) (b1_range.range1 rfl (b1_len.app cr_lenF rfl (vab_d rfl (ve_var (v1_1 _)) vab_nil))) (by decide +kernel) rfl (by decide) (fun _ => rfl) (fun _ _ _ _ _ c2 => by (have v2_0 := fun pos => c2.var (i := 0) (x := ("_law_actual" : Str)) (by decide +kernel) pos; have v2_2 := fun pos => c2.var (i := 2) (x := ("_law_at" : Str)) (by decide +kernel) pos; have v2_1 := fun pos => c2.var (i := 1) (x := ("_law_due" : Str)) (by decide +kernel) pos; have t2_2 := fun pos => c2.tgt (i := 2) (x := ("_law_at" : Str)) (by decide +kernel) pos; exact ⟨(t2_2 _), vts_nil, (c2.call f__law_equal__1 (by decide) (by decide +kernel) rfl (by rfl) (by decide) (by rfl) (vc_d rfl (ve_sub c2.hu1 (plainIx trivial) (ve_var (v2_0 _)) (ve_var (v2_2 _))) (vc_d rfl (ve_sub c2.hu1 (plainIx trivial) (ve_var (v2_1 _)) (ve_var (v2_2 _))) vc_nil)))⟩))))) vab_nil))) vss_nil))))))))
/-! _law_equal__3 -/
def N__law_equal__3 : List Str := ["_law_actual", "_law_due", "_law_at"]
theorem b__law_equal__3 {X : Cx} (c : Cn X N__law_equal__3 (defScope (top 32)).names (defScope (top 32)).names 4) (g : GF X.mg FREE INTS) (f__law_is_integer : FavX X 1 "_law_is_integer" 1 [] s__law_is_integer) (f__law_equal__2 : FavX X 4 "_law_equal" 2 [] s__law_equal__2) : VSs X [] (defBody (top 32)) d__law_equal__3 := by
  have v1_1 := fun pos => c.var (i := 1) (x := ("_law_due" : Str)) (by decide +kernel) pos
  have v1_0 := fun pos => c.var (i := 0) (x := ("_law_actual" : Str)) (by decide +kernel) pos
  have b1_isinstance := c.bi g (x := ("isinstance" : Str)) (v := .builtin "isinstance") (by decide +kernel)
  have b1_bool := c.bi g (x := ("bool" : Str)) (v := .type "bool") (by decide +kernel)
  have b1_int := c.bi g (x := ("int" : Str)) (v := .type "int") (by decide +kernel)
  have b1_str := c.bi g (x := ("str" : Str)) (v := .type "str") (by decide +kernel)
  have b1_tuple := c.bi g (x := ("tuple" : Str)) (v := .type "tuple") (by decide +kernel)
  have b1_list := c.bi g (x := ("list" : Str)) (v := .type "list") (by decide +kernel)
  have b1_len := c.bi g (x := ("len" : Str)) (v := .builtin "len") (by decide +kernel)
  have b1_range := c.bi g (x := ("range" : Str)) (v := .type "range") (by decide +kernel)
  have b1_all := c.bi g (x := ("all" : Str)) (v := .builtin "all") (by decide +kernel)
  exact (vss_cons (vs_if (vt_cmp op_isNF rfl (ve_var (v1_1 _)) pe_nv) (vss_cons (vs_retK [0, 1, 2] (ve_cmp op_isNF rfl (ve_var (v1_0 _)) pe_nv)) vss_nil) vss_nil) (vss_cons (vs_if (vt_truth (fun _ => rfl) (.d (b1_isinstance.isi (ty := .bool) b1_bool rfl (.d (ve_var (v1_1 _)))))) (vss_cons (vs_retK [0, 1, 2] (ve_and (b1_isinstance.isi (ty := .bool) b1_bool rfl (.d (ve_var (v1_0 _)))) (ve_one (ve_cmp (op_eqF c.hu64) rfl (ve_var (v1_0 _)) (ve_var (v1_1 _)))))) vss_nil) vss_nil) (vss_cons (vs_if (vt_truth (fun _ => rfl) (.d (b1_isinstance.isi (ty := .int) b1_int rfl (.d (ve_var (v1_1 _)))))) (vss_cons (vs_retK [0, 1, 2] (ve_and (c.call f__law_is_integer (by decide) (by decide +kernel) rfl (by rfl) (by decide) (by rfl) (vc_d rfl (ve_var (v1_0 _)) vc_nil)) (ve_one (ve_cmp (op_eqF c.hu64) rfl (ve_var (v1_0 _)) (ve_var (v1_1 _)))))) vss_nil) vss_nil) (vss_cons (vs_if (vt_truth (fun _ => rfl) (.d (b1_isinstance.isi (ty := .str) b1_str rfl (.d (ve_var (v1_1 _)))))) (vss_cons (vs_retK [0, 1, 2] (ve_and (b1_isinstance.isi (ty := .str) b1_str rfl (.d (ve_var (v1_0 _)))) (ve_one (ve_cmp (op_eqF c.hu64) rfl (ve_var (v1_0 _)) (ve_var (v1_1 _)))))) vss_nil) vss_nil) (vss_cons (vs_if (PW.pt (vw_and (vt_truth (fun _ => rfl) (.d (b1_isinstance.isi (ty := .tuple) b1_tuple rfl (.d (ve_var (v1_1 _)))))) (vw_and1 (vt_not (vt_truth (fun _ => rfl) (.d (b1_isinstance.isi (ty := .tuple) b1_tuple rfl (.d (ve_var (v1_0 _)))))))))) (vss_cons (vs_retK [0, 1, 2] pe_bv) vss_nil) vss_nil) (vss_cons (vs_if (PW.pt (vw_and (vt_truth (fun _ => rfl) (.d (b1_isinstance.isi (ty := .list) b1_list rfl (.d (ve_var (v1_1 _)))))) (vw_and1 (vt_not (vt_truth (fun _ => rfl) (.d (b1_isinstance.isi (ty := .list) b1_list rfl (.d (ve_var (v1_0 _)))))))))) (vss_cons (vs_retK [0, 1, 2] pe_bv) vss_nil) vss_nil) (vss_cons (vs_if (vt_cmp (op_neF c.hu64) rfl (b1_len.app cr_lenF rfl (vab_d rfl (ve_var (v1_0 _)) vab_nil)) (b1_len.app cr_lenF rfl (vab_d rfl (ve_var (v1_1 _)) vab_nil))) (vss_cons (vs_retK [0, 1, 2] pe_bv) vss_nil) vss_nil) (vss_cons (vs_retK [0, 1, 2] (b1_all.app (cr_allF c.calm) rfl (vab_d rfl (vf_ve (c.vf (c.lc (own := [(("_law_at" : Str), 2)]) (b1_range.range1 rfl (b1_len.app cr_lenF rfl (vab_d rfl (ve_var (v1_1 _)) vab_nil))) (by decide +kernel) rfl (by decide) (fun _ => rfl) (fun _ _ _ _ _ c2 => by (have v2_0 := fun pos => c2.var (i := 0) (x := ("_law_actual" : Str)) (by decide +kernel) pos; have v2_2 := fun pos => c2.var (i := 2) (x := ("_law_at" : Str)) (by decide +kernel) pos; have v2_1 := fun pos => c2.var (i := 1) (x := ("_law_due" : Str)) (by decide +kernel) pos; have t2_2 := fun pos => c2.tgt (i := 2) (x := ("_law_at" : Str)) (by decide +kernel) pos; exact ⟨(t2_2 _), vts_nil, (c2.call f__law_equal__2 (by decide) (by decide +kernel) rfl (by rfl) (by decide) (by rfl) (vc_d rfl (ve_sub c2.hu1 (plainIx trivial) (ve_var (v2_0 _)) (ve_var (v2_2 _))) (vc_d rfl (ve_sub c2.hu1 (plainIx trivial) (ve_var (v2_1 _)) (ve_var (v2_2 _))) vc_nil)))⟩))))) vab_nil))) vss_nil))))))))
/-! _law_equal__4 -/
def N__law_equal__4 : List Str := ["_law_actual", "_law_due", "_law_at"]
theorem b__law_equal__4 {X : Cx} (c : Cn X N__law_equal__4 (defScope (top 32)).names (defScope (top 32)).names 5) (g : GF X.mg FREE INTS) (f__law_is_integer : FavX X 1 "_law_is_integer" 1 [] s__law_is_integer) (f__law_equal__3 : FavX X 5 "_law_equal" 2 [] s__law_equal__3) : VSs X [] (defBody (top 32)) d__law_equal__4 := by
  have v1_1 := fun pos => c.var (i := 1) (x := ("_law_due" : Str)) (by decide +kernel) pos
  have v1_0 := fun pos => c.var (i := 0) (x := ("_law_actual" : Str)) (by decide +kernel) pos
  have b1_isinstance := c.bi g (x := ("isinstance" : Str)) (v := .builtin "isinstance") (by decide +kernel)
  have b1_bool := c.bi g (x := ("bool" : Str)) (v := .type "bool") (by decide +kernel)
  have b1_int := c.bi g (x := ("int" : Str)) (v := .type "int") (by decide +kernel)
  have b1_str := c.bi g (x := ("str" : Str)) (v := .type "str") (by decide +kernel)
  have b1_tuple := c.bi g (x := ("tuple" : Str)) (v := .type "tuple") (by decide +kernel)
  have b1_list := c.bi g (x := ("list" : Str)) (v := .type "list") (by decide +kernel)
  have b1_len := c.bi g (x := ("len" : Str)) (v := .builtin "len") (by decide +kernel)
  have b1_range := c.bi g (x := ("range" : Str)) (v := .type "range") (by decide +kernel)
  have b1_all := c.bi g (x := ("all" : Str)) (v := .builtin "all") (by decide +kernel)
  exact (vss_cons (vs_if (vt_cmp op_isNF rfl (ve_var (v1_1 _)) pe_nv) (vss_cons (vs_retK [0, 1, 2] (ve_cmp op_isNF rfl (ve_var (v1_0 _)) pe_nv)) vss_nil) vss_nil) (vss_cons (vs_if (vt_truth (fun _ => rfl) (.d (b1_isinstance.isi (ty := .bool) b1_bool rfl (.d (ve_var (v1_1 _)))))) (vss_cons (vs_retK [0, 1, 2] (ve_and (b1_isinstance.isi (ty := .bool) b1_bool rfl (.d (ve_var (v1_0 _)))) (ve_one (ve_cmp (op_eqF c.hu64) rfl (ve_var (v1_0 _)) (ve_var (v1_1 _)))))) vss_nil) vss_nil) (vss_cons (vs_if (vt_truth (fun _ => rfl) (.d (b1_isinstance.isi (ty := .int) b1_int rfl (.d (ve_var (v1_1 _)))))) (vss_cons (vs_retK [0, 1, 2] (ve_and (c.call f__law_is_integer (by decide) (by decide +kernel) rfl (by rfl) (by decide) (by rfl) (vc_d rfl (ve_var (v1_0 _)) vc_nil)) (ve_one (ve_cmp (op_eqF c.hu64) rfl (ve_var (v1_0 _)) (ve_var (v1_1 _)))))) vss_nil) vss_nil) (vss_cons (vs_if (vt_truth (fun _ => rfl) (.d (b1_isinstance.isi (ty := .str) b1_str rfl (.d (ve_var (v1_1 _)))))) (vss_cons (vs_retK [0, 1, 2] (ve_and (b1_isinstance.isi (ty := .str) b1_str rfl (.d (ve_var (v1_0 _)))) (ve_one (ve_cmp (op_eqF c.hu64) rfl (ve_var (v1_0 _)) (ve_var (v1_1 _)))))) vss_nil) vss_nil) (vss_cons (vs_if (PW.pt (vw_and (vt_truth (fun _ => rfl) (.d (b1_isinstance.isi (ty := .tuple) b1_tuple rfl (.d (ve_var (v1_1 _)))))) (vw_and1 (vt_not (vt_truth (fun _ => rfl) (.d (b1_isinstance.isi (ty := .tuple) b1_tuple rfl (.d (ve_var (v1_0 _)))))))))) (vss_cons (vs_retK [0, 1, 2] pe_bv) vss_nil) vss_nil) (vss_cons (vs_if (PW.pt (vw_and (vt_truth (fun _ => rfl) (.d (b1_isinstance.isi (ty := .list) b1_list rfl (.d (ve_var (v1_1 _)))))) (vw_and1 (vt_not (vt_truth (fun _ => rfl) (.d (b1_isinstance.isi (ty := .list) b1_list rfl (.d (ve_var (v1_0 _)))))))))) (vss_cons (vs_retK [0, 1, 2] pe_bv) vss_nil) vss_nil) (vss_cons (vs_if (vt_cmp (op_neF c.hu64) rfl (b1_len.app cr_lenF rfl (vab_d rfl (ve_var (v1_0 _)) vab_nil)) (b1_len.app cr_lenF rfl (vab_d rfl (ve_var (v1_1 _)) vab_nil))) (vss_cons (vs_retK [0, 1, 2] pe_bv) vss_nil) vss_nil) (vss_cons (vs_retK [0, 1, 2] (b1_all.app (cr_allF c.calm) rfl (vab_d rfl (vf_ve (c.vf (c.lc (own := [(("_law_at" : Str), 2)]) (b1_range.range1 rfl (b1_len.app cr_lenF rfl (vab_d rfl (ve_var (v1_1 _)) vab_nil))) (by decide +kernel) rfl (by decide) (fun _ => rfl) (fun _ _ _ _ _ c2 => by (have v2_0 := fun pos => c2.var (i := 0) (x := ("_law_actual" : Str)) (by decide +kernel) pos; have v2_2 := fun pos => c2.var (i := 2) (x := ("_law_at" : Str)) (by decide +kernel) pos; have v2_1 := fun pos => c2.var (i := 1) (x := ("_law_due" : Str)) (by decide +kernel) pos; have t2_2 := fun pos => c2.tgt (i := 2) (x := ("_law_at" : Str)) (by decide +kernel) pos; exact ⟨(t2_2 _), vts_nil, (c2.call f__law_equal__3 (by decide) (by decide +kernel) rfl (by rfl) (by decide) (by rfl) (vc_d rfl (ve_sub c2.hu1 (plainIx trivial) (ve_var (v2_0 _)) (ve_var (v2_2 _))) (vc_d rfl (ve_sub c2.hu1 (plainIx trivial) (ve_var (v2_1 _)) (ve_var (v2_2 _))) vc_nil)))⟩))))) vab_nil))) vss_nil))))))))
/-! are_pairs -/
def N_are_pairs : List Str := ["value", "most", "others", "pair", "at"]
theorem b_are_pairs {X : Cx} (c : Cn X N_are_pairs (defScope (top 16)).names (defScope (top 16)).names 1) (g : GF X.mg FREE INTS) (f_is_whole : FavX X 1 "is_whole" 3 [] s_is_whole) : VSs X [] (defBody (top 16)) d_are_pairs := by
  have v1_0 := fun pos => c.var (i := 0) (x := ("value" : Str)) (by decide +kernel) pos
  have v1_3 := fun pos => c.var (i := 3) (x := ("pair" : Str)) (by decide +kernel) pos
  have v1_1 := fun pos => c.var (i := 1) (x := ("most" : Str)) (by decide +kernel) pos
  have v1_2 := fun pos => c.var (i := 2) (x := ("others" : Str)) (by decide +kernel) pos
  have b1_isinstance := c.bi g (x := ("isinstance" : Str)) (v := .builtin "isinstance") (by decide +kernel)
  have b1_tuple := c.bi g (x := ("tuple" : Str)) (v := .type "tuple") (by decide +kernel)
  have b1_len := c.bi g (x := ("len" : Str)) (v := .builtin "len") (by decide +kernel)
  have b1_range := c.bi g (x := ("range" : Str)) (v := .type "range") (by decide +kernel)
  have b1_all := c.bi g (x := ("all" : Str)) (v := .builtin "all") (by decide +kernel)
  have t1_3 := fun pos => c.tgt (i := 3) (x := ("pair" : Str)) (by decide +kernel) pos
  exact (vss_cons (vs_if (vt_not (vt_truth (fun _ => rfl) (.d (b1_isinstance.isi (ty := .tuple) b1_tuple rfl (.d (ve_var (v1_0 _))))))) (vss_cons (vs_retK [0, 1, 2, 3, 4] pe_bv) vss_nil) vss_nil) (vss_cons (vs_for c.xe c.calm (refs_tgt (by decide)) (vi_seq (ve_var (v1_0 _))) (t1_3 _) (vss_post [3] (vss_cons (vs_if (PW.pt (vw_or (vt_not (vt_truth (fun _ => rfl) (.d (b1_isinstance.isi (ty := .tuple) b1_tuple rfl (.d (ve_var (v1_3 _))))))) (vw_or1 (vt_cmp (op_neF c.hu64) rfl (b1_len.app cr_lenF rfl (vab_d rfl (ve_var (v1_3 _)) vab_nil)) pe_iv)))) (vss_cons (vs_retK [0, 1, 2, 3, 4] pe_bv) vss_nil) vss_nil) (vss_cons (vs_if (PW.pt (vw_or (vt_not (vt_truth (fun _ => rfl) (.d (c.call f_is_whole (by decide) (by decide +kernel) rfl (by rfl) (by decide) (by rfl) (vc_d rfl (ve_sub c.hu1 (plainIx trivial) (ve_var (v1_3 _)) pe_iv) (vc_d rfl pe_iv (vc_d rfl (ve_var (v1_1 _)) vc_nil))))))) (vw_or1 (vt_not (vt_truth (fun _ => rfl) (.d (c.call f_is_whole (by decide) (by decide +kernel) rfl (by rfl) (by decide) (by rfl) (vc_d rfl (ve_sub c.hu1 (plainIx trivial) (ve_var (v1_3 _)) pe_iv) (vc_d rfl pe_iv (vc_d rfl (ve_var (v1_2 _)) vc_nil)))))))))) (vss_cons (vs_retK [0, 1, 2, 3, 4] pe_bv) vss_nil) vss_nil) vss_nil))) (fun _ => rfl)) (vss_cons (vs_retK [0, 1, 2, 3, 4] (b1_all.app (cr_allF c.calm) rfl (vab_d rfl (vf_ve (c.vf (c.lc (own := [(("at" : Str), 4)]) (b1_range.range1 rfl (ve_bin op_subF (b1_len.app cr_lenF rfl (vab_d rfl (ve_var (v1_0 _)) vab_nil)) pe_iv)) (by decide +kernel) rfl (by decide) (fun _ => rfl) (fun _ _ _ _ _ c2 => by (have v2_0 := fun pos => c2.var (i := 0) (x := ("value" : Str)) (by decide +kernel) pos; have v2_4 := fun pos => c2.var (i := 4) (x := ("at" : Str)) (by decide +kernel) pos; have t2_4 := fun pos => c2.tgt (i := 4) (x := ("at" : Str)) (by decide +kernel) pos; exact ⟨(t2_4 _), vts_nil, (ve_cmp (op_ltF c2.hu0) rfl (ve_sub c2.hu1 (plainIx trivial) (ve_var (v2_0 _)) (ve_var (v2_4 _))) (ve_sub c2.hu1 (plainIx trivial) (ve_var (v2_0 _)) (ve_bin op_addF (ve_var (v2_4 _)) pe_iv)))⟩))))) vab_nil))) vss_nil)))
/-! are_edges -/
def N_are_edges : List Str := ["scopes", "value", "many", "one", "other"]
theorem b_are_edges {X : Cx} (c : Cn X N_are_edges (defScope (top 17)).names (defScope (top 17)).names 2) (g : GF X.mg FREE INTS) (f_are_pairs : FavX X 2 "are_pairs" 3 [] s_are_pairs) : VSs X [] (defBody (top 17)) d_are_edges := by
  have v1_0 := fun pos => c.var (i := 0) (x := ("scopes" : Str)) (by decide +kernel) pos
  have v1_1 := fun pos => c.var (i := 1) (x := ("value" : Str)) (by decide +kernel) pos
  have v1_2 := fun pos => c.var (i := 2) (x := ("many" : Str)) (by decide +kernel) pos
  have b1_len := c.bi g (x := ("len" : Str)) (v := .builtin "len") (by decide +kernel)
  have b1_all := c.bi g (x := ("all" : Str)) (v := .builtin "all") (by decide +kernel)
  exact (vss_cons (c.set (by decide) (by decide +kernel) (ve_bin op_subF (b1_len.app cr_lenF rfl (vab_d rfl (ve_var (v1_0 _)) vab_nil)) pe_iv) rfl) (vss_cons (vs_retK [0, 1, 2, 3, 4] (ve_and (c.call f_are_pairs (by decide) (by decide +kernel) rfl (by rfl) (by decide) (by rfl) (vc_d rfl (ve_var (v1_1 _)) (vc_d rfl (ve_var (v1_2 _)) (vc_d rfl (ve_var (v1_2 _)) vc_nil)))) (ve_one (b1_all.app (cr_allF c.calm) rfl (vab_d rfl (vf_ve (c.vf (c.lc (own := [(("one" : Str), 3), (("other" : Str), 4)]) (vi_seq (ve_var (v1_1 _))) (by decide +kernel) rfl (by decide) (fun _ => rfl) (fun _ _ _ _ _ c2 => by (have v2_3 := fun pos => c2.var (i := 3) (x := ("one" : Str)) (by decide +kernel) pos; have v2_4 := fun pos => c2.var (i := 4) (x := ("other" : Str)) (by decide +kernel) pos; have t2_4 := fun pos => c2.tgt (i := 4) (x := ("other" : Str)) (by decide +kernel) pos; have t2_3 := fun pos => c2.tgt (i := 3) (x := ("one" : Str)) (by decide +kernel) pos; exact ⟨(vg_tp c2.calm rfl rfl (vgs_cons rfl (t2_3 _) (vgs_cons rfl (t2_4 _) vgs_nil))), vts_nil, (ve_cmp (op_ltF c2.hu0) rfl (ve_var (v2_3 _)) (ve_var (v2_4 _)))⟩))))) vab_nil))))) vss_nil))
/-! check_edges -/
def N_check_edges : List Str := ["scopes", "edges"]
theorem b_check_edges {X : Cx} (c : Cn X N_check_edges (defScope (top 18)).names (defScope (top 18)).names 5) (g : GF X.mg FREE INTS) (f_check_scopes : FavX X 5 "check_scopes" 1 [] s_check_scopes) (f_are_edges : FavX X 3 "are_edges" 2 [] s_are_edges) : VSs X [] (defBody (top 18)) d_check_edges := by
  have v1_0 := fun pos => c.var (i := 0) (x := ("scopes" : Str)) (by decide +kernel) pos
  have v1_1 := fun pos => c.var (i := 1) (x := ("edges" : Str)) (by decide +kernel) pos
  exact (vss_cons (vs_drop rfl (c.call f_check_scopes (by decide) (by decide +kernel) rfl (by rfl) (by decide) (by rfl) (vc_d rfl (ve_var (v1_0 _)) vc_nil))) (vss_cons (vs_if (vt_not (vt_truth (fun _ => rfl) (.d (c.call f_are_edges (by decide) (by decide +kernel) rfl (by rfl) (by decide) (by rfl) (vc_d rfl (ve_var (v1_0 _)) (vc_d rfl (ve_var (v1_1 _)) vc_nil)))))) (vss_cons vs_never vss_nil) vss_nil) vss_nil))
/-! makes -/
def N_makes : List Str := ["scopes", "edges", "variable", "nodes", "node", "scope"]
theorem b_makes {X : Cx} (c : Cn X N_makes (defScope (top 21)).names (defScope (top 21)).names 2) (g : GF X.mg FREE INTS) (f_is_tree : FavX X 2 "is_tree" 2 [] s_is_tree) (f_together : FavX X 1 "together" 2 [] s_together) : VSs X [] (defBody (top 21)) d_makes := by
  have v1_0 := fun pos => c.var (i := 0) (x := ("scopes" : Str)) (by decide +kernel) pos
  have v1_1 := fun pos => c.var (i := 1) (x := ("edges" : Str)) (by decide +kernel) pos
  have v1_3 := fun pos => c.var (i := 3) (x := ("nodes" : Str)) (by decide +kernel) pos
  have b1_range := c.bi g (x := ("range" : Str)) (v := .type "range") (by decide +kernel)
  have b1_enumerate := c.bi g (x := ("enumerate" : Str)) (v := .type "enumerate") (by decide +kernel)
  have i1_MOST_VARIABLE_edges := fun pos => c.int g (x := ("MOST_VARIABLE_edges" : Str)) (i := 5) (by decide +kernel) pos
  have t1_2 := fun pos => c.tgt (i := 2) (x := ("variable" : Str)) (by decide +kernel) pos
  exact (vss_cons (vs_if (vt_not (vt_truth (fun _ => rfl) (.d (c.call f_is_tree (by decide) (by decide +kernel) rfl (by rfl) (by decide) (by rfl) (vc_d rfl (ve_var (v1_0 _)) (vc_d rfl (ve_var (v1_1 _)) vc_nil)))))) (vss_cons (vs_retK [0, 1, 2, 3, 4, 5] pe_bv) vss_nil) vss_nil) (vss_cons (vs_for c.xe c.calm (refs_tgt (by decide)) (b1_range.range1 rfl (ve_bin op_addF (i1_MOST_VARIABLE_edges _) pe_iv)) (t1_2 _) (vss_post [2, 3] (vss_cons (vs_fz 3 (c.ownLc (by decide) (by decide +kernel) (by decide +kernel) (by decide +kernel) (c.lc (own := [(("node" : Str), 4), (("scope" : Str), 5)]) (b1_enumerate.enum rfl (ve_var (v1_0 _))) (by decide +kernel) rfl (by decide) (fun _ => rfl) (fun _ _ _ _ _ c2 => by (have v2_2 := fun pos => c2.var (i := 2) (x := ("variable" : Str)) (by decide +kernel) pos; have v2_5 := fun pos => c2.var (i := 5) (x := ("scope" : Str)) (by decide +kernel) pos; have v2_4 := fun pos => c2.var (i := 4) (x := ("node" : Str)) (by decide +kernel) pos; have t2_5 := fun pos => c2.tgt (i := 5) (x := ("scope" : Str)) (by decide +kernel) pos; have t2_4 := fun pos => c2.tgt (i := 4) (x := ("node" : Str)) (by decide +kernel) pos; exact ⟨(vg_tp c2.calm rfl rfl (vgs_cons rfl (t2_4 _) (vgs_cons rfl (t2_5 _) vgs_nil))), (vts_one (vt_cmp (op_inF c2.hu65) rfl (ve_var (v2_2 _)) (ve_var (v2_5 _)))), (ve_var (v2_4 _))⟩))))) (vss_cons (vs_if (vt_not (vt_truth (fun _ => rfl) (.d (c.call f_together (by decide) (by decide +kernel) rfl (by rfl) (by decide) (by rfl) (vc_d rfl (ve_var (v1_3 _)) (vc_d rfl (ve_var (v1_1 _)) vc_nil)))))) (vss_cons (vs_retK [0, 1, 2, 3, 4, 5] pe_bv) vss_nil) vss_nil) vss_nil))) (fun _ => rfl)) (vss_cons (vs_retK [0, 1, 2, 3, 4, 5] pe_bv) vss_nil)))
/-! accepts_additions -/
def N_accepts_additions : List Str := ["scopes", "edges", "value", "node", "variable", "wide", "scope", "other"]
theorem b_accepts_additions {X : Cx} (c : Cn X N_accepts_additions (defScope (top 27)).names (defScope (top 27)).names 6) (g : GF X.mg FREE INTS) (f_check_edges : FavX X 6 "check_edges" 2 [] s_check_edges) (f_are_pairs : FavX X 2 "are_pairs" 3 [] s_are_pairs) (f_makes : FavX X 3 "makes" 2 [] s_makes) : VSs X [] (defBody (top 27)) d_accepts_additions := by
  have v1_0 := fun pos => c.var (i := 0) (x := ("scopes" : Str)) (by decide +kernel) pos
  have v1_1 := fun pos => c.var (i := 1) (x := ("edges" : Str)) (by decide +kernel) pos
  have v1_2 := fun pos => c.var (i := 2) (x := ("value" : Str)) (by decide +kernel) pos
  have v1_6 := fun pos => c.var (i := 6) (x := ("scope" : Str)) (by decide +kernel) pos
  have v1_5 := fun pos => c.var (i := 5) (x := ("wide" : Str)) (by decide +kernel) pos
  have b1_len := c.bi g (x := ("len" : Str)) (v := .builtin "len") (by decide +kernel)
  have b1_any := c.bi g (x := ("any" : Str)) (v := .builtin "any") (by decide +kernel)
  have b1_enumerate := c.bi g (x := ("enumerate" : Str)) (v := .type "enumerate") (by decide +kernel)
  have b1_tuple := c.bi g (x := ("tuple" : Str)) (v := .type "tuple") (by decide +kernel)
  have i1_MOST_VARIABLE_edges := fun pos => c.int g (x := ("MOST_VARIABLE_edges" : Str)) (i := 5) (by decide +kernel) pos
  have t1_6 := fun pos => c.tgt (i := 6) (x := ("scope" : Str)) (by decide +kernel) pos
  have t1_3 := fun pos => c.tgt (i := 3) (x := ("node" : Str)) (by decide +kernel) pos
  exact (vss_cons (vs_drop rfl (c.call f_check_edges (by decide) (by decide +kernel) rfl (by rfl) (by decide) (by rfl) (vc_d rfl (ve_var (v1_0 _)) (vc_d rfl (ve_var (v1_1 _)) vc_nil)))) (vss_cons (vs_if (vt_not (vt_truth (fun _ => rfl) (.d (c.call f_are_pairs (by decide) (by decide +kernel) rfl (by rfl) (by decide) (by rfl) (vc_d rfl (ve_var (v1_2 _)) (vc_d rfl (ve_bin op_subF (b1_len.app cr_lenF rfl (vab_d rfl (ve_var (v1_0 _)) vab_nil)) pe_iv) (vc_d rfl (i1_MOST_VARIABLE_edges _) vc_nil))))))) (vss_cons (vs_retK [0, 1, 2, 3, 4, 5, 6, 7] pe_bv) vss_nil) vss_nil) (vss_cons (vs_if (vt_truth (fun _ => rfl) (.d (b1_any.app (cr_anyF c.calm) rfl (vab_d rfl (vf_ve (c.vf (c.lc (own := [(("node" : Str), 3), (("variable" : Str), 4)]) (vi_seq (ve_var (v1_2 _))) (by decide +kernel) rfl (by decide) (fun _ => rfl) (fun _ _ _ _ _ c2 => by (have v2_4 := fun pos => c2.var (i := 4) (x := ("variable" : Str)) (by decide +kernel) pos; have v2_0 := fun pos => c2.var (i := 0) (x := ("scopes" : Str)) (by decide +kernel) pos; have v2_3 := fun pos => c2.var (i := 3) (x := ("node" : Str)) (by decide +kernel) pos; have t2_4 := fun pos => c2.tgt (i := 4) (x := ("variable" : Str)) (by decide +kernel) pos; have t2_3 := fun pos => c2.tgt (i := 3) (x := ("node" : Str)) (by decide +kernel) pos; exact ⟨(vg_tp c2.calm rfl rfl (vgs_cons rfl (t2_3 _) (vgs_cons rfl (t2_4 _) vgs_nil))), vts_nil, (ve_cmp (op_inF c2.hu65) rfl (ve_var (v2_4 _)) (ve_sub c2.hu1 (plainIx trivial) (ve_var (v2_0 _)) (ve_var (v2_3 _))))⟩))))) vab_nil)))) (vss_cons (vs_retK [0, 1, 2, 3, 4, 5, 6, 7] pe_bv) vss_nil) vss_nil) (vss_cons (c.ownF (by decide) (by decide +kernel) (vf_lst (by decide) va_nil) rfl) (vss_cons (vs_for c.xe c.calm (refs_tgt (by decide)) (b1_enumerate.enum rfl (ve_var (v1_0 _))) (vg_tp c.calm rfl rfl (vgs_cons rfl (t1_3 _) (vgs_cons rfl (t1_6 _) vgs_nil))) (vss_post [3, 6] (vss_cons (vs_drop rfl (ve_mut mm_append (mcall rfl rfl (by decide) (by decide +kernel)) (v1_5 _) (va_cons rfl (ve_bin op_addF (ve_var (v1_6 _)) (b1_tuple.appTy cr_tupleF rfl (vab_d rfl (vf_ve (c.vf (c.lc (own := [(("other" : Str), 7), (("variable" : Str), 4)]) (vi_seq (ve_var (v1_2 _))) (by decide +kernel) rfl (by decide) (fun _ => rfl) (fun _ _ _ _ _ c3 => by (have v3_7 := fun pos => c3.var (i := 7) (x := ("other" : Str)) (by decide +kernel) pos; have v3_3 := fun pos => c3.var (i := 3) (x := ("node" : Str)) (by decide +kernel) pos; have v3_4 := fun pos => c3.var (i := 4) (x := ("variable" : Str)) (by decide +kernel) pos; have t3_4 := fun pos => c3.tgt (i := 4) (x := ("variable" : Str)) (by decide +kernel) pos; have t3_7 := fun pos => c3.tgt (i := 7) (x := ("other" : Str)) (by decide +kernel) pos; exact ⟨(vg_tp c3.calm rfl rfl (vgs_cons rfl (t3_7 _) (vgs_cons rfl (t3_4 _) vgs_nil))), (vts_one (vt_cmp (op_eqF c3.hu64) rfl (ve_var (v3_7 _)) (ve_var (v3_3 _)))), (ve_var (v3_4 _))⟩))))) vab_nil))) va_nil))) vss_nil)) (fun _ => rfl)) (vss_cons (vs_retK [0, 1, 2, 3, 4, 5, 6, 7] (c.call f_makes (by decide) (by decide +kernel) rfl (by rfl) (by decide) (by rfl) (vc_d rfl (ve_var (v1_5 _)) (vc_d rfl (ve_var (v1_1 _)) vc_nil)))) vss_nil))))))
/-! law -/
def N_law : List Str := ["_law_script", "_law_stream_here", "_law_scopes_here", "_law_rows", "_law_edges", "_law_fewest", "_law_additions_here", "_law_due", "_law_row", "_law_told", "_law_at"]
theorem b_law {X : Cx} (c : Cn X N_law (defScope (top 40)).names (defScope (top 40)).names 7) (g : GF X.mg FREE INTS) (f__law_stream : FavN X.prog X.w X.K X.mg X.base 1 "_law_stream" 1 s__law_stream) (f__law_scopes : FavX X 2 "_law_scopes" 3 [true] s__law_scopes) (f__law_edge_sets : FavX X 2 "_law_edge_sets" 1 [] s__law_edge_sets) (f__law_is_tree : FavX X 2 "_law_is_tree" 2 [] s__law_is_tree) (f__law_additions : FavX X 2 "_law_additions" 2 [] s__law_additions) (f_told_tree : FavX X 6 "told_tree" 1 [] s_told_tree) (f__law_equal__4 : FavX X 6 "_law_equal" 2 [] s__law_equal__4) (f_accepts_additions : FavX X 7 "accepts_additions" 3 [] s_accepts_additions) : VSs X [] (defBody (top 40)) d_law := by
  have v1_0 := fun pos => c.var (i := 0) (x := ("_law_script" : Str)) (by decide +kernel) pos
  have v1_1 := fun pos => c.var (i := 1) (x := ("_law_stream_here" : Str)) (by decide +kernel) pos
  have v1_2 := fun pos => c.var (i := 2) (x := ("_law_scopes_here" : Str)) (by decide +kernel) pos
  have v1_4 := fun pos => c.var (i := 4) (x := ("_law_edges" : Str)) (by decide +kernel) pos
  have v1_3 := fun pos => c.var (i := 3) (x := ("_law_rows" : Str)) (by decide +kernel) pos
  have v1_9 := fun pos => c.var (i := 9) (x := ("_law_told" : Str)) (by decide +kernel) pos
  have v1_7 := fun pos => c.var (i := 7) (x := ("_law_due" : Str)) (by decide +kernel) pos
  have v1_10 := fun pos => c.var (i := 10) (x := ("_law_at" : Str)) (by decide +kernel) pos
  have b1_len := c.bi g (x := ("len" : Str)) (v := .builtin "len") (by decide +kernel)
  have b1_min := c.bi g (x := ("min" : Str)) (v := .builtin "min") (by decide +kernel)
  have b1_range := c.bi g (x := ("range" : Str)) (v := .type "range") (by decide +kernel)
  have t1_4 := fun pos => c.tgt (i := 4) (x := ("_law_edges" : Str)) (by decide +kernel) pos
  have t1_10 := fun pos => c.tgt (i := 10) (x := ("_law_at" : Str)) (by decide +kernel) pos
  exact (vss_cons (c.ownF (by decide) (by decide +kernel) (c.callN f__law_stream (by decide) (by decide +kernel) rfl rfl (va_cons rfl (ve_var (v1_0 _)) va_nil)) rfl) (vss_cons (c.set (by decide) (by decide +kernel) (c.call f__law_scopes (by decide) (by decide +kernel) rfl (by rfl) (by decide) (by rfl) (vc_b rfl (v1_1 _) (vc_d rfl pe_iv (vc_d rfl pe_iv vc_nil)))) rfl) (vss_cons (c.ownF (by decide) (by decide +kernel) (vf_lst (by decide) va_nil) rfl) (vss_cons (vs_for c.xe c.calm (refs_tgt (by decide)) (vi_seq (c.call f__law_edge_sets (by decide) (by decide +kernel) rfl (by rfl) (by decide) (by rfl) (vc_d rfl (b1_len.app cr_lenF rfl (vab_d rfl (ve_var (v1_2 _)) vab_nil)) vc_nil))) (t1_4 _) (vss_post [4] (vss_cons (vs_if (vt_truth (fun _ => rfl) (.d (c.call f__law_is_tree (by decide) (by decide +kernel) rfl (by rfl) (by decide) (by rfl) (vc_d rfl (ve_var (v1_2 _)) (vc_d rfl (ve_var (v1_4 _)) vc_nil))))) (vss_cons (vs_drop rfl (ve_mut mm_append (mcall rfl rfl (by decide) (by decide +kernel)) (v1_3 _) (va_cons rfl (ve_tup (by decide) (va_cons rfl (ve_var (v1_4 _)) (va_cons rfl (c.call f__law_additions (by decide) (by decide +kernel) rfl (by rfl) (by decide) (by rfl) (vc_d rfl (ve_var (v1_2 _)) (vc_d rfl (ve_var (v1_4 _)) vc_nil))) va_nil))) va_nil))) vss_nil) vss_nil) vss_nil)) (fun _ => rfl)) (vss_cons (c.set (by decide) (by decide +kernel) (b1_min.app (cr_minF c.calm c.hu) rfl (vab_d rfl (vf_ve (c.vf (c.lc (own := [(("_law_edges" : Str), 4), (("_law_additions_here" : Str), 6)]) (vi_seq (ve_var (v1_3 _))) (by decide +kernel) rfl (by decide) (fun _ => rfl) (fun _ _ _ _ _ c2 => by (have v2_6 := fun pos => c2.var (i := 6) (x := ("_law_additions_here" : Str)) (by decide +kernel) pos; have b2_len := c2.bi g (x := ("len" : Str)) (v := .builtin "len") (by decide +kernel); have t2_6 := fun pos => c2.tgt (i := 6) (x := ("_law_additions_here" : Str)) (by decide +kernel) pos; have t2_4 := fun pos => c2.tgt (i := 4) (x := ("_law_edges" : Str)) (by decide +kernel) pos; exact ⟨(vg_tp c2.calm rfl rfl (vgs_cons rfl (t2_4 _) (vgs_cons rfl (t2_6 _) vgs_nil))), vts_nil, (b2_len.app cr_lenF rfl (vab_d rfl (ve_var (v2_6 _)) vab_nil))⟩))))) vab_nil)) rfl) (vss_cons (c.set (by decide) (by decide +kernel) (ve_sub c.hu1 (plainIx trivial) (vf_ve (c.vf (c.lc (own := [(("_law_row" : Str), 8)]) (vi_seq (ve_var (v1_3 _))) (by decide +kernel) rfl (by decide) (fun _ => rfl) (fun _ _ _ _ _ c3 => by (have v3_8 := fun pos => c3.var (i := 8) (x := ("_law_row" : Str)) (by decide +kernel) pos; have v3_5 := fun pos => c3.var (i := 5) (x := ("_law_fewest" : Str)) (by decide +kernel) pos; have b3_len := c3.bi g (x := ("len" : Str)) (v := .builtin "len") (by decide +kernel); have t3_8 := fun pos => c3.tgt (i := 8) (x := ("_law_row" : Str)) (by decide +kernel) pos; exact ⟨(t3_8 _), (vts_one (vt_cmp (op_eqF c3.hu64) rfl (b3_len.app cr_lenF rfl (vab_d rfl (ve_sub c3.hu1 (plainIx trivial) (ve_var (v3_8 _)) pe_iv) vab_nil)) (ve_var (v3_5 _)))), (ve_var (v3_8 _))⟩))))) pe_iv) rfl) (vss_cons (c.set (by decide) (by decide +kernel) (c.call f_told_tree (by decide) (by decide +kernel) rfl (by rfl) (by decide) (by rfl) (vc_d rfl (ve_var (v1_2 _)) vc_nil)) rfl) (vss_cons (vs_if (PW.pt (vw_or (vt_not (vt_truth (fun _ => rfl) (.d (c.call f__law_equal__4 (by decide) (by decide +kernel) rfl (by rfl) (by decide) (by rfl) (vc_d rfl (ve_var (v1_9 _)) (vc_d rfl (ve_var (v1_7 _)) vc_nil)))))) (vw_or1 (vt_cmp op_notBF rfl (c.call f_accepts_additions (by decide) (by decide +kernel) rfl (by rfl) (by decide) (by rfl) (vc_d rfl (ve_var (v1_2 _)) (vc_d rfl (ve_sub c.hu1 (plainIx trivial) (ve_var (v1_9 _)) pe_iv) (vc_d rfl (ve_sub c.hu1 (plainIx trivial) (ve_var (v1_9 _)) pe_iv) vc_nil)))) pe_bv)))) (vss_cons (vs_retK [0, 1, 2, 3, 4, 5, 6, 7, 8, 9, 10] pe_bv) vss_nil) vss_nil) (vss_cons (vs_for c.xe c.calm (refs_tgt (by decide)) (b1_range.range1 rfl (b1_len.app cr_lenF rfl (vab_d rfl (ve_sub c.hu1 (plainIx trivial) (ve_var (v1_9 _)) pe_iv) vab_nil))) (t1_10 _) (vss_post [10] (vss_cons (vs_if (vt_cmp op_notBF rfl (c.call f_accepts_additions (by decide) (by decide +kernel) rfl (by rfl) (by decide) (by rfl) (vc_d rfl (ve_var (v1_2 _)) (vc_d rfl (ve_sub c.hu1 (plainIx trivial) (ve_var (v1_9 _)) pe_iv) (vc_d rfl (ve_bin op_addF (ve_slice (.d (ve_sub c.hu1 (plainIx trivial) (ve_var (v1_9 _)) pe_iv)) vo_none (vo_some (ve_var (v1_10 _)))) (ve_slice (.d (ve_sub c.hu1 (plainIx trivial) (ve_var (v1_9 _)) pe_iv)) (vo_some (ve_bin op_addF (ve_var (v1_10 _)) pe_iv)) vo_none)) vc_nil)))) pe_bv) (vss_cons (vs_retK [0, 1, 2, 3, 4, 5, 6, 7, 8, 9, 10] pe_bv) vss_nil) vss_nil) vss_nil)) (fun _ => rfl)) (vss_cons (vs_retK [0, 1, 2, 3, 4, 5, 6, 7, 8, 9, 10] pe_bv) vss_nil))))))))))
section
variable {P : Program} {w : World} {K : PySem.W.Frag} {mg : Str → Option Value} {base : Heap}
theorem sc__law_stream : FnScope N__law_stream ["_law_script"] (defScope (top 29)) := ⟨by decide +kernel, by decide +kernel, by decide +kernel, by decide +kernel, by decide +kernel, by decide +kernel, by decide +kernel⟩
def r__law_stream : Pos := match defBody (top 29) with | [.Return _ p] => p | _ => ⟨0, 0, 0, 0⟩
theorem a__law_stream {f : Addr} {fd : FuncData} (Fn : FunD K "_law_stream" "_law_stream" (defArgs (top 29)) [.Return (some e__law_stream) r__law_stream] (defScope (top 29)) [] [] f fd) (hm : mg "_law_stream" = some (.ref f)) (g : GF mg FREE INTS) :
    FavN P w K mg base 1 "_law_stream" 1 s__law_stream := favN_of (ps := ["_law_script"]) Fn hm sc__law_stream rfl (fun _ _ _ _ _ _ us hl => match us, hl with | [_], _ => rfl) fun _ _ _ _ _ _ c => b__law_stream c g
theorem sc__law_next : FnScope N__law_next ["_law_stream_here", "_law_many"] (defScope (top 30)) := ⟨by decide +kernel, by decide +kernel, by decide +kernel, by decide +kernel, by decide +kernel, by decide +kernel, by decide +kernel⟩
theorem a__law_next {f : Addr} {fd : FuncData} (Fn : FunD K "_law_next" "_law_next" (defArgs (top 30)) (defBody (top 30)) (defScope (top 30)) [] [] f fd) (hm : mg "_law_next" = some (.ref f)) (g : GF mg FREE INTS) :
    Fav P w K mg base 1 "_law_next" 2 [true] s__law_next := fav_of (ps := ["_law_stream_here", "_law_many"]) (refs := [0]) Fn hm sc__law_next rfl (by decide) (fun _ _ _ _ _ _ us hl => match us, hl with | [_, _], _ => rfl) fun _ _ _ _ _ _ c => b__law_next c g
theorem sc__law_scopes : FnScope N__law_scopes ["_law_stream_here", "_law_most", "_law_variables"] (defScope (top 33)) := ⟨by decide +kernel, by decide +kernel, by decide +kernel, by decide +kernel, by decide +kernel, by decide +kernel, by decide +kernel⟩
theorem a__law_scopes {f : Addr} {fd : FuncData} (Fn : FunD K "_law_scopes" "_law_scopes" (defArgs (top 33)) (defBody (top 33)) (defScope (top 33)) [] [] f fd) (hm : mg "_law_scopes" = some (.ref f)) (g : GF mg FREE INTS) (f__law_next : Fav P w K mg base 1 "_law_next" 2 [true] s__law_next) :
    Fav P w K mg base 2 "_law_scopes" 3 [true] s__law_scopes := fav_of (ps := ["_law_stream_here", "_law_most", "_law_variables"]) (refs := [0]) Fn hm sc__law_scopes rfl (by decide) (fun _ _ _ _ _ _ us hl => match us, hl with | [_, _, _], _ => rfl) fun _ _ _ _ _ _ c => b__law_scopes c g f__law_next
theorem sc__law_pairs : FnScope N__law_pairs ["_law_many"] (defScope (top 34)) := ⟨by decide +kernel, by decide +kernel, by decide +kernel, by decide +kernel, by decide +kernel, by decide +kernel, by decide +kernel⟩
theorem a__law_pairs {f : Addr} {fd : FuncData} (Fn : FunD K "_law_pairs" "_law_pairs" (defArgs (top 34)) (defBody (top 34)) (defScope (top 34)) [] [] f fd) (hm : mg "_law_pairs" = some (.ref f)) (g : GF mg FREE INTS) :
    Fav P w K mg base 1 "_law_pairs" 1 [] s__law_pairs := fav_of (ps := ["_law_many"]) (refs := []) Fn hm sc__law_pairs rfl (by decide) (fun _ _ _ _ _ _ us hl => match us, hl with | [_], _ => rfl) fun _ _ _ _ _ _ c => b__law_pairs c g
theorem sc__law_edge_sets : FnScope N__law_edge_sets ["_law_many"] (defScope (top 37)) := ⟨by decide +kernel, by decide +kernel, by decide +kernel, by decide +kernel, by decide +kernel, by decide +kernel, by decide +kernel⟩
theorem a__law_edge_sets {f : Addr} {fd : FuncData} (Fn : FunD K "_law_edge_sets" "_law_edge_sets" (defArgs (top 37)) (defBody (top 37)) (defScope (top 37)) [] [] f fd) (hm : mg "_law_edge_sets" = some (.ref f)) (g : GF mg FREE INTS) (f__law_pairs : Fav P w K mg base 1 "_law_pairs" 1 [] s__law_pairs) :
    Fav P w K mg base 2 "_law_edge_sets" 1 [] s__law_edge_sets := fav_of (ps := ["_law_many"]) (refs := []) Fn hm sc__law_edge_sets rfl (by decide) (fun _ _ _ _ _ _ us hl => match us, hl with | [_], _ => rfl) fun _ _ _ _ _ _ c => b__law_edge_sets c g f__law_pairs
theorem sc__law_hang : FnScope N__law_hang ["_law_nodes", "_law_edges"] (defScope (top 35)) := ⟨by decide +kernel, by decide +kernel, by decide +kernel, by decide +kernel, by decide +kernel, by decide +kernel, by decide +kernel⟩
theorem a__law_hang {f : Addr} {fd : FuncData} (Fn : FunD K "_law_hang" "_law_hang" (defArgs (top 35)) (defBody (top 35)) (defScope (top 35)) [] [] f fd) (hm : mg "_law_hang" = some (.ref f)) (g : GF mg FREE INTS) :
    Fav P w K mg base 1 "_law_hang" 2 [] s__law_hang := fav_of (ps := ["_law_nodes", "_law_edges"]) (refs := []) Fn hm sc__law_hang rfl (by decide) (fun _ _ _ _ _ _ us hl => match us, hl with | [_, _], _ => rfl) fun _ _ _ _ _ _ c => b__law_hang c g
theorem sc__law_is_tree : FnScope N__law_is_tree ["_law_scopes_here", "_law_edges"] (defScope (top 36)) := ⟨by decide +kernel, by decide +kernel, by decide +kernel, by decide +kernel, by decide +kernel, by decide +kernel, by decide +kernel⟩
theorem a__law_is_tree {f : Addr} {fd : FuncData} (Fn : FunD K "_law_is_tree" "_law_is_tree" (defArgs (top 36)) (defBody (top 36)) (defScope (top 36)) [] [] f fd) (hm : mg "_law_is_tree" = some (.ref f)) (g : GF mg FREE INTS) (f__law_hang : Fav P w K mg base 1 "_law_hang" 2 [] s__law_hang) :
    Fav P w K mg base 2 "_law_is_tree" 2 [] s__law_is_tree := fav_of (ps := ["_law_scopes_here", "_law_edges"]) (refs := []) Fn hm sc__law_is_tree rfl (by decide) (fun _ _ _ _ _ _ us hl => match us, hl with | [_, _], _ => rfl) fun _ _ _ _ _ _ c => b__law_is_tree c g f__law_hang
theorem sc__law_way : FnScope N__law_way ["_law_edges", "_law_one", "_law_other"] (defScope (top 38)) := ⟨by decide +kernel, by decide +kernel, by decide +kernel, by decide +kernel, by decide +kernel, by decide +kernel, by decide +kernel⟩
theorem a__law_way {f : Addr} {fd : FuncData} (Fn : FunD K "_law_way" "_law_way" (defArgs (top 38)) (defBody (top 38)) (defScope (top 38)) [] [] f fd) (hm : mg "_law_way" = some (.ref f)) (g : GF mg FREE INTS) :
    Fav P w K mg base 1 "_law_way" 3 [] s__law_way := fav_of (ps := ["_law_edges", "_law_one", "_law_other"]) (refs := []) Fn hm sc__law_way rfl (by decide) (fun _ _ _ _ _ _ us hl => match us, hl with | [_, _, _], _ => rfl) fun _ _ _ _ _ _ c => b__law_way c g
theorem sc__law_additions : FnScope N__law_additions ["_law_scopes_here", "_law_edges"] (defScope (top 39)) := ⟨by decide +kernel, by decide +kernel, by decide +kernel, by decide +kernel, by decide +kernel, by decide +kernel, by decide +kernel⟩
theorem a__law_additions {f : Addr} {fd : FuncData} (Fn : FunD K "_law_additions" "_law_additions" (defArgs (top 39)) (defBody (top 39)) (defScope (top 39)) [] [] f fd) (hm : mg "_law_additions" = some (.ref f)) (g : GF mg FREE INTS) (f__law_way : Fav P w K mg base 1 "_law_way" 3 [] s__law_way) :
    Fav P w K mg base 2 "_law_additions" 2 [] s__law_additions := fav_of (ps := ["_law_scopes_here", "_law_edges"]) (refs := []) Fn hm sc__law_additions rfl (by decide) (fun _ _ _ _ _ _ us hl => match us, hl with | [_, _], _ => rfl) fun _ _ _ _ _ _ c => b__law_additions c g f__law_way
theorem sc_is_whole : FnScope N_is_whole ["value", "low", "high"] (defScope (top 7)) := ⟨by decide +kernel, by decide +kernel, by decide +kernel, by decide +kernel, by decide +kernel, by decide +kernel, by decide +kernel⟩
theorem a_is_whole {f : Addr} {fd : FuncData} (Fn : FunD K "is_whole" "is_whole" (defArgs (top 7)) (defBody (top 7)) (defScope (top 7)) [] [] f fd) (hm : mg "is_whole" = some (.ref f)) (g : GF mg FREE INTS) :
    Fav P w K mg base 1 "is_whole" 3 [] s_is_whole := fav_of (ps := ["value", "low", "high"]) (refs := []) Fn hm sc_is_whole rfl (by decide) (fun _ _ _ _ _ _ us hl => match us, hl with | [_, _, _], _ => rfl) fun _ _ _ _ _ _ c => b_is_whole c g
theorem sc_is_climbing : FnScope N_is_climbing ["value"] (defScope (top 8)) := ⟨by decide +kernel, by decide +kernel, by decide +kernel, by decide +kernel, by decide +kernel, by decide +kernel, by decide +kernel⟩
theorem a_is_climbing {f : Addr} {fd : FuncData} (Fn : FunD K "is_climbing" "is_climbing" (defArgs (top 8)) (defBody (top 8)) (defScope (top 8)) [] [] f fd) (hm : mg "is_climbing" = some (.ref f)) (g : GF mg FREE INTS) :
    Fav P w K mg base 1 "is_climbing" 1 [] s_is_climbing := fav_of (ps := ["value"]) (refs := []) Fn hm sc_is_climbing rfl (by decide) (fun _ _ _ _ _ _ us hl => match us, hl with | [_], _ => rfl) fun _ _ _ _ _ _ c => b_is_climbing c g
theorem sc_are_variables : FnScope N_are_variables ["value"] (defScope (top 9)) := ⟨by decide +kernel, by decide +kernel, by decide +kernel, by decide +kernel, by decide +kernel, by decide +kernel, by decide +kernel⟩
theorem a_are_variables {f : Addr} {fd : FuncData} (Fn : FunD K "are_variables" "are_variables" (defArgs (top 9)) (defBody (top 9)) (defScope (top 9)) [] [] f fd) (hm : mg "are_variables" = some (.ref f)) (g : GF mg FREE INTS) (f_is_whole : Fav P w K mg base 1 "is_whole" 3 [] s_is_whole) (f_is_climbing : Fav P w K mg base 1 "is_climbing" 1 [] s_is_climbing) :
    Fav P w K mg base 2 "are_variables" 1 [] s_are_variables := fav_of (ps := ["value"]) (refs := []) Fn hm sc_are_variables rfl (by decide) (fun _ _ _ _ _ _ us hl => match us, hl with | [_], _ => rfl) fun _ _ _ _ _ _ c => b_are_variables c g f_is_whole f_is_climbing
theorem sc_is_scope : FnScope N_is_scope ["value"] (defScope (top 10)) := ⟨by decide +kernel, by decide +kernel, by decide +kernel, by decide +kernel, by decide +kernel, by decide +kernel, by decide +kernel⟩
theorem a_is_scope {f : Addr} {fd : FuncData} (Fn : FunD K "is_scope" "is_scope" (defArgs (top 10)) (defBody (top 10)) (defScope (top 10)) [] [] f fd) (hm : mg "is_scope" = some (.ref f)) (g : GF mg FREE INTS) (f_are_variables : Fav P w K mg base 2 "are_variables" 1 [] s_are_variables) :
    Fav P w K mg base 3 "is_scope" 1 [] s_is_scope := fav_of (ps := ["value"]) (refs := []) Fn hm sc_is_scope rfl (by decide) (fun _ _ _ _ _ _ us hl => match us, hl with | [_], _ => rfl) fun _ _ _ _ _ _ c => b_is_scope c g f_are_variables
theorem sc_are_scopes : FnScope N_are_scopes ["value"] (defScope (top 14)) := ⟨by decide +kernel, by decide +kernel, by decide +kernel, by decide +kernel, by decide +kernel, by decide +kernel, by decide +kernel⟩
theorem a_are_scopes {f : Addr} {fd : FuncData} (Fn : FunD K "are_scopes" "are_scopes" (defArgs (top 14)) (defBody (top 14)) (defScope (top 14)) [] [] f fd) (hm : mg "are_scopes" = some (.ref f)) (g : GF mg FREE INTS) (f_is_scope : Fav P w K mg base 3 "is_scope" 1 [] s_is_scope) :
    Fav P w K mg base 4 "are_scopes" 1 [] s_are_scopes := fav_of (ps := ["value"]) (refs := []) Fn hm sc_are_scopes rfl (by decide) (fun _ _ _ _ _ _ us hl => match us, hl with | [_], _ => rfl) fun _ _ _ _ _ _ c => b_are_scopes c g f_is_scope
theorem sc_check_scopes : FnScope N_check_scopes ["scopes"] (defScope (top 15)) := ⟨by decide +kernel, by decide +kernel, by decide +kernel, by decide +kernel, by decide +kernel, by decide +kernel, by decide +kernel⟩
theorem a_check_scopes {f : Addr} {fd : FuncData} (Fn : FunD K "check_scopes" "check_scopes" (defArgs (top 15)) (defBody (top 15)) (defScope (top 15)) [] [] f fd) (hm : mg "check_scopes" = some (.ref f)) (g : GF mg FREE INTS) (f_are_scopes : Fav P w K mg base 4 "are_scopes" 1 [] s_are_scopes) :
    Fav P w K mg base 5 "check_scopes" 1 [] s_check_scopes := fav_of (ps := ["scopes"]) (refs := []) Fn hm sc_check_scopes rfl (by decide) (fun _ _ _ _ _ _ us hl => match us, hl with | [_], _ => rfl) fun _ _ _ _ _ _ c => b_check_scopes c g f_are_scopes
theorem sc_nodes_beyond : FnScope N_nodes_beyond ["edges", "node", "start"] (defScope (top 23)) := ⟨by decide +kernel, by decide +kernel, by decide +kernel, by decide +kernel, by decide +kernel, by decide +kernel, by decide +kernel⟩
theorem a_nodes_beyond {f : Addr} {fd : FuncData} (Fn : FunD K "nodes_beyond" "nodes_beyond" (defArgs (top 23)) (defBody (top 23)) (defScope (top 23)) [] [] f fd) (hm : mg "nodes_beyond" = some (.ref f)) (g : GF mg FREE INTS) :
    Fav P w K mg base 1 "nodes_beyond" 3 [] s_nodes_beyond := fav_of (ps := ["edges", "node", "start"]) (refs := []) Fn hm sc_nodes_beyond rfl (by decide) (fun _ _ _ _ _ _ us hl => match us, hl with | [_, _, _], _ => rfl) fun _ _ _ _ _ _ c => b_nodes_beyond c g
theorem sc_lacks : FnScope N_lacks ["scopes", "edges", "node", "variable"] (defScope (top 24)) := ⟨by decide +kernel, by decide +kernel, by decide +kernel, by decide +kernel, by decide +kernel, by decide +kernel, by decide +kernel⟩
theorem a_lacks {f : Addr} {fd : FuncData} (Fn : FunD K "lacks" "lacks" (defArgs (top 24)) (defBody (top 24)) (defScope (top 24)) [] [] f fd) (hm : mg "lacks" = some (.ref f)) (g : GF mg FREE INTS) (f_nodes_beyond : Fav P w K mg base 1 "nodes_beyond" 3 [] s_nodes_beyond) :
    Fav P w K mg base 2 "lacks" 4 [] s_lacks := fav_of (ps := ["scopes", "edges", "node", "variable"]) (refs := []) Fn hm sc_lacks rfl (by decide) (fun _ _ _ _ _ _ us hl => match us, hl with | [_, _, _, _], _ => rfl) fun _ _ _ _ _ _ c => b_lacks c g f_nodes_beyond
theorem sc_additions_of : FnScope N_additions_of ["scopes", "edges"] (defScope (top 25)) := ⟨by decide +kernel, by decide +kernel, by decide +kernel, by decide +kernel, by decide +kernel, by decide +kernel, by decide +kernel⟩
theorem a_additions_of {f : Addr} {fd : FuncData} (Fn : FunD K "additions_of" "additions_of" (defArgs (top 25)) (defBody (top 25)) (defScope (top 25)) [] [] f fd) (hm : mg "additions_of" = some (.ref f)) (g : GF mg FREE INTS) (f_lacks : Fav P w K mg base 2 "lacks" 4 [] s_lacks) :
    Fav P w K mg base 3 "additions_of" 2 [] s_additions_of := fav_of (ps := ["scopes", "edges"]) (refs := []) Fn hm sc_additions_of rfl (by decide) (fun _ _ _ _ _ _ us hl => match us, hl with | [_, _], _ => rfl) fun _ _ _ _ _ _ c => b_additions_of c g f_lacks
theorem sc_together : FnScope N_together ["nodes", "edges"] (defScope (top 19)) := ⟨by decide +kernel, by decide +kernel, by decide +kernel, by decide +kernel, by decide +kernel, by decide +kernel, by decide +kernel⟩
theorem a_together {f : Addr} {fd : FuncData} (Fn : FunD K "together" "together" (defArgs (top 19)) (defBody (top 19)) (defScope (top 19)) [] [] f fd) (hm : mg "together" = some (.ref f)) (g : GF mg FREE INTS) :
    Fav P w K mg base 1 "together" 2 [] s_together := fav_of (ps := ["nodes", "edges"]) (refs := []) Fn hm sc_together rfl (by decide) (fun _ _ _ _ _ _ us hl => match us, hl with | [_, _], _ => rfl) fun _ _ _ _ _ _ c => b_together c g
theorem sc_is_tree : FnScope N_is_tree ["scopes", "edges"] (defScope (top 20)) := ⟨by decide +kernel, by decide +kernel, by decide +kernel, by decide +kernel, by decide +kernel, by decide +kernel, by decide +kernel⟩
theorem a_is_tree {f : Addr} {fd : FuncData} (Fn : FunD K "is_tree" "is_tree" (defArgs (top 20)) (defBody (top 20)) (defScope (top 20)) [] [] f fd) (hm : mg "is_tree" = some (.ref f)) (g : GF mg FREE INTS) (f_together : Fav P w K mg base 1 "together" 2 [] s_together) :
    Fav P w K mg base 2 "is_tree" 2 [] s_is_tree := fav_of (ps := ["scopes", "edges"]) (refs := []) Fn hm sc_is_tree rfl (by decide) (fun _ _ _ _ _ _ us hl => match us, hl with | [_, _], _ => rfl) fun _ _ _ _ _ _ c => b_is_tree c g f_together
theorem sc_trees_of : FnScope N_trees_of ["scopes"] (defScope (top 22)) := ⟨by decide +kernel, by decide +kernel, by decide +kernel, by decide +kernel, by decide +kernel, by decide +kernel, by decide +kernel⟩
theorem a_trees_of {f : Addr} {fd : FuncData} (Fn : FunD K "trees_of" "trees_of" (defArgs (top 22)) (defBody (top 22)) (defScope (top 22)) [] [] f fd) (hm : mg "trees_of" = some (.ref f)) (g : GF mg FREE INTS) (cb : mg ("combinations" : Str) = some (.type "itertools.combinations")) (f_is_tree : Fav P w K mg base 2 "is_tree" 2 [] s_is_tree) :
    Fav P w K mg base 3 "trees_of" 1 [] s_trees_of := fav_of (ps := ["scopes"]) (refs := []) Fn hm sc_trees_of rfl (by decide) (fun _ _ _ _ _ _ us hl => match us, hl with | [_], _ => rfl) fun _ _ _ _ _ _ c => b_trees_of c g cb f_is_tree
theorem sc_told_tree : FnScope N_told_tree ["scopes"] (defScope (top 26)) := ⟨by decide +kernel, by decide +kernel, by decide +kernel, by decide +kernel, by decide +kernel, by decide +kernel, by decide +kernel⟩
theorem a_told_tree {f : Addr} {fd : FuncData} (Fn : FunD K "told_tree" "told_tree" (defArgs (top 26)) (defBody (top 26)) (defScope (top 26)) [] [] f fd) (hm : mg "told_tree" = some (.ref f)) (g : GF mg FREE INTS) (f_check_scopes : Fav P w K mg base 5 "check_scopes" 1 [] s_check_scopes) (f_trees_of : Fav P w K mg base 3 "trees_of" 1 [] s_trees_of) (f_additions_of : Fav P w K mg base 3 "additions_of" 2 [] s_additions_of) :
    Fav P w K mg base 6 "told_tree" 1 [] s_told_tree := fav_of (ps := ["scopes"]) (refs := []) Fn hm sc_told_tree rfl (by decide) (fun _ _ _ _ _ _ us hl => match us, hl with | [_], _ => rfl) fun _ _ _ _ _ _ c => b_told_tree c g f_check_scopes f_trees_of f_additions_of
theorem sc__law_is_integer : FnScope N__law_is_integer ["_law_actual"] (defScope (top 31)) := ⟨by decide +kernel, by decide +kernel, by decide +kernel, by decide +kernel, by decide +kernel, by decide +kernel, by decide +kernel⟩
theorem a__law_is_integer {f : Addr} {fd : FuncData} (Fn : FunD K "_law_is_integer" "_law_is_integer" (defArgs (top 31)) (defBody (top 31)) (defScope (top 31)) [] [] f fd) (hm : mg "_law_is_integer" = some (.ref f)) (g : GF mg FREE INTS) :
    Fav P w K mg base 1 "_law_is_integer" 1 [] s__law_is_integer := fav_of (ps := ["_law_actual"]) (refs := []) Fn hm sc__law_is_integer rfl (by decide) (fun _ _ _ _ _ _ us hl => match us, hl with | [_], _ => rfl) fun _ _ _ _ _ _ c => b__law_is_integer c g
theorem sc__law_equal__0 : FnScope N__law_equal__0 ["_law_actual", "_law_due"] (defScope (top 32)) := ⟨by decide +kernel, by decide +kernel, by decide +kernel, by decide +kernel, by decide +kernel, by decide +kernel, by decide +kernel⟩
theorem a__law_equal__0 {f : Addr} {fd : FuncData} (Fn : FunD K "_law_equal" "_law_equal" (defArgs (top 32)) (defBody (top 32)) (defScope (top 32)) [] [] f fd) (hm : mg "_law_equal" = some (.ref f)) (g : GF mg FREE INTS) (f__law_is_integer : Fav P w K mg base 1 "_law_is_integer" 1 [] s__law_is_integer) :
    Fav P w K mg base 2 "_law_equal" 2 [] s__law_equal__0 := fav_of (ps := ["_law_actual", "_law_due"]) (refs := []) Fn hm sc__law_equal__0 rfl (by decide) (fun _ _ _ _ _ _ us hl => match us, hl with | [_, _], _ => rfl) fun _ _ _ _ _ _ c => b__law_equal__0 c g f__law_is_integer
theorem sc__law_equal__1 : FnScope N__law_equal__1 ["_law_actual", "_law_due"] (defScope (top 32)) := ⟨by decide +kernel, by decide +kernel, by decide +kernel, by decide +kernel, by decide +kernel, by decide +kernel, by decide +kernel⟩
theorem a__law_equal__1 {f : Addr} {fd : FuncData} (Fn : FunD K "_law_equal" "_law_equal" (defArgs (top 32)) (defBody (top 32)) (defScope (top 32)) [] [] f fd) (hm : mg "_law_equal" = some (.ref f)) (g : GF mg FREE INTS) (f__law_is_integer : Fav P w K mg base 1 "_law_is_integer" 1 [] s__law_is_integer) (f__law_equal__0 : Fav P w K mg base 2 "_law_equal" 2 [] s__law_equal__0) :
    Fav P w K mg base 3 "_law_equal" 2 [] s__law_equal__1 := fav_of (ps := ["_law_actual", "_law_due"]) (refs := []) Fn hm sc__law_equal__1 rfl (by decide) (fun _ _ _ _ _ _ us hl => match us, hl with | [_, _], _ => rfl) fun _ _ _ _ _ _ c => b__law_equal__1 c g f__law_is_integer f__law_equal__0
theorem sc__law_equal__2 : FnScope N__law_equal__2 ["_law_actual", "_law_due"] (defScope (top 32)) := ⟨by decide +kernel, by decide +kernel, by decide +kernel, by decide +kernel, by decide +kernel, by decide +kernel, by decide +kernel⟩
theorem a__law_equal__2 {f : Addr} {fd : FuncData} (Fn : FunD K "_law_equal" "_law_equal" (defArgs (top 32)) (defBody (top 32)) (defScope (top 32)) [] [] f fd) (hm : mg "_law_equal" = some (.ref f)) (g : GF mg FREE INTS) (f__law_is_integer : Fav P w K mg base 1 "_law_is_integer" 1 [] s__law_is_integer) (f__law_equal__1 : Fav P w K mg base 3 "_law_equal" 2 [] s__law_equal__1) :
    Fav P w K mg base 4 "_law_equal" 2 [] s__law_equal__2 := fav_of (ps := ["_law_actual", "_law_due"]) (refs := []) Fn hm sc__law_equal__2 rfl (by decide) (fun _ _ _ _ _ _ us hl => match us, hl with | [_, _], _ => rfl) fun _ _ _ _ _ _ c => b__law_equal__2 c g f__law_is_integer f__law_equal__1
theorem sc__law_equal__3 : FnScope N__law_equal__3 ["_law_actual", "_law_due"] (defScope (top 32)) := ⟨by decide +kernel, by decide +kernel, by decide +kernel, by decide +kernel, by decide +kernel, by decide +kernel, by decide +kernel⟩
theorem a__law_equal__3 {f : Addr} {fd : FuncData} (Fn : FunD K "_law_equal" "_law_equal" (defArgs (top 32)) (defBody (top 32)) (defScope (top 32)) [] [] f fd) (hm : mg "_law_equal" = some (.ref f)) (g : GF mg FREE INTS) (f__law_is_integer : Fav P w K mg base 1 "_law_is_integer" 1 [] s__law_is_integer) (f__law_equal__2 : Fav P w K mg base 4 "_law_equal" 2 [] s__law_equal__2) :
    Fav P w K mg base 5 "_law_equal" 2 [] s__law_equal__3 := fav_of (ps := ["_law_actual", "_law_due"]) (refs := []) Fn hm sc__law_equal__3 rfl (by decide) (fun _ _ _ _ _ _ us hl => match us, hl with | [_, _], _ => rfl) fun _ _ _ _ _ _ c => b__law_equal__3 c g f__law_is_integer f__law_equal__2
theorem sc__law_equal__4 : FnScope N__law_equal__4 ["_law_actual", "_law_due"] (defScope (top 32)) := ⟨by decide +kernel, by decide +kernel, by decide +kernel, by decide +kernel, by decide +kernel, by decide +kernel, by decide +kernel⟩
theorem a__law_equal__4 {f : Addr} {fd : FuncData} (Fn : FunD K "_law_equal" "_law_equal" (defArgs (top 32)) (defBody (top 32)) (defScope (top 32)) [] [] f fd) (hm : mg "_law_equal" = some (.ref f)) (g : GF mg FREE INTS) (f__law_is_integer : Fav P w K mg base 1 "_law_is_integer" 1 [] s__law_is_integer) (f__law_equal__3 : Fav P w K mg base 5 "_law_equal" 2 [] s__law_equal__3) :
    Fav P w K mg base 6 "_law_equal" 2 [] s__law_equal__4 := fav_of (ps := ["_law_actual", "_law_due"]) (refs := []) Fn hm sc__law_equal__4 rfl (by decide) (fun _ _ _ _ _ _ us hl => match us, hl with | [_, _], _ => rfl) fun _ _ _ _ _ _ c => b__law_equal__4 c g f__law_is_integer f__law_equal__3
theorem sc_are_pairs : FnScope N_are_pairs ["value", "most", "others"] (defScope (top 16)) := ⟨by decide +kernel, by decide +kernel, by decide +kernel, by decide +kernel, by decide +kernel, by decide +kernel, by decide +kernel⟩
theorem a_are_pairs {f : Addr} {fd : FuncData} (Fn : FunD K "are_pairs" "are_pairs" (defArgs (top 16)) (defBody (top 16)) (defScope (top 16)) [] [] f fd) (hm : mg "are_pairs" = some (.ref f)) (g : GF mg FREE INTS) (f_is_whole : Fav P w K mg base 1 "is_whole" 3 [] s_is_whole) :
    Fav P w K mg base 2 "are_pairs" 3 [] s_are_pairs := fav_of (ps := ["value", "most", "others"]) (refs := []) Fn hm sc_are_pairs rfl (by decide) (fun _ _ _ _ _ _ us hl => match us, hl with | [_, _, _], _ => rfl) fun _ _ _ _ _ _ c => b_are_pairs c g f_is_whole
theorem sc_are_edges : FnScope N_are_edges ["scopes", "value"] (defScope (top 17)) := ⟨by decide +kernel, by decide +kernel, by decide +kernel, by decide +kernel, by decide +kernel, by decide +kernel, by decide +kernel⟩
theorem a_are_edges {f : Addr} {fd : FuncData} (Fn : FunD K "are_edges" "are_edges" (defArgs (top 17)) (defBody (top 17)) (defScope (top 17)) [] [] f fd) (hm : mg "are_edges" = some (.ref f)) (g : GF mg FREE INTS) (f_are_pairs : Fav P w K mg base 2 "are_pairs" 3 [] s_are_pairs) :
    Fav P w K mg base 3 "are_edges" 2 [] s_are_edges := fav_of (ps := ["scopes", "value"]) (refs := []) Fn hm sc_are_edges rfl (by decide) (fun _ _ _ _ _ _ us hl => match us, hl with | [_, _], _ => rfl) fun _ _ _ _ _ _ c => b_are_edges c g f_are_pairs
theorem sc_check_edges : FnScope N_check_edges ["scopes", "edges"] (defScope (top 18)) := ⟨by decide +kernel, by decide +kernel, by decide +kernel, by decide +kernel, by decide +kernel, by decide +kernel, by decide +kernel⟩
theorem a_check_edges {f : Addr} {fd : FuncData} (Fn : FunD K "check_edges" "check_edges" (defArgs (top 18)) (defBody (top 18)) (defScope (top 18)) [] [] f fd) (hm : mg "check_edges" = some (.ref f)) (g : GF mg FREE INTS) (f_check_scopes : Fav P w K mg base 5 "check_scopes" 1 [] s_check_scopes) (f_are_edges : Fav P w K mg base 3 "are_edges" 2 [] s_are_edges) :
    Fav P w K mg base 6 "check_edges" 2 [] s_check_edges := fav_of (ps := ["scopes", "edges"]) (refs := []) Fn hm sc_check_edges rfl (by decide) (fun _ _ _ _ _ _ us hl => match us, hl with | [_, _], _ => rfl) fun _ _ _ _ _ _ c => b_check_edges c g f_check_scopes f_are_edges
theorem sc_makes : FnScope N_makes ["scopes", "edges"] (defScope (top 21)) := ⟨by decide +kernel, by decide +kernel, by decide +kernel, by decide +kernel, by decide +kernel, by decide +kernel, by decide +kernel⟩
theorem a_makes {f : Addr} {fd : FuncData} (Fn : FunD K "makes" "makes" (defArgs (top 21)) (defBody (top 21)) (defScope (top 21)) [] [] f fd) (hm : mg "makes" = some (.ref f)) (g : GF mg FREE INTS) (f_is_tree : Fav P w K mg base 2 "is_tree" 2 [] s_is_tree) (f_together : Fav P w K mg base 1 "together" 2 [] s_together) :
    Fav P w K mg base 3 "makes" 2 [] s_makes := fav_of (ps := ["scopes", "edges"]) (refs := []) Fn hm sc_makes rfl (by decide) (fun _ _ _ _ _ _ us hl => match us, hl with | [_, _], _ => rfl) fun _ _ _ _ _ _ c => b_makes c g f_is_tree f_together
theorem sc_accepts_additions : FnScope N_accepts_additions ["scopes", "edges", "value"] (defScope (top 27)) := ⟨by decide +kernel, by decide +kernel, by decide +kernel, by decide +kernel, by decide +kernel, by decide +kernel, by decide +kernel⟩
theorem a_accepts_additions {f : Addr} {fd : FuncData} (Fn : FunD K "accepts_additions" "accepts_additions" (defArgs (top 27)) (defBody (top 27)) (defScope (top 27)) [] [] f fd) (hm : mg "accepts_additions" = some (.ref f)) (g : GF mg FREE INTS) (f_check_edges : Fav P w K mg base 6 "check_edges" 2 [] s_check_edges) (f_are_pairs : Fav P w K mg base 2 "are_pairs" 3 [] s_are_pairs) (f_makes : Fav P w K mg base 3 "makes" 2 [] s_makes) :
    Fav P w K mg base 7 "accepts_additions" 3 [] s_accepts_additions := fav_of (ps := ["scopes", "edges", "value"]) (refs := []) Fn hm sc_accepts_additions rfl (by decide) (fun _ _ _ _ _ _ us hl => match us, hl with | [_, _, _], _ => rfl) fun _ _ _ _ _ _ c => b_accepts_additions c g f_check_edges f_are_pairs f_makes
theorem sc_law : FnScope N_law ["_law_script"] (defScope (top 40)) := ⟨by decide +kernel, by decide +kernel, by decide +kernel, by decide +kernel, by decide +kernel, by decide +kernel, by decide +kernel⟩
theorem a_law {f : Addr} {fd : FuncData} (Fn : FunD K "law" "law" (defArgs (top 40)) (defBody (top 40)) (defScope (top 40)) [] [] f fd) (g : GF mg FREE INTS) (f__law_stream : FavN P w K mg base 1 "_law_stream" 1 s__law_stream) (f__law_scopes : Fav P w K mg base 2 "_law_scopes" 3 [true] s__law_scopes) (f__law_edge_sets : Fav P w K mg base 2 "_law_edge_sets" 1 [] s__law_edge_sets) (f__law_is_tree : Fav P w K mg base 2 "_law_is_tree" 2 [] s__law_is_tree) (f__law_additions : Fav P w K mg base 2 "_law_additions" 2 [] s__law_additions) (f_told_tree : Fav P w K mg base 6 "told_tree" 1 [] s_told_tree) (f__law_equal__4 : Fav P w K mg base 6 "_law_equal" 2 [] s__law_equal__4) (f_accepts_additions : Fav P w K mg base 7 "accepts_additions" 3 [] s_accepts_additions) :
    FnOk P w K mg base CX0 8 f fd ["_law_script"] (spZ K 1 [] s_law) := fnZ_ok (ps := ["_law_script"]) (refs := []) Fn sc_law rfl (by decide) fun _ _ _ _ _ _ hr => b_law (cn_body sc_law hr) g f__law_stream f__law_scopes f__law_edge_sets f__law_is_tree f__law_additions f_told_tree f__law_equal__4 f_accepts_additions
end
def D__law_stream : He.DefD := ⟨("_law_stream", none), "_law_stream", "_law_stream", defArgs (top 29), [.Return (some e__law_stream) r__law_stream], defScope (top 29), [], []⟩
def D__law_next : He.DefD := ⟨("_law_next", none), "_law_next", "_law_next", defArgs (top 30), (defBody (top 30)), defScope (top 30), [], []⟩
def D__law_scopes : He.DefD := ⟨("_law_scopes", none), "_law_scopes", "_law_scopes", defArgs (top 33), (defBody (top 33)), defScope (top 33), [], []⟩
def D__law_pairs : He.DefD := ⟨("_law_pairs", none), "_law_pairs", "_law_pairs", defArgs (top 34), (defBody (top 34)), defScope (top 34), [], []⟩
def D__law_edge_sets : He.DefD := ⟨("_law_edge_sets", none), "_law_edge_sets", "_law_edge_sets", defArgs (top 37), (defBody (top 37)), defScope (top 37), [], []⟩
def D__law_hang : He.DefD := ⟨("_law_hang", none), "_law_hang", "_law_hang", defArgs (top 35), (defBody (top 35)), defScope (top 35), [], []⟩
def D__law_is_tree : He.DefD := ⟨("_law_is_tree", none), "_law_is_tree", "_law_is_tree", defArgs (top 36), (defBody (top 36)), defScope (top 36), [], []⟩
def D__law_way : He.DefD := ⟨("_law_way", none), "_law_way", "_law_way", defArgs (top 38), (defBody (top 38)), defScope (top 38), [], []⟩
def D__law_additions : He.DefD := ⟨("_law_additions", none), "_law_additions", "_law_additions", defArgs (top 39), (defBody (top 39)), defScope (top 39), [], []⟩
def D_is_whole : He.DefD := ⟨("is_whole", none), "is_whole", "is_whole", defArgs (top 7), (defBody (top 7)), defScope (top 7), [], []⟩
def D_is_climbing : He.DefD := ⟨("is_climbing", none), "is_climbing", "is_climbing", defArgs (top 8), (defBody (top 8)), defScope (top 8), [], []⟩
def D_are_variables : He.DefD := ⟨("are_variables", none), "are_variables", "are_variables", defArgs (top 9), (defBody (top 9)), defScope (top 9), [], []⟩
def D_is_scope : He.DefD := ⟨("is_scope", none), "is_scope", "is_scope", defArgs (top 10), (defBody (top 10)), defScope (top 10), [], []⟩
def D_are_scopes : He.DefD := ⟨("are_scopes", none), "are_scopes", "are_scopes", defArgs (top 14), (defBody (top 14)), defScope (top 14), [], []⟩
def D_check_scopes : He.DefD := ⟨("check_scopes", none), "check_scopes", "check_scopes", defArgs (top 15), (defBody (top 15)), defScope (top 15), [], []⟩
def D_nodes_beyond : He.DefD := ⟨("nodes_beyond", none), "nodes_beyond", "nodes_beyond", defArgs (top 23), (defBody (top 23)), defScope (top 23), [], []⟩
def D_lacks : He.DefD := ⟨("lacks", none), "lacks", "lacks", defArgs (top 24), (defBody (top 24)), defScope (top 24), [], []⟩
def D_additions_of : He.DefD := ⟨("additions_of", none), "additions_of", "additions_of", defArgs (top 25), (defBody (top 25)), defScope (top 25), [], []⟩
def D_together : He.DefD := ⟨("together", none), "together", "together", defArgs (top 19), (defBody (top 19)), defScope (top 19), [], []⟩
def D_is_tree : He.DefD := ⟨("is_tree", none), "is_tree", "is_tree", defArgs (top 20), (defBody (top 20)), defScope (top 20), [], []⟩
def D_trees_of : He.DefD := ⟨("trees_of", none), "trees_of", "trees_of", defArgs (top 22), (defBody (top 22)), defScope (top 22), [], []⟩
def D_told_tree : He.DefD := ⟨("told_tree", none), "told_tree", "told_tree", defArgs (top 26), (defBody (top 26)), defScope (top 26), [], []⟩
def D__law_is_integer : He.DefD := ⟨("_law_is_integer", none), "_law_is_integer", "_law_is_integer", defArgs (top 31), (defBody (top 31)), defScope (top 31), [], []⟩
def D__law_equal : He.DefD := ⟨("_law_equal", none), "_law_equal", "_law_equal", defArgs (top 32), (defBody (top 32)), defScope (top 32), [], []⟩
def D_are_pairs : He.DefD := ⟨("are_pairs", none), "are_pairs", "are_pairs", defArgs (top 16), (defBody (top 16)), defScope (top 16), [], []⟩
def D_are_edges : He.DefD := ⟨("are_edges", none), "are_edges", "are_edges", defArgs (top 17), (defBody (top 17)), defScope (top 17), [], []⟩
def D_check_edges : He.DefD := ⟨("check_edges", none), "check_edges", "check_edges", defArgs (top 18), (defBody (top 18)), defScope (top 18), [], []⟩
def D_makes : He.DefD := ⟨("makes", none), "makes", "makes", defArgs (top 21), (defBody (top 21)), defScope (top 21), [], []⟩
def D_accepts_additions : He.DefD := ⟨("accepts_additions", none), "accepts_additions", "accepts_additions", defArgs (top 27), (defBody (top 27)), defScope (top 27), [], []⟩
def D_law : He.DefD := ⟨("law", none), "law", "law", defArgs (top 40), (defBody (top 40)), defScope (top 40), [], []⟩
def fn : List He.DefD := [D__law_stream, D__law_next, D__law_scopes, D__law_pairs, D__law_edge_sets, D__law_hang, D__law_is_tree, D__law_way, D__law_additions, D_is_whole, D_is_climbing, D_are_variables, D_is_scope, D_are_scopes, D_check_scopes, D_nodes_beyond, D_lacks, D_additions_of, D_together, D_is_tree, D_trees_of, D_told_tree, D__law_is_integer, D__law_equal, D_are_pairs, D_are_edges, D_check_edges, D_makes, D_accepts_additions, D_law]
def fa : List He.Fa := [.glo "_law_stream", .glo "_law_next", .glo "_law_scopes", .glo "_law_pairs", .glo "_law_edge_sets", .glo "_law_hang", .glo "_law_is_tree", .glo "_law_way", .glo "_law_additions", .glo "is_whole", .glo "is_climbing", .glo "are_variables", .glo "is_scope", .glo "are_scopes", .glo "check_scopes", .glo "nodes_beyond", .glo "lacks", .glo "additions_of", .glo "together", .glo "is_tree", .glo "trees_of", .glo "told_tree", .glo "_law_is_integer", .glo "_law_equal", .glo "are_pairs", .glo "are_edges", .glo "check_edges", .glo "makes", .glo "accepts_additions", .glo "law"] ++ (FREE.map He.Fa.free ++ INTS.map fun p => He.Fa.int p.1 p.2)
abbrev R : PySem.W.OpenRow := PySem.W.OpenLaw.row PySem.Challenge.rw_tabletalk_k52_whole_told_trees
abbrev hk : PySem.W.Hook := PP.hookC 4 fa fn
theorem facts {P : Program} {w : World} {K : PySem.W.Frag} {h : Heap} {mg : Str → Option Value} {f : Addr} (X : K.In h) (G : h.Ns mainGlobals mg) (hfa : mg ("law" : Str) = some (.ref f)) (c : He.SaysD fa fn K) (cbk : PP.cbOk K = true) :
    ∃ fd : FuncData, (∀ (s : Shared) (v : Value), BindsTo s fd ⟨[v], []⟩ [("_law_script", v)]) ∧ ∀ base : Heap, K.In base → base.Ns mainGlobals mg → FnOk P w K mg base CX0 8 f fd ["_law_script"] (spZ K 1 [] s_law) := by
  obtain ⟨fd__law_stream, F__law_stream⟩ := c.def_ 0 (d := D__law_stream) rfl
  obtain ⟨fd__law_next, F__law_next⟩ := c.def_ 1 (d := D__law_next) rfl
  obtain ⟨fd__law_scopes, F__law_scopes⟩ := c.def_ 2 (d := D__law_scopes) rfl
  obtain ⟨fd__law_pairs, F__law_pairs⟩ := c.def_ 3 (d := D__law_pairs) rfl
  obtain ⟨fd__law_edge_sets, F__law_edge_sets⟩ := c.def_ 4 (d := D__law_edge_sets) rfl
  obtain ⟨fd__law_hang, F__law_hang⟩ := c.def_ 5 (d := D__law_hang) rfl
  obtain ⟨fd__law_is_tree, F__law_is_tree⟩ := c.def_ 6 (d := D__law_is_tree) rfl
  obtain ⟨fd__law_way, F__law_way⟩ := c.def_ 7 (d := D__law_way) rfl
  obtain ⟨fd__law_additions, F__law_additions⟩ := c.def_ 8 (d := D__law_additions) rfl
  obtain ⟨fd_is_whole, F_is_whole⟩ := c.def_ 9 (d := D_is_whole) rfl
  obtain ⟨fd_is_climbing, F_is_climbing⟩ := c.def_ 10 (d := D_is_climbing) rfl
  obtain ⟨fd_are_variables, F_are_variables⟩ := c.def_ 11 (d := D_are_variables) rfl
  obtain ⟨fd_is_scope, F_is_scope⟩ := c.def_ 12 (d := D_is_scope) rfl
  obtain ⟨fd_are_scopes, F_are_scopes⟩ := c.def_ 13 (d := D_are_scopes) rfl
  obtain ⟨fd_check_scopes, F_check_scopes⟩ := c.def_ 14 (d := D_check_scopes) rfl
  obtain ⟨fd_nodes_beyond, F_nodes_beyond⟩ := c.def_ 15 (d := D_nodes_beyond) rfl
  obtain ⟨fd_lacks, F_lacks⟩ := c.def_ 16 (d := D_lacks) rfl
  obtain ⟨fd_additions_of, F_additions_of⟩ := c.def_ 17 (d := D_additions_of) rfl
  obtain ⟨fd_together, F_together⟩ := c.def_ 18 (d := D_together) rfl
  obtain ⟨fd_is_tree, F_is_tree⟩ := c.def_ 19 (d := D_is_tree) rfl
  obtain ⟨fd_trees_of, F_trees_of⟩ := c.def_ 20 (d := D_trees_of) rfl
  obtain ⟨fd_told_tree, F_told_tree⟩ := c.def_ 21 (d := D_told_tree) rfl
  obtain ⟨fd__law_is_integer, F__law_is_integer⟩ := c.def_ 22 (d := D__law_is_integer) rfl
  obtain ⟨fd__law_equal, F__law_equal⟩ := c.def_ 23 (d := D__law_equal) rfl
  obtain ⟨fd_are_pairs, F_are_pairs⟩ := c.def_ 24 (d := D_are_pairs) rfl
  obtain ⟨fd_are_edges, F_are_edges⟩ := c.def_ 25 (d := D_are_edges) rfl
  obtain ⟨fd_check_edges, F_check_edges⟩ := c.def_ 26 (d := D_check_edges) rfl
  obtain ⟨fd_makes, F_makes⟩ := c.def_ 27 (d := D_makes) rfl
  obtain ⟨fd_accepts_additions, F_accepts_additions⟩ := c.def_ 28 (d := D_accepts_additions) rfl
  obtain ⟨fd_law, F_law⟩ := c.def_ 29 (d := D_law) rfl
  have e := hfa.symm.trans (He.glo_ok X G (c.fact 29 (f := .glo "law") rfl))
  cases e
  have b := FunD.bindsA (ps := ["_law_script"]) F_law fun _ _ _ _ _ _ us hl => match us, hl with | [_], _ => rfl
  have g : GF mg FREE INTS := gf_of X G c (fun x hx => List.mem_append_right _ (List.mem_append_left _ (List.mem_map_of_mem hx))) (fun p hp => List.mem_append_right _ (List.mem_append_right _ (List.mem_map.mpr ⟨p, hp, rfl⟩)))
  have cb := PP.cb_ok X G cbk
  refine ⟨fd_law, fun s v => b s [v] rfl, fun base _ _ => ?_⟩
  have f__law_stream := a__law_stream (P := P) (w := w) (base := base) F__law_stream (He.glo_ok X G (c.fact 0 (f := .glo "_law_stream") rfl)) g
  have f__law_next := a__law_next (P := P) (w := w) (base := base) F__law_next (He.glo_ok X G (c.fact 1 (f := .glo "_law_next") rfl)) g
  have f__law_scopes := a__law_scopes (P := P) (w := w) (base := base) F__law_scopes (He.glo_ok X G (c.fact 2 (f := .glo "_law_scopes") rfl)) g f__law_next
  have f__law_pairs := a__law_pairs (P := P) (w := w) (base := base) F__law_pairs (He.glo_ok X G (c.fact 3 (f := .glo "_law_pairs") rfl)) g
  have f__law_edge_sets := a__law_edge_sets (P := P) (w := w) (base := base) F__law_edge_sets (He.glo_ok X G (c.fact 4 (f := .glo "_law_edge_sets") rfl)) g f__law_pairs
  have f__law_hang := a__law_hang (P := P) (w := w) (base := base) F__law_hang (He.glo_ok X G (c.fact 5 (f := .glo "_law_hang") rfl)) g
  have f__law_is_tree := a__law_is_tree (P := P) (w := w) (base := base) F__law_is_tree (He.glo_ok X G (c.fact 6 (f := .glo "_law_is_tree") rfl)) g f__law_hang
  have f__law_way := a__law_way (P := P) (w := w) (base := base) F__law_way (He.glo_ok X G (c.fact 7 (f := .glo "_law_way") rfl)) g
  have f__law_additions := a__law_additions (P := P) (w := w) (base := base) F__law_additions (He.glo_ok X G (c.fact 8 (f := .glo "_law_additions") rfl)) g f__law_way
  have f_is_whole := a_is_whole (P := P) (w := w) (base := base) F_is_whole (He.glo_ok X G (c.fact 9 (f := .glo "is_whole") rfl)) g
  have f_is_climbing := a_is_climbing (P := P) (w := w) (base := base) F_is_climbing (He.glo_ok X G (c.fact 10 (f := .glo "is_climbing") rfl)) g
  have f_are_variables := a_are_variables (P := P) (w := w) (base := base) F_are_variables (He.glo_ok X G (c.fact 11 (f := .glo "are_variables") rfl)) g f_is_whole f_is_climbing
  have f_is_scope := a_is_scope (P := P) (w := w) (base := base) F_is_scope (He.glo_ok X G (c.fact 12 (f := .glo "is_scope") rfl)) g f_are_variables
  have f_are_scopes := a_are_scopes (P := P) (w := w) (base := base) F_are_scopes (He.glo_ok X G (c.fact 13 (f := .glo "are_scopes") rfl)) g f_is_scope
  have f_check_scopes := a_check_scopes (P := P) (w := w) (base := base) F_check_scopes (He.glo_ok X G (c.fact 14 (f := .glo "check_scopes") rfl)) g f_are_scopes
  have f_nodes_beyond := a_nodes_beyond (P := P) (w := w) (base := base) F_nodes_beyond (He.glo_ok X G (c.fact 15 (f := .glo "nodes_beyond") rfl)) g
  have f_lacks := a_lacks (P := P) (w := w) (base := base) F_lacks (He.glo_ok X G (c.fact 16 (f := .glo "lacks") rfl)) g f_nodes_beyond
  have f_additions_of := a_additions_of (P := P) (w := w) (base := base) F_additions_of (He.glo_ok X G (c.fact 17 (f := .glo "additions_of") rfl)) g f_lacks
  have f_together := a_together (P := P) (w := w) (base := base) F_together (He.glo_ok X G (c.fact 18 (f := .glo "together") rfl)) g
  have f_is_tree := a_is_tree (P := P) (w := w) (base := base) F_is_tree (He.glo_ok X G (c.fact 19 (f := .glo "is_tree") rfl)) g f_together
  have f_trees_of := a_trees_of (P := P) (w := w) (base := base) F_trees_of (He.glo_ok X G (c.fact 20 (f := .glo "trees_of") rfl)) g cb f_is_tree
  have f_told_tree := a_told_tree (P := P) (w := w) (base := base) F_told_tree (He.glo_ok X G (c.fact 21 (f := .glo "told_tree") rfl)) g f_check_scopes f_trees_of f_additions_of
  have f__law_is_integer := a__law_is_integer (P := P) (w := w) (base := base) F__law_is_integer (He.glo_ok X G (c.fact 22 (f := .glo "_law_is_integer") rfl)) g
  have f__law_equal__0 := a__law_equal__0 (P := P) (w := w) (base := base) F__law_equal (He.glo_ok X G (c.fact 23 (f := .glo "_law_equal") rfl)) g f__law_is_integer
  have f__law_equal__1 := a__law_equal__1 (P := P) (w := w) (base := base) F__law_equal (He.glo_ok X G (c.fact 23 (f := .glo "_law_equal") rfl)) g f__law_is_integer f__law_equal__0
  have f__law_equal__2 := a__law_equal__2 (P := P) (w := w) (base := base) F__law_equal (He.glo_ok X G (c.fact 23 (f := .glo "_law_equal") rfl)) g f__law_is_integer f__law_equal__1
  have f__law_equal__3 := a__law_equal__3 (P := P) (w := w) (base := base) F__law_equal (He.glo_ok X G (c.fact 23 (f := .glo "_law_equal") rfl)) g f__law_is_integer f__law_equal__2
  have f__law_equal__4 := a__law_equal__4 (P := P) (w := w) (base := base) F__law_equal (He.glo_ok X G (c.fact 23 (f := .glo "_law_equal") rfl)) g f__law_is_integer f__law_equal__3
  have f_are_pairs := a_are_pairs (P := P) (w := w) (base := base) F_are_pairs (He.glo_ok X G (c.fact 24 (f := .glo "are_pairs") rfl)) g f_is_whole
  have f_are_edges := a_are_edges (P := P) (w := w) (base := base) F_are_edges (He.glo_ok X G (c.fact 25 (f := .glo "are_edges") rfl)) g f_are_pairs
  have f_check_edges := a_check_edges (P := P) (w := w) (base := base) F_check_edges (He.glo_ok X G (c.fact 26 (f := .glo "check_edges") rfl)) g f_check_scopes f_are_edges
  have f_makes := a_makes (P := P) (w := w) (base := base) F_makes (He.glo_ok X G (c.fact 27 (f := .glo "makes") rfl)) g f_is_tree f_together
  have f_accepts_additions := a_accepts_additions (P := P) (w := w) (base := base) F_accepts_additions (He.glo_ok X G (c.fact 28 (f := .glo "accepts_additions") rfl)) g f_check_edges f_are_pairs f_makes
  exact a_law F_law g f__law_stream f__law_scopes f__law_edge_sets f__law_is_tree f__law_additions f_told_tree f__law_equal__4 f_accepts_additions
end WK
open PySem PySem.W PySem.Calls PyProof.Rows
theorem PySem.Challenge.cw_tabletalk_k52_whole_told_trees_holds : PySem.Challenge.rw_tabletalk_k52_whole_told_trees.Holds := by
  w_on; o_law
  o_head WK.hk
  case hw => w_witness2
  case hc =>
    refine L2.walk_ofE (l := PySem.Challenge.rw_tabletalk_k52_whole_told_trees) (n := 63) (k := 8) (x := "_law_script") (CX := L2.CX0) rfl (by decide) (by kernel_rfl) ⟨rfl, by decide, by decide⟩ ?F (fun _ _ _ _ z => z)
    intro w mg fa h Y G hmg0
    obtain ⟨K, KX, c, cbk⟩ := Y
    have hmg : mg ("law" : PySem.Str) = some (.ref fa) := hmg0
    obtain ⟨fd, hb, hF⟩ := WK.facts (P := (PySem.Challenge.rw_tabletalk_k52_whole_told_trees).prog) (w := w) KX G hmg c cbk
    exact ⟨K, fd, PP.spZ K 1 [] WK.s_law, KX, hb, fun H a ns hl _ hS => PP.law_sp hS (QQ.plain ns hl), hF⟩

