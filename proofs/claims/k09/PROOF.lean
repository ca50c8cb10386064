import PyProof.Rows.All
import Wide.All
import OpenK.AllK
import Wide.FinOn
import HandS.ForMost
import HandS.DictComp
import HandS.Zip
import HandS.IsInst
import HandS.Deep
import HandS.Conv
import HandS.HeadHook2
import HandS.HeadEnd
import HandS.Head0
import HandS.Head1
import HandS.Head2
import KE.SortData
import KE.DataMinMax
import KE.DataFind
import PyProof.Rows.TupAdd
import KE.KIndexOf
import HandS.Small
import PySem.Challenge.RW_tabletalk_k09_whole_rejecting_nodes
set_option Elab.async false
set_option linter.all false
set_option maxRecDepth 100000
/-! PP, part a: pure values behind abstract heaps: what a value tells (Rep), slots, states (Rel), moves (Mv). -/
namespace PP
open PySem PySem.Spec PyProof.Rows L2

/-- a value without its heap: plain tuples may be keys; fup: a tuple whose object is known (it may be asked for an index) -/
inductive PV where
  | non | bl (b : Bool) | int (i : Int) | str (s : Str)
  | tup (xs : List PV) | fup (xs : List PV) | lst (xs : List PV)
  | dk (kvs : List (Key × PV)) | dt (kvs : List (List Key × PV))
mutual
/-- as data -/
def toD : PV → PyData
  | .non => .none
  | .bl b => .bool b
  | .int i => .int i
  | .str s => .str s
  | .tup xs => .tuple (toDs xs)
  | .fup xs => .tuple (toDs xs)
  | .lst xs => .list (toDs xs)
  | .dk _ => .dict []
  | .dt _ => .dict []
def toDs : List PV → List PyData
  | [] => []
  | x :: xs => toD x :: toDs xs
end
theorem toDs_map : ∀ xs : List PV, toDs xs = xs.map toD
  | [] => rfl
  | x :: xs => by simp [toDs, toDs_map xs]
def keyP : Key → PV
  | .inl i => .int i
  | .inr s => .str s
abbrev tupObj (its : List Value) : Obj := { cls := .type "tuple", data := .seq its.toArray }

/-- a list that is read: frozen, or a part of the module -/
def FzL (K : PySem.W.Frag) (F : Addr → Prop) (H : Hp) (a : Addr) (vs : List V) : Prop := (F a ∧ SqL K H a vs) ∨ SqL K (fun _ => none) a vs

mutual
inductive Rep (K : PySem.W.Frag) (F : Addr → Prop) (H : Hp) : V → PV → Prop
  | non : Rep K F H .non .non
  | bl (b : Bool) : Rep K F H (.bl b) (.bl b)
  | int (i : Int) : Rep K F H (.int i) (.int i)
  | str (x : Str) : Rep K F H (.str x) (.str x)
  | tup {a : Addr} {vs : List V} {xs : List PV} : H a = some (.tup vs) → RepL K F H vs xs → Rep K F H (.ref a) (.tup xs)
  | fup {a : Addr} {its : List Value} {vs : List V} {xs : List PV} : H a = some (.frz (tupObj its) (.tup vs)) → RepL K F H vs xs → Rep K F H (.ref a) (.fup xs)
  | lst {a : Addr} {vs : List V} {xs : List PV} : FzL K F H a vs → RepL K F H vs xs → Rep K F H (.ref a) (.lst xs)
  | dk {a : Addr} {kvs : List (Key × V)} {xs : List (Key × PV)} : F a → H a = some (.dK kvs) → RepK K F H kvs xs → Rep K F H (.ref a) (.dk xs)
  | dt {a : Addr} {kvs : List (List Key × V)} {xs : List (List Key × PV)} : F a → H a = some (.dT kvs) → RepT K F H kvs xs → Rep K F H (.ref a) (.dt xs)
inductive RepL (K : PySem.W.Frag) (F : Addr → Prop) (H : Hp) : List V → List PV → Prop
  | nil : RepL K F H [] []
  | cons {v : V} {vs : List V} {x : PV} {xs : List PV} : Rep K F H v x → RepL K F H vs xs → RepL K F H (v :: vs) (x :: xs)
inductive RepK (K : PySem.W.Frag) (F : Addr → Prop) (H : Hp) : List (Key × V) → List (Key × PV) → Prop
  | nil : RepK K F H [] []
  | cons {k : Key} {v : V} {kvs : List (Key × V)} {x : PV} {xs : List (Key × PV)} : Rep K F H v x → RepK K F H kvs xs → RepK K F H ((k, v) :: kvs) ((k, x) :: xs)
inductive RepT (K : PySem.W.Frag) (F : Addr → Prop) (H : Hp) : List (List Key × V) → List (List Key × PV) → Prop
  | nil : RepT K F H [] []
  | cons {k : List Key} {v : V} {kvs : List (List Key × V)} {x : PV} {xs : List (List Key × PV)} : Rep K F H v x → RepT K F H kvs xs → RepT K F H ((k, v) :: kvs) ((k, x) :: xs)
end

/-- what is frozen stays, tuples stay -/
structure Ex (F : Addr → Prop) (H : Hp) (F' : Addr → Prop) (H' : Hp) : Prop where
  sub : ∀ a, F a → F' a
  keep : ∀ a o, F a → H a = some o → H' a = some o
  tups : ∀ a vs, H a = some (.tup vs) → H' a = some (.tup vs)
  frzs : ∀ a o u, H a = some (.frz o u) → H' a = some (.frz o u)
theorem Ex.refl {F : Addr → Prop} {H : Hp} : Ex F H F H := ⟨fun _ h => h, fun _ _ _ h => h, fun _ _ h => h, fun _ _ _ h => h⟩
theorem Ex.trans {F F1 F2 : Addr → Prop} {H H1 H2 : Hp} (a : Ex F H F1 H1) (b : Ex F1 H1 F2 H2) : Ex F H F2 H2 :=
  ⟨fun x h => b.sub x (a.sub x h), fun x o h e => b.keep x o (a.sub x h) (a.keep x o h e), fun x vs e => b.tups x vs (a.tups x vs e), fun x o u e => b.frzs x o u (a.frzs x o u e)⟩

variable {K : PySem.W.Frag} {F F' : Addr → Prop} {H H' : Hp}

theorem rd_keep {a : Addr} {u : HO} (k : ∀ o, H a = some o → H' a = some o) (r : Rd H a u) : Rd H' a u := by
  rcases r with r | ⟨o, r⟩
  · exact .inl (k _ r)
  · exact .inr ⟨o, k _ r⟩
theorem sql_keep {a : Addr} {vs : List V} (k : ∀ o, H a = some o → H' a = some o) (r : SqL K H a vs) : SqL K H' a vs := by
  rcases r with r | r
  · exact .inl (rd_keep k r)
  · exact .inr r
theorem FzL.seq {a : Addr} {vs : List V} (r : FzL K F H a vs) : SqL K H a vs := by
  rcases r with ⟨_, r⟩ | r
  · exact r
  · exact sql_keep (fun o e => by cases e) r
theorem FzL.ex {a : Addr} {vs : List V} (e : Ex F H F' H') (r : FzL K F H a vs) : FzL K F' H' a vs := by
  rcases r with ⟨f, r⟩ | r
  · exact .inl ⟨e.sub a f, sql_keep (fun o q => e.keep a o f q) r⟩
  · exact .inr r

mutual
theorem Rep.ex (e : Ex F H F' H') : ∀ {v : V} {x : PV}, Rep K F H v x → Rep K F' H' v x
  | _, _, .non => .non
  | _, _, .bl b => .bl b
  | _, _, .int i => .int i
  | _, _, .str s => .str s
  | _, _, .tup h r => .tup (e.tups _ _ h) (RepL.ex e r)
  | _, _, .fup h r => .fup (e.frzs _ _ _ h) (RepL.ex e r)
  | _, _, .lst h r => .lst (h.ex e) (RepL.ex e r)
  | _, _, .dk f h r => .dk (e.sub _ f) (e.keep _ _ f h) (RepK.ex e r)
  | _, _, .dt f h r => .dt (e.sub _ f) (e.keep _ _ f h) (RepT.ex e r)
theorem RepL.ex (e : Ex F H F' H') : ∀ {vs : List V} {xs : List PV}, RepL K F H vs xs → RepL K F' H' vs xs
  | _, _, .nil => .nil
  | _, _, .cons r t => .cons (Rep.ex e r) (RepL.ex e t)
theorem RepK.ex (e : Ex F H F' H') : ∀ {vs : List (Key × V)} {xs : List (Key × PV)}, RepK K F H vs xs → RepK K F' H' vs xs
  | _, _, .nil => .nil
  | _, _, .cons r t => .cons (Rep.ex e r) (RepK.ex e t)
theorem RepT.ex (e : Ex F H F' H') : ∀ {vs : List (List Key × V)} {xs : List (List Key × PV)}, RepT K F H vs xs → RepT K F' H' vs xs
  | _, _, .nil => .nil
  | _, _, .cons r t => .cons (Rep.ex e r) (RepT.ex e t)
end

theorem RepL.length : ∀ {vs : List V} {xs : List PV}, RepL K F H vs xs → vs.length = xs.length
  | _, _, .nil => rfl
  | _, _, .cons _ t => by simp [RepL.length t]
theorem RepL.get : ∀ {vs : List V} {xs : List PV} {i : Nat} {x : PV}, RepL K F H vs xs → xs[i]? = some x → ∃ v, vs[i]? = some v ∧ Rep K F H v x
  | _, _, _, _, .nil, e => by simp at e
  | _, _, 0, _, .cons r _, e => by simp at e; subst e; exact ⟨_, rfl, r⟩
  | _, _, i + 1, x, .cons _ t, e => by
    obtain ⟨u, h1, h2⟩ := RepL.get (i := i) (x := x) t (by simpa using e)
    exact ⟨u, by simpa using h1, h2⟩
theorem RepL.append : ∀ {vs ws : List V} {xs ys : List PV}, RepL K F H vs xs → RepL K F H ws ys → RepL K F H (vs ++ ws) (xs ++ ys)
  | _, _, _, _, .nil, s => s
  | _, _, _, _, .cons r t, s => .cons r (RepL.append t s)
theorem RepL.take : ∀ {vs : List V} {xs : List PV} (n : Nat), RepL K F H vs xs → RepL K F H (vs.take n) (xs.take n)
  | _, _, 0, _ => by simpa using RepL.nil
  | _, _, _ + 1, .nil => .nil
  | _, _, n + 1, .cons r t => .cons r (RepL.take n t)
theorem RepL.drop : ∀ {vs : List V} {xs : List PV} (n : Nat), RepL K F H vs xs → RepL K F H (vs.drop n) (xs.drop n)
  | _, _, 0, r => r
  | _, _, _ + 1, .nil => .nil
  | _, _, n + 1, .cons _ t => RepL.drop n t
theorem RepL.set {v : V} {x : PV} (r : Rep K F H v x) : ∀ {vs : List V} {xs : List PV} (n : Nat), RepL K F H vs xs → RepL K F H (vs.set n v) (xs.set n x)
  | _, _, _, .nil => .nil
  | _, _, 0, .cons _ t => .cons r t
  | _, _, n + 1, .cons q t => .cons q (RepL.set r n t)
theorem RepL.eraseIdx : ∀ {vs : List V} {xs : List PV} (n : Nat), RepL K F H vs xs → RepL K F H (vs.eraseIdx n) (xs.eraseIdx n)
  | _, _, _, .nil => .nil
  | _, _, 0, .cons _ t => t
  | _, _, n + 1, .cons q t => .cons q (RepL.eraseIdx n t)
theorem RepL.dropLast : ∀ {vs : List V} {xs : List PV}, RepL K F H vs xs → RepL K F H vs.dropLast xs.dropLast
  | _, _, .nil => .nil
  | _, _, .cons _ .nil => .nil
  | _, _, .cons r (.cons r2 t) => .cons r (RepL.dropLast (.cons r2 t))
theorem RepL.reverse : ∀ {vs : List V} {xs : List PV}, RepL K F H vs xs → RepL K F H vs.reverse xs.reverse
  | _, _, .nil => .nil
  | _, _, .cons r t => by
    rw [List.reverse_cons, List.reverse_cons]
    exact (RepL.reverse t).append (.cons r .nil)

/-! ### data as the layer reads them -/
mutual
/-- no dict in it -/
def nodic : PV → Bool
  | .dk _ => false
  | .dt _ => false
  | .lst xs => nodicL xs
  | .tup xs => nodicL xs
  | .fup xs => nodicL xs
  | _ => true
def nodicL : List PV → Bool
  | [] => true
  | x :: xs => nodic x && nodicL xs
end
mutual
theorem Rep.dp : ∀ {v : V} {x : PV}, nodic x = true → Rep K F H v x → Dp K H v (toD x)
  | _, _, _, .non => by unfold toD; exact .non
  | _, _, _, .bl b => by unfold toD; exact .bl b
  | _, _, _, .int i => by unfold toD; exact .int i
  | _, _, _, .str s => by unfold toD; exact .str s
  | _, _, e, .tup h r => by unfold toD; exact .tup (SqT.of h) (RepL.dp (by simpa [nodic] using e) r)
  | _, _, e, .fup h r => by unfold toD; exact .tup (.inl (.inr ⟨_, h⟩)) (RepL.dp (by simpa [nodic] using e) r)
  | _, _, e, .lst h r => by unfold toD; exact .lst h.seq (RepL.dp (by simpa [nodic] using e) r)
theorem RepL.dp : ∀ {vs : List V} {xs : List PV}, nodicL xs = true → RepL K F H vs xs → DpAll K H vs (toDs xs)
  | _, _, _, .nil => by unfold toDs; exact .nil
  | _, _, e, .cons r t => by
    simp only [nodicL, Bool.and_eq_true] at e
    unfold toDs
    exact .cons (Rep.dp e.1 r) (RepL.dp e.2 t)
end

/-! ### slots -/
inductive SlP where
  | no | val (v : PV) | own (v : PV)
abbrev PEn := List SlP

/-- a container of one's own at a -/
inductive OwnAt (K : PySem.W.Frag) (F : Addr → Prop) (H : Hp) (a : Addr) : PV → Prop
  | lst {vs : List V} {xs : List PV} : H a = some (.lst vs) → RepL K F H vs xs → OwnAt K F H a (.lst xs)
  | dk {kvs : List (Key × V)} {xs : List (Key × PV)} : H a = some (.dK kvs) → RepK K F H kvs xs → OwnAt K F H a (.dk xs)
  | dt {kvs : List (List Key × V)} {xs : List (List Key × PV)} : H a = some (.dT kvs) → RepT K F H kvs xs → OwnAt K F H a (.dt xs)
theorem OwnAt.some {a : Addr} {v : PV} (o : OwnAt K F H a v) : ∃ u, H a = some u ∧ (∀ vs, u ≠ .tup vs) ∧ ∀ o w, u ≠ .frz o w := by
  cases o with
  | lst h _ => exact ⟨_, h, (fun _ z => by cases z), (fun _ _ z => by cases z)⟩
  | dk h _ => exact ⟨_, h, (fun _ z => by cases z), (fun _ _ z => by cases z)⟩
  | dt h _ => exact ⟨_, h, (fun _ z => by cases z), (fun _ _ z => by cases z)⟩
theorem OwnAt.ex {a : Addr} {v : PV} (e : Ex F H F' H') (k : H' a = H a) (o : OwnAt K F H a v) : OwnAt K F' H' a v := by
  cases o with
  | lst h r => exact .lst (k.trans h) (r.ex e)
  | dk h r => exact .dk (k.trans h) (r.ex e)
  | dt h r => exact .dt (k.trans h) (r.ex e)
/-- frozen, it is a value -/
theorem OwnAt.rep {a : Addr} {v : PV} (o : OwnAt K F H a v) (e : Ex F H F' H) (f : F' a) : Rep K F' H (.ref a) v := by
  cases o with
  | lst h r => exact .lst (.inl ⟨f, SqL.of h⟩) (r.ex e)
  | dk h r => exact .dk f h (r.ex e)
  | dt h r => exact .dt f h (r.ex e)

/-- a value, or a container of one's own that is only read -/
inductive BRep (K : PySem.W.Frag) (F : Addr → Prop) (H : Hp) : V → PV → Prop
  | rep {v : V} {x : PV} : Rep K F H v x → BRep K F H v x
  | own {a : Addr} {x : PV} : OwnAt K F H a x → BRep K F H (.ref a) x
inductive BRepL (K : PySem.W.Frag) (F : Addr → Prop) (H : Hp) : List V → List PV → Prop
  | nil : BRepL K F H [] []
  | cons {v : V} {vs : List V} {x : PV} {xs : List PV} : BRep K F H v x → BRepL K F H vs xs → BRepL K F H (v :: vs) (x :: xs)
theorem RepL.b : ∀ {vs : List V} {xs : List PV}, RepL K F H vs xs → BRepL K F H vs xs
  | _, _, .nil => .nil
  | _, _, .cons r t => .cons (.rep r) (RepL.b t)
theorem BRepL.length : ∀ {vs : List V} {xs : List PV}, BRepL K F H vs xs → vs.length = xs.length
  | _, _, .nil => rfl
  | _, _, .cons _ t => by simp [BRepL.length t]
/-- the items of a list that is read -/
theorem BRep.lst {v : V} {xs : List PV} (r : BRep K F H v (.lst xs)) : ∃ a vs, v = .ref a ∧ SqL K H a vs ∧ RepL K F H vs xs := by
  cases r with
  | rep r => cases r with | lst h r => exact ⟨_, _, rfl, h.seq, r⟩
  | own o => cases o with | lst h r => exact ⟨_, _, rfl, SqL.of h, r⟩
theorem BRep.tup {v : V} {xs : List PV} (r : BRep K F H v (.tup xs)) : ∃ a vs, v = .ref a ∧ H a = some (.tup vs) ∧ RepL K F H vs xs := by
  cases r with
  | rep r => cases r with | tup h r => exact ⟨_, _, rfl, h, r⟩
  | own o => cases o
theorem BRep.fup {v : V} {xs : List PV} (r : BRep K F H v (.fup xs)) : ∃ a its vs, v = .ref a ∧ H a = some (.frz (tupObj its) (.tup vs)) ∧ RepL K F H vs xs := by
  cases r with
  | rep r => cases r with | fup h r => exact ⟨_, _, _, rfl, h, r⟩
  | own o => cases o
theorem BRep.int {v : V} {i : Int} (r : BRep K F H v (.int i)) : v = .int i := by
  cases r with
  | rep r => cases r; rfl
  | own o => cases o
theorem BRep.bl {v : V} {i : Bool} (r : BRep K F H v (.bl i)) : v = .bl i := by
  cases r with
  | rep r => cases r; rfl
  | own o => cases o
theorem BRep.str {v : V} {i : Str} (r : BRep K F H v (.str i)) : v = .str i := by
  cases r with
  | rep r => cases r; rfl
  | own o => cases o
theorem BRep.dp {v : V} {x : PV} (n : nodic x = true) (r : BRep K F H v x) : Dp K H v (toD x) := by
  cases r with
  | rep r => exact r.dp n
  | own o =>
    cases o with
    | lst h r => unfold toD; exact .lst (SqL.of h) (RepL.dp (by simpa [nodic] using n) r)
    | dk _ _ => simp [nodic] at n
    | dt _ _ => simp [nodic] at n

def Sized (H : Hp) : Prop := ∀ a, (∀ vs, (Rd H a (.lst vs) ∨ Rd H a (.tup vs)) → vs.length ≤ sizeLine) ∧ (∀ kvs, H a = some (.dK kvs) → kvs.length ≤ sizeLine) ∧ ∀ kvs, H a = some (.dT kvs) → kvs.length ≤ sizeLine
theorem sized_of {P : Program} {w : World} {h : Heap} (ok : HOk P w H h) : Sized H := fun a => by
  refine ⟨fun vs e => ?_, fun kvs e => ?_, fun kvs e => ?_⟩
  · rcases e with e | e
    · exact (e.ok ok).1
    · exact (e.ok ok).1
  · exact (ok a _ e).1
  · exact (ok a _ e).1
def HO.small : HO → Prop
  | .lst vs => vs.length ≤ sizeLine
  | .tup vs => vs.length ≤ sizeLine
  | .dK kvs => kvs.length ≤ sizeLine
  | .dT kvs => kvs.length ≤ sizeLine
  | .frz _ (.lst vs) => vs.length ≤ sizeLine
  | .frz _ (.tup vs) => vs.length ≤ sizeLine
  | _ => True
theorem Sized.upd {p : Addr} {o : HO} (s : Sized H) (h : PP.HO.small o) : Sized (L2.upd H p o) := fun a => by
  by_cases e : a = p
  · subst e
    unfold Rd
    rw [upd_same]
    refine ⟨fun vs q => ?_, fun kvs q => ?_, fun kvs q => ?_⟩
    · rcases q with (q | ⟨x, q⟩) | (q | ⟨x, q⟩) <;> cases q <;> exact h
    · cases q; exact h
    · cases q; exact h
  · unfold Rd
    rw [upd_ne e]
    exact s a

def Own (env : PEn) (σ : L2.St) (a : Addr) : Prop := ∃ (i : Nat) (v : PV), env[i]? = some (SlP.own v) ∧ σ[i]? = some (some (V.ref a))

structure Rel (K : PySem.W.Frag) (F : Addr → Prop) (H : Hp) (env : PEn) (σ : L2.St) : Prop where
  len : env.length = σ.length
  val : ∀ (i : Nat) (v : PV), env[i]? = some (SlP.val v) → ∃ x, σ[i]? = some (some x) ∧ Rep K F H x v
  own : ∀ (i : Nat) (v : PV), env[i]? = some (SlP.own v) → ∃ a, σ[i]? = some (some (V.ref a)) ∧ ¬ F a ∧ OwnAt K F H a v
  apart : ∀ (i j : Nat) (v w : PV) (a : Addr), env[i]? = some (SlP.own v) → env[j]? = some (SlP.own w) → σ[i]? = some (some (V.ref a)) → σ[j]? = some (some (V.ref a)) → i = j
  fz : ∀ a, F a → ∃ o, H a = some o
  sz : Sized H

structure Mv (F : Addr → Prop) (H : Hp) (env : PEn) (σ : L2.St) (F' : Addr → Prop) (H' : Hp) (env' : PEn) (σ' : L2.St) : Prop where
  sub : ∀ a, F a → F' a
  frame : ∀ b o, H b = some o → ¬ Own env σ b → H' b = some o
  fnew : ∀ a, F' a → F a ∨ Own env σ a ∨ H a = none
  onew : ∀ a, Own env' σ' a → Own env σ a ∨ H a = none
  there : ∀ b o, H b = some o → ∃ o', H' b = some o'

variable {env env1 env2 : PEn} {σ σ1 σ2 : L2.St} {F1 F2 : Addr → Prop} {H1 H2 : Hp}

theorem Mv.refl : Mv F H env σ F H env σ := ⟨fun _ h => h, fun _ _ h _ => h, fun _ h => .inl h, fun _ h => .inl h, fun _ o h => ⟨o, h⟩⟩
theorem Mv.back (a : Mv F H env σ F1 H1 env1 σ1) {b : Addr} (h : H1 b = none) : H b = none := by
  cases q : H b with
  | none => rfl
  | some o =>
    obtain ⟨o', e⟩ := a.there b o q
    rw [h] at e; cases e
theorem Mv.trans (a : Mv F H env σ F1 H1 env1 σ1) (b : Mv F1 H1 env1 σ1 F2 H2 env2 σ2) : Mv F H env σ F2 H2 env2 σ2 where
  sub := fun x h => b.sub x (a.sub x h)
  frame := fun x o h n => by
    refine b.frame x o (a.frame x o h n) fun z => ?_
    rcases a.onew x z with q | q
    · exact n q
    · rw [h] at q; cases q
  fnew := fun x h => by
    rcases b.fnew x h with q | q | q
    · exact a.fnew x q
    · exact .inr (a.onew x q)
    · exact .inr (.inr (a.back q))
  onew := fun x h => by
    rcases b.onew x h with q | q
    · exact a.onew x q
    · exact .inr (a.back q)
  there := fun x o h => let ⟨o', e⟩ := a.there x o h; b.there x o' e

theorem Rel.nof (R : Rel K F H env σ) {a : Addr} (o : Own env σ a) : ¬ F a := by
  obtain ⟨i, v, e, s⟩ := o
  obtain ⟨b, s', n, _⟩ := R.own i v e
  rw [s] at s'; cases s'; exact n
theorem Rel.ownAt (R : Rel K F H env σ) {a : Addr} (o : Own env σ a) : ∃ v, OwnAt K F H a v := by
  obtain ⟨i, v, e, s⟩ := o
  obtain ⟨b, s', _, n⟩ := R.own i v e
  rw [s] at s'; cases s'; exact ⟨v, n⟩
theorem Rel.ntup (R : Rel K F H env σ) {a : Addr} {vs : List V} (h : H a = some (.tup vs)) : ¬ Own env σ a := fun o => by
  obtain ⟨v, n⟩ := R.ownAt o
  obtain ⟨u, e, d, _⟩ := n.some
  rw [h] at e; cases e; exact d vs rfl
theorem Rel.nfrz (R : Rel K F H env σ) {a : Addr} {o : Obj} {w : HO} (h : H a = some (.frz o w)) : ¬ Own env σ a := fun z => by
  obtain ⟨v, n⟩ := R.ownAt z
  obtain ⟨u, e, _, d⟩ := n.some
  rw [h] at e; cases e; exact d _ _ rfl
theorem Mv.ex (m : Mv F H env σ F1 H1 env1 σ1) (R : Rel K F H env σ) : Ex F H F1 H1 :=
  ⟨m.sub, fun a o f e => m.frame a o e fun z => R.nof z f, fun a vs e => m.frame a _ e (R.ntup e), fun a o u e => m.frame a _ e (R.nfrz e)⟩

/-- the heap grew, some of the new is frozen -/
structure Nw (F : Addr → Prop) (H : Hp) (F' : Addr → Prop) (H' : Hp) : Prop where
  sub : ∀ a, F a → F' a
  same : Same H H'
  fnew : ∀ a, F' a → F a ∨ H a = none
  fz : ∀ a, F' a → ∃ o, H' a = some o
theorem Nw.refl (fz : ∀ a, F a → ∃ o, H a = some o) : Nw F H F H := ⟨fun _ h => h, Same.refl H, fun _ h => .inl h, fz⟩
theorem Nw.ex (n : Nw F H F' H') : Ex F H F' H' := ⟨n.sub, fun a o _ e => n.same a o e, fun a vs e => n.same a _ e, fun a o u e => n.same a _ e⟩
theorem Nw.trans (a : Nw F H F1 H1) (b : Nw F1 H1 F2 H2) : Nw F H F2 H2 :=
  ⟨fun x h => b.sub x (a.sub x h), Same.trans a.same b.same, fun x h => by
    rcases b.fnew x h with q | q
    · exact a.fnew x q
    · exact .inr (Same.free a.same q), b.fz⟩
theorem Nw.mv (n : Nw F H F' H') : Mv F H env σ F' H' env σ :=
  ⟨n.sub, fun b o e _ => n.same b o e, fun a h => (n.fnew a h).imp_right .inr, fun _ h => .inl h, fun b o e => ⟨o, n.same b o e⟩⟩
theorem Nw.rel (n : Nw F H F' H') (R : Rel K F H env σ) (sz : Sized H') : Rel K F' H' env σ where
  len := R.len
  val := fun i v e => let ⟨x, s, r⟩ := R.val i v e; ⟨x, s, r.ex n.ex⟩
  own := fun i v e => by
    obtain ⟨a, s, nf, o⟩ := R.own i v e
    obtain ⟨u, hu, _⟩ := o.some
    refine ⟨a, s, fun f => ?_, o.ex n.ex ((n.same a u hu).trans hu.symm)⟩
    rcases n.fnew a f with q | q
    · exact nf q
    · rw [hu] at q; cases q
  apart := R.apart
  fz := n.fz
  sz := sz
/-- a new object, not frozen -/
theorem Nw.upd {p : Addr} {o : HO} (h : H p = none) (fz : ∀ a, F a → ∃ o, H a = some o) : Nw F H F (L2.upd H p o) :=
  ⟨fun _ h => h, fun b x e => by rw [upd_ne (ne_of_none e h)]; exact e, fun _ h => .inl h, fun a f => by
    obtain ⟨u, e⟩ := fz a f
    exact ⟨u, by rw [upd_ne (ne_of_none e h)]; exact e⟩⟩
/-- a new object, frozen -/
theorem Nw.fix {p : Addr} {o : HO} (h : H p = none) (fz : ∀ a, F a → ∃ o, H a = some o) : Nw F H (fun a => F a ∨ a = p) (L2.upd H p o) :=
  ⟨fun _ h => .inl h, fun b x e => by rw [upd_ne (ne_of_none e h)]; exact e, fun a f => by
    rcases f with f | rfl
    · exact .inl f
    · exact .inr h, fun a f => by
    by_cases q : a = p
    · subst q; exact ⟨o, upd_same⟩
    · rcases f with f | f
      · obtain ⟨u, e⟩ := fz a f
        exact ⟨u, by rw [upd_ne q]; exact e⟩
      · exact absurd f q⟩
end PP

/-! PP, part b: denotations of expressions; constants, names, displays, operators. -/
namespace PP
open PySem PySem.Spec PyProof.Rows L2

abbrev Den := PEn → Option (PV × PEn)
abbrev DenT := PEn → Option (Bool × PEn)
abbrev DenA := PEn → Option (List PV × PEn)

def tE (K : PySem.W.Frag) (d : Den) : TE := fun σ H Q => ∃ F env r env', Rel K F H env σ ∧ d env = some (r, env') ∧ ∀ (x : V) (F' : Addr → Prop) (H' : Hp), Rel K F' H' env' σ → Mv F H env σ F' H' env' σ → Rep K F' H' x r → Q x H'
def tT (K : PySem.W.Frag) (d : DenT) : TT := fun σ H Q => ∃ F env r env', Rel K F H env σ ∧ d env = some (r, env') ∧ ∀ (F' : Addr → Prop) (H' : Hp), Rel K F' H' env' σ → Mv F H env σ F' H' env' σ → Q r H'
def tAB (K : PySem.W.Frag) (d : DenA) : TA := fun σ H Q => ∃ F env r env', Rel K F H env σ ∧ d env = some (r, env') ∧ ∀ (xs : List V) (F' : Addr → Prop) (H' : Hp), Rel K F' H' env' σ → Mv F H env σ F' H' env' σ → BRepL K F' H' xs r → Q xs H'
def tA (K : PySem.W.Frag) (d : DenA) : TA := fun σ H Q => ∃ F env r env', Rel K F H env σ ∧ d env = some (r, env') ∧ ∀ (xs : List V) (F' : Addr → Prop) (H' : Hp), Rel K F' H' env' σ → Mv F H env σ F' H' env' σ → RepL K F' H' xs r → Q xs H'

abbrev VE (X : Cx) (e : Expr) (d : Den) : Prop := PE X e (tE X.K d)
abbrev VT (X : Cx) (e : Expr) (d : DenT) : Prop := PT X e (tT X.K d)
abbrev VW (X : Cx) (e : Expr) (d : DenT) : Prop := PW X e (tT X.K d)
abbrev VAB (X : Cx) (e : List Expr) (d : DenA) : Prop := PA X e (tAB X.K d)
abbrev VA (X : Cx) (e : List Expr) (d : DenA) : Prop := PA X e (tA X.K d)

section
variable {X : Cx} {e : Expr} {es : List Expr}
theorem pe_imp {t t' : TE} (h : PE X e t) (i : ∀ σ H Q, Sized H → t' σ H Q → t σ H (fun v H' => Sized H' → Q v H')) : PE X e t' := ⟨fun pins s σ H Q I hw =>
  thn (h.run pins s σ H _ I (i σ H Q (sized_of I.hok) hw)) fun u s' ⟨v, H', I', r, q⟩ => ⟨v, H', I', r, q (sized_of I'.hok)⟩⟩
theorem pt_imp {t t' : TT} (h : PT X e t) (i : ∀ σ H Q, Sized H → t' σ H Q → t σ H (fun v H' => Sized H' → Q v H')) : PT X e t' := ⟨fun pins s σ H Q I hw =>
  thn (h.run pins s σ H _ I (i σ H Q (sized_of I.hok) hw)) fun u s' ⟨H', I', q⟩ => ⟨H', I', q (sized_of I'.hok)⟩⟩
theorem pw_imp {t t' : TT} (h : PW X e t) (i : ∀ σ H Q, Sized H → t' σ H Q → t σ H (fun v H' => Sized H' → Q v H')) : PW X e t' := ⟨fun wh pins s σ H Q I hw =>
  thn (h.run wh pins s σ H _ I (i σ H Q (sized_of I.hok) hw)) fun u s' ⟨H', I', q⟩ => ⟨H', I', q (sized_of I'.hok)⟩⟩
theorem pa_imp {t t' : TA} (h : PA X es t) (i : ∀ σ H Q, Sized H → t' σ H Q → t σ H (fun v H' => Sized H' → Q v H')) : PA X es t' := ⟨fun pos pins s σ H Q I hw =>
  thn (h.run pos pins s σ H _ I (i σ H Q (sized_of I.hok) hw)) fun u s' ⟨vs, H', I', r, q⟩ => ⟨vs, H', I', r, q (sized_of I'.hok)⟩⟩
end

/-! ### denotations -/
def dC (v : PV) : Den := fun e => some (v, e)
def dVar (i : Nat) : Den := fun e => match e[i]? with
  | some (.val v) => some (v, e)
  | some (.own v) => some (v, e.set i (.val v))
  | _ => none
def dUn (f : PV → Option PV) (a : Den) : Den := fun e => (a e).bind fun p => (f p.1).map fun z => (z, p.2)
def dBin (f : PV → PV → Option PV) (a b : Den) : Den := fun e => (a e).bind fun p => (b p.2).bind fun q => (f p.1 q.1).map fun z => (z, q.2)
def dArgs : List Den → DenA
  | [] => fun e => some ([], e)
  | a :: r => fun e => (a e).bind fun p => (dArgs r p.2).map fun q => (p.1 :: q.1, q.2)
/-- a slot that is only read -/
def slotv (e : PEn) (i : Nat) : Option PV := match e[i]? with
  | some (.val v) => some v
  | some (.own v) => some v
  | _ => none
/-- an argument: evaluated, or a slot that is only read -/
inductive Arg where
  | d (a : Den) | b (i : Nat)
def bArgs : List Arg → DenA
  | [] => fun e => some ([], e)
  | .d a :: r => fun e => (a e).bind fun p => (bArgs r p.2).map fun q => (p.1 :: q.1, q.2)
  | .b i :: r => fun e => (slotv e i).bind fun _ => (bArgs r e).bind fun q => (slotv q.2 i).map fun v => (v :: q.1, q.2)
def dApp (f : List PV → Option PV) (as : List Arg) : Den := fun e => (bArgs as e).bind fun p => (f p.1).map fun z => (z, p.2)
/-- the right one is only read -/
def dBinR (f : PV → PV → Option PV) (a : Den) (i : Nat) : Den := fun e => (a e).bind fun p => (slotv p.2 i).bind fun y => (f p.1 y).map fun z => (z, p.2)
/-- the left one is only read -/
def dBinL (f : PV → PV → Option PV) (i : Nat) (b : Den) : Den := fun e => (slotv e i).bind fun _ => (b e).bind fun q => (slotv q.2 i).bind fun x => (f x q.1).map fun z => (z, q.2)
def dIf (t : DenT) (a b : Den) : Den := fun e => (t e).bind fun p => if p.1 then a p.2 else b p.2
def dTest (f : PV → Option Bool) (a : Den) : DenT := fun e => (a e).bind fun p => (f p.1).map fun z => (z, p.2)
def dTest2 (f : PV → PV → Option Bool) (a b : Den) : DenT := fun e => (a e).bind fun p => (b p.2).bind fun q => (f p.1 q.1).map fun z => (z, q.2)
def dNot (t : DenT) : DenT := fun e => (t e).map fun p => (!p.1, p.2)
def dAnd (t u : DenT) : DenT := fun e => (t e).bind fun p => if p.1 then u p.2 else some (false, p.2)
def dOr (t u : DenT) : DenT := fun e => (t e).bind fun p => if p.1 then some (true, p.2) else u p.2
/-- a test as a value -/
def dBl (t : DenT) : Den := fun e => (t e).map fun p => (.bl p.1, p.2)

/-! ### values by rules -/
/-- a built-in's word over values: what it makes is new -/
def rB (K : PySem.W.Frag) (f : PV → PV → Option PV) : R2 := fun x y H Q => ∃ (F : Addr → Prop) (p q r : PV), (∀ a, F a → ∃ o, H a = some o) ∧ Sized H ∧ BRep K F H x p ∧ BRep K F H y q ∧ f p q = some r ∧ ∀ (z : V) (F' : Addr → Prop) (H' : Hp), Nw F H F' H' → Rep K F' H' z r → Q z H'
def rU1 (K : PySem.W.Frag) (f : PV → Option PV) : V → Hp → VK → Prop := fun x H Q => ∃ (F : Addr → Prop) (p r : PV), (∀ a, F a → ∃ o, H a = some o) ∧ Sized H ∧ BRep K F H x p ∧ f p = some r ∧ ∀ (z : V) (F' : Addr → Prop) (H' : Hp), Nw F H F' H' → Rep K F' H' z r → Q z H'
def rL (K : PySem.W.Frag) (f : List PV → Option PV) : List V → Hp → VK → Prop := fun xs H Q => ∃ (F : Addr → Prop) (ps : List PV) (r : PV), (∀ a, F a → ∃ o, H a = some o) ∧ Sized H ∧ BRepL K F H xs ps ∧ f ps = some r ∧ ∀ (z : V) (F' : Addr → Prop) (H' : Hp), Nw F H F' H' → Rep K F' H' z r → Q z H'

section
variable {X : Cx} {a b e : Expr} {es : List Expr} {da db : Den} {ds : List Den} {pos : Pos}

theorem ve_c {v : V} {p : PV} (h : PE X e (tC v)) (r : ∀ F H, Rep X.K F H v p) : VE X e (dC p) :=
  pe_imp h fun σ H Q sz ⟨F, env, r', env', R, hd, q⟩ => by
    cases hd
    exact fun _ => q v F H R .refl (r F H)

theorem set_len {α : Type} {l : List α} {i : Nat} {x y : α} (h : l[i]? = some x) : (l.set i y)[i]? = some y := by
  have : i < l.length := (List.getElem?_eq_some_iff.mp h).1
  simp [this]

/-- an own slot is frozen -/
theorem freeze {K : PySem.W.Frag} {F : Addr → Prop} {H : Hp} {env : PEn} {σ : L2.St} {i : Nat} {v : PV} {a : Addr} (R : Rel K F H env σ) (e : env[i]? = some (SlP.own v)) (s : σ[i]? = some (some (V.ref a))) :
    Rel K (fun b => F b ∨ b = a) H (env.set i (.val v)) σ ∧ Mv F H env σ (fun b => F b ∨ b = a) H (env.set i (.val v)) σ ∧ Rep K (fun b => F b ∨ b = a) H (.ref a) v := by
  obtain ⟨a', s', nf, o⟩ := R.own i v e
  rw [s] at s'; cases s'
  have ex : Ex F H (fun b => F b ∨ b = a) H := ⟨fun _ h => .inl h, fun _ _ _ h => h, fun _ _ h => h, fun _ _ _ h => h⟩
  have rp : Rep K (fun b => F b ∨ b = a) H (.ref a) v := o.rep ex (.inr rfl)
  refine ⟨⟨by simpa using R.len, fun j w ej => ?_, fun j w ej => ?_, fun j k w w' b ej ek sj sk => ?_, fun b f => ?_, R.sz⟩, ⟨fun _ h => .inl h, fun _ _ h _ => h, fun b f => ?_, fun b o' => ?_, fun _ o h => ⟨o, h⟩⟩, rp⟩
  · by_cases hj : i = j
    · subst hj
      rw [set_len e] at ej
      cases ej
      exact ⟨_, s, rp⟩
    · rw [List.getElem?_set_ne hj] at ej
      obtain ⟨x, sx, r⟩ := R.val j w ej
      exact ⟨x, sx, r.ex ex⟩
  · by_cases hj : i = j
    · subst hj
      rw [set_len e] at ej
      cases ej
    · rw [List.getElem?_set_ne hj] at ej
      obtain ⟨b, sb, nb, ob⟩ := R.own j w ej
      refine ⟨b, sb, fun f => ?_, ob.ex ex rfl⟩
      rcases f with f | rfl
      · exact nb f
      · exact hj (R.apart i j _ _ _ e ej s sb)
  · by_cases hj : i = j
    · subst hj; rw [set_len e] at ej; cases ej
    · by_cases hk : i = k
      · subst hk; rw [set_len e] at ek; cases ek
      · rw [List.getElem?_set_ne hj] at ej
        rw [List.getElem?_set_ne hk] at ek
        exact R.apart j k w w' b ej ek sj sk
  · rcases f with f | rfl
    · exact R.fz b f
    · obtain ⟨u, hu, _⟩ := o.some; exact ⟨u, hu⟩
  · rcases f with f | rfl
    · exact .inl f
    · exact .inr (.inl ⟨i, v, e, s⟩)
  · obtain ⟨j, w, ej, sj⟩ := o'
    by_cases hj : i = j
    · subst hj; rw [set_len e] at ej; cases ej
    · rw [List.getElem?_set_ne hj] at ej
      exact .inl ⟨j, w, ej, sj⟩

theorem ve_var {i : Nat} (h : PE X e (tVar i)) : VE X e (dVar i) :=
  pe_imp h fun σ H Q sz ⟨F, env, r, env', R, hd, q⟩ => by
    unfold dVar at hd
    split at hd
    · rename_i v ev
      cases hd
      obtain ⟨x, sx, rx⟩ := R.val i _ ev
      exact ⟨x, sx, fun _ => q x F H R .refl rx⟩
    · rename_i v ev
      cases hd
      obtain ⟨a, sa, _, _⟩ := R.own i _ ev
      obtain ⟨R', M', rp⟩ := freeze R ev sa
      exact ⟨.ref a, sa, fun _ => q _ _ H R' M' rp⟩
    · cases hd

theorem ve_bin {op : Operator} {f : PV → PV → Option PV} (ho : OpR X (binaryOp op) (rB X.K f)) (ha : VE X a da) (hb : VE X b db) : VE X (.BinOp a op b pos) (dBin f da db) :=
  pe_imp (pe_op ho ha hb) fun σ H Q sz ⟨F, env, r, env', R, hd, q⟩ => by
    unfold dBin at hd
    obtain ⟨⟨p, e1⟩, h1, hd⟩ := Option.bind_eq_some_iff.mp hd
    obtain ⟨⟨q', e2⟩, h2, hd⟩ := Option.bind_eq_some_iff.mp hd
    obtain ⟨z, h3, hz⟩ := Option.map_eq_some_iff.mp hd
    cases hz
    refine ⟨F, env, p, e1, R, h1, fun x F1 H1 R1 M1 r1 => ⟨F1, e1, q', e2, R1, h2, fun y F2 H2 R2 M2 r2 => ⟨F2, p, q', r, R2.fz, R2.sz, .rep (r1.ex (M2.ex R1)), .rep r2, h3, fun z F3 H3 N r3 s3 => ?_⟩⟩⟩
    exact q z F3 H3 (N.rel R2 s3) ((M1.trans M2).trans N.mv) r3

theorem ve_cmp {op : CmpOp} {f : PV → PV → Option PV} (ho : OpR X (compareOp op) (rB X.K f)) (hm : behindInMarks op b = false) (ha : VE X a da) (hb : VE X b db) : VE X (.Compare a [op] [b] pos) (dBin f da db) :=
  pe_imp (pe_cmpR ho ha hb hm) fun σ H Q sz ⟨F, env, r, env', R, hd, q⟩ => by
    unfold dBin at hd
    obtain ⟨⟨p, e1⟩, h1, hd⟩ := Option.bind_eq_some_iff.mp hd
    obtain ⟨⟨q', e2⟩, h2, hd⟩ := Option.bind_eq_some_iff.mp hd
    obtain ⟨z, h3, hz⟩ := Option.map_eq_some_iff.mp hd
    cases hz
    refine ⟨F, env, p, e1, R, h1, fun x F1 H1 R1 M1 r1 => ⟨F1, e1, q', e2, R1, h2, fun y F2 H2 R2 M2 r2 => ⟨F2, p, q', r, R2.fz, R2.sz, .rep (r1.ex (M2.ex R1)), .rep r2, h3, fun z F3 H3 N r3 s3 => ?_⟩⟩⟩
    exact q z F3 H3 (N.rel R2 s3) ((M1.trans M2).trans N.mv) r3

theorem ve_un {op : UnaryOp} {f : PV → Option PV} (ho : UnR X (unaryOp op) (rU1 X.K f)) (ha : VE X a da) : VE X (.UnaryOp op a pos) (dUn f da) :=
  pe_imp (pe_un ho ha) fun σ H Q sz ⟨F, env, r, env', R, hd, q⟩ => by
    unfold dUn at hd
    obtain ⟨⟨p, e1⟩, h1, hd⟩ := Option.bind_eq_some_iff.mp hd
    obtain ⟨z, h3, hz⟩ := Option.map_eq_some_iff.mp hd
    cases hz
    refine ⟨F, env, p, e1, R, h1, fun x F1 H1 R1 M1 r1 => ⟨F1, p, r, R1.fz, R1.sz, .rep r1, h3, fun z F3 H3 N r3 s3 => ?_⟩⟩
    exact q z F3 H3 (N.rel R1 s3) (M1.trans N.mv) r3

/-! arguments -/
theorem va_nil : VA X [] (dArgs []) := pa_imp pa_nil fun σ H Q sz ⟨F, env, r, env', R, hd, q⟩ => by
  cases hd
  exact fun _ => q [] F H R .refl .nil
def notStar : Expr → Bool
  | .Starred _ _ => false
  | _ => true
theorem starEach_cons {env : Env} (h : notStar e = true) : starEach (e :: es) env = (false, eval e env) :: starEach es env := by
  cases e <;> first | rfl | (cases h)
theorem star_plain {env : Env} : ∀ {es : List Expr}, es.all notStar = true → ∀ pos, (backTo pos (starEach es env)).any (·.1) = false
  | [], _, _ => by rfl
  | e :: es, h, pos => by
    simp only [List.all_cons, Bool.and_eq_true] at h
    have ih := star_plain (env := env) h.2 pos
    rw [starEach_cons h.1]
    show (backTo pos _).any _ = false
    simp only [backTo, List.map_cons, List.any_cons, Bool.false_or] at ih ⊢
    exact ih
theorem va_cons (hn : notStar e = true) (ha : VE X e da) (hr : VA X es (dArgs ds)) : VA X (e :: es) (dArgs (da :: ds)) :=
  pa_imp (pa_cons ha hr (starEach_cons hn)) fun σ H Q sz ⟨F, env, r, env', R, hd, q⟩ => by
    unfold dArgs at hd
    obtain ⟨⟨p, e1⟩, h1, hd⟩ := Option.bind_eq_some_iff.mp hd
    obtain ⟨⟨ps, e2⟩, h2, hz⟩ := Option.map_eq_some_iff.mp hd
    cases hz
    refine ⟨F, env, p, e1, R, h1, fun x F1 H1 R1 M1 r1 => ⟨F1, e1, ps, e2, R1, h2, fun xs F2 H2 R2 M2 r2 => ?_⟩⟩
    exact fun _ => q (x :: xs) F2 H2 R2 (M1.trans M2) (.cons (r1.ex (M2.ex R1)) r2)

theorem dArgs_len : ∀ {ds : List Den} {env env' : PEn} {r : List PV}, dArgs ds env = some (r, env') → r.length = ds.length
  | [], _, _, _, h => by cases h; rfl
  | d :: ds, _, _, _, h => by
    unfold dArgs at h
    obtain ⟨⟨p, e1⟩, h1, hd⟩ := Option.bind_eq_some_iff.mp h
    obtain ⟨⟨ps, e2⟩, h2, hz⟩ := Option.map_eq_some_iff.mp hd
    cases hz
    simp [dArgs_len h2]

def dTup (ds : List Den) : Den := fun e => (dArgs ds e).map fun p => (.tup p.1, p.2)
def dLst (ds : List Den) : Den := fun e => (dArgs ds e).map fun p => (.lst p.1, p.2)
theorem ve_tup {k : Nat} (hl : ds.length ≤ 1000) (h : VA X es (dArgs ds)) : VE X (.Tuple es k pos) (dTup ds) :=
  pe_imp (pe_tup h) fun σ H Q sz ⟨F, env, r, env', R, hd, q⟩ => by
    unfold dTup at hd
    obtain ⟨⟨ps, e1⟩, h1, hz⟩ := Option.map_eq_some_iff.mp hd
    cases hz
    refine ⟨F, env, ps, _, R, h1, fun xs F1 H1 R1 M1 r1 => ⟨?_, fun p np sz' => ?_⟩⟩
    · rw [r1.length, dArgs_len h1]; exact Nat.le_of_lt (small1000 hl)
    · have N : Nw F1 H1 F1 (upd H1 p (.tup xs)) := .upd np R1.fz
      exact q _ F1 _ (N.rel R1 sz') (M1.trans N.mv) (.tup upd_same (r1.ex N.ex))
theorem ve_lst (hl : ds.length ≤ 1000) (h : VA X es (dArgs ds)) : VE X (.List es pos) (dLst ds) :=
  pe_imp (pe_lst h) fun σ H Q sz ⟨F, env, r, env', R, hd, q⟩ => by
    unfold dLst at hd
    obtain ⟨⟨ps, e1⟩, h1, hz⟩ := Option.map_eq_some_iff.mp hd
    cases hz
    refine ⟨F, env, ps, _, R, h1, fun xs F1 H1 R1 M1 r1 => ⟨?_, fun p np sz' => ?_⟩⟩
    · rw [r1.length, dArgs_len h1]; exact Nat.le_of_lt (small1000 hl)
    · have N : Nw F1 H1 (fun b => F1 b ∨ b = p) (upd H1 p (.lst xs)) := .fix np R1.fz
      exact q _ _ _ (N.rel R1 sz') (M1.trans N.mv) (.lst (.inl ⟨.inr rfl, SqL.of upd_same⟩) (r1.ex N.ex))

theorem slotv_rep {K : PySem.W.Frag} {F : Addr → Prop} {H : Hp} {env : PEn} {σ : L2.St} {i : Nat} {v : PV} (R : Rel K F H env σ) (h : slotv env i = some v) : ∃ x, σ[i]? = some (some x) ∧ BRep K F H x v := by
  unfold slotv at h
  split at h
  · rename_i w e
    cases h
    obtain ⟨x, sx, r⟩ := R.val i _ e
    exact ⟨x, sx, .rep r⟩
  · rename_i w e
    cases h
    obtain ⟨a, sa, _, o⟩ := R.own i _ e
    exact ⟨_, sa, .own o⟩
  · cases h
theorem vab_nil : VAB X [] (bArgs []) := pa_imp pa_nil fun σ H Q sz ⟨F, env, r, env', R, hd, q⟩ => by
  cases hd
  exact fun _ => q [] F H R .refl .nil
theorem vab_d {as : List Arg} (hn : notStar e = true) (ha : VE X e da) (hr : VAB X es (bArgs as)) : VAB X (e :: es) (bArgs (.d da :: as)) :=
  pa_imp (pa_cons ha hr (starEach_cons hn)) fun σ H Q sz ⟨F, env, r, env', R, hd, q⟩ => by
    unfold bArgs at hd
    obtain ⟨⟨p, e1⟩, h1, hd⟩ := Option.bind_eq_some_iff.mp hd
    obtain ⟨⟨ps, e2⟩, h2, hz⟩ := Option.map_eq_some_iff.mp hd
    cases hz
    refine ⟨F, env, p, e1, R, h1, fun x F1 H1 R1 M1 r1 => ⟨F1, e1, ps, e2, R1, h2, fun xs F2 H2 R2 M2 r2 => ?_⟩⟩
    exact fun _ => q (x :: xs) F2 H2 R2 (M1.trans M2) (.cons (.rep (r1.ex (M2.ex R1))) r2)
theorem vab_b {as : List Arg} {i : Nat} (hn : notStar e = true) (ha : PE X e (tVar i)) (hr : VAB X es (bArgs as)) : VAB X (e :: es) (bArgs (.b i :: as)) :=
  pa_imp (pa_cons ha hr (starEach_cons hn)) fun σ H Q sz ⟨F, env, r, env', R, hd, q⟩ => by
    unfold bArgs at hd
    obtain ⟨_, h0, hd⟩ := Option.bind_eq_some_iff.mp hd
    obtain ⟨⟨ps, e1⟩, h1, hd⟩ := Option.bind_eq_some_iff.mp hd
    obtain ⟨v, h2, hz⟩ := Option.map_eq_some_iff.mp hd
    cases hz
    obtain ⟨x, sx, _⟩ := slotv_rep R h0
    refine ⟨x, sx, F, env, ps, e1, R, h1, fun xs F2 H2 R2 M2 r2 _ => ?_⟩
    obtain ⟨x', sx', r'⟩ := slotv_rep R2 h2
    rw [sx] at sx'; cases sx'
    exact q (x :: xs) F2 H2 R2 M2 (.cons r' r2)

/-- a built-in by its name -/
theorem ve_app {x : Str} {T : String} {f : List PV → Option PV} {as : List Arg} {p : Pos} (hc : CallR X (.builtin T) (rL X.K f)) (hg : Gl X x) (hm : X.mg x = none) (hv : bootBuiltins x = some (.builtin T)) (hn : x ≠ "__name__") (hdb : (x == ("__debug__" : Str)) = false)
    (hs : (e :: es).all notStar = true) (h : VAB X (e :: es) (bArgs as)) : VE X (.Call (.Name x p) (e :: es) [] pos) (dApp f as) :=
  pe_imp (pe_callB hc hg hm hv h hn hdb (starEach_cons (List.all_eq_true.mp hs _ List.mem_cons_self)) (star_plain (by simp only [List.all_cons, Bool.and_eq_true] at hs; exact hs.2) pos)) fun σ H Q sz ⟨F, env, r, env', R, hd, q⟩ => by
    unfold dApp at hd
    obtain ⟨⟨ps, e1⟩, h1, hd⟩ := Option.bind_eq_some_iff.mp hd
    obtain ⟨z, h3, hz⟩ := Option.map_eq_some_iff.mp hd
    cases hz
    refine ⟨F, env, ps, _, R, h1, fun xs F1 H1 R1 M1 r1 => ⟨F1, ps, r, R1.fz, R1.sz, r1, h3, fun z F3 H3 N r3 s3 => ?_⟩⟩
    exact q z F3 H3 (N.rel R1 s3) (M1.trans N.mv) r3
theorem ve_appTy {x : Str} {T : String} {f : List PV → Option PV} {as : List Arg} {p : Pos} (hc : CallR X (.type T) (rL X.K f)) (hg : Gl X x) (hm : X.mg x = none) (hv : bootBuiltins x = some (.type T)) (hn : x ≠ "__name__") (hdb : (x == ("__debug__" : Str)) = false)
    (hs : (e :: es).all notStar = true) (h : VAB X (e :: es) (bArgs as)) : VE X (.Call (.Name x p) (e :: es) [] pos) (dApp f as) :=
  pe_imp (pe_callTy hc hg hm hv h hn hdb (starEach_cons (List.all_eq_true.mp hs _ List.mem_cons_self)) (star_plain (by simp only [List.all_cons, Bool.and_eq_true] at hs; exact hs.2) pos)) fun σ H Q sz ⟨F, env, r, env', R, hd, q⟩ => by
    unfold dApp at hd
    obtain ⟨⟨ps, e1⟩, h1, hd⟩ := Option.bind_eq_some_iff.mp hd
    obtain ⟨z, h3, hz⟩ := Option.map_eq_some_iff.mp hd
    cases hz
    refine ⟨F, env, ps, _, R, h1, fun xs F1 H1 R1 M1 r1 => ⟨F1, ps, r, R1.fz, R1.sz, r1, h3, fun z F3 H3 N r3 s3 => ?_⟩⟩
    exact q z F3 H3 (N.rel R1 s3) (M1.trans N.mv) r3
theorem ve_cmpR {op : CmpOp} {f : PV → PV → Option PV} {i : Nat} (ho : OpR X (compareOp op) (rB X.K f)) (hm : behindInMarks op b = false) (ha : VE X a da) (hb : PE X b (tVar i)) : VE X (.Compare a [op] [b] pos) (dBinR f da i) :=
  pe_imp (pe_cmpR ho ha hb hm) fun σ H Q sz ⟨F, env, r, env', R, hd, q⟩ => by
    unfold dBinR at hd
    obtain ⟨⟨p, e1⟩, h1, hd⟩ := Option.bind_eq_some_iff.mp hd
    obtain ⟨y, h2, hd⟩ := Option.bind_eq_some_iff.mp hd
    obtain ⟨z, h3, hz⟩ := Option.map_eq_some_iff.mp hd
    cases hz
    refine ⟨F, env, p, _, R, h1, fun x F1 H1 R1 M1 r1 => ?_⟩
    obtain ⟨x', sx', r'⟩ := slotv_rep R1 h2
    exact ⟨x', sx', F1, p, y, r, R1.fz, R1.sz, .rep r1, r', h3, fun z F3 H3 N r3 s3 => q z F3 H3 (N.rel R1 s3) (M1.trans N.mv) r3⟩

/-! ### tests -/
variable {t u : DenT} {c : Expr} {rest : List Expr}
theorem vt_bl (he : ∀ whole, isTrue e X.env whole = (do let v ← whole; standAt e.pos; holding [v] (truthy v))) (h : VE X e da) : VT X e (dTest (fun v => match v with | .bl b => some b | _ => none) da) :=
  pt_imp (pt_val h he) fun σ H Q sz ⟨F, env, r, env', R, hd, q⟩ => by
    unfold dTest at hd
    obtain ⟨⟨p, e1⟩, h1, hd⟩ := Option.bind_eq_some_iff.mp hd
    obtain ⟨z, h3, hz⟩ := Option.map_eq_some_iff.mp hd
    cases hz
    refine ⟨F, env, p, _, R, h1, fun x F1 H1 R1 M1 r1 => ?_⟩
    dsimp only at h3
    split at h3
    · cases h3
      cases r1
      exact ⟨_, rfl, fun _ => q F1 H1 R1 M1⟩
    · cases h3
theorem vt_not (h : VT X e t) : VT X (.UnaryOp .Not e pos) (dNot t) :=
  pt_imp (pt_not h) fun σ H Q sz ⟨F, env, r, env', R, hd, q⟩ => by
    unfold dNot at hd
    obtain ⟨⟨p, e1⟩, h1, hz⟩ := Option.map_eq_some_iff.mp hd
    cases hz
    exact ⟨F, env, p, _, R, h1, fun F1 H1 R1 M1 _ => q F1 H1 R1 M1⟩
theorem vw_and1 (h : VT X e t) : VW X (.BoolOp .And [e] pos) t := pw_and1 h
theorem vw_or1 (h : VT X e t) : VW X (.BoolOp .Or [e] pos) t := pw_or1 h
theorem vw_and (h : VT X e t) (h2 : VW X (.BoolOp .And (c :: rest) pos) u) : VW X (.BoolOp .And (e :: c :: rest) pos) (dAnd t u) :=
  pw_imp (pw_and h h2) fun σ H Q sz ⟨F, env, r, env', R, hd, q⟩ => by
    unfold dAnd at hd
    obtain ⟨⟨p, e1⟩, h1, hd⟩ := Option.bind_eq_some_iff.mp hd
    refine ⟨F, env, p, e1, R, h1, fun F1 H1 R1 M1 => ?_⟩
    cases p with
    | true =>
      rw [if_pos rfl]
      exact ⟨F1, e1, r, env', R1, by simpa using hd, fun F2 H2 R2 M2 _ => q F2 H2 R2 (M1.trans M2)⟩
    | false =>
      rw [if_neg Bool.false_ne_true]
      simp at hd
      obtain ⟨rfl, rfl⟩ := hd
      exact fun _ => q F1 H1 R1 M1
theorem vw_or (h : VT X e t) (h2 : VW X (.BoolOp .Or (c :: rest) pos) u) : VW X (.BoolOp .Or (e :: c :: rest) pos) (dOr t u) :=
  pw_imp (pw_or h h2) fun σ H Q sz ⟨F, env, r, env', R, hd, q⟩ => by
    unfold dOr at hd
    obtain ⟨⟨p, e1⟩, h1, hd⟩ := Option.bind_eq_some_iff.mp hd
    refine ⟨F, env, p, e1, R, h1, fun F1 H1 R1 M1 => ?_⟩
    cases p with
    | false =>
      rw [if_neg Bool.false_ne_true]
      exact ⟨F1, e1, r, env', R1, by simpa using hd, fun F2 H2 R2 M2 _ => q F2 H2 R2 (M1.trans M2)⟩
    | true =>
      rw [if_pos rfl]
      simp at hd
      obtain ⟨rfl, rfl⟩ := hd
      exact fun _ => q F1 H1 R1 M1
theorem ve_if (ht : VT X c t) (ha : VE X a da) (hb : VE X b db) : VE X (.IfExp c a b pos) (dIf t da db) :=
  pe_imp (pe_ifExp ht ha hb) fun σ H Q sz ⟨F, env, r, env', R, hd, q⟩ => by
    unfold dIf at hd
    obtain ⟨⟨p, e1⟩, h1, hd⟩ := Option.bind_eq_some_iff.mp hd
    refine ⟨F, env, p, e1, R, h1, fun F1 H1 R1 M1 => ?_⟩
    cases p with
    | false =>
      rw [if_neg Bool.false_ne_true]
      exact ⟨F1, e1, r, env', R1, by simpa using hd, fun x F2 H2 R2 M2 r2 _ => q x F2 H2 R2 (M1.trans M2) r2⟩
    | true =>
      rw [if_pos rfl]
      exact ⟨F1, e1, r, env', R1, by simpa using hd, fun x F2 H2 R2 M2 r2 _ => q x F2 H2 R2 (M1.trans M2) r2⟩
end
end PP

/-! PP, part c: operators and built-ins by values. -/
namespace PP
open PySem PySem.Spec PyProof.Rows L2

/-! ### data of a small depth -/
def okD : Nat → PV → Bool
  | _, .non => true
  | _, .bl _ => true
  | _, .int _ => true
  | _, .str x => PyData.strOk x
  | n + 1, .lst xs => xs.all (okD n)
  | n + 1, .tup xs => xs.all (okD n)
  | n + 1, .fup xs => xs.all (okD n)
  | _, _ => false
theorem okD_all {n : Nat} (ih : ∀ x, okD n x = true → (toD x).canLay0 = true ∧ (toD x).depth ≤ n ∧ nodic x = true) : ∀ {xs : List PV}, xs.all (okD n) = true → PyData.canLayAll0 (toDs xs) = true ∧ PyData.depthAll (toDs xs) ≤ n ∧ nodicL xs = true
  | [], _ => ⟨rfl, Nat.zero_le _, rfl⟩
  | x :: xs, h => by
    simp only [List.all_cons, Bool.and_eq_true] at h
    obtain ⟨a, b, c⟩ := ih x h.1
    obtain ⟨a', b', c'⟩ := okD_all ih h.2
    exact ⟨by simp [toDs, PyData.canLayAll0, a, a'], by simp only [toDs, PyData.depthAll]; exact Nat.max_le.mpr ⟨b, b'⟩, by simp [nodicL, c, c']⟩
theorem okD_sound : ∀ (n : Nat) (x : PV), okD n x = true → (toD x).canLay0 = true ∧ (toD x).depth ≤ n ∧ nodic x = true
  | n, .non, _ => ⟨by simp [toD, PyData.canLay0], by simp [toD, PyData.depth], by simp [nodic]⟩
  | n, .bl _, _ => ⟨by simp [toD, PyData.canLay0], by simp [toD, PyData.depth], by simp [nodic]⟩
  | n, .int _, _ => ⟨by simp [toD, PyData.canLay0], by simp [toD, PyData.depth], by simp [nodic]⟩
  | n, .str x, h => ⟨by simpa [toD, PyData.canLay0, okD] using h, by simp [toD, PyData.depth], by simp [nodic]⟩
  | 0, .lst _, h => by simp [okD] at h
  | 0, .tup _, h => by simp [okD] at h
  | 0, .fup _, h => by simp [okD] at h
  | n + 1, .lst xs, h => by
    obtain ⟨a, b, c⟩ := okD_all (okD_sound n) (show xs.all (okD n) = true by simpa [okD] using h)
    exact ⟨by simpa [toD, PyData.canLay0] using a, by simp only [toD, PyData.depth]; omega, by simpa [nodic] using c⟩
  | n + 1, .tup xs, h => by
    obtain ⟨a, b, c⟩ := okD_all (okD_sound n) (show xs.all (okD n) = true by simpa [okD] using h)
    exact ⟨by simpa [toD, PyData.canLay0] using a, by simp only [toD, PyData.depth]; omega, by simpa [nodic] using c⟩
  | n + 1, .fup xs, h => by
    obtain ⟨a, b, c⟩ := okD_all (okD_sound n) (show xs.all (okD n) = true by simpa [okD] using h)
    exact ⟨by simpa [toD, PyData.canLay0] using a, by simp only [toD, PyData.depth]; omega, by simpa [nodic] using c⟩
  | n, .dk _, h => by cases n <;> simp [okD] at h
  | n, .dt _, h => by cases n <;> simp [okD] at h
theorem okD_shaped {x : PV} (h : okD 60 x = true) : SeqAt.shaped (toD x) = true ∧ nodic x = true := by
  obtain ⟨a, b, c⟩ := okD_sound 60 x h
  exact ⟨by simp only [SeqAt.shaped, a, Bool.true_and, decide_eq_true_eq]; omega, c⟩
/-- == of values -/
def eqv (p q : PV) : Bool := PyData.eqv (toD p) (toD q)

/-! ### the operators over values -/
/-- the items of a tuple of either sort -/
def tupOf : PV → Option (List PV)
  | .tup xs => some xs
  | .fup xs => some xs
  | _ => none
def addF (p q : PV) : Option PV := match p, q with
  | .int i, .int j => some (.int (i + j))
  | .lst xs, .lst ys => if xs.length + ys.length ≤ sizeLine then some (.lst (xs ++ ys)) else none
  | .tup xs, .tup ys => if xs.length + ys.length ≤ sizeLine then some (.tup (xs ++ ys)) else none
  | _, _ => none
def intF (C : Int → Int → Bool) (g : Int → Int → Int) : PV → PV → Option PV
  | .int i, .int j => if C i j then some (.int (g i j)) else none
  | _, _ => none
abbrev subF := intF (fun _ _ => true) (fun i j => i - j)
abbrev mulF := intF (fun i j => decide (-(2 ^ 64) < i ∧ i < 2 ^ 64) || decide (-(2 ^ 64) < j ∧ j < 2 ^ 64)) (fun i j => i * j)
abbrev modF := intF (fun _ j => decide (0 < j)) (fun i j => i % j)
abbrev divF := intF (fun _ j => decide (0 < j ∧ j < 1073741824)) (fun i j => i / j)
abbrev powF := intF (fun i j => decide (0 ≤ j ∧ j ≤ 1000000 ∧ i.natAbs < 2 ^ 64)) (fun i j => i ^ j.toNat)
def cmpF (g : Int → Int → Bool) : PV → PV → Option PV
  | .int i, .int j => some (.bl (g i j))
  | _, _ => none
abbrev leF := cmpF fun i j => decide (i ≤ j)
abbrev gtF := cmpF fun i j => decide (j < i)
abbrev geF := cmpF fun i j => decide (j ≤ i)
def toInts : List PV → Option (List Int)
  | [] => some []
  | .int i :: r => (toInts r).map (i :: ·)
  | _ :: _ => none
def ltF (p q : PV) : Option PV := match p, q with
  | .int i, .int j => some (.bl (decide (i < j)))
  | p, q => (tupOf p).bind fun xs => (tupOf q).bind fun ys => (toInts xs).bind fun is => (toInts ys).map fun js => .bl (HT.lexLt is js)
def eqF (p q : PV) : Option PV := if okD 60 p && okD 60 q then some (.bl (eqv p q)) else none
def neF (p q : PV) : Option PV := if okD 60 p && okD 60 q then some (.bl (!eqv p q)) else none
def isNone : PV → Bool
  | .non => true
  | _ => false
def isNF (p q : PV) : Option PV := if isNone q then some (.bl (isNone p)) else none
def notNF (p q : PV) : Option PV := if isNone q then some (.bl (!isNone p)) else none

/-! ### dicts over values -/
def toKey : PV → Option Key
  | .int i => some (.inl i)
  | .str s => some (.inr s)
  | _ => none
def toKeys : List PV → Option (List Key)
  | [] => some []
  | x :: r => (toKey x).bind fun k => (toKeys r).map (k :: ·)
def lookP {κ : Type} [DecidableEq κ] (kvs : List (κ × PV)) (k : κ) : Option PV := (kvs.find? fun kv => decide (kv.1 = k)).map (·.2)
/-- what the dict holds at the key; none: not a key that it can have -/
def dgetF (d k : PV) : Option (Option PV) := match d with
  | .dk kvs => (toKey k).map fun k => lookP kvs k
  | .dt kvs => match k with
    | .tup ks => (toKeys ks).map fun k => lookP kvs k
    | _ => none
  | _ => none
def seqOf : PV → Option (List PV)
  | .lst xs => some xs
  | .tup xs => some xs
  | .fup xs => some xs
  | _ => none
def inF (p q : PV) : Option PV := match seqOf q with
  | some ys => if okD 60 p && okD 60 q then some (.bl (ys.any fun z => eqv z p)) else none
  | none => (dgetF q p).map fun o => .bl o.isSome
def notInF (p q : PV) : Option PV := match seqOf q with
  | some ys => if okD 60 p && okD 60 q then some (.bl (!ys.any fun z => eqv z p)) else none
  | none => (dgetF q p).map fun o => .bl (!o.isSome)

theorem RepL.ints {K : PySem.W.Frag} {F : Addr → Prop} {H : Hp} : ∀ {xs : List PV} {is : List Int} {vs : List V}, RepL K F H vs xs → toInts xs = some is → vs = is.map V.int
  | [], _, _, .nil, h => by cases h; rfl
  | x :: xs, is, _, .cons r t, h => by
    cases x <;> simp only [toInts] at h <;> try cases h
    obtain ⟨js, hj, e⟩ := Option.map_eq_some_iff.mp h
    subst e
    rw [RepL.ints t hj]
    cases r
    rfl
theorem RepL.keys {K : PySem.W.Frag} {F : Addr → Prop} {H : Hp} : ∀ {xs : List PV} {ks : List Key} {vs : List V}, RepL K F H vs xs → toKeys xs = some ks → vs = ks.map kV
  | [], _, _, .nil, h => by cases h; rfl
  | x :: xs, ks, _, .cons r t, h => by
    simp only [toKeys] at h
    obtain ⟨k, hk, h⟩ := Option.bind_eq_some_iff.mp h
    obtain ⟨js, hj, e⟩ := Option.map_eq_some_iff.mp h
    subst e
    rw [RepL.keys t hj]
    cases r <;> simp only [toKey] at hk <;> cases hk <;> rfl

section
variable {K : PySem.W.Frag} {F : Addr → Prop} {H : Hp}
theorem RepK.get (k : Key) : ∀ {kvs : List (Key × V)} {xs : List (Key × PV)}, RepK K F H kvs xs → (∀ y, lookP xs k = some y → ∃ v, valV kvs k = some v ∧ Rep K F H v y) ∧ (lookP xs k = none → valV kvs k = none)
  | _, _, .nil => ⟨fun y h => by simp [lookP] at h, fun _ => rfl⟩
  | _, _, .cons (k := k') (v := v) (x := x) (xs := xs') r t => by
    have ih := RepK.get k t
    by_cases e : k' = k
    · subst e
      refine ⟨fun y h => ?_, fun h => ?_⟩
      · simp [lookP, List.find?_cons] at h
        subst h
        exact ⟨v, valV_pos rfl, r⟩
      · simp [lookP, List.find?_cons] at h
    · have e' : lookP ((k', x) :: xs') k = lookP xs' k := by simp [lookP, List.find?_cons, e]
      rw [e', valV_neg (p := (k', v)) e]
      exact ih
theorem RepT.get (k : List Key) : ∀ {kvs : List (List Key × V)} {xs : List (List Key × PV)}, RepT K F H kvs xs → (∀ y, lookP xs k = some y → ∃ v, valV kvs k = some v ∧ Rep K F H v y) ∧ (lookP xs k = none → valV kvs k = none)
  | _, _, .nil => ⟨fun y h => by simp [lookP] at h, fun _ => rfl⟩
  | _, _, .cons (k := k') (v := v) (x := x) (xs := xs') r t => by
    have ih := RepT.get k t
    by_cases e : k' = k
    · subst e
      refine ⟨fun y h => ?_, fun h => ?_⟩
      · simp [lookP, List.find?_cons] at h
        subst h
        exact ⟨v, valV_pos rfl, r⟩
      · simp [lookP, List.find?_cons] at h
    · have e' : lookP ((k', x) :: xs') k = lookP xs' k := by simp [lookP, List.find?_cons, e]
      rw [e', valV_neg (p := (k', v)) e]
      exact ih

/-- a dict that is read: a value or one's own -/
inductive DicAt (K : PySem.W.Frag) (F : Addr → Prop) (H : Hp) (a : Addr) : PV → Prop
  | dk {kvs : List (Key × V)} {xs : List (Key × PV)} : H a = some (.dK kvs) → RepK K F H kvs xs → DicAt K F H a (.dk xs)
  | dt {kvs : List (List Key × V)} {xs : List (List Key × PV)} : H a = some (.dT kvs) → RepT K F H kvs xs → DicAt K F H a (.dt xs)
/-- a look-up -/
theorem DicAt.dget {a : Addr} {d k : PV} {v : V} {o : Option PV} (D : DicAt K F H a d) (r : BRep K F H v k) (h : dgetF d k = some o) : ∃ w, DGet H a v w ∧ (∀ y, o = some y → ∃ u, w = some u ∧ Rep K F H u y) ∧ (o = none → w = none) := by
  cases D with
  | dk e rk =>
    simp only [dgetF] at h
    obtain ⟨kk, hk, e2⟩ := Option.map_eq_some_iff.mp h
    subst e2
    cases k <;> simp only [toKey] at hk <;> cases hk
    · cases r.int
      obtain ⟨h1, h2⟩ := rk.get (.inl _)
      exact ⟨_, .k (k := .inl _) e, h1, h2⟩
    · cases r.str
      obtain ⟨h1, h2⟩ := rk.get (.inr _)
      exact ⟨_, .k (k := .inr _) e, h1, h2⟩
  | dt e rt =>
    simp only [dgetF] at h
    split at h
    · rename_i ks
      obtain ⟨kk, hkk, e2⟩ := Option.map_eq_some_iff.mp h
      subst e2
      obtain ⟨_, _, rfl, hb, rl⟩ := r.tup
      have e1 := rl.keys hkk
      subst e1
      obtain ⟨h1, h2⟩ := rt.get kk
      exact ⟨_, .t (k := kk) e hb, h1, h2⟩
    · cases h
def isDic : PV → Bool
  | .dk _ => true
  | .dt _ => true
  | _ => false
theorem BRep.dic {v : V} {d : PV} (r : BRep K F H v d) (h : isDic d = true) : ∃ p, v = .ref p ∧ DicAt K F H p d := by
  cases r with
  | rep r =>
    cases r <;> simp [isDic] at h
    · rename_i f e r; exact ⟨_, rfl, .dk e r⟩
    · rename_i f e r; exact ⟨_, rfl, .dt e r⟩
  | own o =>
    cases o <;> simp [isDic] at h
    · rename_i e r; exact ⟨_, rfl, .dk e r⟩
    · rename_i e r; exact ⟨_, rfl, .dt e r⟩
theorem dgetF_dic {d k : PV} {o : Option PV} (h : dgetF d k = some o) : isDic d = true := by
  cases d <;> simp [dgetF, isDic] at h ⊢
/-- the items of a sequence -/
theorem BRep.seq {v : V} {p : PV} {xs : List PV} (r : BRep K F H v p) (h : seqOf p = some xs) : ∃ a vs, v = .ref a ∧ (SqL K H a vs ∨ SqT K H a vs) ∧ RepL K F H vs xs := by
  cases p <;> simp only [seqOf] at h <;> cases h
  · obtain ⟨a, vs, e, h, r⟩ := r.tup; exact ⟨a, vs, e, .inr (SqT.of h), r⟩
  · obtain ⟨a, its, vs, e, h, r⟩ := r.fup; exact ⟨a, vs, e, .inr (.inl (.inr ⟨_, h⟩)), r⟩
  · obtain ⟨a, vs, e, h, r⟩ := r.lst; exact ⟨a, vs, e, .inl h, r⟩
theorem BRep.tupOf {v : V} {p : PV} {xs : List PV} (r : BRep K F H v p) (h : tupOf p = some xs) : ∃ a vs, v = .ref a ∧ SqT K H a vs ∧ RepL K F H vs xs := by
  cases p <;> simp only [PP.tupOf] at h <;> cases h
  · obtain ⟨a, vs, e, h, r⟩ := r.tup; exact ⟨a, vs, e, SqT.of h, r⟩
  · obtain ⟨a, its, vs, e, h, r⟩ := r.fup; exact ⟨a, vs, e, .inl (.inr ⟨_, h⟩), r⟩
end

/-! ### they are the machine's -/
section
variable {X : Cx}
theorem opB_of {g : Value → Value → Sem Value} {f : PV → PV → Option PV}
    (h : ∀ (pins : List (Addr × Obj)) (s : Shared) (σ : L2.St) (H : Hp) (x y : V) (v u : Value) (Q : VK) (F : Addr → Prop) (p q r : PV), Inv X pins σ H s → RelV x v → RelV y u → (∀ a, F a → ∃ o, H a = some o) → Sized H → BRep X.K F H x p → BRep X.K F H y q → f p q = some r →
      (∀ (z : V) (F' : Addr → Prop) (H' : Hp), Nw F H F' H' → Rep X.K F' H' z r → Q z H') → wpAny (model X.prog X.w) X.A (g v u) (EP X pins σ Q) X.xe s) : OpR X g (rB X.K f) := by
  intro pins s σ H x y v u Q I rx ry ⟨F, p, q, r, fz, sz, r1, r2, e, k⟩
  exact h pins s σ H x y v u Q F p q r I rx ry fz sz r1 r2 e k
theorem op_intF {g : Value → Value → Sem Value} {C : Int → Int → Prop} {C' : Int → Int → Bool} {k : Int → Int → Int} (ho : OpR X g (rI C fun i j => .int (k i j))) (hC : ∀ i j, C' i j = true → C i j) : OpR X g (rB X.K (intF C' k)) := by
  refine opB_of fun pins s σ H x y v u Q F p q r I rx ry fz sz r1 r2 e kk => ?_
  unfold intF at e
  split at e
  · split at e
    · rename_i hc
      cases e
      cases r1.int; cases r2.int
      exact ho pins s σ H _ _ v u Q I rx ry ⟨_, _, rfl, rfl, hC _ _ hc, kk _ F H (.refl fz) (.int _)⟩
    · cases e
  · cases e
theorem op_subF : OpR X (binaryOp .Sub) (rB X.K subF) := op_intF (C := fun _ _ => True) (fun pins s σ H x y v u Q I rx ry ⟨i, j, a, b, _, q⟩ => op_sub pins s σ H x y v u Q I rx ry ⟨i, j, a, b, q⟩) fun _ _ _ => trivial
theorem op_mulF : OpR X (binaryOp .Mult) (rB X.K mulF) := op_intF op_mul fun i j h => by simpa [CMul] using h
theorem op_modF : OpR X (binaryOp .Mod) (rB X.K modF) := op_intF op_mod fun i j h => by simpa using h
theorem op_divF : OpR X (binaryOp .FloorDiv) (rB X.K divF) := op_intF op_fdiv fun i j h => by simpa [CDiv] using h
theorem op_powF : OpR X (binaryOp .Pow) (rB X.K powF) := op_intF op_pow fun i j h => by simpa [CPow] using h
theorem op_cmpF {g : Value → Value → Sem Value} {k : Int → Int → Bool} (ho : OpR X g (rI0 fun i j => .bl (k i j))) : OpR X g (rB X.K (cmpF k)) := by
  refine opB_of fun pins s σ H x y v u Q F p q r I rx ry fz sz r1 r2 e kk => ?_
  unfold cmpF at e
  split at e
  · cases e
    cases r1.int; cases r2.int
    exact ho pins s σ H _ _ v u Q I rx ry ⟨_, _, rfl, rfl, kk _ F H (.refl fz) (.bl _)⟩
  · cases e
theorem op_leF : OpR X (compareOp .LtE) (rB X.K leF) := op_cmpF op_le
theorem op_gtF : OpR X (compareOp .Gt) (rB X.K gtF) := op_cmpF op_gt
theorem op_geF : OpR X (compareOp .GtE) (rB X.K geF) := op_cmpF op_ge
theorem op_ltF (hu : X.A.units < cLine) : OpR X (compareOp .Lt) (rB X.K ltF) := by
  refine opB_of fun pins s σ H x y v u Q F p q r I rx ry fz sz r1 r2 e kk => ?_
  unfold ltF at e
  split at e
  · cases e
    cases r1.int; cases r2.int
    exact op_lt pins s σ H _ _ v u Q I rx ry ⟨_, _, rfl, rfl, kk _ F H (.refl fz) (.bl _)⟩
  · obtain ⟨xs, t1, e⟩ := Option.bind_eq_some_iff.mp e
    obtain ⟨ys, t2, e⟩ := Option.bind_eq_some_iff.mp e
    obtain ⟨is, h1, e⟩ := Option.bind_eq_some_iff.mp e
    obtain ⟨js, h2, e⟩ := Option.map_eq_some_iff.mp e
    subst e
    obtain ⟨_, _, rfl, ha, ra⟩ := r1.tupOf t1
    obtain ⟨_, _, rfl, hb, rb⟩ := r2.tupOf t2
    have e1 := ra.ints h1
    have e2 := rb.ints h2
    subst e1 e2
    exact op_ltT hu pins s σ H _ _ v u Q I rx ry ⟨_, _, is, js, rfl, rfl, ha, hb, kk _ F H (.refl fz) (.bl _)⟩
theorem op_eqF (hu : X.A.units + 64 < cLine) : OpR X (compareOp .Eq) (rB X.K eqF) := by
  refine opB_of fun pins s σ H x y v u Q F p q r I rx ry fz sz r1 r2 e kk => ?_
  unfold eqF at e
  split at e
  · rename_i h
    cases e
    rw [Bool.and_eq_true] at h
    obtain ⟨s1, n1⟩ := okD_shaped h.1
    obtain ⟨s2, n2⟩ := okD_shaped h.2
    exact op_eqD hu pins s σ H _ _ v u Q I rx ry ⟨_, _, r1.dp n1, r2.dp n2, s1, s2, kk _ F H (.refl fz) (.bl _)⟩
  · cases e
theorem op_neF (hu : X.A.units + 64 < cLine) : OpR X (compareOp .NotEq) (rB X.K neF) := by
  refine opB_of fun pins s σ H x y v u Q F p q r I rx ry fz sz r1 r2 e kk => ?_
  unfold neF at e
  split at e
  · rename_i h
    cases e
    rw [Bool.and_eq_true] at h
    obtain ⟨s1, n1⟩ := okD_shaped h.1
    obtain ⟨s2, n2⟩ := okD_shaped h.2
    exact op_neD hu pins s σ H _ _ v u Q I rx ry ⟨_, _, r1.dp n1, r2.dp n2, s1, s2, kk _ F H (.refl fz) (.bl _)⟩
  · cases e
theorem BRep.non_iff {K : PySem.W.Frag} {F : Addr → Prop} {H : Hp} {v : V} {p : PV} (r : BRep K F H v p) : decide (v = .non) = isNone p := by
  cases r with
  | rep r => cases r <;> simp [isNone]
  | own o => cases o <;> simp [isNone]
theorem BRep.of_non {K : PySem.W.Frag} {F : Addr → Prop} {H : Hp} {v : V} {p : PV} (r : BRep K F H v p) (h : isNone p = true) : v = .non := by
  cases r with
  | rep r => cases r <;> simp [isNone] at h ⊢
  | own o => cases o <;> simp [isNone] at h
theorem op_isNF : OpR X (compareOp .Is) (rB X.K isNF) := by
  refine opB_of fun pins s σ H x y v u Q F p q r I rx ry fz sz r1 r2 e kk => ?_
  unfold isNF at e
  split at e
  · rename_i h
    cases e
    have e2 := r2.of_non h
    subst e2
    refine op_isN pins s σ H _ _ v u Q I rx ry ⟨rfl, ?_⟩
    rw [r1.non_iff]
    exact kk _ F H (.refl fz) (.bl _)
  · cases e
theorem op_notNF : OpR X (compareOp .IsNot) (rB X.K notNF) := by
  refine opB_of fun pins s σ H x y v u Q F p q r I rx ry fz sz r1 r2 e kk => ?_
  unfold notNF at e
  split at e
  · rename_i h
    cases e
    have e2 := r2.of_non h
    subst e2
    refine op_notN pins s σ H _ _ v u Q I rx ry ⟨rfl, ?_⟩
    rw [r1.non_iff]
    exact kk _ F H (.refl fz) (.bl _)
  · cases e
theorem in_data (hu : X.A.units + 65 < cLine) {pins : List (Addr × Obj)} {s : Shared} {σ : L2.St} {H : Hp} {x y : V} {v u : Value} {F : Addr → Prop} {p q : PV} {ys : List PV} (neg : Bool) {Q : VK} (I : Inv X pins σ H s) (rx : RelV x v) (ry : RelV y u) (r1 : BRep X.K F H x p) (r2 : BRep X.K F H y q)
    (hs : seqOf q = some ys) (h : (okD 60 p && okD 60 q) = true) (k : Q (.bl (if neg then !ys.any fun z => eqv z p else ys.any fun z => eqv z p)) H) : wpAny (model X.prog X.w) X.A (compareOp (if neg then .NotIn else .In) v u) (EP X pins σ Q) X.xe s := by
  rw [Bool.and_eq_true] at h
  obtain ⟨s1, n1⟩ := okD_shaped h.1
  obtain ⟨s2, n2⟩ := okD_shaped h.2
  obtain ⟨as, q1⟩ := Dp.reads I _ x v (r1.dp n1) rx
  obtain ⟨bs, q2⟩ := Dp.reads I _ y u (r2.dp n2) ry
  have key : ∀ zs : List PV, (toDs zs).any (fun z => PyData.eqv z (toD p)) = zs.any fun z => eqv z p := fun zs => by
    rw [toDs_map, List.any_map]; rfl
  rw [← key] at k
  cases q <;> simp only [seqOf] at hs <;> cases hs
  all_goals
    simp only [toD] at q2 s2
    cases neg
    · first
        | exact SeqAt.in_tuple_reads q2 q1 (by simpa [PyData.canLay0] using SeqAt.canLay_of_shaped s2) (SeqAt.canLay_of_shaped s1) (room_in_shaped s1 hu) ⟨.bl _, H, I, rfl, k⟩
        | exact SeqAt.in_list_reads q2 q1 (by simpa [PyData.canLay0] using SeqAt.canLay_of_shaped s2) (SeqAt.canLay_of_shaped s1) (room_in_shaped s1 hu) ⟨.bl _, H, I, rfl, k⟩
    · first
        | exact SeqAt.notIn_tuple_reads q2 q1 (by simpa [PyData.canLay0] using SeqAt.canLay_of_shaped s2) (SeqAt.canLay_of_shaped s1) (room_in_shaped s1 hu) ⟨.bl _, H, I, rfl, k⟩
        | exact SeqAt.notIn_list_reads q2 q1 (by simpa [PyData.canLay0] using SeqAt.canLay_of_shaped s2) (SeqAt.canLay_of_shaped s1) (room_in_shaped s1 hu) ⟨.bl _, H, I, rfl, k⟩
theorem op_inF (hu : X.A.units + 65 < cLine) : OpR X (compareOp .In) (rB X.K inF) := by
  refine opB_of fun pins s σ H x y v u Q F p q r I rx ry fz sz r1 r2 e kk => ?_
  unfold inF at e
  split at e
  · rename_i ys hs
    split at e
    · rename_i h
      cases e
      exact in_data hu false I rx ry r1 r2 hs h (kk _ F H (.refl fz) (.bl _))
    · cases e
  · obtain ⟨o, h, e⟩ := Option.map_eq_some_iff.mp e
    subst e
    obtain ⟨a, rfl, D⟩ := r2.dic (dgetF_dic h)
    obtain ⟨w, g, w1, w2⟩ := D.dget r1 h
    cases ry
    refine d_in (o := w) (by omega) I g rx fun s' I' => ⟨.bl _, H, I', rfl, ?_⟩
    cases o with
    | none => rw [w2 rfl]; exact kk _ F H (.refl fz) (.bl _)
    | some y => obtain ⟨u', e, _⟩ := w1 y rfl; rw [e]; exact kk _ F H (.refl fz) (.bl _)
theorem op_notInF (hu : X.A.units + 65 < cLine) : OpR X (compareOp .NotIn) (rB X.K notInF) := by
  refine opB_of fun pins s σ H x y v u Q F p q r I rx ry fz sz r1 r2 e kk => ?_
  unfold notInF at e
  split at e
  · rename_i ys hs
    split at e
    · rename_i h
      cases e
      exact in_data hu true I rx ry r1 r2 hs h (kk _ F H (.refl fz) (.bl _))
    · cases e
  · obtain ⟨o, h, e⟩ := Option.map_eq_some_iff.mp e
    subst e
    obtain ⟨a, rfl, D⟩ := r2.dic (dgetF_dic h)
    obtain ⟨w, g, w1, w2⟩ := D.dget r1 h
    cases ry
    refine d_notIn (o := w) (by omega) I g rx fun s' I' => ⟨.bl _, H, I', rfl, ?_⟩
    cases o with
    | none => rw [w2 rfl]; exact kk _ F H (.refl fz) (.bl _)
    | some y => obtain ⟨u', e, _⟩ := w1 y rfl; rw [e]; exact kk _ F H (.refl fz) (.bl _)
end
end PP

/-! PP, part d: +, built-ins on sequences, subscripts. -/
namespace PP
open PySem PySem.Spec PyProof.Rows L2

section
variable {X : Cx}
theorem call_of {g : Value} {f : List PV → Option PV}
    (h : ∀ (pins : List (Addr × Obj)) (s : Shared) (σ : L2.St) (H : Hp) (xs : List V) (us : List Value) (Q : VK) (F : Addr → Prop) (ps : List PV) (r : PV), Inv X pins σ H s → Vals xs us → (∀ a, F a → ∃ o, H a = some o) → Sized H → BRepL X.K F H xs ps → f ps = some r →
      (∀ (z : V) (F' : Addr → Prop) (H' : Hp), Nw F H F' H' → Rep X.K F' H' z r → Q z H') → wpAny (model X.prog X.w) X.A (call g us) (EP X pins σ Q) X.xe s) : CallR X g (rL X.K f) := by
  intro pins s σ H xs us Q I rx ⟨F, ps, r, fz, sz, r1, e, k⟩
  exact h pins s σ H xs us Q F ps r I rx fz sz r1 e k

/-- a new list at p -/
theorem new_list {K : PySem.W.Frag} {F : Addr → Prop} {H : Hp} {p : Addr} {vs : List V} {xs : List PV} (fz : ∀ a, F a → ∃ o, H a = some o) (np : H p = none) (r : RepL K F H vs xs) :
    Nw F H (fun b => F b ∨ b = p) (upd H p (.lst vs)) ∧ Rep K (fun b => F b ∨ b = p) (upd H p (.lst vs)) (.ref p) (.lst xs) := by
  have N : Nw F H (fun b => F b ∨ b = p) (upd H p (.lst vs)) := .fix np fz
  exact ⟨N, .lst (.inl ⟨.inr rfl, SqL.of upd_same⟩) (r.ex N.ex)⟩
theorem new_tup {K : PySem.W.Frag} {F : Addr → Prop} {H : Hp} {p : Addr} {vs : List V} {xs : List PV} (fz : ∀ a, F a → ∃ o, H a = some o) (np : H p = none) (r : RepL K F H vs xs) :
    Nw F H F (upd H p (.tup vs)) ∧ Rep K F (upd H p (.tup vs)) (.ref p) (.tup xs) := by
  have N : Nw F H F (upd H p (.tup vs)) := .upd np fz
  exact ⟨N, .tup upd_same (r.ex N.ex)⟩

/-- t + u of tuples, also where one is empty -/
theorem cat_tups {pins : List (Addr × Obj)} {σ : L2.St} {H : Hp} {s : Shared} {Q : VK} {a b : Addr} {xs ys : List V} (I : Inv X pins σ H s) (ha : H a = some (.tup xs)) (hb : H b = some (.tup ys)) (hl : xs.length + ys.length ≤ sizeLine)
    (h0 : xs = [] → Q (.ref b) H) (h1 : xs ≠ [] → ys = [] → Q (.ref a) H) (h2 : ∀ p, H p = none → Q (.ref p) (upd H p (.tup (xs ++ ys)))) : wpAny (model X.prog X.w) X.A (binaryOp .Add (.ref a) (.ref b)) (EP X pins σ Q) X.xe s := by
  obtain ⟨its, ra, ⟨⟨cls, dd, data, sl⟩, ho, hc, n, hd⟩, _⟩ := I.tuple (SqT.of ha)
  obtain ⟨its2, rb, ⟨⟨cls2, dd2, data2, sl2⟩, ho2, hc2, n2, hd2⟩, _⟩ := I.tuple (SqT.of hb)
  simp only at hc hd hc2 hd2
  subst hc hd hc2 hd2
  have e : its.toArray ++ its2.toArray = (its ++ its2).toArray := by simp
  have l1 := ra.length
  have l2 := rb.length
  by_cases hv : its = []
  · refine concat_meets ⟨_, ho, rfl⟩ ⟨_, ho2, rfl⟩ noFill_tuple_add seq_tuple_add PySem.F.slot_tuple_add PySem.F.entry_tuple_add (PySem.F.args_tuple_add_2 _ _)
      (tuple_addW0 a b its.toArray its2.toArray n n2 dd dd2 sl sl2 (by simp [hv])) ⟨ho, ho2, .ref b, H, I, rfl, h0 ?_⟩
    subst hv; cases ra; rfl
  · by_cases hw : its2 = []
    · refine concat_meets ⟨_, ho, rfl⟩ ⟨_, ho2, rfl⟩ noFill_tuple_add seq_tuple_add PySem.F.slot_tuple_add PySem.F.entry_tuple_add (PySem.F.args_tuple_add_2 _ _)
        (tuple_addW1 a b its.toArray its2.toArray n n2 dd dd2 sl sl2 (by simpa using hv) (by simp [hw])) ⟨ho, ho2, .ref a, H, I, rfl, h1 (fun z => ?_) ?_⟩
      · subst z; cases ra; exact hv rfl
      · subst hw; cases rb; rfl
    · refine concat_meets ⟨_, ho, rfl⟩ ⟨_, ho2, rfl⟩ noFill_tuple_add seq_tuple_add PySem.F.slot_tuple_add PySem.F.entry_tuple_add (PySem.F.args_tuple_add_2 _ _)
        (tuple_addW2 a b its.toArray its2.toArray n n2 dd dd2 sl sl2 (by simpa using hv) (by simpa using hw) (by rw [List.size_toArray, List.size_toArray]; omega)) ⟨ho, ho2, ?_⟩
      rw [e]
      have hf : H s.heap.objs.size = none := I.hok.fresh (Nat.le_refl _)
      refine ⟨.ref s.heap.objs.size, upd H s.heap.objs.size (.tup (xs ++ ys)), I.laid (t' := s.toks) (fun c u e => Heap.get?_push_of_some _ e) (Nat.le_refl _) ?_, rfl, h2 _ hf⟩
      exact ⟨by rw [List.length_append]; exact hl, its ++ its2, ra.append rb, ⟨_, Heap.get?_push_size _ rfl, rfl, _, rfl⟩⟩

/-- a list that is read, tracked or not: + takes tracked ones -/
theorem op_addF : OpR X (binaryOp .Add) (rB X.K addF) := by
  refine opB_of fun pins s σ H x y v u Q F p q r I rx ry fz sz r1 r2 e kk => ?_
  unfold addF at e
  split at e
  · cases e
    cases r1.int; cases r2.int
    exact op_add pins s σ H _ _ v u Q I rx ry ⟨_, _, rfl, rfl, kk _ F H (.refl fz) (.int _)⟩
  · split at e
    · rename_i hl
      cases e
      obtain ⟨a, vs, rfl, ha, ra⟩ := r1.lst
      obtain ⟨b, ws, rfl, hb, rb⟩ := r2.lst
      cases rx; cases ry
      obtain ⟨its, va, pl, _⟩ := I.list ha
      obtain ⟨its2, vb, pl2, _⟩ := I.list hb
      obtain ⟨⟨cls, dd, data, sl⟩, ho, hc, n, hd⟩ := pl.isList
      obtain ⟨⟨cls2, dd2, data2, sl2⟩, ho2, hc2, n2, hd2⟩ := pl2.isList
      simp only at hc hd hc2 hd2
      subst hc hd hc2 hd2
      have l1 := va.length
      have l2 := vb.length
      have l3 := ra.length
      have l4 := rb.length
      have hf : H s.heap.objs.size = none := I.hok.fresh (Nat.le_refl _)
      have e : its.toArray ++ its2.toArray = (its ++ its2).toArray := by simp
      refine concat_meets ⟨_, ho, rfl⟩ ⟨_, ho2, rfl⟩ noFill_list_add seq_list_add PySem.F.slot_list_add PySem.F.entry_list_add (PySem.F.args_list_add_2 _ _) (list_addW a b its.toArray its2.toArray n n2 dd dd2 sl sl2 (by rw [List.size_toArray, List.size_toArray]; omega)) ⟨ho, ho2, ?_⟩
      rw [e]
      obtain ⟨N, R⟩ := new_list fz hf (ra.append rb)
      exact ⟨.ref _, _, I.lnew (t' := s.toks) (va.append vb) (by rw [List.length_append]; omega), rfl, kk _ _ _ N R⟩
    · cases e
  · split at e
    · rename_i hl
      cases e
      obtain ⟨a, vs, rfl, ha, ra⟩ := r1.tup
      obtain ⟨b, ws, rfl, hb, rb⟩ := r2.tup
      cases rx; cases ry
      have l3 := ra.length
      have l4 := rb.length
      refine cat_tups I ha hb (by omega) (fun z => ?_) (fun _ z => ?_) fun p np => ?_
      · subst z
        cases ra
        exact kk _ F H (.refl fz) (.tup hb rb)
      · subst z
        cases rb
        rw [List.append_nil] at kk
        exact kk _ F H (.refl fz) (.tup ha ra)
      · obtain ⟨N, R⟩ := new_tup fz np (ra.append rb)
        exact kk _ _ _ N R
    · cases e
  · cases e
end
end PP

/-! PP, part e: built-ins by values. -/
namespace PP
open PySem PySem.Spec PyProof.Rows L2

def lenF : List PV → Option PV
  | [x] => (seqOf x).map fun xs => .int xs.length
  | _ => none
/-- tuple(..): a plain one -/
def tupleF : List PV → Option PV
  | [.lst xs] => some (.tup xs)
  | [.tup xs] => some (.tup xs)
  | _ => none
def listF : List PV → Option PV
  | [x] => (seqOf x).map fun xs => .lst xs
  | _ => none
def toBools : List PV → Option (List Bool)
  | [] => some []
  | .bl b :: r => (toBools r).map (b :: ·)
  | _ :: _ => none
def allF : List PV → Option PV
  | [.lst xs] => (toBools xs).map fun bs => .bl (bs.all id)
  | _ => none
def anyF : List PV → Option PV
  | [.lst xs] => (toBools xs).map fun bs => .bl (bs.any id)
  | _ => none
def sumF : List PV → Option PV
  | [.lst xs] => (toInts xs).map fun is => .int is.sum
  | _ => none
def absF : List PV → Option PV
  | [.int i] => some (.int (if i < 0 then -i else i))
  | _ => none
def intTF : List PV → Option PV
  | [.int i] => some (.int i)
  | [.bl b] => some (.int (if b then 1 else 0))
  | _ => none
def alikeB (xs : List PV) : Bool := xs.all fun x => xs.all fun y => PySem.W.alike (toD x) (toD y)
mutual
/-- nothing in it but None, bools, ints, texts, plain tuples, lists: it is what its data is -/
def plainP : PV → Bool
  | .fup _ => false
  | .dk _ => false
  | .dt _ => false
  | .lst xs => plainPs xs
  | .tup xs => plainPs xs
  | _ => true
def plainPs : List PV → Bool
  | [] => true
  | x :: xs => plainP x && plainPs xs
end
mutual
theorem toD_inj : ∀ {x y : PV}, plainP x = true → plainP y = true → toD x = toD y → x = y
  | .non, y, _, hy, e => by cases y <;> simp [toD, plainP] at e hy ⊢
  | .bl _, y, _, hy, e => by cases y <;> simp [toD, plainP] at e hy ⊢; exact e
  | .int _, y, _, hy, e => by cases y <;> simp [toD, plainP] at e hy ⊢; exact e
  | .str _, y, _, hy, e => by cases y <;> simp [toD, plainP] at e hy ⊢; exact e
  | .tup xs, y, hx, hy, e => by
    cases y <;> simp [toD, plainP] at e hy ⊢
    exact toDs_inj (by simpa [plainP] using hx) hy e
  | .lst xs, y, hx, hy, e => by
    cases y <;> simp [toD, plainP] at e hy ⊢
    exact toDs_inj (by simpa [plainP] using hx) hy e
  | .fup _, _, hx, _, _ => by simp [plainP] at hx
  | .dk _, _, hx, _, _ => by simp [plainP] at hx
  | .dt _, _, hx, _, _ => by simp [plainP] at hx
theorem toDs_inj : ∀ {xs ys : List PV}, plainPs xs = true → plainPs ys = true → toDs xs = toDs ys → xs = ys
  | [], ys, _, _, e => by cases ys <;> simp [toDs] at e ⊢
  | x :: xs, ys, hx, hy, e => by
    cases ys with
    | nil => simp [toDs] at e
    | cons y ys =>
      simp only [toDs, List.cons.injEq] at e
      simp only [plainPs, Bool.and_eq_true] at hx hy
      rw [toD_inj hx.1 hy.1 e.1, toDs_inj hx.2 hy.2 e.2]
end
theorem plainPs_all : ∀ xs : List PV, plainPs xs = xs.all plainP
  | [] => rfl
  | x :: xs => by simp [plainPs, plainPs_all xs]
def minP (x : PV) (xs : List PV) : PV := xs.foldl (fun a y => if PySem.W.dataLt (toD y) (toD a) then y else a) x
def maxP (x : PV) (xs : List PV) : PV := xs.foldl (fun a y => if PySem.W.dataLt (toD a) (toD y) then y else a) x
/-- they can be compared with one another -/
def comparable (xs : List PV) : Bool := xs.all (okD 60) && alikeB xs && plainPs xs && xs.all fun x => !isNone x
/-- the least (greatest) item; two ints -/
def minF : List PV → Option PV
  | [.int i, .int j] => some (.int (if j < i then j else i))
  | [.lst (x :: xs)] => if comparable (x :: xs) then some (minP x xs) else none
  | _ => none
def maxF : List PV → Option PV
  | [.int i, .int j] => some (.int (if j > i then j else i))
  | [.lst (x :: xs)] => if comparable (x :: xs) then some (maxP x xs) else none
  | _ => none
/-- the items can be sorted: all tuples that are not empty, or none a tuple; or there is one at most -/
def sortable (xs : List PV) : Bool := xs.all (fun x => match tupOf x with | some (_ :: _) => true | _ => false) || xs.all (fun x => (tupOf x).isNone) || decide (xs.length ≤ 1)
def leP (x y : PV) : Bool := PySem.W.dataLe false toD x y
def sortL (xs : List PV) : List PV := xs.mergeSort leP
def sortedF : List PV → Option PV
  | [.lst xs] => if comparable xs && sortable xs then some (.lst (sortL xs)) else none
  | _ => none

theorem RepL.bools {K : PySem.W.Frag} {F : Addr → Prop} {H : Hp} : ∀ {xs : List PV} {is : List Bool} {vs : List V}, RepL K F H vs xs → toBools xs = some is → vs = is.map V.bl
  | [], _, _, .nil, h => by cases h; rfl
  | x :: xs, is, _, .cons r t, h => by
    cases x <;> simp only [toBools] at h <;> try cases h
    obtain ⟨js, hj, e⟩ := Option.map_eq_some_iff.mp h
    subst e
    rw [RepL.bools t hj]
    cases r
    rfl
theorem BRepL.one {K : PySem.W.Frag} {F : Addr → Prop} {H : Hp} {vs : List V} {x : PV} (r : BRepL K F H vs [x]) : ∃ v, vs = [v] ∧ BRep K F H v x := by
  cases r with | cons r t => cases t; exact ⟨_, rfl, r⟩
theorem BRepL.two {K : PySem.W.Frag} {F : Addr → Prop} {H : Hp} {vs : List V} {x y : PV} (r : BRepL K F H vs [x, y]) : ∃ v w, vs = [v, w] ∧ BRep K F H v x ∧ BRep K F H w y := by
  cases r with | cons r t => cases t with | cons r2 t => cases t; exact ⟨_, _, rfl, r, r2⟩

theorem each_vals {K : PySem.W.Frag} {F : Addr → Prop} {H : Hp} : ∀ {vs : List V} {us : List Value} {xs : List PV}, Vals vs us → RepL K F H vs xs → PySem.W.EachIs (fun u x => ∃ v, RelV v u ∧ Rep K F H v x) us xs
  | _, _, _, .nil, .nil => .nil
  | _, _, _, .cons r t, .cons q s => .cons ⟨_, r, q⟩ (each_vals t s)
theorem vals_each {K : PySem.W.Frag} {F : Addr → Prop} {H : Hp} : ∀ {us : List Value} {xs : List PV}, PySem.W.EachIs (fun u x => ∃ v, RelV v u ∧ Rep K F H v x) us xs → ∃ vs, Vals vs us ∧ RepL K F H vs xs
  | _, _, .nil => ⟨[], .nil, .nil⟩
  | _, _, .cons ⟨v, r, q⟩ t => let ⟨vs, a, b⟩ := vals_each t; ⟨v :: vs, .cons r a, .cons q b⟩
theorem mem_get {K : PySem.W.Frag} {F : Addr → Prop} {H : Hp} : ∀ {vs : List V} {us : List Value} {xs : List PV}, Vals vs us → RepL K F H vs xs → ∀ (i : Nat) (u : Value), us[i]? = some u → ∃ v x, RelV v u ∧ Rep K F H v x ∧ xs[i]? = some x
  | _, _, _, .nil, .nil, i, u, h => by simp at h
  | _, _, _, .cons r t, .cons q s, 0, u, h => by simp at h; subst h; exact ⟨_, _, r, q, rfl⟩
  | _, _, _, .cons r t, .cons q s, i + 1, u, h => by
    obtain ⟨v, x, a, b, c⟩ := mem_get t s i u (by simpa using h)
    exact ⟨v, x, a, b, by simpa using c⟩

theorem alikeB_all {xs : List PV} (h : alikeB xs = true) : PySem.W.AllAlike (xs.map toD) := fun d hd d' hd' => by
  obtain ⟨x, hx, rfl⟩ := List.mem_map.mp hd
  obtain ⟨y, hy, rfl⟩ := List.mem_map.mp hd'
  unfold alikeB at h
  rw [List.all_eq_true] at h
  have h1 := h x hx
  rw [List.all_eq_true] at h1
  exact h1 y hy

section
variable {X : Cx}
theorem cr_lenF : CallR X (.builtin "len") (rL X.K lenF) := by
  refine call_of fun pins s σ H xs us Q F ps r I rx fz sz r1 e k => ?_
  unfold lenF at e
  split at e
  · obtain ⟨ys, hs, e⟩ := Option.map_eq_some_iff.mp e
    subst e
    obtain ⟨v, rfl, q1⟩ := r1.one
    obtain ⟨a, vs, rfl, h, r⟩ := q1.seq hs
    refine call_len_seq pins s σ H _ us Q I rx ⟨a, vs, rfl, h, ?_⟩
    rw [r.length]
    exact k _ F H (.refl fz) (.int _)
  · cases e
theorem cr_tupleF : CallR X (.type "tuple") (rL X.K tupleF) := by
  refine call_of fun pins s σ H xs us Q F ps r I rx fz sz r1 e k => ?_
  unfold tupleF at e
  split at e
  · cases e
    obtain ⟨v, rfl, q1⟩ := r1.one
    obtain ⟨a, vs, rfl, h, r⟩ := q1.lst
    refine call_tuple_of pins s σ H _ us Q I rx ⟨a, vs, rfl, .inl ⟨h, fun p np => ?_⟩⟩
    obtain ⟨N, R⟩ := new_tup fz np r
    exact k _ _ _ N R
  · cases e
    obtain ⟨v, rfl, q1⟩ := r1.one
    obtain ⟨a, vs, rfl, h, r⟩ := q1.tup
    exact call_tuple_of pins s σ H _ us Q I rx ⟨a, vs, rfl, .inr ⟨SqT.of h, k _ F H (.refl fz) (.tup h r)⟩⟩
  · cases e
theorem cr_listF : CallR X (.type "list") (rL X.K listF) := by
  refine call_of fun pins s σ H xs us Q F ps r I rx fz sz r1 e k => ?_
  unfold listF at e
  split at e
  · obtain ⟨ys, hs, e⟩ := Option.map_eq_some_iff.mp e
    subst e
    obtain ⟨v, rfl, q1⟩ := r1.one
    obtain ⟨a, vs, rfl, h, r⟩ := q1.seq hs
    refine call_list_of pins s σ H _ us Q I rx ⟨a, vs, rfl, h, fun p np => ?_⟩
    obtain ⟨N, R⟩ := new_list fz np r
    exact k _ _ _ N R
  · cases e
theorem cr_allF (hc : X.calm = true) : CallR X (.builtin "all") (rL X.K allF) := by
  refine call_of fun pins s σ H xs us Q F ps r I rx fz sz r1 e k => ?_
  unfold allF at e
  split at e
  · obtain ⟨bs, h, e⟩ := Option.map_eq_some_iff.mp e
    subst e
    obtain ⟨v, rfl, q1⟩ := r1.one
    obtain ⟨a, vs, rfl, ha, r⟩ := q1.lst
    have := r.bools h
    subst this
    exact cr_all hc pins s σ H _ us Q I rx ⟨a, bs, rfl, ha, k _ F H (.refl fz) (.bl _)⟩
  · cases e
theorem cr_anyF (hc : X.calm = true) : CallR X (.builtin "any") (rL X.K anyF) := by
  refine call_of fun pins s σ H xs us Q F ps r I rx fz sz r1 e k => ?_
  unfold anyF at e
  split at e
  · obtain ⟨bs, h, e⟩ := Option.map_eq_some_iff.mp e
    subst e
    obtain ⟨v, rfl, q1⟩ := r1.one
    obtain ⟨a, vs, rfl, ha, r⟩ := q1.lst
    have := r.bools h
    subst this
    exact cr_any hc pins s σ H _ us Q I rx ⟨a, bs, rfl, ha, k _ F H (.refl fz) (.bl _)⟩
  · cases e
theorem cr_sumF (hc : X.calm = true) : CallR X (.builtin "sum") (rL X.K sumF) := by
  refine call_of fun pins s σ H xs us Q F ps r I rx fz sz r1 e k => ?_
  unfold sumF at e
  split at e
  · obtain ⟨bs, h, e⟩ := Option.map_eq_some_iff.mp e
    subst e
    obtain ⟨v, rfl, q1⟩ := r1.one
    obtain ⟨a, vs, rfl, ha, r⟩ := q1.lst
    have := r.ints h
    subst this
    exact cr_sum hc pins s σ H _ us Q I rx ⟨a, bs, rfl, ha, k _ F H (.refl fz) (.int _)⟩
  · cases e
theorem cr_absF : CallR X (.builtin "abs") (rL X.K absF) := by
  refine call_of fun pins s σ H xs us Q F ps r I rx fz sz r1 e k => ?_
  unfold absF at e
  split at e
  · cases e
    obtain ⟨v, rfl, q1⟩ := r1.one
    cases q1.int
    exact call_abs pins s σ H _ us Q I rx ⟨_, rfl, k _ F H (.refl fz) (.int _)⟩
  · cases e
theorem cr_intTF : CallR X (.type "int") (rL X.K intTF) := by
  refine call_of fun pins s σ H xs us Q F ps r I rx fz sz r1 e k => ?_
  unfold intTF at e
  split at e
  · cases e
    obtain ⟨v, rfl, q1⟩ := r1.one
    cases q1.int
    exact call_int1 pins s σ H _ us Q I rx (.inl ⟨_, rfl, k _ F H (.refl fz) (.int _)⟩)
  · cases e
    obtain ⟨v, rfl, q1⟩ := r1.one
    cases q1.bl
    exact call_int1 pins s σ H _ us Q I rx (.inr ⟨_, rfl, k _ F H (.refl fz) (.int _)⟩)
  · cases e

theorem all_shaped {xs : List PV} (h : xs.all (okD 60) = true) : PyData.canLayAll0 (toDs xs) = true ∧ PyData.depthAll (toDs xs) ≤ 60 ∧ nodicL xs = true := okD_all (okD_sound 60) h
theorem comparable_ok {xs : List PV} (h : comparable xs = true) : xs.all (okD 60) = true ∧ alikeB xs = true ∧ plainPs xs = true ∧ ∀ x ∈ xs, isNone x = false := by
  unfold comparable at h
  simp only [Bool.and_eq_true, List.all_eq_true (p := fun x => !isNone x), Bool.not_eq_true'] at h
  exact ⟨h.1.1.1, h.1.1.2, h.1.2, h.2⟩
theorem mm_alike {xs : List PV} (h : comparable xs = true) : PySem.W.AlikeAll (xs.map toD) := by
  obtain ⟨h1, h2, h3, h4⟩ := comparable_ok h
  have ha := alikeB_all h2
  refine ⟨fun y hy z hz => ha y hy z hz, fun y hy z => ?_⟩
  obtain ⟨x, hx, rfl⟩ := List.mem_map.mp hy
  have := h4 x hx
  cases x <;> simp [toD, isNone] at this z
theorem reads_at {h : Heap} : ∀ {us : List Value} {xs : List PV} {as : List Addr}, ReadsAll h us (toDs xs) as → ∀ (i : Nat) (u : Value) (x : PV), us[i]? = some u → xs[i]? = some x → ∃ bs, Reads h u (toD x) bs
  | _, [], _, r, i, u, x, _, f => by simp at f
  | _, y :: ys, _, r, i, u, x, e, f => by
    unfold toDs at r
    cases r with
    | cons r t =>
      cases i with
      | zero => simp at e f; subst e f; exact ⟨_, r⟩
      | succ i => exact reads_at t i u x (by simpa using e) (by simpa using f)
/-- the item that was found is one of the items -/
theorem pick_rep {K : PySem.W.Frag} {F : Addr → Prop} {H : Hp} {h' : Heap} {vs : List V} {us : List Value} {xs : List PV} {i : Nat} {u : Value} {d : PV} {bs : List Addr} (hv : Vals vs us) (hr : RepL K F H vs xs) (hi : us[i]? = some u) (rd : Reads h' u (toD d) bs)
    (hx : ∀ x, xs[i]? = some x → ∃ as, Reads h' u (toD x) as) (hd : d ∈ xs) (al : alikeB xs = true) (pl : plainPs xs = true) : ∃ v, RelV v u ∧ Rep K F H v d := by
  obtain ⟨v, x, a, b, c⟩ := mem_get hv hr i u hi
  obtain ⟨as, r2⟩ := hx x c
  have hm := List.mem_of_getElem? c
  rw [plainPs_all, List.all_eq_true] at pl
  have e := PySem.W.alike_unique (toD x) (toD d) u as bs (alikeB_all al _ (List.mem_map_of_mem hm) _ (List.mem_map_of_mem hd)) r2 rd
  rw [← toD_inj (pl x hm) (pl d hd) e]
  exact ⟨v, a, b⟩
theorem minP_mem (x : PV) : ∀ xs : List PV, minP x xs ∈ x :: xs := by
  suffices h : ∀ (xs : List PV) (a : PV), List.foldl (fun a y => if PySem.W.dataLt (toD y) (toD a) then y else a) a xs ∈ a :: xs from fun xs => h xs x
  intro xs
  induction xs with
  | nil => intro a; simp
  | cons y ys ih =>
    intro a
    rw [List.foldl_cons]
    rcases List.mem_cons.mp (ih (if PySem.W.dataLt (toD y) (toD a) = true then y else a)) with h | h
    · rw [h]; split <;> simp
    · exact List.mem_cons_of_mem _ (List.mem_cons_of_mem _ h)
theorem maxP_mem (x : PV) : ∀ xs : List PV, maxP x xs ∈ x :: xs := by
  suffices h : ∀ (xs : List PV) (a : PV), List.foldl (fun a y => if PySem.W.dataLt (toD a) (toD y) then y else a) a xs ∈ a :: xs from fun xs => h xs x
  intro xs
  induction xs with
  | nil => intro a; simp
  | cons y ys ih =>
    intro a
    rw [List.foldl_cons]
    rcases List.mem_cons.mp (ih (if PySem.W.dataLt (toD a) (toD y) = true then y else a)) with h | h
    · rw [h]; split <;> simp
    · exact List.mem_cons_of_mem _ (List.mem_cons_of_mem _ h)
theorem minP_D (x : PV) (xs : List PV) : toD (minP x xs) = PySem.W.minD (toD x) (xs.map toD) := by
  unfold minP PySem.W.minD
  induction xs generalizing x with
  | nil => rfl
  | cons y ys ih =>
    rw [List.map_cons, List.foldl_cons, List.foldl_cons, ih]
    congr 1
    split <;> rfl
theorem maxP_D (x : PV) (xs : List PV) : toD (maxP x xs) = PySem.W.maxD (toD x) (xs.map toD) := by
  unfold maxP PySem.W.maxD
  induction xs generalizing x with
  | nil => rfl
  | cons y ys ih =>
    rw [List.map_cons, List.foldl_cons, List.foldl_cons, ih]
    congr 1
    split <;> rfl
theorem cr_minF (hc : X.calm = true) (hu : X.A.units + 100 < cLine) : CallR X (.builtin "min") (rL X.K minF) := by
  refine call_of fun pins s σ H xs us Q F ps r I rx fz sz r1 e k => ?_
  unfold minF at e
  split at e
  · cases e
    obtain ⟨v, w, rfl, q1, q2⟩ := r1.two
    cases q1.int; cases q2.int
    exact call_min2 hc pins s σ H _ us Q I rx ⟨_, _, rfl, k _ F H (.refl fz) (.int _)⟩
  · split at e
    · rename_i x xs h
      cases e
      obtain ⟨h1, h2, h3, h4⟩ := comparable_ok h
      obtain ⟨c1, c2, c3⟩ := all_shaped h1
      obtain ⟨v, rfl, q1⟩ := r1.one
      obtain ⟨a, vs, rfl, ha, ra⟩ := q1.lst
      obtain ⟨u, rfl, ru⟩ := rx.one
      cases ru
      obtain ⟨its, rv, pl, hz⟩ := I.list ha
      obtain ⟨as, rd⟩ := Dp.readsAll I _ _ its (RepL.dp c3 ra) rv
      have rd0 := rd
      rw [toDs_map] at rd c2
      refine PySem.W.min_list_data (I.ok.hd hc) pl.isList (x := toD x) (xs := xs.map toD) (by simpa using rd) (mm_alike h) (by have := c2; rw [List.map_cons] at this; omega) fun i v h' tk bs hv rd' keep => ?_
      rw [← minP_D] at rd'
      obtain ⟨z, rz, pz⟩ := pick_rep (h' := h') rv ra (by simpa using hv) rd' (fun y hy => by
        obtain ⟨bs, q⟩ := reads_at rd0 i v y (by simpa using hv) hy
        exact ⟨bs, Reads.keeps keep q⟩) (minP_mem x xs) h2 h3
      exact ⟨z, H, I.kept (t' := tk) keep, rz, k z F H (.refl fz) pz⟩
    · cases e
  · cases e
theorem cr_maxF (hc : X.calm = true) (hu : X.A.units + 100 < cLine) : CallR X (.builtin "max") (rL X.K maxF) := by
  refine call_of fun pins s σ H xs us Q F ps r I rx fz sz r1 e k => ?_
  unfold maxF at e
  split at e
  · cases e
    obtain ⟨v, w, rfl, q1, q2⟩ := r1.two
    cases q1.int; cases q2.int
    exact call_max2 hc pins s σ H _ us Q I rx ⟨_, _, rfl, k _ F H (.refl fz) (.int _)⟩
  · split at e
    · rename_i x xs h
      cases e
      obtain ⟨h1, h2, h3, h4⟩ := comparable_ok h
      obtain ⟨c1, c2, c3⟩ := all_shaped h1
      obtain ⟨v, rfl, q1⟩ := r1.one
      obtain ⟨a, vs, rfl, ha, ra⟩ := q1.lst
      obtain ⟨u, rfl, ru⟩ := rx.one
      cases ru
      obtain ⟨its, rv, pl, hz⟩ := I.list ha
      obtain ⟨as, rd⟩ := Dp.readsAll I _ _ its (RepL.dp c3 ra) rv
      have rd0 := rd
      rw [toDs_map] at rd c2
      refine PySem.W.max_list_data (I.ok.hd hc) pl.isList (x := toD x) (xs := xs.map toD) (by simpa using rd) (mm_alike h) (by have := c2; rw [List.map_cons] at this; omega) fun i v h' tk bs hv rd' keep => ?_
      rw [← maxP_D] at rd'
      obtain ⟨z, rz, pz⟩ := pick_rep (h' := h') rv ra (by simpa using hv) rd' (fun y hy => by
        obtain ⟨bs, q⟩ := reads_at rd0 i v y (by simpa using hv) hy
        exact ⟨bs, Reads.keeps keep q⟩) (maxP_mem x xs) h2 h3
      exact ⟨z, H, I.kept (t' := tk) keep, rz, k z F H (.refl fz) pz⟩
    · cases e
  · cases e
end
end PP

/-! PP, part f: sorted. -/
namespace PP
open PySem PySem.Spec PyProof.Rows L2
section
variable {prog : Program} {w : World} {A : Around} {s : Shared}
/-- one item, of whatever kind -/
theorem sortsAt_one {v : Value} {d : PyData} {as : List Addr} (rd : Reads s.heap v d as) (al : PySem.W.alike d d = true) (hn : d ≠ .none) (hu : A.units + d.depth < cLine) : PySem.W.SortsAt prog w A s (PySem.W.dataKind s.heap [d]) [v] := by
  have hal : PySem.W.AllAlike [d] := fun x hx y hy => by
    rw [List.mem_singleton] at hx hy
    subst hx hy
    exact al
  refine ⟨fun v' hv => ?_, ⟨general', fun E x y a b Q ha hb hq => ?_, fun h2 => absurd h2 (by simp)⟩⟩
  · rw [List.mem_singleton] at hv
    subst hv
    exact ⟨_, PySem.W.dataKind_some hal (List.mem_singleton.mpr rfl) rd⟩
  · obtain ⟨d1, as1, h1, r1, rfl⟩ := PySem.W.dataKind_inv ha
    obtain ⟨d2, as2, h2, r2, rfl⟩ := PySem.W.dataKind_inv hb
    rw [List.mem_singleton] at h1 h2
    subst h1 h2
    show wpAny (model prog w) A (oneLt' false x y) Q E s
    exact PySem.W.oneLt_alike (fun z => by cases z) r1 r2 al hn (Nat.lt_of_le_of_lt (Nat.add_le_add_left (Nat.min_le_left _ _) _) hu) hq
end
section
variable {X : Cx}
/-- the end of sorted: the new list stands -/
theorem sorted_end {pins : List (Addr × Obj)} {σ : L2.St} {H : Hp} {s : Shared} {Q : VK} {F : Addr → Prop} {us out : List Value} {xs : List PV} (I : Inv X pins σ H s) (fz : ∀ a, F a → ∃ o, H a = some o) (hl : out.length ≤ sizeLine)
    (e : PySem.W.EachIs (fun u x => ∃ v, RelV v u ∧ Rep X.K F H v x) out xs) (k : ∀ (z : V) (F' : Addr → Prop) (H' : Hp), Nw F H F' H' → Rep X.K F' H' z (.lst xs) → Q z H') :
    EP X pins σ Q (.ref (s.heap.objs.size + 1)) { s with heap := sortedAll s.heap us (List.toArray out) } := by
  obtain ⟨vs, va, ra⟩ := vals_each e
  obtain ⟨c, hc⟩ := sortedAll_at s.heap us out.toArray
  have np : H (s.heap.objs.size + 1) = none := I.hok.fresh (Nat.le_succ _)
  obtain ⟨N, R⟩ := new_list fz np ra
  refine ⟨.ref (s.heap.objs.size + 1), _, I.laid (t' := s.toks) (fun b u q => sortedAll_old q) (Nat.le_succ _) ?_, rfl, k _ _ _ N R⟩
  exact ⟨by rw [va.length]; exact hl, out, c, va, hc⟩
theorem sortable_ok {xs : List PV} (h : sortable xs = true) (hn : ∀ x ∈ xs, isNone x = false) : PySem.W.Sortable (xs.map toD) ∨ ∃ d, xs = [d] := by
  unfold sortable at h
  simp only [Bool.or_eq_true, List.all_eq_true, decide_eq_true_eq] at h
  rcases h with (h | h) | h
  · refine .inl (.inl fun d hd => ?_)
    obtain ⟨x, hx, rfl⟩ := List.mem_map.mp hd
    have := h x hx
    cases x <;> simp only [tupOf] at this <;> first | (cases this; done) | skip
    all_goals
      split at this
      · rename_i e
        cases e
        exact ⟨_, _, by simp only [toD, toDs]; rfl⟩
      · cases this
  · refine .inl (.inr fun d hd => ?_)
    obtain ⟨x, hx, rfl⟩ := List.mem_map.mp hd
    have := h x hx
    have h2 := hn x hx
    cases x <;> simp [tupOf, toD, isNone] at this h2 ⊢
  · match xs, h with
    | [], _ => exact .inl (.inl fun d hd => absurd hd (by simp))
    | [d], h => exact .inr ⟨d, rfl⟩
    | _ :: _ :: _, h => exact absurd h (by simp)
theorem depth_le {xs : List PyData} {n : Nat} (h : PyData.depthAll xs ≤ n) : ∀ x ∈ xs, x.depth ≤ n := by
  induction xs with
  | nil => intro x hx; simp at hx
  | cons y ys ih =>
    simp only [PyData.depthAll] at h
    intro x hx
    rcases List.mem_cons.mp hx with rfl | hx
    · omega
    · exact ih (by omega) x hx
theorem reads_each {h : Heap} : ∀ {us : List Value} {xs : List PV} {as : List Addr}, ReadsAll h us (toDs xs) as → PySem.W.EachIs (fun v b => ∃ as, Reads h v (toD b) as) us xs
  | _, [], _, r => by unfold toDs at r; cases r; exact .nil
  | _, x :: xs, _, r => by
    unfold toDs at r
    cases r with | cons r t => exact .cons ⟨_, r⟩ (reads_each t)
theorem cr_sortedF (hu : X.A.units + 100 < cLine) : CallR X (.builtin "sorted") (rL X.K sortedF) := by
  refine call_of fun pins s σ H xs us Q F ps r I rx fz sz r1 e k => ?_
  unfold sortedF at e
  split at e
  · split at e
    · rename_i xs h
      cases e
      rw [Bool.and_eq_true] at h
      obtain ⟨hc, h3⟩ := h
      obtain ⟨h1, h2, _, h4⟩ := comparable_ok hc
      obtain ⟨c1, c2, c3⟩ := all_shaped h1
      obtain ⟨v, rfl, q1⟩ := r1.one
      obtain ⟨u, rfl, ru⟩ := rx.one
      obtain ⟨a, vs, rfl, ha, ra⟩ := q1.lst
      cases ru
      obtain ⟨its, rv, pl, hz⟩ := I.list ha
      obtain ⟨as, rd⟩ := Dp.readsAll I _ _ its (RepL.dp c3 ra) rv
      have l1 := rv.length
      have l2 := ra.length
      have el := each_vals rv ra
      have er := reads_each rd
      have lm : (sortL xs).length = xs.length := List.length_mergeSort ..
      have dd : ∀ x ∈ xs, (toD x).depth ≤ 60 := fun x hx => depth_le (by rw [toDs_map] at c2; exact c2) _ (List.mem_map_of_mem hx)
      rcases sortable_ok h3 h4 with hs | ⟨d, rfl⟩
      · refine PySem.W.sorted_data (R := fun u x => ∃ v, RelV v u ∧ Rep X.K F H v x) (enc := toD) pl.isList el er (alikeB_all h2) hs (by omega) (fun b hb => by have := dd b hb; omega) fun out hl ho => ?_
        exact sorted_end I fz (by omega) ho k
      · have al : PySem.W.AllAlike ([d].map toD) := alikeB_all h2
        match its, rv, rd, el, er with
        | [u], rv, rd, el, er =>
          obtain ⟨bs, rdu⟩ : ∃ bs, Reads s.heap u (toD d) bs := by
            cases er with | cons r _ => exact r
          have rk : Reads (PySem.W.sortingHeap (PySem.W.copyHeap s.heap [u]) (s.heap.objs.size + 1) [u]) u (toD d) bs := Reads.keeps (fun _ _ => PySem.W.sorting_copy_old) rdu
          have dd := dd d (by simp)
          have hd : toD d ≠ .none := fun z => by
            have := h4 d (by simp)
            cases d <;> simp [toD, isNone] at z this
          refine PySem.W.sorted_vals pl.isList (sortsAt_one (s := { s with heap := PySem.W.sortingHeap (PySem.W.copyHeap s.heap [u]) (s.heap.objs.size + 1) [u] }) rk (al _ (by simp) _ (by simp)) hd (by show X.A.units + 1 + 1 + _ < _; omega)) (by simp; rw [sizeLine_eq]; omega) ?_
          have ek : PySem.W.EachIs (fun v b => ∃ as, Reads (PySem.W.sortingHeap (PySem.W.copyHeap s.heap [u]) (s.heap.objs.size + 1) [u]) v (toD b) as) [u] [d] := .cons ⟨bs, rk⟩ .nil
          have q := PySem.W.sortVals_data (R := fun u x => ∃ v, RelV v u ∧ Rep X.K F H v x) (enc := toD) false el ek al
          refine sorted_end I fz ?_ q k
          rw [PySem.W.sortVals_length false rfl]
          simp; rw [sizeLine_eq]; omega
        | [], rv, _, _, er => cases er
        | _ :: _ :: _, rv, _, _, er => cases er with | cons _ t => cases t
    · cases e
  · cases e
end
end PP

/-! PP, part g: subscripts, slices, get, index, isinstance, truth. -/
namespace PP
open PySem PySem.Spec PyProof.Rows L2

def getF (d k : PV) : Option PV := match seqOf d with
  | some xs => match k with
    | .int i => atI xs i
    | _ => none
  | none => (dgetF d k).bind id
theorem RepL.atI {K : PySem.W.Frag} {F : Addr → Prop} {H : Hp} {vs : List V} {xs : List PV} {i : Int} {x : PV} (r : RepL K F H vs xs) (h : L2.atI xs i = some x) : ∃ v, L2.atI vs i = some v ∧ Rep K F H v x := by
  unfold L2.atI at h ⊢
  rw [r.length]
  obtain ⟨j, hj, e⟩ := Option.bind_eq_some_iff.mp h
  obtain ⟨v, hv, rv⟩ := r.get e
  exact ⟨v, by rw [hj]; exact hv, rv⟩

section
variable {X : Cx} {a b e o : Expr} {da db : Den} {pos apos cpos : Pos}
theorem ix_getF (hu : X.A.units + 1 < cLine) : IxR X (rB X.K getF) := by
  intro value slice pins s σ H x y v u Q I rx ry ⟨F, p, q, r, fz, sz, r1, r2, e, k⟩ hs
  unfold getF at e
  split at e
  · rename_i xs hseq
    split at e
    · obtain ⟨a, vs, rfl, h, rl⟩ := r1.seq hseq
      cases r2.int
      obtain ⟨w, hw, rw'⟩ := rl.atI e
      rcases h with h | h
      · exact ix_list value slice pins s σ H _ _ v u Q I rx ry ⟨a, vs, _, w, rfl, rfl, h, hw, k w F H (.refl fz) rw'⟩ hs
      · exact ix_tup value slice pins s σ H _ _ v u Q I rx ry ⟨a, vs, _, w, rfl, rfl, h, hw, k w F H (.refl fz) rw'⟩ hs
    · cases e
  · obtain ⟨w, hg, e⟩ := Option.bind_eq_some_iff.mp e
    obtain rfl : w = some r := e
    obtain ⟨a, rfl, D⟩ := r1.dic (dgetF_dic hg)
    obtain ⟨w, g, w1, _⟩ := D.dget r2 hg
    obtain ⟨z, rfl, rz⟩ := w1 r rfl
    cases rx
    exact tail_any (dict_typeIs I g) PySem.F.slot_dict_getitem.lookup (d_getItem hu I g ry fun w' s' I' rw' => ⟨z, H, I', rw', k z F H (.refl fz) rz⟩) hs
theorem plainIx {b : Expr} (h : match b with | .Slice _ _ _ _ => False | _ => True) : PlainIx b := by
  intro o i
  cases b <;> first | rfl | exact h.elim
theorem ve_sub (hu : X.A.units + 1 < cLine) (hs : PlainIx b) (ha : VE X a da) (hb : VE X b db) : VE X (.Subscript a b pos) (dBin getF da db) :=
  pe_imp (pe_ix (ix_getF hu) ha hb hs) fun σ H Q sz ⟨F, env, r, env', R, hd, q⟩ => by
    unfold dBin at hd
    obtain ⟨⟨p, e1⟩, h1, hd⟩ := Option.bind_eq_some_iff.mp hd
    obtain ⟨⟨q', e2⟩, h2, hd⟩ := Option.bind_eq_some_iff.mp hd
    obtain ⟨z, h3, hz⟩ := Option.map_eq_some_iff.mp hd
    cases hz
    refine ⟨F, env, p, e1, R, h1, fun x F1 H1 R1 M1 r1 => ⟨F1, e1, q', e2, R1, h2, fun y F2 H2 R2 M2 r2 => ⟨F2, p, q', r, R2.fz, R2.sz, .rep (r1.ex (M2.ex R1)), .rep r2, h3, fun z F3 H3 N r3 s3 => ?_⟩⟩⟩
    exact q z F3 H3 (N.rel R2 s3) ((M1.trans M2).trans N.mv) r3
theorem ve_subL {i : Nat} (hu : X.A.units + 1 < cLine) (hs : PlainIx b) (ha : PE X a (tVar i)) (hb : VE X b db) : VE X (.Subscript a b pos) (dBinL getF i db) :=
  pe_imp (pe_ix (ix_getF hu) ha hb hs) fun σ H Q sz ⟨F, env, r, env', R, hd, q⟩ => by
    unfold dBinL at hd
    obtain ⟨_, h0, hd⟩ := Option.bind_eq_some_iff.mp hd
    obtain ⟨⟨p, e1⟩, h1, hd⟩ := Option.bind_eq_some_iff.mp hd
    obtain ⟨y, h2, hd⟩ := Option.bind_eq_some_iff.mp hd
    obtain ⟨z, h3, hz⟩ := Option.map_eq_some_iff.mp hd
    cases hz
    obtain ⟨x, sx, _⟩ := slotv_rep R h0
    refine ⟨x, sx, F, env, p, _, R, h1, fun x2 F1 H1 R1 M1 r1 => ?_⟩
    obtain ⟨x', sx', r'⟩ := slotv_rep R1 h2
    rw [sx] at sx'; cases sx'
    exact ⟨F1, y, p, r, R1.fz, R1.sz, r', .rep r1, h3, fun z F3 H3 N r3 s3 => q z F3 H3 (N.rel R1 s3) (M1.trans N.mv) r3⟩

/-! ### the receiver of a method: evaluated, or a slot that is only read -/
def dHead (o : Arg) : Den := fun e => match o with
  | .d a => a e
  | .b i => (slotv e i).map fun x => (x, e)
/-- the receiver as it stands when its method runs -/
def dBack (o : Arg) (p : PV) (e : PEn) : Option PV := match o with
  | .d _ => some p
  | .b i => slotv e i
/-- the sort of a value -/
def kind : PV → Nat
  | .lst _ => 1
  | .fup _ => 2
  | .dk _ => 3
  | .dt _ => 3
  | _ => 0
/-- a method: what the receiver is at first must pass the test g -/
def dRecv (g : PV → Bool) (o : Arg) (as : List Den) (f : PV → List PV → Option PV) : Den := fun e =>
  (dHead o e).bind fun p => if g p.1 then (dArgs as p.2).bind fun q => (dBack o p.1 q.2).bind fun y => if kind y = kind p.1 then (f y q.1).map fun z => (z, q.2) else none else none
/-- an argument as an expression -/
inductive VArg (X : Cx) : Expr → Arg → Prop
  | d {e : Expr} {da : Den} : VE X e da → VArg X e (.d da)
  | b {e : Expr} {i : Nat} : PE X e (tVar i) → VArg X e (.b i)
theorem head_run {ar : Arg} (h : VArg X o ar) {pins : List (Addr × Obj)} {s : Shared} {σ : L2.St} {H : Hp} {F : Addr → Prop} {env e1 : PEn} {p : PV} (I : Inv X pins σ H s) (R : Rel X.K F H env σ) (hd : dHead ar env = some (p, e1)) :
    wpAny (model X.prog X.w) X.A (eval o X.env) (fun u s1 => ∃ (x : V) (F1 : Addr → Prop) (H1 : Hp), Inv X pins σ H1 s1 ∧ RelV x u ∧ Rel X.K F1 H1 e1 σ ∧ Mv F H env σ F1 H1 e1 σ ∧ BRep X.K F1 H1 x p ∧
      ∀ (F2 : Addr → Prop) (H2 : Hp) (e2 : PEn) (y : PV), Rel X.K F2 H2 e2 σ → Mv F1 H1 e1 σ F2 H2 e2 σ → dBack ar p e2 = some y → BRep X.K F2 H2 x y) X.xe s := by
  cases h with
  | d h =>
    refine thn (h.run pins s σ H (fun x H1 => ∃ F1, Rel X.K F1 H1 e1 σ ∧ Mv F H env σ F1 H1 e1 σ ∧ Rep X.K F1 H1 x p) I ⟨F, env, p, e1, R, hd, fun x F1 H1 R1 M1 r1 => ⟨F1, R1, M1, r1⟩⟩) fun u s1 ⟨x, H1, I1, rx, F1, R1, M1, r1⟩ => ?_
    exact ⟨x, F1, H1, I1, rx, R1, M1, .rep r1, fun F2 H2 e2 y R2 M2 e => by cases e; exact .rep (r1.ex (M2.ex R1))⟩
  | b h =>
    obtain ⟨x0, hx, e⟩ := Option.map_eq_some_iff.mp hd
    cases e
    obtain ⟨x, sx, r⟩ := slotv_rep R hx
    refine thn (h.run pins s σ H (fun y H1 => y = x ∧ H1 = H) I ⟨x, sx, rfl, rfl⟩) fun u s1 ⟨y, H1, I1, rx, e1, e2⟩ => ?_
    subst e1 e2
    refine ⟨y, F, H1, I1, rx, R, .refl, r, fun F2 H2 e2 z R2 M2 e => ?_⟩
    obtain ⟨x', sx', r'⟩ := slotv_rep R2 e
    rw [sx] at sx'; cases sx'; exact r'
theorem args_run {es : List Expr} {ds : List Den} (h : VA X es (dArgs ds)) {pins : List (Addr × Obj)} {s : Shared} {σ : L2.St} {H : Hp} {F : Addr → Prop} {env e1 : PEn} {ps : List PV} (pos : Pos) (I : Inv X pins σ H s) (R : Rel X.K F H env σ) (hd : dArgs ds env = some (ps, e1)) :
    wpAny (model X.prog X.w) X.A (spliced (backTo pos (starEach es X.env))) (fun us s1 => ∃ (xs : List V) (F1 : Addr → Prop) (H1 : Hp), Inv X pins σ H1 s1 ∧ Vals xs us ∧ Rel X.K F1 H1 e1 σ ∧ Mv F H env σ F1 H1 e1 σ ∧ RepL X.K F1 H1 xs ps) X.xe s := by
  refine thn (h.run pos pins s σ H (fun xs H1 => ∃ F1, Rel X.K F1 H1 e1 σ ∧ Mv F H env σ F1 H1 e1 σ ∧ RepL X.K F1 H1 xs ps) I ⟨F, env, ps, e1, R, hd, fun x F1 H1 R1 M1 r1 => ⟨F1, R1, M1, r1⟩⟩) fun u s1 ⟨x, H1, I1, rx, F1, R1, M1, r1⟩ => ?_
  exact ⟨x, F1, H1, I1, rx, R1, M1, r1⟩

/-- what is seen of a method call's text -/
structure MCall (X : Cx) (o : Expr) (m : Str) (apos : Pos) (es : List Expr) (cpos : Pos) : Prop where
  base : attributeBase o m X.env (eval o X.env) = eval o X.env
  few : ((backTo cpos (starEach es X.env)).all (fun x => !x.1) && (backToKw cpos (keywordEach [] X.env)).all (fun x => x.1.isSome)
    && decide (es.length + ([] : List Keyword).length + (if ([] : List Keyword).isEmpty then 0 else 1) < 30)) = true
  line : (apos.endLine == cpos.line) = true
  star : es.all notStar = true
theorem starFew {env : Env} {pos : Pos} : ∀ {es : List Expr}, es.all notStar = true → (backTo pos (starEach es env)).all (fun x => !x.1) = true
  | [], _ => rfl
  | e :: es, h => by
    simp only [List.all_cons, Bool.and_eq_true] at h
    have ih := starFew (env := env) (pos := pos) h.2
    rw [starEach_cons h.1]
    simp only [backTo, List.map_cons, List.all_cons, Bool.not_false, Bool.true_and] at ih ⊢
    exact ih
def baseOk : Expr → Bool
  | .Call _ as _ _ => !as.isEmpty
  | _ => true
theorem mcall {m : Str} {es : List Expr} (hb : baseOk o = true) (hs : es.all notStar = true) (hl : es.length < 20) (line : (apos.endLine == cpos.line) = true) : MCall X o m apos es cpos where
  base := by
    cases o <;> first
      | rfl
      | (rename_i f as kw p
         cases as with
         | nil => simp [baseOk] at hb
         | cons a r => cases f <;> rfl)
  few := by
    rw [starFew hs]
    show (true && true && decide (es.length + 0 + 0 < 30)) = true
    simp; omega
  line := line
  star := hs

/-- a method of a built-in type, over values: what must be known of it -/
structure MFn (X : Cx) (m : Str) (g : PV → Bool) (f : PV → List PV → Option PV) : Prop where
  run : ∀ (pins : List (Addr × Obj)) (s : Shared) (σ : L2.St) (H : Hp) (x : V) (u : Value) (p : PV) (F : Addr → Prop), Inv X pins σ H s → RelV x u → BRep X.K F H x p → g p = true →
    ∃ T id, PlainAttrs T ∧ PySem.Slot T m id ∧ typeOf (.builtin id) = pure (.type "method_descriptor") ∧ s.TypeIs u T ∧ (∀ a, u = .ref a → ∃ ob, s.heap.get? a = some ob ∧ ob.dict = none) ∧
      ∀ (s2 : Shared) (H2 : Hp) (xs : List V) (us : List Value) (F2 : Addr → Prop) (y : PV) (ps : List PV) (r : PV) (Q : VK), Inv X pins σ H2 s2 → Vals xs us → (∀ a, F2 a → ∃ o, H2 a = some o) → Sized H2 → BRep X.K F2 H2 x y → kind y = kind p → RepL X.K F2 H2 xs ps → f y ps = some r →
        (∀ (z : V) (F' : Addr → Prop) (H' : Hp), Nw F2 H2 F' H' → Rep X.K F' H' z r → Q z H') → wpAny (model X.prog X.w) X.A (call (.builtin id) (u :: us)) (EP X pins σ Q) X.xe s2
theorem ve_meth {m : Str} {g : PV → Bool} {f : PV → List PV → Option PV} {ar : Arg} {es : List Expr} {ds : List Den} (hm : MFn X m g f) (mc : MCall X o m apos (e :: es) cpos) (ho : VArg X o ar) (ha : VA X (e :: es) (dArgs ds)) :
    VE X (.Call (.Attribute o m apos) (e :: es) [] cpos) (dRecv g ar ds f) := by
  refine ⟨fun pins s σ H Q I ⟨F, env, r, env', R, hd, q⟩ => ?_⟩
  unfold dRecv at hd
  obtain ⟨⟨p, e1⟩, h1, hd⟩ := Option.bind_eq_some_iff.mp hd
  split at hd
  · rename_i hg
    obtain ⟨⟨ps, e2⟩, h2, hd⟩ := Option.bind_eq_some_iff.mp hd
    obtain ⟨y, h3, hd⟩ := Option.bind_eq_some_iff.mp hd
    split at hd
    · rename_i hk
      obtain ⟨z, h4, hz⟩ := Option.map_eq_some_iff.mp hd
      cases hz
      refine wpAny_Call_method_late mc.base mc.few mc.line rfl (thn (head_run ho I R h1) fun u s1 ⟨x, F1, H1, I1, rx, R1, M1, r1, back⟩ => ?_)
      obtain ⟨T, id, pa, slot, hty, hT, hn, hc⟩ := hm.run pins s1 σ H1 x u p F1 I1 rx r1 hg
      refine ⟨T, id, pa, slot, hty, hT, hn, ?_⟩
      have hA := args_run ha cpos I1 R1 h2
      have hs := mc.star
      have h5 : es.all notStar = true := by simp only [List.all_cons, Bool.and_eq_true] at hs; exact hs.2
      have h6 : notStar e = true := List.all_eq_true.mp hs _ List.mem_cons_self
      rw [starEach_cons h6] at hA ⊢
      refine Calls.callWith_builtin (by show (false || (backTo cpos (starEach es X.env)).any (·.1)) = false; rw [star_plain h5 cpos]; rfl) (Calls.evalArgs_plain ?_)
      refine thn hA fun us s2 ⟨xs, F2, H2, I2, rxs, R2, M2, r2⟩ => ?_
      have rb := back F2 H2 e2 y R2 M2 h3
      refine thn (hc s2 H2 xs us F2 y ps _ (fun v H' => Sized H' → Q v H') I2 rxs R2.fz R2.sz rb hk r2 h4 fun v F3 H3 N r3 s3 => q v F3 H3 (N.rel R2 s3) ((M1.trans M2).trans N.mv) r3) fun u' s' ⟨v, H', I', rv, qv⟩ => ⟨v, H', I', rv, qv (sized_of I'.hok)⟩
    · cases hd
  · cases hd

/-! ### get, index -/
def mgetF (d : PV) (ks : List PV) : Option PV := match ks with
  | [k] => (dgetF d k).map fun o => o.getD .non
  | [k, x] => (dgetF d k).map fun o => o.getD x
  | _ => none
theorem RepL.one {K : PySem.W.Frag} {F : Addr → Prop} {H : Hp} {vs : List V} {x : PV} (r : RepL K F H vs [x]) : ∃ v, vs = [v] ∧ Rep K F H v x := by
  cases r with | cons r t => cases t; exact ⟨_, rfl, r⟩
theorem RepL.two {K : PySem.W.Frag} {F : Addr → Prop} {H : Hp} {vs : List V} {x y : PV} (r : RepL K F H vs [x, y]) : ∃ v w, vs = [v, w] ∧ Rep K F H v x ∧ Rep K F H w y := by
  cases r with | cons r t => cases t with | cons r2 t => cases t; exact ⟨_, _, rfl, r, r2⟩
theorem getD_rep {K : PySem.W.Frag} {F : Addr → Prop} {H : Hp} {o : Option PV} {w : Option V} {d : V} {x : PV} (h1 : ∀ y, o = some y → ∃ u, w = some u ∧ Rep K F H u y) (h2 : o = none → w = none) (rd : Rep K F H d x) : Rep K F H (w.getD d) (o.getD x) := by
  cases o with
  | none => rw [h2 rfl]; exact rd
  | some y => obtain ⟨u, e, r⟩ := h1 y rfl; rw [e]; exact r
theorem isD_of {K : PySem.W.Frag} {F : Addr → Prop} {H : Hp} {a : Addr} {d : PV} (D : DicAt K F H a d) : IsD H a := by
  cases D with
  | dk e _ => exact .inl ⟨_, .inl e⟩
  | dt e _ => exact .inr ⟨_, .inl e⟩
theorem m_get (hu : X.A.units + 1 < cLine) : MFn X "get" isDic mgetF := ⟨fun pins s σ H x u p F I rx r1 hg => by
  obtain ⟨a, rfl, D⟩ := r1.dic hg
  cases rx
  obtain ⟨t1, t2, _⟩ := isD_at I (isD_of D)
  refine ⟨"dict", _, PySem.F.plainAttrs_dict, PySem.F.slot_dict_get, PySem.F.type_dict_get, t1, t2, fun s2 H2 xs us F2 y ps r Q I2 rxs fz sz rb hk rl e k => ?_⟩
  unfold mgetF at e
  split at e
  · obtain ⟨o, h, e⟩ := Option.map_eq_some_iff.mp e
    subst e
    obtain ⟨v, rfl, q1⟩ := rl.one
    obtain ⟨a', e', D'⟩ := rb.dic (dgetF_dic h)
    cases e'
    obtain ⟨w, g, w1, w2⟩ := D'.dget (.rep q1) h
    obtain ⟨u1, rfl, ru⟩ := rxs.one
    exact d_get1 hu I2 g ru fun w' s' I' rw' => ⟨_, H2, I', rw', k _ F2 H2 (.refl fz) (getD_rep w1 w2 .non)⟩
  · obtain ⟨o, h, e⟩ := Option.map_eq_some_iff.mp e
    subst e
    obtain ⟨v, v2, rfl, q1, q2⟩ := rl.two
    obtain ⟨a', e', D'⟩ := rb.dic (dgetF_dic h)
    cases e'
    obtain ⟨w, g, w1, w2⟩ := D'.dget (.rep q1) h
    obtain ⟨u1, u2, rfl, ru, ru2⟩ := rxs.two
    exact d_get2 hu I2 g ru ru2 fun w' s' I' rw' => ⟨_, H2, I', rw', k _ F2 H2 (.refl fz) (getD_rep w1 w2 q2)⟩
  · cases e⟩
def isSeqI : PV → Bool
  | .lst _ => true
  | .fup _ => true
  | _ => false
/-- the first place of an equal item -/
def indexF (d : PV) (ks : List PV) : Option PV := match d, ks with
  | .lst xs, [k] => if okD 60 (.lst xs) && okD 60 k then (xs.findIdx? fun y => eqv y k).map fun j => .int (j : Nat) else none
  | .fup xs, [.int i] => (toInts xs).bind fun is => if i ∈ is then some (.int (is.idxOf i : Nat)) else none
  | _, _ => none
theorem m_index (hu : X.A.units + 65 < cLine) : MFn X "index" isSeqI indexF := ⟨fun pins s σ H x u p F I rx r1 hg => by
  cases p <;> simp [isSeqI] at hg
  · rename_i zs
    obtain ⟨a, its, vs, rfl, ha, ra⟩ := r1.fup
    cases rx
    obtain ⟨e1, _⟩ := I.hok a _ ha
    refine ⟨"tuple", _, PySem.F.plainAttrs_tuple, PySem.F.slot_tuple_index, PySem.F.type_tuple_index, ⟨_, e1, rfl⟩, fun b e => by cases e; exact ⟨_, e1, rfl⟩, fun s2 H2 xs us F2 y ps r Q I2 rxs fz sz rb hk rl e k => ?_⟩
    cases y <;> simp [kind] at hk
    unfold indexF at e
    split at e
    · rename_i h; cases h
    · rename_i ys i h
      cases h
      obtain ⟨is, h1, e⟩ := Option.bind_eq_some_iff.mp e
      split at e
      · rename_i hi
        cases e
        obtain ⟨a', its', vs', e', hb, rb'⟩ := rb.fup
        cases e'
        obtain ⟨v, rfl, q1⟩ := rl.one
        obtain ⟨u1, rfl, ru⟩ := rxs.one
        cases q1
        obtain ⟨t, rfl⟩ := ru
        obtain ⟨us2, rv, pl, _⟩ := I2.tuple (.inl (.inr ⟨_, hb⟩))
        have ei := rb'.ints h1
        subst ei
        exact PySem.SeqAt.tuple_index_ints (show s2.heap.IsTuple a us2.toArray from pl) (Vals.ints rv) hi ⟨.int _, H2, I2.tok _, ⟨_, rfl⟩, k _ F2 H2 (.refl fz) (.int _)⟩
      · cases e
    · cases e
  · rename_i zs
    obtain ⟨a, vs, rfl, ha, ra⟩ := r1.lst
    cases rx
    obtain ⟨_, _, pl, _⟩ := I.list ha
    refine ⟨"list", _, PySem.F.plainAttrs_list, PySem.F.slot_list_index, PySem.F.type_list_index, pl.isList.typeIs, fun b e => by cases e; obtain ⟨o, n, e, c, hd, _⟩ := pl; exact ⟨o, e, hd⟩, fun s2 H2 xs us F2 y ps r Q I2 rxs fz sz rb hk rl e k => ?_⟩
    cases y <;> simp [kind] at hk
    rename_i ys
    match ps, rl, e with
    | [], _, e => simp [indexF] at e
    | _ :: _ :: _, _, e => simp [indexF] at e
    | [i], rl, e =>
      simp only [indexF] at e
      split at e
      · rename_i h
        obtain ⟨j, hj, e⟩ := Option.map_eq_some_iff.mp e
        subst e
        rw [Bool.and_eq_true] at h
        obtain ⟨s1, n1⟩ := okD_shaped h.1
        obtain ⟨s2', n2⟩ := okD_shaped h.2
        obtain ⟨v, rfl, q1⟩ := rl.one
        have dl := rb.dp n1
        simp only [toD] at dl s1
        rw [List.findIdx?_eq_some_iff_getElem] at hj
        obtain ⟨hlt, he, hno⟩ := hj
        refine mt_indexD hu pins s2 σ H2 (.ref a) [v] _ us Q I2 rfl rxs ⟨a, v, toD i, toDs ys, j, toD ys[j], rfl, rfl, dl, q1.dp n2, s1, s2', ?_, he, fun m z' hm hz => ?_, k _ F2 H2 (.refl fz) (.int _)⟩
        · rw [toDs_map, List.getElem?_map, List.getElem?_eq_getElem hlt]; rfl
        · rw [toDs_map, List.getElem?_map] at hz
          obtain ⟨w, hw, ew⟩ := Option.map_eq_some_iff.mp hz
          subst ew
          obtain ⟨hm', ew⟩ := List.getElem?_eq_some_iff.mp hw
          subst ew
          have := hno m hm
          simpa [eqv] using this
      · cases e⟩

/-! ### isinstance -/
inductive TyN where
  | int | bool | str | tuple | list
  deriving DecidableEq
def TyN.name : TyN → String
  | .int => "int"
  | .bool => "bool"
  | .str => "str"
  | .tuple => "tuple"
  | .list => "list"
def tyName : PV → String
  | .non => "NoneType"
  | .bl _ => "bool"
  | .int _ => "int"
  | .str _ => "str"
  | .tup _ => "tuple"
  | .fup _ => "tuple"
  | .lst _ => "list"
  | .dk _ => "dict"
  | .dt _ => "dict"
def isTy (t : TyN) (p : PV) : Bool := match t, p with
  | .int, .int _ => true
  | .int, .bl _ => true
  | .bool, .bl _ => true
  | .str, .str _ => true
  | .tuple, .tup _ => true
  | .tuple, .fup _ => true
  | .list, .lst _ => true
  | _, _ => false
theorem isTy_kit (t : TyN) (p : PV) : kitB (tyName p) t.name = some (isTy t p) := by
  cases t <;> cases p <;> simp only [tyName, TyN.name, isTy] <;> decide +kernel
theorem tyX_of {F : Addr → Prop} {H : Hp} {x : V} {p : PV} (r : BRep X.K F H x p) : TyX X.K H x (.type (tyName p)) := by
  cases r with
  | rep r =>
    cases r with
    | non => exact .base .non
    | bl b => exact .base (.bl b)
    | int b => exact .base (.int b)
    | str b => exact .base (.str b)
    | tup h _ => exact .base (.tup h)
    | fup h _ => exact .fTuple h
    | lst h _ =>
      rcases h.seq with (h | ⟨o, h⟩) | ⟨o, its, n, h, c, _⟩
      · exact .base (.lst h)
      · exact .base (.frz h)
      · exact .kList h c
    | dk _ h _ => exact .base (.dK h)
    | dt _ h _ => exact .base (.dT h)
  | own o =>
    cases o with
    | lst h _ => exact .base (.lst h)
    | dk h _ => exact .base (.dK h)
    | dt h _ => exact .base (.dT h)
/-- isinstance(e, T) -/
def dIsI (t : TyN) (o : Arg) : Den := fun e => (dHead o e).map fun p => (.bl (isTy t p.1), p.2)
theorem ve_isi {ar : Arg} {x : Str} {t : TyN} {p pos' : Pos} (hg : Gl X "isinstance") (hm : X.mg "isinstance" = none) (hx : Gl X x) (hmx : X.mg x = none) (hv : bootBuiltins x = some (.type t.name)) (hn : x ≠ "__name__") (hdb : (x == ("__debug__" : Str)) = false)
    (hs : notStar e = true) (ho : VArg X e ar) : VE X (.Call (.Name "isinstance" p) [e, .Name x pos'] [] pos) (dIsI t ar) := by
  have hb : PE X (.Name x pos') (tC (.ty t.name)) := pe_bltn hx hmx hv rfl hn hdb
  have hb' : bootBuiltins "isinstance" = some (.builtin "isinstance") := by decide +kernel
  cases ho with
  | d h =>
    refine pe_imp (pe_callB call_isi hg hm hb' (pa_cons h (pa_cons hb pa_nil (starEach_cons rfl)) (starEach_cons hs)) (by decide) (by decide) (starEach_cons hs) (star_plain rfl pos)) fun σ H Q sz ⟨F, env, r, env', R, hd, q⟩ => ?_
    unfold dIsI dHead at hd
    obtain ⟨⟨y, e1⟩, h1, hz⟩ := Option.map_eq_some_iff.mp hd
    cases hz
    exact ⟨F, env, y, _, R, h1, fun x' F1 H1 R1 M1 r1 => ⟨x', _, _, _, _, rfl, .ty _, tyX_of (.rep r1), kit_ty (isTy_kit t y), fun _ => q _ F1 H1 R1 M1 (.bl _)⟩⟩
  | b h =>
    refine pe_imp (pe_callB call_isi hg hm hb' (pa_cons h (pa_cons hb pa_nil (starEach_cons rfl)) (starEach_cons hs)) (by decide) (by decide) (starEach_cons hs) (star_plain rfl pos)) fun σ H Q sz ⟨F, env, r, env', R, hd, q⟩ => ?_
    unfold dIsI dHead at hd
    obtain ⟨⟨y, e1⟩, h1, hz⟩ := Option.map_eq_some_iff.mp hd
    obtain ⟨y', h2, h3⟩ := Option.map_eq_some_iff.mp h1
    cases h3
    cases hz
    obtain ⟨x', sx, rx⟩ := slotv_rep R h2
    exact ⟨x', sx, x', _, _, _, _, rfl, .ty _, tyX_of rx, kit_ty (isTy_kit t y), fun _ => q _ F H R .refl (.bl _)⟩

/-! ### truth -/
def truthF : PV → Option Bool
  | .bl b => some b
  | .lst xs => some (!xs.isEmpty)
  | .tup xs => some (!xs.isEmpty)
  | .fup xs => some (!xs.isEmpty)
  | _ => none
theorem RepL.empty {K : PySem.W.Frag} {F : Addr → Prop} {H : Hp} {vs : List V} {xs : List PV} (r : RepL K F H vs xs) : vs.isEmpty = xs.isEmpty := by
  cases r <;> rfl
theorem truth_of {F : Addr → Prop} {H : Hp} {x : V} {p : PV} {b : Bool} (r : BRep X.K F H x p) (h : truthF p = some b) : TruV X.K x H b := by
  cases p <;> simp only [truthF] at h <;> cases h
  · cases r.bl; rfl
  · obtain ⟨a, vs, rfl, h, r⟩ := r.tup
    exact .inr (.inl ⟨vs, SqT.of h, by rw [r.empty]⟩)
  · obtain ⟨a, its, vs, rfl, h, r⟩ := r.fup
    exact .inr (.inl ⟨vs, .inl (.inr ⟨_, h⟩), by rw [r.empty]⟩)
  · obtain ⟨a, vs, rfl, h, r⟩ := r.lst
    exact .inl ⟨vs, h, by rw [r.empty]⟩
def dTruth (o : Arg) : DenT := fun e => (dHead o e).bind fun p => (truthF p.1).map fun b => (b, p.2)
theorem vt_truth {ar : Arg} (he : ∀ whole, isTrue e X.env whole = (do let v ← whole; standAt e.pos; holding [v] (truthy v))) (h : VArg X e ar) : VT X e (dTruth ar) := by
  cases h with
  | d h =>
    refine pt_imp (pt_truth h he) fun σ H Q sz ⟨F, env, r, env', R, hd, q⟩ => ?_
    unfold dTruth dHead at hd
    obtain ⟨⟨p, e1⟩, h1, hd⟩ := Option.bind_eq_some_iff.mp hd
    obtain ⟨b, h2, hz⟩ := Option.map_eq_some_iff.mp hd
    cases hz
    exact ⟨F, env, p, _, R, h1, fun x F1 H1 R1 M1 r1 => ⟨_, truth_of (.rep r1) h2, fun _ => q F1 H1 R1 M1⟩⟩
  | b h =>
    refine pt_imp (pt_truth h he) fun σ H Q sz ⟨F, env, r, env', R, hd, q⟩ => ?_
    unfold dTruth dHead at hd
    obtain ⟨⟨p, e1⟩, h1, hd⟩ := Option.bind_eq_some_iff.mp hd
    obtain ⟨y', h3, h4⟩ := Option.map_eq_some_iff.mp h1
    cases h4
    obtain ⟨b, h2, hz⟩ := Option.map_eq_some_iff.mp hd
    cases hz
    obtain ⟨x', sx, rx⟩ := slotv_rep R h3
    exact ⟨x', sx, _, truth_of rx h2, fun _ => q F H R .refl⟩
end
end PP

/-! PP, part h: and, or, not as values; chains; slices. -/
namespace PP
open PySem PySem.Spec PyProof.Rows L2
section
variable {X : Cx} {a b c e o : Expr} {da db dc : Den} {rest : List Expr} {pos p2 : Pos}
def dAndV (a b : Den) : Den := fun e => (a e).bind fun p => match p.1 with
  | .bl true => b p.2
  | .bl false => some (.bl false, p.2)
  | _ => none
def dOrV (a b : Den) : Den := fun e => (a e).bind fun p => match p.1 with
  | .bl false => b p.2
  | .bl true => some (.bl true, p.2)
  | _ => none
def notF : PV → Option PV
  | .bl b => some (.bl (!b))
  | _ => none
theorem ve_one {op : BoolOp} (h : VE X a da) : VE X (.BoolOp op [a] pos) da := pe_one h
theorem ve_and (ha : VE X a da) (hb : VE X (.BoolOp .And (b :: rest) pos) db) : VE X (.BoolOp .And (a :: b :: rest) pos) (dAndV da db) :=
  pe_imp (pe_and ha hb) fun σ H Q sz ⟨F, env, r, env', R, hd, q⟩ => by
    unfold dAndV at hd
    obtain ⟨⟨p, e1⟩, h1, hd⟩ := Option.bind_eq_some_iff.mp hd
    refine ⟨F, env, p, e1, R, h1, fun x F1 H1 R1 M1 r1 => ?_⟩
    cases p <;> simp only at hd <;> try cases hd
    rename_i k
    cases r1
    cases k with
    | true => exact ⟨true, rfl, by rw [if_pos rfl]; exact ⟨F1, e1, r, env', R1, hd, fun x F2 H2 R2 M2 r2 _ => q x F2 H2 R2 (M1.trans M2) r2⟩⟩
    | false =>
      cases hd
      exact ⟨false, rfl, by rw [if_neg Bool.false_ne_true]; exact fun _ => q _ F1 H1 R1 M1 (.bl _)⟩
theorem ve_or (ha : VE X a da) (hb : VE X (.BoolOp .Or (b :: rest) pos) db) : VE X (.BoolOp .Or (a :: b :: rest) pos) (dOrV da db) :=
  pe_imp (pe_or ha hb) fun σ H Q sz ⟨F, env, r, env', R, hd, q⟩ => by
    unfold dOrV at hd
    obtain ⟨⟨p, e1⟩, h1, hd⟩ := Option.bind_eq_some_iff.mp hd
    refine ⟨F, env, p, e1, R, h1, fun x F1 H1 R1 M1 r1 => ?_⟩
    cases p <;> simp only at hd <;> try cases hd
    rename_i k
    cases r1
    cases k with
    | false => exact ⟨false, rfl, by rw [if_neg Bool.false_ne_true]; exact ⟨F1, e1, r, env', R1, hd, fun x F2 H2 R2 M2 r2 _ => q x F2 H2 R2 (M1.trans M2) r2⟩⟩
    | true =>
      cases hd
      exact ⟨true, rfl, by rw [if_pos rfl]; exact fun _ => q _ F1 H1 R1 M1 (.bl _)⟩
theorem ve_not (ha : VE X a da) : VE X (.UnaryOp .Not a pos) (dUn notF da) :=
  pe_imp (pe_not ha) fun σ H Q sz ⟨F, env, r, env', R, hd, q⟩ => by
    unfold dUn at hd
    obtain ⟨⟨p, e1⟩, h1, hd⟩ := Option.bind_eq_some_iff.mp hd
    obtain ⟨z, h2, hz⟩ := Option.map_eq_some_iff.mp hd
    cases hz
    refine ⟨F, env, p, _, R, h1, fun x F1 H1 R1 M1 r1 => ?_⟩
    cases p <;> simp only [notF] at h2 <;> cases h2
    cases r1
    exact ⟨_, rfl, fun _ => q _ F1 H1 R1 M1 (.bl _)⟩
def negF : PV → Option PV
  | .int i => some (.int (-i))
  | _ => none
theorem un_negF : UnR X (unaryOp .USub) (rU1 X.K negF) := by
  intro pins s σ H x v Q I rx ⟨F, p, r, fz, sz, r1, e, k⟩
  cases p <;> simp only [negF] at e <;> cases e
  cases r1.int
  exact un_neg pins s σ H _ v Q I rx ⟨_, rfl, k _ F H (.refl fz) (.int _)⟩
theorem opr_sz {g : Value → Value → Sem Value} {r : R2} (h : OpR X g r) : OpR X g (fun x y H Q => r x y H fun v H' => Sized H' → Q v H') := fun pins s σ H x y v u Q I rx ry q =>
  thn (h pins s σ H x y v u _ I rx ry q) fun w s' ⟨z, H', I', r, k⟩ => ⟨z, H', I', r, k (sized_of I'.hok)⟩
/-- a op b op' c -/
def dChain (f g : PV → PV → Option PV) (a b c : Den) : Den := fun e => (a e).bind fun p => (b p.2).bind fun q => (f p.1 q.1).bind fun z => match z with
  | .bl true => (c q.2).bind fun r => (g q.1 r.1).map fun y => (y, r.2)
  | .bl false => some (.bl false, q.2)
  | _ => none
theorem ve_chain {op op' : CmpOp} {f g : PV → PV → Option PV} (ho : OpR X (compareOp op) (rB X.K f)) (ho' : OpR X (compareOp op') (rB X.K g)) (ha : VE X a da) (hb : VE X b db) (hc : VE X c dc) (hm : lastMarks [op, op'] [b, c] = false) :
    VE X (.Compare a [op, op'] [b, c] pos) (dChain f g da db dc) :=
  pe_imp (pe_chain (opr_sz ho) ho' ha hb hc hm) fun σ H Q sz ⟨F, env, r, env', R, hd, q⟩ => by
    unfold dChain at hd
    obtain ⟨⟨p, e1⟩, h1, hd⟩ := Option.bind_eq_some_iff.mp hd
    obtain ⟨⟨p2, e2⟩, h2, hd⟩ := Option.bind_eq_some_iff.mp hd
    obtain ⟨z, h3, hd⟩ := Option.bind_eq_some_iff.mp hd
    refine ⟨F, env, p, e1, R, h1, fun x F1 H1 R1 M1 r1 => ⟨F1, e1, p2, e2, R1, h2, fun y F2 H2 R2 M2 r2 => ⟨F2, p, p2, z, R2.fz, R2.sz, .rep (r1.ex (M2.ex R1)), .rep r2, h3, fun v F3 H3 N r3 s3 => ?_⟩⟩⟩
    cases z <;> simp only at hd <;> try cases hd
    rename_i k
    cases r3
    cases k with
    | false =>
      cases hd
      exact ⟨false, rfl, by
        rw [if_neg Bool.false_ne_true]
        exact fun _ => q _ F3 H3 (N.rel R2 s3) ((M1.trans M2).trans N.mv) (.bl _)⟩
    | true =>
      refine ⟨true, rfl, ?_⟩
      rw [if_pos rfl]
      obtain ⟨⟨p3, e3⟩, h4, hd⟩ := Option.bind_eq_some_iff.mp hd
      obtain ⟨y', h5, hz⟩ := Option.map_eq_some_iff.mp hd
      cases hz
      have R3 := N.rel R2 s3
      refine ⟨F3, e2, p3, e3, R3, h4, fun w F4 H4 R4 M4 r4 => ⟨F4, p2, p3, r, R4.fz, R4.sz, .rep (r2.ex (Ex.trans N.ex (M4.ex R3))), .rep r4, h5, fun v F5 H5 N5 r5 s5 => ?_⟩⟩
      exact q v F5 H5 (N5.rel R4 s5) (((M1.trans M2).trans N.mv).trans (M4.trans N5.mv)) r5

/-! ### slices -/
/-- the items xs[lo:hi] -/
def cutP (xs : List PV) (lo hi : Option Int) : List PV := (xs.drop (HT.sIx xs.length 0 lo)).take (HT.sIx xs.length xs.length hi - HT.sIx xs.length 0 lo)
/-- a slice of a list, of a tuple (not the whole of it) -/
def sliceF (p : PV) (lo hi : Option Int) : Option PV := match p with
  | .lst xs => some (.lst (cutP xs lo hi))
  | p => (tupOf p).bind fun xs => if HT.sIx xs.length 0 lo = 0 ∧ HT.sIx xs.length xs.length hi = xs.length then none else some (.tup (cutP xs lo hi))
abbrev DenO := PEn → Option (Option Int × PEn)
def dNoPart : DenO := fun e => some (none, e)
def dPart (a : Den) : DenO := fun e => (a e).bind fun p => match p.1 with
  | .int i => some (some i, p.2)
  | _ => none
def tO (K : PySem.W.Frag) (d : DenO) : TO := fun σ H Q => ∃ F env r env', Rel K F H env σ ∧ d env = some (r, env') ∧ ∀ (F' : Addr → Prop) (H' : Hp), Rel K F' H' env' σ → Mv F H env σ F' H' env' σ → Q r H'
theorem po_imp {lo : Option Expr} {t t' : TO} (h : PO X lo t) (i : ∀ σ H Q, Sized H → t' σ H Q → t σ H (fun v H' => Sized H' → Q v H')) : PO X lo t' := ⟨fun pins s σ H Q I hw =>
  thn (h.run pins s σ H _ I (i σ H Q (sized_of I.hok) hw)) fun u s' ⟨v, H', I', r, q⟩ => ⟨v, H', I', r, q (sized_of I'.hok)⟩⟩
theorem vo_none : PO X none (tO X.K dNoPart) := po_imp po_none fun σ H Q sz ⟨F, env, r, env', R, hd, q⟩ => by
  cases hd
  exact fun _ => q F H R .refl
theorem vo_some (h : VE X a da) : PO X (some a) (tO X.K (dPart da)) := po_imp (po_some h) fun σ H Q sz ⟨F, env, r, env', R, hd, q⟩ => by
  unfold dPart at hd
  obtain ⟨⟨p, e1⟩, h1, hd⟩ := Option.bind_eq_some_iff.mp hd
  refine ⟨F, env, p, e1, R, h1, fun x F1 H1 R1 M1 r1 => ?_⟩
  cases p <;> simp only at hd <;> cases hd
  cases r1
  exact ⟨_, rfl, fun _ => q F1 H1 R1 M1⟩
def dSlice (o : Arg) (lo hi : DenO) : Den := fun e => (dHead o e).bind fun p => (lo p.2).bind fun l => (hi l.2).bind fun h => (dBack o p.1 h.2).bind fun y => (sliceF y l.1 h.1).map fun z => (z, h.2)
/-- slices by values -/
theorem sl_any : SlR X (fun x lo hi H Q => ∃ (F : Addr → Prop) (p r : PV), (∀ a, F a → ∃ o, H a = some o) ∧ BRep X.K F H x p ∧ sliceF p lo hi = some r ∧ ∀ (z : V) (F' : Addr → Prop) (H' : Hp), Nw F H F' H' → Rep X.K F' H' z r → Q z H') := by
  intro pins s σ H x v vl vu lo hi sl Q I rx hs pl pu ⟨F, p, r, fz, r1, e, k⟩
  unfold sliceF at e
  split at e
  · rename_i xs
    cases e
    obtain ⟨a, vs, rfl, h, rl⟩ := r1.lst
    refine sl_list pins s σ H _ v vl vu lo hi sl Q I rx hs pl pu ⟨a, vs, rfl, h, fun p np => ?_⟩
    have e : RepL X.K F H (cutV vs lo hi) (cutP xs lo hi) := by
      unfold cutV cutP
      rw [rl.length]
      exact (rl.drop _).take _
    obtain ⟨N, R⟩ := new_list fz np e
    exact k _ _ _ N R
  · obtain ⟨xs, ht, e⟩ := Option.bind_eq_some_iff.mp e
    split at e
    · cases e
    · rename_i hw
      cases e
      obtain ⟨a, vs, rfl, h, rl⟩ := r1.tupOf ht
      refine sl_tup pins s σ H _ v vl vu lo hi sl Q I rx hs pl pu ⟨a, vs, rfl, h, by rw [rl.length]; exact hw, fun p np => ?_⟩
      have e : RepL X.K F H (cutV vs lo hi) (cutP xs lo hi) := by
        unfold cutV cutP
        rw [rl.length]
        exact (rl.drop _).take _
      obtain ⟨N, R⟩ := new_tup fz np e
      exact k _ _ _ N R
theorem ve_slice {lo hi : Option Expr} {dl dh : DenO} {ar : Arg} (ho : VArg X o ar) (hl : PO X lo (tO X.K dl)) (hh : PO X hi (tO X.K dh)) : VE X (.Subscript o (.Slice lo hi none p2) pos) (dSlice ar dl dh) := by
  have fin : ∀ {F F1 F2 F3 : Addr → Prop} {H H1 H2 H3 : Hp} {env e1 e2 e3 : PEn} {σ : L2.St} {Q : VK} {r : PV}, Mv F H env σ F1 H1 e1 σ → Mv F1 H1 e1 σ F2 H2 e2 σ → Mv F2 H2 e2 σ F3 H3 e3 σ → Rel X.K F3 H3 e3 σ →
      (∀ (x : V) (F' : Addr → Prop) (H' : Hp), Rel X.K F' H' e3 σ → Mv F H env σ F' H' e3 σ → Rep X.K F' H' x r → Q x H') → ∀ (z : V) (F' : Addr → Prop) (H' : Hp), Nw F3 H3 F' H' → Rep X.K F' H' z r → Sized H' → Q z H' :=
    fun m1 m2 m3 R3 q z F' H' N r s => q z F' H' (N.rel R3 s) ((m1.trans m2).trans (m3.trans N.mv)) r
  cases ho with
  | d h =>
    refine pe_imp (pe_slice sl_any h hl hh) fun σ H Q sz ⟨F, env, r, env', R, hd, q⟩ => ?_
    unfold dSlice at hd
    obtain ⟨⟨p, e1⟩, h1, hd⟩ := Option.bind_eq_some_iff.mp hd
    obtain ⟨⟨l, e2⟩, h2, hd⟩ := Option.bind_eq_some_iff.mp hd
    obtain ⟨⟨h', e3⟩, h3, hd⟩ := Option.bind_eq_some_iff.mp hd
    obtain ⟨y, h4, hd⟩ := Option.bind_eq_some_iff.mp hd
    obtain ⟨z, h5, hz⟩ := Option.map_eq_some_iff.mp hd
    cases hz
    cases h4
    exact ⟨F, env, p, e1, R, h1, fun x F1 H1 R1 M1 r1 => ⟨F1, e1, l, e2, R1, h2, fun F2 H2 R2 M2 => ⟨F2, e2, h', _, R2, h3, fun F3 H3 R3 M3 =>
      ⟨F3, p, r, R3.fz, .rep ((r1.ex (M2.ex R1)).ex (M3.ex R2)), h5, fun z F' H' N r s => fin M1 M2 M3 R3 q z F' H' N r s⟩⟩⟩⟩
  | b h =>
    refine pe_imp (pe_slice sl_any h hl hh) fun σ H Q sz ⟨F, env, r, env', R, hd, q⟩ => ?_
    unfold dSlice at hd
    obtain ⟨⟨p, e1⟩, h1, hd⟩ := Option.bind_eq_some_iff.mp hd
    obtain ⟨⟨l, e2⟩, h2, hd⟩ := Option.bind_eq_some_iff.mp hd
    obtain ⟨⟨h', e3⟩, h3, hd⟩ := Option.bind_eq_some_iff.mp hd
    obtain ⟨y, h4, hd⟩ := Option.bind_eq_some_iff.mp hd
    obtain ⟨z, h5, hz⟩ := Option.map_eq_some_iff.mp hd
    cases hz
    obtain ⟨y', hy, e⟩ := Option.map_eq_some_iff.mp h1
    cases e
    obtain ⟨x', sx, _⟩ := slotv_rep R hy
    refine ⟨x', sx, F, _, l, e2, R, h2, fun F2 H2 R2 M2 => ⟨F2, e2, h', _, R2, h3, fun F3 H3 R3 M3 => ?_⟩⟩
    obtain ⟨x2, sx2, r2⟩ := slotv_rep R3 h4
    rw [sx] at sx2; cases sx2
    exact ⟨F3, y, r, R3.fz, r2, h5, fun z F' H' N r s => fin .refl M2 M3 R3 q z F' H' N r s⟩
end
end PP

/-! PP, part i: targets, what is walked, comprehensions. -/
namespace PP
open PySem PySem.Spec PyProof.Rows L2

/-! ### targets -/
inductive Tgt where
  | nm (i : Nat) | tp (ts : List Tgt)
mutual
def tgtF : Tgt → PV → PEn → Option PEn
  | .nm i, x, e => if i < e.length then some (e.set i (.val x)) else none
  | .tp ts, x, e => match tupOf x with
    | some xs => tgtsF ts xs e
    | none => none
def tgtsF : List Tgt → List PV → PEn → Option PEn
  | [], [], e => some e
  | t :: ts, x :: xs, e => (tgtF t x e).bind fun e1 => tgtsF ts xs e1
  | _, _, _ => none
end
mutual
def Tgt.slots : Tgt → List Nat
  | .nm i => [i]
  | .tp ts => Tgt.slotss ts
def Tgt.slotss : List Tgt → List Nat
  | [] => []
  | t :: ts => t.slots ++ Tgt.slotss ts
end

section
variable {K : PySem.W.Frag} {F F' : Addr → Prop} {H H' : Hp} {env env' : PEn} {σ σ' : L2.St}
/-- a slot gets a value -/
theorem Rel.set (R : Rel K F H env σ) {i : Nat} {x : V} {p : PV} (hi : i < env.length) (r : Rep K F H x p) : Rel K F H (env.set i (.val p)) (σ.set i (some x)) := by
  have hs : i < σ.length := by rw [← R.len]; exact hi
  have ov : ∀ j v, (env.set i (.val p))[j]? = some (SlP.own v) → j ≠ i ∧ env[j]? = some (SlP.own v) := fun j v e => by
    by_cases hj : i = j
    · subst hj; rw [List.getElem?_set_self hi] at e; cases e
    · rw [List.getElem?_set_ne hj] at e; exact ⟨fun z => hj z.symm, e⟩
  refine ⟨by simpa using R.len, fun j v e => ?_, fun j v e => ?_, fun j k v w a e1 e2 s1 s2 => ?_, R.fz, R.sz⟩
  · by_cases hj : i = j
    · subst hj
      rw [List.getElem?_set_self hi] at e
      cases e
      exact ⟨x, List.getElem?_set_self hs, r⟩
    · rw [List.getElem?_set_ne hj] at e
      rw [List.getElem?_set_ne hj]
      exact R.val j v e
  · obtain ⟨hj, e⟩ := ov j v e
    rw [List.getElem?_set_ne (Ne.symm hj)]
    exact R.own j v e
  · obtain ⟨h1, e1⟩ := ov j v e1
    obtain ⟨h2, e2⟩ := ov k w e2
    rw [List.getElem?_set_ne (Ne.symm h1)] at s1
    rw [List.getElem?_set_ne (Ne.symm h2)] at s2
    exact R.apart j k v w a e1 e2 s1 s2
theorem Mv.set {i : Nat} {x : V} {p : PV} (hi : i < env.length) : Mv F H env σ F H (env.set i (.val p)) (σ.set i (some x)) :=
  ⟨fun _ h => h, fun _ _ h _ => h, fun _ h => .inl h, fun a ⟨j, v, e, s⟩ => by
    by_cases hj : i = j
    · subst hj; rw [List.getElem?_set_self hi] at e; cases e
    · rw [List.getElem?_set_ne hj] at e s; exact .inl ⟨j, v, e, s⟩, fun _ o h => ⟨o, h⟩⟩
end

/-- a target's reading -/
def tG (K : PySem.W.Frag) (t : Tgt) : TG := fun x σ H Q => ∃ F env p env', Rel K F H env σ ∧ Rep K F H x p ∧ tgtF t p env = some env' ∧
  ∀ (σ' : L2.St), Rel K F H env' σ' → Mv F H env σ F H env' σ' → (∀ i, i ∉ t.slots → σ'[i]? = σ[i]? ∧ env'[i]? = env[i]?) → Q σ' H
def tGs (K : PySem.W.Frag) (ts : List Tgt) : TGs := fun xs σ H Q => ∃ F env ps env', Rel K F H env σ ∧ RepL K F H xs ps ∧ tgtsF ts ps env = some env' ∧
  ∀ (σ' : L2.St), Rel K F H env' σ' → Mv F H env σ F H env' σ' → (∀ i, i ∉ Tgt.slotss ts → σ'[i]? = σ[i]? ∧ env'[i]? = env[i]?) → Q σ' H
section
variable {X : Cx} {e : Expr} {es : List Expr} {pos : Pos}
theorem pg_imp {t t' : TG} (h : PG X e t) (i : ∀ x σ H Q, t' x σ H Q → t x σ H Q) : PG X e t' := ⟨fun pins s σ H v u Q I r hw => h.run pins s σ H v u Q I r (i v σ H Q hw)⟩
theorem pgs_imp {t t' : TGs} (h : PGs X es t) (i : ∀ x σ H Q, t' x σ H Q → t x σ H Q) : PGs X es t' := ⟨fun pins s σ H v u Q I r hw => h.run pins s σ H v u Q I r (i v σ H Q hw)⟩
theorem vg_nm {i : Nat} (h : PG X e (gName i)) : PG X e (tG X.K (.nm i)) := pg_imp h fun x σ H Q ⟨F, env, p, env', R, r, hd, q⟩ => by
  unfold tgtF at hd
  split at hd
  · rename_i hi
    cases hd
    refine q _ (R.set hi r) (Mv.set hi) fun j hj => ?_
    simp only [Tgt.slots, List.mem_singleton] at hj
    rw [List.getElem?_set_ne (Ne.symm hj), List.getElem?_set_ne (Ne.symm hj)]
    exact ⟨rfl, rfl⟩
  · cases hd
theorem vgs_nil : PGs X [] (tGs X.K []) := pgs_imp pgs_nil fun xs σ H Q ⟨F, env, ps, env', R, r, hd, q⟩ => by
  cases ps with
  | nil =>
    cases r
    simp only [tgtsF] at hd
    cases hd
    exact ⟨rfl, q σ R .refl fun _ _ => ⟨rfl, rfl⟩⟩
  | cons _ _ => simp [tgtsF] at hd
theorem assignEach_len {env : Env} : ∀ es : List Expr, (assignEach es env).length = es.length
  | [] => rfl
  | e :: es => by
    have ih := assignEach_len (env := env) es
    cases e <;> simp [assignEach, ih]
theorem assignEach_cons {env : Env} (h : notStar e = true) : (assignEach (e :: es) env).map (·.2) = assign e env :: (assignEach es env).map (·.2) := by
  cases e <;> first | rfl | (cases h)
theorem assignEach_star {env : Env} : ∀ {es : List Expr}, es.all notStar = true → (assignEach es env).findIdx? (·.1) = none
  | [], _ => rfl
  | e :: es, h => by
    simp only [List.all_cons, Bool.and_eq_true] at h
    have ih := assignEach_star (env := env) h.2
    have e1 : assignEach (e :: es) env = (false, assign e env) :: assignEach es env := by
      cases e <;> first | rfl | (cases h.1)
    rw [e1, List.findIdx?_cons]
    simp [ih]
theorem vgs_cons {t : Tgt} {ts : List Tgt} (hn : notStar e = true) (h1 : PG X e (tG X.K t)) (h2 : PGs X es (tGs X.K ts)) : PGs X (e :: es) (tGs X.K (t :: ts)) :=
  pgs_imp (pgs_cons h1 h2 (assignEach_cons hn)) fun xs σ H Q ⟨F, env, ps, env', R, r, hd, q⟩ => by
    cases ps with
    | nil => simp [tgtsF] at hd
    | cons p ps =>
      cases r with
      | cons r rr =>
        simp only [tgtsF] at hd
        obtain ⟨e1, h1, h2⟩ := Option.bind_eq_some_iff.mp hd
        refine ⟨_, _, rfl, F, env, p, e1, R, r, h1, fun σ1 R1 M1 k1 => ⟨F, e1, ps, env', R1, rr, h2, fun σ2 R2 M2 k2 => ?_⟩⟩
        refine q σ2 R2 (M1.trans M2) fun i hi => ?_
        simp only [Tgt.slotss, List.mem_append, not_or] at hi
        obtain ⟨a, b⟩ := k1 i hi.1
        obtain ⟨c, d⟩ := k2 i hi.2
        exact ⟨c.trans a, d.trans b⟩
theorem tgts_len : ∀ {ts : List Tgt} {xs : List PV} {e e' : PEn}, tgtsF ts xs e = some e' → xs.length = ts.length
  | [], [], _, _, _ => rfl
  | [], _ :: _, _, _, h => by simp [tgtsF] at h
  | _ :: _, [], _, _, h => by simp [tgtsF] at h
  | t :: ts, x :: xs, _, _, h => by
    simp only [tgtsF] at h
    obtain ⟨e1, h1, h2⟩ := Option.bind_eq_some_iff.mp h
    simp [tgts_len h2]
theorem vg_tp {k : Nat} {ts : List Tgt} (hc : X.calm = true) (hn : es.all notStar = true) (hl : es.length = ts.length) (h : PGs X es (tGs X.K ts)) : PG X (.Tuple es k pos) (tG X.K (.tp ts)) :=
  pg_imp (pg_tup (n := es.length) hc h (assignEach_len es) (assignEach_star hn)) fun x σ H Q ⟨F, env, p, env', R, r, hd, q⟩ => by
    unfold tgtF at hd
    split at hd
    · rename_i xs hx
      obtain ⟨a, vs, rfl, hs, rl⟩ := (BRep.rep r).tupOf hx
      refine ⟨a, vs, rfl, hs, ?_, F, env, xs, env', R, rl, hd, fun σ' R' M' k' => q σ' R' M' ?_⟩
      · rw [rl.length, tgts_len hd, hl]
      · simpa [Tgt.slots] using k'
    · cases hd

/-! ### what is walked -/
abbrev DenI := PEn → Option (List PV × PEn)
/-- J walks the items, from H on -/
def Yld (K : PySem.W.Frag) (F : Addr → Prop) (H : Hp) (J : It) (items : List PV) : Prop :=
  ∀ (F2 : Addr → Prop) (H2 : Hp), Ex F H F2 H2 → (∀ a, F2 a → ∃ o, H2 a = some o) → ∀ i, (∀ p, items[i]? = some p → J.go i H2 ∧ ∀ x H3, J.yld i H2 x H3 → ∃ F3, Nw F2 H2 F3 H3 ∧ Rep K F3 H3 x p ∧ (Sized H2 → Sized H3)) ∧ (items.length ≤ i → J.stop i H2)
theorem Yld.ex {K : PySem.W.Frag} {F F' : Addr → Prop} {H H' : Hp} {J : It} {items : List PV} (y : Yld K F H J items) (e : Ex F H F' H') : Yld K F' H' J items := fun F2 H2 e2 fz => y F2 H2 (e.trans e2) fz
def tI (K : PySem.W.Frag) (d : DenI) : TI := fun σ H R => ∃ F env items env', Rel K F H env σ ∧ d env = some (items, env') ∧
  ∀ (J : It) (F' : Addr → Prop) (H' : Hp), Rel K F' H' env' σ → Mv F H env σ F' H' env' σ → Yld K F' H' J items → items.length ≤ sizeLine → R J H'
abbrev VI (X : Cx) (tg : Expr) (e : Expr) (d : DenI) : Prop := PI X tg e (tI X.K d)
variable {tg : Expr}
theorem pi_imp {t t' : TI} (h : PI X tg e t) (i : ∀ σ H R, Sized H → t' σ H R → t σ H (fun J H' => Sized H' → R J H')) : PI X tg e t' := ⟨fun pins s σ H R I hw =>
  thn (h.run pins s σ H _ I (i σ H R (sized_of I.hok) hw)) fun u s' h2 => thn h2 fun itv s2 ⟨it, fp, tn, J, H', e1, I', T, st, f, q⟩ => ⟨it, fp, tn, J, H', e1, I', T, st, f, q (sized_of I'.hok)⟩⟩
/-- over a list or a tuple -/
def iSq (K : PySem.W.Frag) (tl : TE) : TI := fun σ H R => tl σ H fun x H1 => ∃ a, x = .ref a ∧ ((∃ xs, SqL K H1 a xs ∧ R (Itl K a) H1) ∨ ∃ xs, SqT K H1 a xs ∧ R (Itt K a) H1)
theorem pi_sq {tl : TE} (hl : PE X e tl) : PI X tg e (iSq X.K tl) := by
  have h1 := pi_list (tg := tg) hl
  have h2 := pi_tup (tg := tg) hl
  refine ⟨fun pins s σ H R I h => ?_⟩
  refine thn (hl.run pins s σ H _ I h) fun v s1 ⟨x, H1, I1, r1, a, ea, q1⟩ => ?_
  subst ea
  cases r1
  rcases q1 with ⟨xs, hq, q⟩ | ⟨xs, hq, q⟩
  · obtain ⟨its, rv, p, hz⟩ := I1.list hq
    refine wpAny_pyIter_list p.isList ⟨s1.heap.objs.size, [s1.heap.objs.size], _, _, H1, rfl, I1.kept (t' := s1.toks) fun b o e => Heap.get?_push_of_some _ e, turn_list a _, ⟨_, Heap.get?_push_size _ rfl, rfl, rfl⟩, fun b hb => ?_, q⟩
    rw [List.mem_singleton] at hb
    rw [hb]
    exact I1.fpOk (Nat.le_refl _) (I1.hok.fresh (Nat.le_refl _))
  · obtain ⟨its, rv, p, hz⟩ := I1.tuple hq
    refine wpAny_pyIter_tuple (show s1.heap.IsTuple a its.toArray from p) ⟨s1.heap.objs.size, [s1.heap.objs.size], _, _, H1, rfl, I1.kept (t' := s1.toks) fun b o e => Heap.get?_push_of_some _ e, turn_tuple a _, ⟨_, Heap.get?_push_size _ rfl, rfl, rfl⟩, fun b hb => ?_, q⟩
    rw [List.mem_singleton] at hb
    rw [hb]
    exact I1.fpOk (Nat.le_refl _) (I1.hok.fresh (Nat.le_refl _))
def iSeq (a : Den) : DenI := fun e => (a e).bind fun p => (seqOf p.1).map fun xs => (xs, p.2)
theorem FzL.sql_ex {K : PySem.W.Frag} {F F' : Addr → Prop} {H H' : Hp} {a : Addr} {vs : List V} (h : FzL K F H a vs) (e : Ex F H F' H') : SqL K H' a vs := (h.ex e).seq
theorem yld_lst {K : PySem.W.Frag} {F : Addr → Prop} {H : Hp} {a : Addr} {vs : List V} {xs : List PV} (h : FzL K F H a vs) (r : RepL K F H vs xs) : Yld K F H (Itl K a) xs := fun F2 H2 e fz i => by
  have h2 := h.sql_ex e
  refine ⟨fun p hp => ?_, fun hi => ⟨vs, h2, by rw [r.length]; exact hi⟩⟩
  obtain ⟨v, hv, rv⟩ := r.get hp
  refine ⟨⟨vs, v, h2, hv⟩, fun x H3 ⟨e3, y⟩ => ?_⟩
  subst e3
  have := y vs h2
  rw [hv] at this; cases this
  exact ⟨F2, .refl fz, rv.ex e, fun s => s⟩
theorem yld_tup {K : PySem.W.Frag} {F : Addr → Prop} {H : Hp} {a : Addr} {vs : List V} {xs : List PV} (h : H a = some (.tup vs) ∨ ∃ o, H a = some (.frz o (.tup vs))) (r : RepL K F H vs xs) : Yld K F H (Itt K a) xs := fun F2 H2 e fz i => by
  have h2 : SqT K H2 a vs := by
    rcases h with h | ⟨o, h⟩
    · exact SqT.of (e.tups _ _ h)
    · exact .inl (.inr ⟨_, e.frzs _ _ _ h⟩)
  refine ⟨fun p hp => ?_, fun hi => ⟨vs, h2, by rw [r.length]; exact hi⟩⟩
  obtain ⟨v, hv, rv⟩ := r.get hp
  refine ⟨⟨vs, v, h2, hv⟩, fun x H3 ⟨e3, y⟩ => ?_⟩
  subst e3
  have := y vs h2
  rw [hv] at this; cases this
  exact ⟨F2, .refl fz, rv.ex e, fun s => s⟩
theorem sql_small {K : PySem.W.Frag} {H : Hp} {a : Addr} {vs : List V} (s : Sized H) (h : SqL K H a vs) : vs.length ≤ sizeLine := by
  rcases h with h | ⟨o, its, n, _, _, _, _, hz, r⟩
  · exact (s a).1 vs (.inl h)
  · have := r.length
    simp only [Array.length_toList] at this
    omega
theorem vi_seq {da : Den} (h : VE X e da) : VI X tg e (iSeq da) := pi_imp (pi_sq h) fun σ H R sz ⟨F, env, items, env', Rl, hd, q⟩ => by
  unfold iSeq at hd
  obtain ⟨⟨p, e1⟩, h1, hd⟩ := Option.bind_eq_some_iff.mp hd
  obtain ⟨xs, h2, hz⟩ := Option.map_eq_some_iff.mp hd
  cases hz
  refine ⟨F, env, p, _, Rl, h1, fun x F1 H1 R1 M1 r1 => ?_⟩
  cases p <;> simp only [seqOf] at h2 <;> cases h2
  · obtain ⟨a, vs, rfl, h, r⟩ := (BRep.rep r1).tup
    exact ⟨a, rfl, .inr ⟨vs, SqT.of h, fun _ => q _ F1 H1 R1 M1 (yld_tup (.inl h) r) (by rw [← r.length]; exact (R1.sz a).1 vs (.inr (.inl h)))⟩⟩
  · obtain ⟨a, its, vs, rfl, h, r⟩ := (BRep.rep r1).fup
    exact ⟨a, rfl, .inr ⟨vs, .inl (.inr ⟨_, h⟩), fun _ => q _ F1 H1 R1 M1 (yld_tup (.inr ⟨_, h⟩) r) (by rw [← r.length]; exact (R1.sz a).1 vs (.inr (.inr ⟨_, h⟩)))⟩⟩
  · cases r1 with
    | @lst a vs _ h r => exact ⟨a, rfl, .inl ⟨vs, h.seq, fun _ => q _ F1 H1 R1 M1 (yld_lst h r) (by rw [← r.length]; exact sql_small R1.sz h.seq)⟩⟩
/-- lo, lo + 1, .., n of them -/
def rngP (lo : Int) (n : Nat) : List PV := (List.range n).map fun i => .int (lo + (i : Nat))
theorem rngP_len (lo : Int) (n : Nat) : (rngP lo n).length = n := by simp [rngP]
def iRange (as : List Den) : DenI := fun e => (dArgs as e).bind fun p => match p.1 with
  | [.int j] => if -(2 ^ 62) ≤ j ∧ j ≤ 16777216 then some (rngP 0 j.toNat, p.2) else none
  | [.int i, .int j] => if -(2 ^ 62) ≤ i ∧ i < 2 ^ 62 ∧ -(2 ^ 62) ≤ j ∧ j < 2 ^ 62 ∧ j - i ≤ 16777216 then some (rngP i (j - i).toNat, p.2) else none
  | _ => none
theorem yld_rng {K : PySem.W.Frag} {F : Addr → Prop} {H : Hp} {lo : Int} {n : Nat} : Yld K F H (Itr lo n) (rngP lo n) := fun F2 H2 e fz i => by
  refine ⟨fun p hp => ?_, fun hi => by
    have : n ≤ i := by simpa [rngP] using hi
    exact this⟩
  unfold rngP at hp
  rw [List.getElem?_map] at hp
  obtain ⟨j, hj, e1⟩ := Option.map_eq_some_iff.mp hp
  have hlt : i < n := by
    have := (List.getElem?_eq_some_iff.mp hj).1
    simpa using this
  rw [List.getElem?_range hlt] at hj
  cases hj
  subst e1
  refine ⟨hlt, fun x H3 ⟨e3, e4⟩ => ?_⟩
  subst e3 e4
  exact ⟨F2, .refl fz, .int _, fun s => s⟩
theorem vi_range1 {a : Expr} {da : Den} {p : Pos} (hg : Gl X "range") (hm : X.mg "range" = none) (hs : notStar a = true) (ha : VE X a da) : VI X tg (.Call (.Name "range" p) [a] [] pos) (iRange [da]) :=
  pi_imp (pi_range1 hg hm (va_cons hs ha va_nil) (starEach_cons hs)) fun σ H R sz ⟨F, env, items, env', Rl, hd, q⟩ => by
    unfold iRange at hd
    obtain ⟨⟨ps, e1⟩, h1, hd⟩ := Option.bind_eq_some_iff.mp hd
    have hl := dArgs_len h1
    refine ⟨F, env, ps, e1, Rl, h1, fun xs F1 H1 R1 M1 r1 => ?_⟩
    simp only at hd
    split at hd
    · split at hd
      · rename_i h
        cases hd
        obtain ⟨v, rfl, rv⟩ := r1.one
        cases rv
        exact ⟨_, rfl, h.1, by omega, fun _ => q _ F1 H1 R1 M1 yld_rng (by rw [rngP_len, sizeLine_eq]; omega)⟩
      · cases hd
    · simp at hl
    · cases hd
theorem vi_range2 {a b : Expr} {da db : Den} {p : Pos} (hg : Gl X "range") (hm : X.mg "range" = none) (hs : notStar a = true) (hs2 : notStar b = true) (ha : VE X a da) (hb : VE X b db) : VI X tg (.Call (.Name "range" p) [a, b] [] pos) (iRange [da, db]) :=
  pi_imp (pi_range2 hg hm (va_cons hs ha (va_cons hs2 hb va_nil)) ((starEach_cons hs).trans (by rw [starEach_cons hs2]; rfl)) (starEach_cons hs2)) fun σ H R sz ⟨F, env, items, env', Rl, hd, q⟩ => by
    unfold iRange at hd
    obtain ⟨⟨ps, e1⟩, h1, hd⟩ := Option.bind_eq_some_iff.mp hd
    have hl := dArgs_len h1
    refine ⟨F, env, ps, e1, Rl, h1, fun xs F1 H1 R1 M1 r1 => ?_⟩
    simp only at hd
    split at hd
    · simp at hl
    · split at hd
      · rename_i h
        cases hd
        obtain ⟨v, w, rfl, rv, rw'⟩ := r1.two
        cases rv; cases rw'
        exact ⟨_, _, rfl, ⟨h.1, h.2.1, h.2.2.1, h.2.2.2.1⟩, fun _ => q _ F1 H1 R1 M1 yld_rng (by rw [rngP_len, sizeLine_eq]; omega)⟩
      · cases hd
    · cases hd
end
end PP

/-! PP, part j: list comprehensions of one clause. -/
namespace PP
open PySem PySem.Spec PyProof.Rows L2

def wipeE (e : PEn) : List Nat → PEn
  | [] => e
  | v :: vs => (wipeE e vs).set v .no
/-- what a slot keeps over a comprehension that uses its name -/
def keepV (orig : PEn) (v : Nat) : SlP := match orig[v]? with
  | some (.val x) => .val x
  | _ => .no
def restoreE (e orig : PEn) : List Nat → PEn
  | [] => e
  | v :: vs => (restoreE e orig vs).set v (keepV orig v)
def lcF (t : Tgt) (tt : DenT) (elt : Den) (vs : List Nat) : List PV → PEn → Option (List PV × PEn)
  | [], e => some ([], e)
  | x :: xs, e => (tgtF t x e).bind fun e1 => (tt e1).bind fun b => if b.1 then (elt b.2).bind fun y => (lcF t tt elt vs xs (wipeE y.2 vs)).map fun r => (y.1 :: r.1, r.2) else lcF t tt elt vs xs (wipeE b.2 vs)
def dLC (src : DenI) (vs : List Nat) (t : Tgt) (tt : DenT) (elt : Den) : Den := fun e => (src e).bind fun p => (lcF t tt elt vs p.1 (wipeE p.2 vs)).map fun q => (.lst q.1, restoreE q.2 p.2 vs)

theorem wipe_get (σ : L2.St) (i : Nat) : ∀ vs : List Nat, (wipe σ vs)[i]? = if i ∈ vs then (σ[i]?).map fun _ => none else σ[i]?
  | [] => by simp [wipe]
  | v :: vs => by
    unfold wipe
    have ih := wipe_get σ i vs
    by_cases hv : v = i
    · subst hv
      rw [List.getElem?_set]
      simp only [if_true, List.mem_cons, true_or, wipe_length]
      by_cases h : v < σ.length
      · simp [h]
      · simp [h]
    · rw [List.getElem?_set_ne hv, ih]
      have : i ≠ v := fun e => hv e.symm
      simp [this]
theorem wipe_congr {σ σ' : L2.St} {vs : List Nat} (h : ∀ i, i ∉ vs → σ'[i]? = σ[i]?) (l : σ'.length = σ.length) : wipe σ' vs = wipe σ vs := by
  apply List.ext_getElem?
  intro i
  rw [wipe_get, wipe_get]
  by_cases hi : i ∈ vs
  · rw [if_pos hi, if_pos hi]
    by_cases hl : i < σ.length
    · rw [List.getElem?_eq_getElem hl, List.getElem?_eq_getElem (by omega)]; rfl
    · rw [List.getElem?_eq_none (by omega), List.getElem?_eq_none (by omega)]
  · rw [if_neg hi, if_neg hi, h i hi]
theorem wipeE_len (e : PEn) : ∀ vs : List Nat, (wipeE e vs).length = e.length
  | [] => rfl
  | v :: vs => by simp [wipeE, wipeE_len e vs]
theorem wipeE_get (e : PEn) (i : Nat) : ∀ vs : List Nat, (wipeE e vs)[i]? = if i ∈ vs then (e[i]?).map fun _ => SlP.no else e[i]?
  | [] => by simp [wipeE]
  | v :: vs => by
    unfold wipeE
    have ih := wipeE_get e i vs
    by_cases hv : v = i
    · subst hv
      rw [List.getElem?_set]
      simp only [if_true, List.mem_cons, true_or, wipeE_len]
      by_cases h : v < e.length
      · simp [h]
      · simp [h]
    · rw [List.getElem?_set_ne hv, ih]
      have : i ≠ v := fun e => hv e.symm
      simp [this]
theorem restoreE_len (e o : PEn) : ∀ vs : List Nat, (restoreE e o vs).length = e.length
  | [] => rfl
  | v :: vs => by simp [restoreE, restoreE_len e o vs]
theorem restoreE_get (e o : PEn) (i : Nat) : ∀ vs : List Nat, (restoreE e o vs)[i]? = if i ∈ vs then (e[i]?).map fun _ => keepV o i else e[i]?
  | [] => by simp [restoreE]
  | v :: vs => by
    unfold restoreE
    have ih := restoreE_get e o i vs
    by_cases hv : v = i
    · subst hv
      rw [List.getElem?_set]
      simp only [if_true, List.mem_cons, true_or, restoreE_len]
      by_cases h : v < e.length
      · simp [h]
      · simp [h]
    · rw [List.getElem?_set_ne hv, ih]
      have : i ≠ v := fun e => hv e.symm
      simp [this]

section
variable {K : PySem.W.Frag} {F F' : Addr → Prop} {H H' : Hp} {env env' : PEn} {σ σ' : L2.St} {vs : List Nat}
theorem own_wipe {j : Nat} {v : PV} (e : (wipeE env vs)[j]? = some (SlP.own v)) : j ∉ vs ∧ env[j]? = some (SlP.own v) := by
  rw [wipeE_get] at e
  split at e
  · obtain ⟨_, _, e⟩ := Option.map_eq_some_iff.mp e
    cases e
  · rename_i h; exact ⟨h, e⟩
theorem val_wipe {j : Nat} {v : PV} (e : (wipeE env vs)[j]? = some (SlP.val v)) : j ∉ vs ∧ env[j]? = some (SlP.val v) := by
  rw [wipeE_get] at e
  split at e
  · obtain ⟨_, _, e⟩ := Option.map_eq_some_iff.mp e
    cases e
  · rename_i h; exact ⟨h, e⟩
theorem wipe_off {j : Nat} (h : j ∉ vs) : (wipe σ vs)[j]? = σ[j]? := by rw [wipe_get, if_neg h]
theorem Rel.wipe (R : Rel K F H env σ) (vs : List Nat) : Rel K F H (wipeE env vs) (L2.wipe σ vs) where
  len := by rw [wipeE_len, wipe_length]; exact R.len
  val := fun j v e => by obtain ⟨h, e⟩ := val_wipe e; rw [wipe_off h]; exact R.val j v e
  own := fun j v e => by obtain ⟨h, e⟩ := own_wipe e; rw [wipe_off h]; exact R.own j v e
  apart := fun j k v w a e1 e2 s1 s2 => by
    obtain ⟨h1, e1⟩ := own_wipe e1
    obtain ⟨h2, e2⟩ := own_wipe e2
    rw [wipe_off h1] at s1
    rw [wipe_off h2] at s2
    exact R.apart j k v w a e1 e2 s1 s2
  fz := R.fz
  sz := R.sz
theorem own_unwipe {a : Addr} (o : Own (wipeE env vs) (L2.wipe σ vs) a) : Own env σ a := by
  obtain ⟨j, v, e, s⟩ := o
  obtain ⟨h, e⟩ := own_wipe e
  rw [wipe_off h] at s
  exact ⟨j, v, e, s⟩
theorem Mv.wipe (vs : List Nat) : Mv F H env σ F H (wipeE env vs) (L2.wipe σ vs) :=
  ⟨fun _ h => h, fun _ _ h _ => h, fun _ h => .inl h, fun a o => .inl (own_unwipe o), fun _ o h => ⟨o, h⟩⟩
/-- behind a comprehension: the names as they were -/
theorem Rel.restore {F1 : Addr → Prop} {H1 : Hp} {orig : PEn} (R0 : Rel K F H orig σ) (R : Rel K F1 H1 env (L2.wipe σ vs)) (ex : Ex F H F1 H1) (hw : ∀ i, i ∈ vs → ∀ v, env[i]? ≠ some (SlP.own v)) : Rel K F1 H1 (restoreE env orig vs) σ where
  len := by rw [restoreE_len, R.len, wipe_length]
  val := fun j v e => by
    rw [restoreE_get] at e
    split at e
    · rename_i hj
      obtain ⟨_, _, e⟩ := Option.map_eq_some_iff.mp e
      unfold keepV at e
      split at e
      · rename_i w ew
        cases e
        obtain ⟨x, sx, r⟩ := R0.val j _ ew
        exact ⟨x, sx, r.ex ex⟩
      · cases e
    · rename_i hj
      obtain ⟨x, sx, r⟩ := R.val j v e
      rw [wipe_off hj] at sx
      exact ⟨x, sx, r⟩
  own := fun j v e => by
    rw [restoreE_get] at e
    split at e
    · obtain ⟨_, _, e⟩ := Option.map_eq_some_iff.mp e
      unfold keepV at e
      split at e <;> cases e
    · rename_i hj
      obtain ⟨x, sx, r⟩ := R.own j v e
      rw [wipe_off hj] at sx
      exact ⟨x, sx, r⟩
  apart := fun j k v w a e1 e2 s1 s2 => by
    rw [restoreE_get] at e1 e2
    split at e1
    · obtain ⟨_, _, e⟩ := Option.map_eq_some_iff.mp e1
      unfold keepV at e
      split at e <;> cases e
    · rename_i h1
      split at e2
      · obtain ⟨_, _, e⟩ := Option.map_eq_some_iff.mp e2
        unfold keepV at e
        split at e <;> cases e
      · rename_i h2
        exact R.apart j k v w a e1 e2 (by rw [wipe_off h1]; exact s1) (by rw [wipe_off h2]; exact s2)
  fz := R.fz
  sz := R.sz
theorem own_restore {orig : PEn} {a : Addr} (o : Own (restoreE env orig vs) σ a) : Own env (L2.wipe σ vs) a := by
  obtain ⟨j, v, e, s⟩ := o
  rw [restoreE_get] at e
  split at e
  · obtain ⟨_, _, e⟩ := Option.map_eq_some_iff.mp e
    unfold keepV at e
    split at e <;> cases e
  · rename_i hj
    exact ⟨j, v, e, by rw [wipe_off hj]; exact s⟩
theorem wipeE_noown (e : PEn) (vs : List Nat) : ∀ i, i ∈ vs → ∀ v, (wipeE e vs)[i]? ≠ some (SlP.own v) := fun i hi v q => (own_wipe q).1 hi
end

mutual
theorem tgt_len : ∀ {t : Tgt} {x : PV} {e e' : PEn}, tgtF t x e = some e' → e'.length = e.length
  | .nm i, x, e, e', h => by
    unfold tgtF at h
    split at h
    · cases h; simp
    · cases h
  | .tp ts, x, e, e', h => by
    unfold tgtF at h
    split at h
    · exact tgts_elen h
    · cases h
theorem tgts_elen : ∀ {ts : List Tgt} {xs : List PV} {e e' : PEn}, tgtsF ts xs e = some e' → e'.length = e.length
  | [], [], _, _, h => by simp only [tgtsF] at h; cases h; rfl
  | [], _ :: _, _, _, h => by simp [tgtsF] at h
  | _ :: _, [], _, _, h => by simp [tgtsF] at h
  | t :: ts, x :: xs, _, _, h => by
    simp only [tgtsF] at h
    obtain ⟨e1, h1, h2⟩ := Option.bind_eq_some_iff.mp h
    rw [tgts_elen h2, tgt_len h1]
end
theorem ex_off {F : Addr → Prop} {H : Hp} {D : Addr} {acc : List V} {o : HO} (nF : ¬ F D) (hD : H D = some (.lst acc)) : Ex F H F (upd H D o) :=
  ⟨fun _ h => h, fun a u f e => by rw [upd_ne (fun z => nF (by rw [← z]; exact f))]; exact e, fun a vs e => by rw [upd_ne (ne_of e hD (by intro z; cases z))]; exact e, fun a u w e => by rw [upd_ne (ne_of e hD (by intro z; cases z))]; exact e⟩
/-- an expression that makes a new container, not yet frozen -/
def tF (K : PySem.W.Frag) (d : Den) : TE := fun σ H Q => ∃ F env r env', Rel K F H env σ ∧ d env = some (r, env') ∧ ∀ (a : Addr) (F' : Addr → Prop) (H' : Hp), Rel K F' H' env' σ → Mv F H env σ F' H' env' σ → ¬ F' a → ¬ Own env' σ a → H a = none → OwnAt K F' H' a r → Q (.ref a) H'
abbrev VF (X : Cx) (e : Expr) (d : Den) : Prop := PE X e (tF X.K d)
/-- frozen, what is nobody's own is a value -/
theorem freeze_new {K : PySem.W.Frag} {F : Addr → Prop} {H : Hp} {env : PEn} {σ : L2.St} {a : Addr} {r : PV} (R : Rel K F H env σ) (nF : ¬ F a) (nO : ¬ Own env σ a) (o : OwnAt K F H a r) :
    Rel K (fun b => F b ∨ b = a) H env σ ∧ Rep K (fun b => F b ∨ b = a) H (.ref a) r := by
  have ex : Ex F H (fun b => F b ∨ b = a) H := ⟨fun _ h => .inl h, fun _ _ _ h => h, fun _ _ h => h, fun _ _ _ h => h⟩
  refine ⟨⟨R.len, fun j w e => ?_, fun j w e => ?_, R.apart, fun b f => ?_, R.sz⟩, o.rep ex (.inr rfl)⟩
  · obtain ⟨z, sz, rz⟩ := R.val j w e; exact ⟨z, sz, rz.ex ex⟩
  · obtain ⟨b, sb, nb, ob⟩ := R.own j w e
    refine ⟨b, sb, fun f => ?_, ob.ex ex rfl⟩
    rcases f with f | f
    · exact nb f
    · exact nO ⟨j, w, e, by rw [← f]; exact sb⟩
  · rcases f with f | f
    · exact R.fz b f
    · subst f; obtain ⟨u, hu, _⟩ := o.some; exact ⟨u, hu⟩
theorem vf_ve {X : Cx} {e : Expr} {d : Den} (h : VF X e d) : VE X e d := pe_imp h fun σ H Q sz ⟨F, env, r, env', R, hd, q⟩ =>
  ⟨F, env, r, env', R, hd, fun a F' H' R' M' nF nO hn o _ => by
    obtain ⟨R2, rp⟩ := freeze_new R' nF nO o
    exact q _ _ H' R2 ⟨fun b f => .inl (M'.sub b f), M'.frame, fun b f => by
      rcases f with f | f
      · exact M'.fnew b f
      · subst f; exact .inr (.inr hn), M'.onew, M'.there⟩ rp⟩
/-- lcF keeps own slots of the names out -/
theorem lcF_noown {t : Tgt} {tt : DenT} {elt : Den} {vs : List Nat} : ∀ {xs : List PV} {e e' : PEn} {ys : List PV}, lcF t tt elt vs xs e = some (ys, e') → (∀ i, i ∈ vs → ∀ v, e[i]? ≠ some (SlP.own v)) → ∀ i, i ∈ vs → ∀ v, e'[i]? ≠ some (SlP.own v)
  | [], _, _, _, h, q => by cases h; exact q
  | x :: xs, e, e', ys, h, q => by
    unfold lcF at h
    obtain ⟨e1, _, h⟩ := Option.bind_eq_some_iff.mp h
    obtain ⟨b, _, h⟩ := Option.bind_eq_some_iff.mp h
    split at h
    · obtain ⟨y, _, h⟩ := Option.bind_eq_some_iff.mp h
      obtain ⟨r, h', e⟩ := Option.map_eq_some_iff.mp h
      cases e
      exact lcF_noown h' (wipeE_noown _ _)
    · exact lcF_noown h (wipeE_noown _ _)

section
variable {X : Cx} {elt tg iter : Expr} {ifs : List Expr} {scope : Scope} {own : List (Str × Nat)} {pos : Pos} {src : DenI} {t : Tgt} {tt : DenT} {de : Den}
/-- the reading of a comprehension gives its word -/
theorem lc_imp (hsub : ∀ i, i ∈ t.slots → i ∈ own.map (·.2)) {σ : L2.St} {H : Hp} {Q : VK} (h : tF X.K (dLC src (own.map (·.2)) t tt de) σ H Q) :
    tLc (tI X.K src) (tG X.K t) (tT X.K tt) (tE X.K de) (own.map (·.2)) σ H (fun v H' => Sized H' → Q v H') := by
  obtain ⟨F, env, r, env', R, hd, q⟩ := h
  generalize own.map (·.2) = vs at *
  unfold dLC at hd
  obtain ⟨⟨items, e1⟩, h1, hd⟩ := Option.bind_eq_some_iff.mp hd
  obtain ⟨⟨ys, e2⟩, h2, hz⟩ := Option.map_eq_some_iff.mp hd
  cases hz
  refine ⟨F, env, items, e1, R, h1, fun J F1 H1 R1 M1 Y hlen => fun D hD => ?_⟩
  have R1w := R1.wipe vs
  refine ⟨fun i m H2 => m = items.length - i ∧ i ≤ items.length ∧ ∃ F2 ei acc done rest, Rel X.K F2 H2 ei (wipe σ vs) ∧ lcF t tt de vs (items.drop i) ei = some (rest, e2) ∧ done ++ rest = ys ∧ H2 D = some (.lst acc) ∧ RepL X.K F2 H2 acc done ∧ done.length ≤ i ∧
    ¬ F2 D ∧ ¬ Own ei (wipe σ vs) D ∧ Mv F1 H1 (wipeE e1 vs) (wipe σ vs) F2 H2 ei (wipe σ vs), ⟨items.length, by simp, Nat.zero_le _, F1, wipeE e1 vs, [], [], ys, ?_, by simpa using h2, rfl, upd_same, .nil, Nat.le_refl _, ?_, ?_, ?_⟩, ?_⟩
  · have N : Nw F1 H1 F1 (upd H1 D (.lst [])) := .upd hD R1.fz
    exact N.rel R1w (R1.sz.upd (Nat.zero_le _))
  · intro f
    obtain ⟨o, e⟩ := R1.fz D f
    rw [hD] at e; cases e
  · intro o
    obtain ⟨v, ov⟩ := R1w.ownAt o
    obtain ⟨u, e, _⟩ := ov.some
    rw [hD] at e; cases e
  · exact (Nw.upd (o := .lst []) hD R1.fz).mv
  · rintro i m H2 ⟨rfl, hi, F2, ei, acc, done, rest, R2, hl, hdone, hDa, ra, hdl, nF, nO, M2⟩
    have ex2 : Ex F1 H1 F2 H2 := M2.ex R1w
    obtain ⟨go, stop⟩ := Y F2 H2 ex2 R2.fz i
    by_cases hlt : i < items.length
    · have hx : items[i]? = some items[i] := List.getElem?_eq_getElem hlt
      obtain ⟨g, yl⟩ := go _ hx
      refine .inr ⟨g, fun H' => i + 1 ≤ items.length ∧ ∃ F2 ei acc done rest, Rel X.K F2 H' ei (wipe σ vs) ∧ lcF t tt de vs (items.drop (i + 1)) ei = some (rest, e2) ∧ done ++ rest = ys ∧ H' D = some (.lst acc) ∧ RepL X.K F2 H' acc done ∧ done.length ≤ i + 1 ∧
        ¬ F2 D ∧ ¬ Own ei (wipe σ vs) D ∧ Mv F1 H1 (wipeE e1 vs) (wipe σ vs) F2 H' ei (wipe σ vs), fun H' n => ⟨items.length - (i + 1), by omega, rfl, n⟩, fun x H3 hy => ?_⟩
      obtain ⟨F3, N3, rx, s3⟩ := yl x H3 hy
      have R3 := N3.rel R2 (s3 R2.sz)
      have hD3 : H3 D = some (.lst acc) := N3.same D _ hDa
      have nF3 : ¬ F3 D := fun f => (N3.fnew D f).elim nF fun z => by rw [hDa] at z; cases z
      rw [List.drop_eq_getElem_cons hlt] at hl
      unfold lcF at hl
      obtain ⟨et, ht, hl⟩ := Option.bind_eq_some_iff.mp hl
      obtain ⟨⟨b, eb⟩, hb, hl⟩ := Option.bind_eq_some_iff.mp hl
      refine ⟨F3, ei, _, et, R3, rx, ht, fun σ4 R4 M4 k4 => ⟨?_, ?_⟩⟩
      · refine (wipe_congr (fun j hj => (k4 j fun z => hj (hsub j z)).1) (by rw [← R4.len, ← R3.len]; exact tgt_len ht)).trans ?_
        apply List.ext_getElem?
        intro j
        rw [wipe_get, wipe_get]
        by_cases hj : j ∈ vs
        · rw [if_pos hj, if_pos hj]
          cases σ[j]? <;> rfl
        · rw [if_neg hj, if_neg hj]
      · refine ⟨F3, et, b, eb, R4, hb, fun F5 H5 R5 M5 => ?_⟩
        have noO4 : ¬ Own et σ4 D := fun o => (M4.onew D o).elim nO fun z => by rw [hD3] at z; cases z
        have hD5 : H5 D = some (.lst acc) := M5.frame D _ hD3 noO4
        have nF5 : ¬ F5 D := fun f => by
          rcases M5.fnew D f with z | z | z
          · exact nF3 z
          · exact noO4 z
          · rw [hD3] at z; cases z
        have noO5 : ¬ Own eb σ4 D := fun o => (M5.onew D o).elim noO4 fun z => by rw [hD3] at z; cases z
        have back : ∀ {Fk : Addr → Prop} {Hk : Hp} {ek : PEn}, Rel X.K Fk Hk ek σ4 → Rel X.K Fk Hk (wipeE ek vs) (wipe σ vs) := fun {Fk Hk ek} Rk => by
          have q := Rk.wipe vs
          have e : wipe σ4 vs = wipe σ vs := by
            refine (wipe_congr (fun j hj => (k4 j fun z => hj (hsub j z)).1) (by rw [← R4.len, ← R3.len]; exact tgt_len ht)).trans ?_
            apply List.ext_getElem?
            intro j
            rw [wipe_get, wipe_get]
            by_cases hj : j ∈ vs
            · rw [if_pos hj, if_pos hj]
              cases σ[j]? <;> rfl
            · rw [if_neg hj, if_neg hj]
          rw [e] at q
          exact q
        have ew : wipe σ4 vs = wipe σ vs := by
          refine (wipe_congr (fun j hj => (k4 j fun z => hj (hsub j z)).1) (by rw [← R4.len, ← R3.len]; exact tgt_len ht)).trans ?_
          apply List.ext_getElem?
          intro j
          rw [wipe_get, wipe_get]
          by_cases hj : j ∈ vs
          · rw [if_pos hj, if_pos hj]
            cases σ[j]? <;> rfl
          · rw [if_neg hj, if_neg hj]
        have M05 : Mv F1 H1 (wipeE e1 vs) (wipe σ vs) F5 H5 eb σ4 := (M2.trans N3.mv).trans (M4.trans M5)
        cases b with
        | false =>
          simp only [Bool.false_eq_true, if_false] at hl
          refine iteF ⟨by omega, F5, wipeE eb vs, acc, done, rest, back R5, hl, hdone, hD5, ?_, by omega, nF5, ?_, ?_⟩
          · exact (ra.ex N3.ex).ex ((M4.trans M5).ex R3)
          · intro o; rw [← ew] at o; exact noO5 (own_unwipe o)
          · have := M05.trans (Mv.wipe vs); rw [ew] at this; exact this
        | true =>
          simp only [if_true] at hl
          refine iteT ?_
          obtain ⟨⟨y, ey⟩, hy2, hl⟩ := Option.bind_eq_some_iff.mp hl
          obtain ⟨⟨r1, r2⟩, hl', e⟩ := Option.map_eq_some_iff.mp hl
          cases e
          refine ⟨F5, eb, y, ey, R5, hy2, fun v F6 H6 R6 M6 r6 => ?_⟩
          have hD6 : H6 D = some (.lst acc) := M6.frame D _ hD5 noO5
          have nF6 : ¬ F6 D := fun f => by
            rcases M6.fnew D f with z | z | z
            · exact nF5 z
            · exact noO5 z
            · rw [hD5] at z; cases z
          have noO6 : ¬ Own ey σ4 D := fun o => (M6.onew D o).elim noO5 fun z => by rw [hD5] at z; cases z
          have la : acc.length = done.length := ra.length
          have hsz : acc.length < sizeLine := by omega
          refine ⟨acc, hD6, hsz, by omega, F6, wipeE ey vs, acc ++ [v], done ++ [y], r1, ?_, hl', by rw [List.append_assoc]; exact hdone, upd_same, ?_, by rw [List.length_append]; simp; omega, nF6, ?_, ?_⟩
          · -- D is nobody's
            have RD : Rel X.K F6 (upd H6 D (.lst (acc ++ [v]))) ey σ4 := by
              refine ⟨R6.len, fun j w e => ?_, fun j w e => ?_, R6.apart, fun a f => ?_, R6.sz.upd (by show (acc ++ [v]).length ≤ _; rw [List.length_append]; exact hsz)⟩
              · obtain ⟨z, sz, rz⟩ := R6.val j w e
                exact ⟨z, sz, rz.ex (ex_off nF6 hD6)⟩
              · obtain ⟨a, sa, na, oa⟩ := R6.own j w e
                have hne : a ≠ D := fun z => noO6 ⟨j, w, e, by rw [← z]; exact sa⟩
                exact ⟨a, sa, na, oa.ex (ex_off nF6 hD6) (upd_ne hne)⟩
              · have hne : a ≠ D := fun z => nF6 (by rw [← z]; exact f)
                rw [upd_ne hne]; exact R6.fz a f
            exact back RD
          · have r := ((ra.ex N3.ex).ex ((M4.trans M5).ex R3)).ex (M6.ex R5)
            exact (r.append (.cons r6 .nil)).ex (ex_off nF6 hD6)
          · intro o; rw [← ew] at o; exact noO6 (own_unwipe o)
          · have m6 := M05.trans M6
            have m7 : Mv F1 H1 (wipeE e1 vs) (wipe σ vs) F6 (upd H6 D (.lst (acc ++ [v]))) ey σ4 :=
              ⟨m6.sub, fun c o hc n => by rw [upd_ne (ne_of_none hc hD)]; exact m6.frame c o hc n, m6.fnew, m6.onew, fun c o hc => by rw [upd_ne (ne_of_none hc hD)]; exact m6.there c o hc⟩
            have := m7.trans (Mv.wipe vs); rw [ew] at this; exact this
    · have hie : i = items.length := by omega
      subst hie
      simp only [List.drop_length, lcF] at hl
      cases hl
      refine .inl ⟨stop (Nat.le_refl _), fun sz => ?_⟩
      rw [List.append_nil] at hdone
      subst hdone
      have noown := lcF_noown h2 (wipeE_noown _ _)
      refine q D F2 H2 (R1.restore R2 ex2 noown) (M1.trans ?_) nF (fun o => nO (own_restore o)) (M1.back hD) (.lst hDa ra)
      refine ⟨M2.sub, fun c o hc n => M2.frame c o hc fun z => n (own_unwipe z), fun a f => ?_, fun a o => ?_, M2.there⟩
      · rcases M2.fnew a f with z | z | z
        · exact .inl z
        · exact .inr (.inl (own_unwipe z))
        · exact .inr (.inr z)
      · rcases M2.onew a (own_restore o) with z | z
        · exact .inl (own_unwipe z)
        · exact .inr z
end
end PP

/-! PP, part k: statements. -/
namespace PP
open PySem PySem.Spec PyProof.Rows L2

inductive Fl where
  | nx (e : PEn) | rt (v : PV) (e : PEn) | bk (e : PEn) | ct (e : PEn)
abbrev DenS := PEn → Option Fl
/-- the slots that stay (what is handed in by reference) -/
def Keep (refs : List Nat) (σ σ' : L2.St) : Prop := ∀ i ∈ refs, σ'[i]? = σ[i]?
theorem Keep.refl {refs : List Nat} {σ : L2.St} : Keep refs σ σ := fun _ _ => rfl
theorem Keep.trans {refs : List Nat} {σ σ1 σ2 : L2.St} (a : Keep refs σ σ1) (b : Keep refs σ1 σ2) : Keep refs σ σ2 := fun i h => (b i h).trans (a i h)
/-- what is wanted behind a flow -/
def FlOk (K : PySem.W.Frag) (refs : List Nat) (F : Addr → Prop) (H : Hp) (env : PEn) (σ : L2.St) (D : Ends) : Fl → Prop
  | .nx e' => ∀ (σ' : L2.St) (F' : Addr → Prop) (H' : Hp), Rel K F' H' e' σ' → Mv F H env σ F' H' e' σ' → Keep refs σ σ' → D.nx σ' H'
  | .bk e' => ∀ (σ' : L2.St) (F' : Addr → Prop) (H' : Hp), Rel K F' H' e' σ' → Mv F H env σ F' H' e' σ' → Keep refs σ σ' → D.bk σ' H'
  | .ct e' => ∀ (σ' : L2.St) (F' : Addr → Prop) (H' : Hp), Rel K F' H' e' σ' → Mv F H env σ F' H' e' σ' → Keep refs σ σ' → D.ct σ' H'
  | .rt v e' => ∀ (x : V) (σ' : L2.St) (F' : Addr → Prop) (H' : Hp), Rel K F' H' e' σ' → Mv F H env σ F' H' e' σ' → Keep refs σ σ' → Rep K F' H' x v → D.rt x H'
def tS (K : PySem.W.Frag) (refs : List Nat) (d : DenS) : TS := fun D σ H => ∃ F env fl, Rel K F H env σ ∧ d env = some fl ∧ FlOk K refs F H env σ D fl
abbrev VS (X : Cx) (refs : List Nat) (st : Stmt) (d : DenS) : Prop := PS X st (tS X.K refs d)
abbrev VSs (X : Cx) (refs : List Nat) (sts : List Stmt) (d : DenS) : Prop := PSs X sts (tS X.K refs d)
def szD (D : Ends) : Ends := { nx := fun σ H => Sized H → D.nx σ H, rt := fun v H => Sized H → D.rt v H, bk := fun σ H => Sized H → D.bk σ H, ct := fun σ H => Sized H → D.ct σ H }
/-- a flow's end carried over a move ahead of it -/
theorem FlOk.after {K : PySem.W.Frag} {refs : List Nat} {F F1 : Addr → Prop} {H H1 : Hp} {env e1 : PEn} {σ σ1 : L2.St} {D : Ends} {fl : Fl} (q : FlOk K refs F H env σ D fl) (m : Mv F H env σ F1 H1 e1 σ1) (k : Keep refs σ σ1) : FlOk K refs F1 H1 e1 σ1 D fl := by
  cases fl with
  | nx e' => exact fun σ' F' H' R M k' => q σ' F' H' R (m.trans M) (k.trans k')
  | bk e' => exact fun σ' F' H' R M k' => q σ' F' H' R (m.trans M) (k.trans k')
  | ct e' => exact fun σ' F' H' R M k' => q σ' F' H' R (m.trans M) (k.trans k')
  | rt v e' => exact fun x σ' F' H' R M k' r => q x σ' F' H' R (m.trans M) (k.trans k') r
theorem FlOk.sz {K : PySem.W.Frag} {refs : List Nat} {F : Addr → Prop} {H : Hp} {env : PEn} {σ : L2.St} {D : Ends} {fl : Fl} (q : FlOk K refs F H env σ D fl) : FlOk K refs F H env σ (szD D) fl := by
  cases fl with
  | nx e' => exact fun σ' F' H' R M k' _ => q σ' F' H' R M k'
  | bk e' => exact fun σ' F' H' R M k' _ => q σ' F' H' R M k'
  | ct e' => exact fun σ' F' H' R M k' _ => q σ' F' H' R M k'
  | rt v e' => exact fun x σ' F' H' R M k' r _ => q x σ' F' H' R M k' r

section
variable {X : Cx} {refs : List Nat} {st : Stmt} {sts rest : List Stmt} {e c : Expr} {de : Den} {dt : DenT} {d d1 d2 : DenS} {pos : Pos}
theorem ps_imp {t t' : TS} (h : PS X st t) (i : ∀ D σ H, Sized H → t' D σ H → t (szD D) σ H) : PS X st t' := ⟨fun pins s σ H D I hw =>
  thn (h.run pins s σ H _ I (i D σ H (sized_of I.hok) hw)) fun f s' q => by
    cases f with
    | next => obtain ⟨σ', H', I', q⟩ := q; exact ⟨σ', H', I', q (sized_of I'.hok)⟩
    | brk => obtain ⟨σ', H', I', q⟩ := q; exact ⟨σ', H', I', q (sized_of I'.hok)⟩
    | cont => obtain ⟨σ', H', I', q⟩ := q; exact ⟨σ', H', I', q (sized_of I'.hok)⟩
    | ret u => obtain ⟨v, σ', H', I', r, q⟩ := q; exact ⟨v, σ', H', I', r, q (sized_of I'.hok)⟩⟩
theorem pss_imp {t t' : TS} (h : PSs X sts t) (i : ∀ D σ H, Sized H → t' D σ H → t (szD D) σ H) : PSs X sts t' := ⟨fun pins s σ H D I hw =>
  thn (h.run pins s σ H _ I (i D σ H (sized_of I.hok) hw)) fun f s' q => by
    cases f with
    | next => obtain ⟨σ', H', I', q⟩ := q; exact ⟨σ', H', I', q (sized_of I'.hok)⟩
    | brk => obtain ⟨σ', H', I', q⟩ := q; exact ⟨σ', H', I', q (sized_of I'.hok)⟩
    | cont => obtain ⟨σ', H', I', q⟩ := q; exact ⟨σ', H', I', q (sized_of I'.hok)⟩
    | ret u => obtain ⟨v, σ', H', I', r, q⟩ := q; exact ⟨v, σ', H', I', r, q (sized_of I'.hok)⟩⟩

/-! ### blocks -/
def sNil : DenS := fun e => some (.nx e)
def sSeq (a b : DenS) : DenS := fun e => (a e).bind fun f => match f with
  | .nx e1 => b e1
  | f => some f
theorem vss_nil : VSs X refs [] sNil := pss_imp pss_nil fun D σ H sz ⟨F, env, fl, R, hd, q⟩ => by
  cases hd
  exact fun _ => q σ F H R .refl .refl
theorem vss_cons (h1 : VS X refs st d1) (h2 : VSs X refs rest d2) : VSs X refs (st :: rest) (sSeq d1 d2) := pss_imp (pss_cons h1 h2) fun D σ H sz ⟨F, env, fl, R, hd, q⟩ => by
  unfold sSeq at hd
  obtain ⟨f, h1, hd⟩ := Option.bind_eq_some_iff.mp hd
  refine ⟨F, env, f, R, h1, ?_⟩
  cases f with
  | nx e1 => exact fun σ' F' H' R' M' k' => ⟨F', e1, fl, R', hd, (q.after M' k').sz⟩
  | bk e1 => cases hd; exact q.sz
  | ct e1 => cases hd; exact q.sz
  | rt v e1 => cases hd; exact q.sz
theorem vs_pass : VS X refs (.Pass pos) sNil := ps_imp ps_pass fun D σ H sz ⟨F, env, fl, R, hd, q⟩ => by
  cases hd
  exact fun _ => q σ F H R .refl .refl
def sBreak : DenS := fun e => some (.bk e)
theorem vs_break : VS X refs (.Break pos) sBreak := ps_imp ps_break fun D σ H sz ⟨F, env, fl, R, hd, q⟩ => by
  cases hd
  exact fun _ => q σ F H R .refl .refl
/-- what is never reached -/
def sNever : DenS := fun _ => none
theorem vs_never : VS X refs st sNever := ps_imp ps_never fun D σ H sz ⟨F, env, fl, R, hd, q⟩ => by cases hd
def sDrop (a : Den) : DenS := fun e => (a e).map fun p => .nx p.2
theorem vs_drop (hs : swapsWith e none pos.line X.env = pure false) (h : VE X e de) : VS X refs (.Expr e pos) (sDrop de) := ps_imp (ps_expr h hs) fun D σ H sz ⟨F, env, fl, R, hd, q⟩ => by
  unfold sDrop at hd
  obtain ⟨p, h1, hz⟩ := Option.map_eq_some_iff.mp hd
  subst hz
  exact ⟨F, env, p.1, p.2, R, h1, fun x F1 H1 R1 M1 r1 _ => q σ F1 H1 R1 M1 .refl⟩
def sRet (a : Den) : DenS := fun e => (a e).map fun p => .rt p.1 p.2
theorem vs_ret (h : VE X e de) : VS X refs (.Return (some e) pos) (sRet de) := ps_imp (ps_ret h) fun D σ H sz ⟨F, env, fl, R, hd, q⟩ => by
  unfold sRet at hd
  obtain ⟨p, h1, hz⟩ := Option.map_eq_some_iff.mp hd
  subst hz
  exact ⟨F, env, p.1, p.2, R, h1, fun x F1 H1 R1 M1 r1 _ => q x σ F1 H1 R1 M1 .refl r1⟩
def sRetN : DenS := fun e => some (.rt .non e)
theorem vs_retN : VS X refs (.Return none pos) sRetN := ps_imp ps_retN fun D σ H sz ⟨F, env, fl, R, hd, q⟩ => by
  cases hd
  exact fun _ => q .non σ F H R .refl .refl .non
def sIf (t : DenT) (a b : DenS) : DenS := fun e => (t e).bind fun p => if p.1 then a p.2 else b p.2
theorem vs_if {a b : List Stmt} (hc : VT X c dt) (ha : VSs X refs a d1) (hb : VSs X refs b d2) : VS X refs (.If c a b pos) (sIf dt d1 d2) := ps_imp (ps_if hc ha hb) fun D σ H sz ⟨F, env, fl, R, hd, q⟩ => by
  unfold sIf at hd
  obtain ⟨⟨p, e1⟩, h1, hd⟩ := Option.bind_eq_some_iff.mp hd
  refine ⟨F, env, p, e1, R, h1, fun F1 H1 R1 M1 => ?_⟩
  cases p with
  | true => exact iteT ⟨F1, e1, fl, R1, by simpa using hd, (q.after M1 .refl).sz⟩
  | false => exact iteF ⟨F1, e1, fl, R1, by simpa using hd, (q.after M1 .refl).sz⟩

/-! ### assignments -/
theorem keep_set {σ σ' : L2.St} {t : Tgt} (h : ∀ i, i ∉ t.slots → σ'[i]? = σ[i]?) (hr : ∀ i ∈ refs, i ∉ t.slots) : Keep refs σ σ' := fun i hi => h i (hr i hi)
def sAsg (t : Tgt) (a : Den) : DenS := fun e => (a e).bind fun p => (tgtF t p.1 p.2).map fun e' => .nx e'
theorem asg_imp {t : Tgt} (hr : ∀ i ∈ refs, i ∉ t.slots) {D : Ends} {σ : L2.St} {H : Hp} (h : tS X.K refs (sAsg t de) D σ H) : tAsg (tE X.K de) (tG X.K t) (szD D) σ H := by
  obtain ⟨F, env, fl, R, hd, q⟩ := h
  unfold sAsg at hd
  obtain ⟨⟨p, e1⟩, h1, hd⟩ := Option.bind_eq_some_iff.mp hd
  obtain ⟨e', h2, hz⟩ := Option.map_eq_some_iff.mp hd
  subst hz
  exact ⟨F, env, p, e1, R, h1, fun x F1 H1 R1 M1 r1 => ⟨F1, e1, p, e', R1, r1, h2, fun σ' R' M' k' _ => q σ' F1 H1 R' (M1.trans M') (keep_set (fun i hi => (k' i hi).1) hr)⟩⟩
theorem vs_asg {tg : Expr} {t : Tgt} (hr : ∀ i ∈ refs, i ∉ t.slots) (he : VE X e de) (hg : PG X tg (tG X.K t)) (hs : swapsWithSole [tg] e pos.line X.env = pure false) (hw : swappedStores [tg] e X.env = pure none) (h1 : (assignEach [tg] X.env).map (·.2) = [assign tg X.env]) :
    VS X refs (.Assign [tg] e pos) (sAsg t de) := ps_imp (ps_asg he hg hs hw h1) fun D σ H sz h => asg_imp hr h
theorem vs_set {i : Nat} {x : Str} {pos' : Pos} (hr : i ∉ refs) (hN : X.N.Nodup) (hi : X.N[i]? = some x) (hx : Loc X.env.scope x) (he : VE X e de) (hs : swapsWith e (some (.Name x pos')) pos.line X.env = pure false) (hf : X.fn x = true ∨ X.env.scope.names.lookup x = some .local) :
    VS X refs (.Assign [.Name x pos'] e pos) (sAsg (.nm i) de) := ps_imp (ps_set (pos' := pos') hN hi hx he hs hf) fun D σ H sz h => by
  have := asg_imp (t := .nm i) (fun j hj z => by simp only [Tgt.slots, List.mem_singleton] at z; subst z; exact hr hj) h
  obtain ⟨F, env, p, e1, R, h1, k⟩ := this
  refine ⟨F, env, p, e1, R, h1, fun x' F1 H1 R1 M1 r1 => ?_⟩
  obtain ⟨F2, env2, p2, e2, R2, r2, h2, k2⟩ := k x' F1 H1 R1 M1 r1
  unfold tgtF at h2
  split at h2
  · rename_i hi'
    cases h2
    refine k2 _ (R2.set hi' r2) (Mv.set hi') fun j hj => ?_
    simp only [Tgt.slots, List.mem_singleton] at hj
    rw [List.getElem?_set_ne (Ne.symm hj), List.getElem?_set_ne (Ne.symm hj)]
    exact ⟨rfl, rfl⟩
  · cases h2
/-- a slot gets a new container of its own -/
def sOwn (i : Nat) (a : Den) : DenS := fun e => (a e).bind fun p => if i < p.2.length then some (.nx (p.2.set i (.own p.1))) else none
theorem Rel.setOwn {K : PySem.W.Frag} {F : Addr → Prop} {H : Hp} {env : PEn} {σ : L2.St} (R : Rel K F H env σ) {i : Nat} {a : Addr} {p : PV} (hi : i < env.length) (nF : ¬ F a) (nO : ¬ Own env σ a) (o : OwnAt K F H a p) : Rel K F H (env.set i (.own p)) (σ.set i (some (.ref a))) := by
  have hs : i < σ.length := by rw [← R.len]; exact hi
  refine ⟨by simpa using R.len, fun j v e => ?_, fun j v e => ?_, fun j k v w b e1 e2 s1 s2 => ?_, R.fz, R.sz⟩
  · by_cases hj : i = j
    · subst hj; rw [List.getElem?_set_self hi] at e; cases e
    · rw [List.getElem?_set_ne hj] at e
      rw [List.getElem?_set_ne hj]
      exact R.val j v e
  · by_cases hj : i = j
    · subst hj
      rw [List.getElem?_set_self hi] at e
      cases e
      exact ⟨a, List.getElem?_set_self hs, nF, o⟩
    · rw [List.getElem?_set_ne hj] at e
      rw [List.getElem?_set_ne hj]
      exact R.own j v e
  · by_cases hj : i = j
    · subst hj
      by_cases hk : i = k
      · exact hk
      · rw [List.getElem?_set_self hs] at s1
        cases s1
        rw [List.getElem?_set_ne hk] at e2 s2
        exact absurd ⟨k, w, e2, s2⟩ nO
    · rw [List.getElem?_set_ne hj] at e1 s1
      by_cases hk : i = k
      · subst hk
        rw [List.getElem?_set_self hs] at s2
        cases s2
        exact absurd ⟨j, v, e1, s1⟩ nO
      · rw [List.getElem?_set_ne hk] at e2 s2
        exact R.apart j k v w b e1 e2 s1 s2
theorem own_imp {i : Nat} (hr : i ∉ refs) {D : Ends} {σ : L2.St} {H : Hp} (h : tS X.K refs (sOwn i de) D σ H) : tAsg (tF X.K de) (gName i) (szD D) σ H := by
  obtain ⟨F, env, fl, R, hd, q⟩ := h
  unfold sOwn at hd
  obtain ⟨⟨p, e1⟩, h1, hd⟩ := Option.bind_eq_some_iff.mp hd
  split at hd
  · rename_i hi
    cases hd
    refine ⟨F, env, p, e1, R, h1, fun a F1 H1 R1 M1 nF nO hn o _ => q _ F1 H1 (R1.setOwn hi nF nO o) ⟨M1.sub, M1.frame, M1.fnew, fun b ⟨j, v, e, s⟩ => ?_, M1.there⟩ fun j hj => ?_⟩
    · by_cases hj : i = j
      · subst hj
        rw [List.getElem?_set_self (by rw [← R1.len]; exact hi)] at s
        cases s
        exact .inr hn
      · rw [List.getElem?_set_ne hj] at e s
        exact M1.onew b ⟨j, v, e, s⟩
    · have hne : i ≠ j := fun z => hr (by rw [z]; exact hj)
      rw [List.getElem?_set_ne hne]
  · cases hd
theorem vs_own {i : Nat} {x : Str} {pos' : Pos} (hr : i ∉ refs) (hN : X.N.Nodup) (hi : X.N[i]? = some x) (hx : Loc X.env.scope x) (he : VF X e de) (hs : swapsWith e (some (.Name x pos')) pos.line X.env = pure false) (hf : X.fn x = true ∨ X.env.scope.names.lookup x = some .local) :
    VS X refs (.Assign [.Name x pos'] e pos) (sOwn i de) := ps_imp (ps_set (pos' := pos') hN hi hx he hs hf) fun D σ H sz h => own_imp hr h
/-! ### loops -/
def whF (t : DenT) (b : DenS) : Nat → DenS
  | 0 => fun _ => none
  | n + 1 => fun e => (t e).bind fun p => if p.1 then (b p.2).bind fun f => match f with
      | .nx e1 => whF t b n e1
      | .ct e1 => whF t b n e1
      | .bk e1 => some (.nx e1)
      | .rt v e1 => some (.rt v e1)
    else some (.nx p.2)
def sWhile (n : Nat) (t : DenT) (b : DenS) : DenS := whF t b n
theorem vs_while {n : Nat} {body : List Stmt} (hp : PassesOwn (model X.prog X.w) X.A X.env X.xe) (hc : VT X c dt) (hb : VSs X refs body d1) : VS X refs (.While c body [] pos) (sWhile n dt d1) := ps_imp (ps_while hp hc hb) fun D σ H sz ⟨F, env, fl, R, hd, q⟩ => by
  refine ⟨fun m σ1 H1 => ∃ F1 e1, Rel X.K F1 H1 e1 σ1 ∧ whF dt d1 m e1 = some fl ∧ Mv F H env σ F1 H1 e1 σ1 ∧ Keep refs σ σ1, ⟨n, F, env, R, hd, .refl, .refl⟩, ?_⟩
  rintro m σ1 H1 ⟨F1, e1, R1, hw, M1, k1⟩
  cases m with
  | zero => cases hw
  | succ m =>
    unfold whF at hw
    obtain ⟨⟨b, e2⟩, h2, hw⟩ := Option.bind_eq_some_iff.mp hw
    refine ⟨F1, e1, b, e2, R1, h2, fun F2 H2 R2 M2 => ?_⟩
    cases b with
    | false =>
      simp only [Bool.false_eq_true, if_false] at hw
      cases hw
      exact iteF (fun _ => q σ1 F2 H2 R2 (M1.trans M2) k1)
    | true =>
      simp only [if_true] at hw
      refine iteT ?_
      obtain ⟨f, h3, hw⟩ := Option.bind_eq_some_iff.mp hw
      refine ⟨fun σ' H' => ∃ F1 e1, Rel X.K F1 H' e1 σ' ∧ whF dt d1 m e1 = some fl ∧ Mv F H env σ F1 H' e1 σ' ∧ Keep refs σ σ', fun σ' H' h => ⟨m, Nat.lt_succ_self m, h⟩, F2, e2, f, R2, h3, ?_⟩
      cases f with
      | nx e3 => exact fun σ' F' H' R' M' k' => ⟨F', e3, R', hw, (M1.trans M2).trans M', k1.trans k'⟩
      | ct e3 => exact fun σ' F' H' R' M' k' => ⟨F', e3, R', hw, (M1.trans M2).trans M', k1.trans k'⟩
      | bk e3 => cases hw; exact fun σ' F' H' R' M' k' _ => q σ' F' H' R' ((M1.trans M2).trans M') (k1.trans k')
      | rt v e3 => cases hw; exact fun x σ' F' H' R' M' k' r _ => q x σ' F' H' R' ((M1.trans M2).trans M') (k1.trans k') r
def forF (t : Tgt) (b : DenS) : List PV → DenS
  | [] => fun e => some (.nx e)
  | x :: xs => fun e => (tgtF t x e).bind fun e1 => (b e1).bind fun f => match f with
      | .nx e2 => forF t b xs e2
      | .ct e2 => forF t b xs e2
      | .bk e2 => some (.nx e2)
      | .rt v e2 => some (.rt v e2)
def sFor (src : DenI) (t : Tgt) (b : DenS) : DenS := fun e => (src e).bind fun p => forF t b p.1 p.2
theorem vs_for {iter tg : Expr} {body : List Stmt} {src : DenI} {t : Tgt} (hp : PassesOwn (model X.prog X.w) X.A X.env X.xe) (hc : X.calm = true) (hr : ∀ i ∈ refs, i ∉ t.slots) (hi : VI X tg iter src) (hg : PG X tg (tG X.K t)) (hb : VSs X refs body d1)
    (hs : ∀ x, foldedSetIterable iter X.env x = pure x) : VS X refs (.For tg iter body [] pos) (sFor src t d1) := ps_imp (ps_for hp hc hi hg hb hs) fun D σ H sz ⟨F, env, fl, R, hd, q⟩ => by
  unfold sFor at hd
  obtain ⟨⟨items, e0⟩, h0, hd⟩ := Option.bind_eq_some_iff.mp hd
  refine ⟨F, env, items, e0, R, h0, fun J F0 H0 R0 M0 Y hlen => ?_⟩
  refine ⟨fun i m σ1 H1 => m = items.length - i ∧ i ≤ items.length ∧ ∃ F1 e1, Rel X.K F1 H1 e1 σ1 ∧ forF t d1 (items.drop i) e1 = some fl ∧ Mv F0 H0 e0 σ F1 H1 e1 σ1 ∧ Keep refs σ σ1, ⟨items.length, by simp, Nat.zero_le _, F0, e0, R0, by simpa using hd, .refl, .refl⟩, ?_⟩
  rintro i m σ1 H1 ⟨rfl, hi, F1, e1, R1, hf, M1, k1⟩
  obtain ⟨go, stop⟩ := Y F1 H1 (M1.ex R0) R1.fz i
  by_cases hlt : i < items.length
  · obtain ⟨g, yl⟩ := go _ (List.getElem?_eq_getElem hlt)
    rw [List.drop_eq_getElem_cons hlt] at hf
    unfold forF at hf
    obtain ⟨et, ht, hf⟩ := Option.bind_eq_some_iff.mp hf
    obtain ⟨f, h3, hf⟩ := Option.bind_eq_some_iff.mp hf
    refine .inr ⟨g, fun σ' H' => i + 1 ≤ items.length ∧ ∃ F1 e1, Rel X.K F1 H' e1 σ' ∧ forF t d1 (items.drop (i + 1)) e1 = some fl ∧ Mv F0 H0 e0 σ F1 H' e1 σ' ∧ Keep refs σ σ', fun σ' H' n => ⟨items.length - (i + 1), by omega, rfl, n⟩, fun x H2 hy => ?_⟩
    obtain ⟨F2, N2, rx, s2⟩ := yl x H2 hy
    have R2 := N2.rel R1 (s2 R1.sz)
    refine ⟨F2, e1, _, et, R2, rx, ht, fun σ3 R3 M3 k3 => ?_⟩
    have kk : Keep refs σ σ3 := k1.trans (keep_set (fun j hj => (k3 j hj).1) hr)
    have MM : Mv F0 H0 e0 σ F2 H2 et σ3 := (M1.trans N2.mv).trans M3
    refine ⟨F2, et, f, R3, h3, ?_⟩
    cases f with
    | nx e3 => exact fun σ' F' H' R' M' k' => ⟨hlt, F', e3, R', hf, MM.trans M', kk.trans k'⟩
    | ct e3 => exact fun σ' F' H' R' M' k' => ⟨hlt, F', e3, R', hf, MM.trans M', kk.trans k'⟩
    | bk e3 => cases hf; exact fun σ' F' H' R' M' k' _ => q σ' F' H' R' ((M0.trans MM).trans M') (kk.trans k')
    | rt v e3 => cases hf; exact fun x σ' F' H' R' M' k' r _ => q x σ' F' H' R' ((M0.trans MM).trans M') (kk.trans k') r
  · have e : i = items.length := by omega
    subst e
    simp only [List.drop_length, forF] at hf
    cases hf
    exact .inl ⟨stop (Nat.le_refl _), fun _ => q σ1 F1 H1 R1 (M0.trans M1) k1⟩
end
end PP

/-! PP, part l: what is done to containers of one's own; new containers. -/
namespace PP
open PySem PySem.Spec PyProof.Rows L2

section
variable {K : PySem.W.Frag} {F : Addr → Prop} {H : Hp} {env : PEn} {σ : L2.St}
theorem ex_own {a : Addr} {o : HO} {v : PV} (nF : ¬ F a) (O : OwnAt K F H a v) : Ex F H F (upd H a o) := by
  obtain ⟨u, hu, n1, n2⟩ := O.some
  exact ⟨fun _ h => h, fun b w f e => by rw [upd_ne (fun z => nF (by rw [← z]; exact f))]; exact e,
    fun b vs e => by rw [upd_ne (fun z => by rw [z, hu] at e; cases e; exact n1 _ rfl)]; exact e,
    fun b w x e => by rw [upd_ne (fun z => by rw [z, hu] at e; cases e; exact n2 _ _ rfl)]; exact e⟩
theorem Rel.mutate (R : Rel K F H env σ) {i : Nat} {a : Addr} {v w : PV} {o : HO} (e : env[i]? = some (SlP.own v)) (s : σ[i]? = some (some (V.ref a))) (sm : PP.HO.small o) (O : OwnAt K F (upd H a o) a w) :
    Rel K F (upd H a o) (env.set i (.own w)) σ ∧ Mv F H env σ F (upd H a o) (env.set i (.own w)) σ := by
  obtain ⟨a', s', nF, Ov⟩ := R.own i v e
  rw [s] at s'; cases s'
  have ex : Ex F H F (upd H a o) := ex_own nF Ov
  refine ⟨⟨by simpa using R.len, fun j u ej => ?_, fun j u ej => ?_, fun j k u u' b ej ek sj sk => ?_, fun b f => ?_, R.sz.upd sm⟩, ⟨fun _ h => h, fun b u hb n => ?_, fun b f => .inl f, fun b ⟨j, u, ej, sj⟩ => ?_, fun b u hb => ?_⟩⟩
  · by_cases hj : i = j
    · subst hj; rw [set_len e] at ej; cases ej
    · rw [List.getElem?_set_ne hj] at ej
      obtain ⟨x, sx, r⟩ := R.val j u ej
      exact ⟨x, sx, r.ex ex⟩
  · by_cases hj : i = j
    · subst hj; rw [set_len e] at ej; cases ej; exact ⟨a, s, nF, O⟩
    · rw [List.getElem?_set_ne hj] at ej
      obtain ⟨b, sb, nb, ob⟩ := R.own j u ej
      have hne : b ≠ a := fun z => hj (R.apart i j _ _ _ e ej s (by rw [← z]; exact sb))
      exact ⟨b, sb, nb, ob.ex ex (upd_ne hne)⟩
  · have back : ∀ (j : Nat) (u : PV), (env.set i (SlP.own w))[j]? = some (SlP.own u) → ∃ u', env[j]? = some (SlP.own u') := fun j u ej => by
      by_cases hj : i = j
      · subst hj; exact ⟨v, e⟩
      · rw [List.getElem?_set_ne hj] at ej; exact ⟨u, ej⟩
    obtain ⟨u1, e1⟩ := back j u ej
    obtain ⟨u2, e2⟩ := back k u' ek
    exact R.apart j k u1 u2 b e1 e2 sj sk
  · obtain ⟨u, hu⟩ := R.fz b f
    exact ⟨u, by rw [upd_ne (fun z => nF (by rw [← z]; exact f))]; exact hu⟩
  · rw [upd_ne (fun z => n ⟨i, v, e, by rw [z]; exact s⟩)]; exact hb
  · by_cases hj : i = j
    · subst hj; exact .inl ⟨i, v, e, sj⟩
    · rw [List.getElem?_set_ne hj] at ej; exact .inl ⟨j, u, ej, sj⟩
  · by_cases hb' : b = a
    · subst hb'; exact ⟨o, upd_same⟩
    · exact ⟨u, by rw [upd_ne hb']; exact hb⟩
end

/-! ### methods that change a list of one's own -/
structure MMut (X : Cx) (m : Str) (f : List PV → List PV → Option (PV × List PV)) : Prop where
  run : ∃ id, PySem.Slot "list" m id ∧ typeOf (.builtin id) = pure (.type "method_descriptor") ∧
    ∀ (pins : List (Addr × Obj)) (s : Shared) (σ : L2.St) (H : Hp) (a : Addr) (vs args : List V) (us : List Value) (xs ps ws : List PV) (r : PV) (F : Addr → Prop) (Q : VK), Inv X pins σ H s → H a = some (.lst vs) → RepL X.K F H vs xs → Vals args us → RepL X.K F H args ps → f xs ps = some (r, ws) → Sized H →
      (∀ (z : V) (vs' : List V), Rep X.K F H z r → RepL X.K F H vs' ws → vs'.length ≤ sizeLine → Q z (upd H a (.lst vs'))) → wpAny (model X.prog X.w) X.A (call (.builtin id) (.ref a :: us)) (EP X pins σ Q) X.xe s
def dMut (f : List PV → List PV → Option (PV × List PV)) (i : Nat) (ds : List Den) : Den := fun e => match e[i]? with
  | some (.own (.lst _)) => (dArgs ds e).bind fun q => match q.2[i]? with
    | some (.own (.lst xs)) => (f xs q.1).map fun z => (z.1, q.2.set i (.own (.lst z.2)))
    | _ => none
  | _ => none
section
variable {X : Cx} {o : Expr} {m : Str} {apos cpos : Pos} {es : List Expr} {ds : List Den}
/-- the end of such a call -/
theorem mut_fin {f : List PV → List PV → Option (PV × List PV)} {id : String} {i : Nat} {a : Addr} {pins : List (Addr × Obj)} {s2 : Shared} {σ : L2.St} {H1 H2 : Hp} {F1 F2 : Addr → Prop} {e1 e2 : PEn} {as : List V} {us : List Value} {xs ps ws : List PV} {z : PV} {Q : VK}
    (hrun : ∀ (pins : List (Addr × Obj)) (s : Shared) (σ : L2.St) (H : Hp) (a : Addr) (vs args : List V) (us : List Value) (xs ps ws : List PV) (r : PV) (F : Addr → Prop) (Q : VK), Inv X pins σ H s → H a = some (.lst vs) → RepL X.K F H vs xs → Vals args us → RepL X.K F H args ps → f xs ps = some (r, ws) → Sized H →
      (∀ (z : V) (vs' : List V), Rep X.K F H z r → RepL X.K F H vs' ws → vs'.length ≤ sizeLine → Q z (upd H a (.lst vs'))) → wpAny (model X.prog X.w) X.A (call (.builtin id) (.ref a :: us)) (EP X pins σ Q) X.xe s)
    (I2 : Inv X pins σ H2 s2) (sa : σ[i]? = some (some (V.ref a))) (rxs : Vals as us) (R2 : Rel X.K F2 H2 e2 σ) (M : Mv F1 H1 e1 σ F2 H2 e2 σ) (r2 : RepL X.K F2 H2 as ps) (eo : e2[i]? = some (SlP.own (.lst xs))) (h2 : f xs ps = some (z, ws))
    (q : ∀ (x : V) (F' : Addr → Prop) (H' : Hp), Rel X.K F' H' (e2.set i (.own (.lst ws))) σ → Mv F1 H1 e1 σ F' H' (e2.set i (.own (.lst ws))) σ → Rep X.K F' H' x z → Q x H') :
    wpAny (model X.prog X.w) X.A (call (.builtin id) (.ref a :: us)) (EP X pins σ Q) X.xe s2 := by
  obtain ⟨a', sa', nF2, O2⟩ := R2.own i _ eo
  rw [sa] at sa'; cases sa'
  cases O2 with
  | @lst vs _ hH r1 =>
    refine hrun pins s2 σ H2 a vs as us xs ps ws z F2 Q I2 hH r1 rxs r2 h2 R2.sz fun zv vs' rz rws hl => ?_
    have ex2 : Ex F2 H2 F2 (upd H2 a (.lst vs')) := ex_own nF2 (OwnAt.lst hH r1)
    obtain ⟨R3, M3⟩ := R2.mutate (w := .lst ws) (o := .lst vs') eo sa hl (.lst upd_same (rws.ex ex2))
    exact q zv F2 _ R3 (M.trans M3) (rz.ex ex2)
theorem ve_mut {f : List PV → List PV → Option (PV × List PV)} {i : Nat} {e : Expr} (hm : MMut X m f) (mc : MCall X o m apos (e :: es) cpos) (ho : PE X o (tVar i)) (ha : VA X (e :: es) (dArgs ds)) : VE X (.Call (.Attribute o m apos) (e :: es) [] cpos) (dMut f i ds) := by
  refine ⟨fun pins s σ H Q I ⟨F, env, r, env', R, hd, q⟩ => ?_⟩
  unfold dMut at hd
  split at hd
  · rename_i xs0 e0
    obtain ⟨⟨ps, e1⟩, h1, hd⟩ := Option.bind_eq_some_iff.mp hd
    split at hd
    · rename_i xs e2
      obtain ⟨⟨z, ws⟩, h2, hz⟩ := Option.map_eq_some_iff.mp hd
      cases hz
      obtain ⟨a, sa, nF, O⟩ := R.own i _ e0
      refine wpAny_Call_method_late mc.base mc.few mc.line rfl (thn (ho.run pins s σ H (fun y H1 => y = .ref a ∧ H1 = H) I ⟨.ref a, sa, rfl, rfl⟩) fun u s1 ⟨y, H1, I1, rx, ey, eH⟩ => ?_)
      subst ey eH
      cases rx
      obtain ⟨id, slot, hty, hrun⟩ := hm.run
      cases O with
      | @lst vs0 _ hH0 r0 =>
        obtain ⟨t1, t2⟩ := tyV_is (x := .ref a) (T := "list") I1 rfl (.inl ⟨rfl, vs0, SqL.of hH0⟩)
        refine ⟨"list", id, PySem.F.plainAttrs_list, slot, hty, t1, t2, ?_⟩
        have hs := mc.star
        have h5 : es.all notStar = true := by simp only [List.all_cons, Bool.and_eq_true] at hs; exact hs.2
        have h6 : notStar e = true := List.all_eq_true.mp hs _ List.mem_cons_self
        have hA := args_run ha cpos I1 R h1
        rw [starEach_cons h6] at hA ⊢
        refine Calls.callWith_builtin (by show (false || (backTo cpos (starEach es X.env)).any (·.1)) = false; rw [star_plain h5 cpos]; rfl) (Calls.evalArgs_plain ?_)
        exact thn hA fun us s2 ⟨as, F2, H2, I2, rxs, R2, M2, r2⟩ => mut_fin hrun I2 sa rxs R2 M2 r2 e2 h2 q
    · cases hd
  · cases hd
theorem ve_mut0 {f : List PV → List PV → Option (PV × List PV)} {i : Nat} (hm : MMut X m f) (mc : MCall X o m apos [] cpos) (ho : PE X o (tVar i)) : VE X (.Call (.Attribute o m apos) [] [] cpos) (dMut f i []) := by
  refine ⟨fun pins s σ H Q I ⟨F, env, r, env', R, hd, q⟩ => ?_⟩
  unfold dMut at hd
  split at hd
  · rename_i xs0 e0
    obtain ⟨⟨ps, e1⟩, h1, hd⟩ := Option.bind_eq_some_iff.mp hd
    cases h1
    split at hd
    · rename_i xs e2
      obtain ⟨⟨z, ws⟩, h2, hz⟩ := Option.map_eq_some_iff.mp hd
      cases hz
      obtain ⟨a, sa, nF, O⟩ := R.own i _ e0
      refine wpAny_Call_method_late mc.base mc.few mc.line rfl (thn (ho.run pins s σ H (fun y H1 => y = .ref a ∧ H1 = H) I ⟨.ref a, sa, rfl, rfl⟩) fun u s1 ⟨y, H1, I1, rx, ey, eH⟩ => ?_)
      subst ey eH
      cases rx
      obtain ⟨id, slot, hty, hrun⟩ := hm.run
      cases O with
      | @lst vs0 _ hH0 r0 =>
        obtain ⟨t1, t2⟩ := tyV_is (x := .ref a) (T := "list") I1 rfl (.inl ⟨rfl, vs0, SqL.of hH0⟩)
        refine ⟨"list", id, PySem.F.plainAttrs_list, slot, hty, t1, t2, ?_⟩
        exact Calls.callWith_builtin rfl (PyProof.Rows.evalArgs_nil3 (mut_fin hrun I1 sa .nil R .refl .nil e2 h2 q))
    · cases hd
  · cases hd
def appendF : List PV → List PV → Option (PV × List PV) := fun xs ps => match ps with
  | [y] => if xs.length < 1000000 then some (.non, xs ++ [y]) else none
  | _ => none
def popF : List PV → List PV → Option (PV × List PV) := fun xs ps => match ps with
  | [] => xs.getLast?.map fun y => (y, xs.dropLast)
  | [.int i] => (ixN xs.length i).bind fun k => (xs[k]?).map fun y => (y, xs.eraseIdx k)
  | _ => none
def removeF : List PV → List PV → Option (PV × List PV) := fun xs ps => match ps with
  | [.int k] => (toInts xs).bind fun is => if k ∈ is then some (.non, (is.erase k).map PV.int) else none
  | _ => none
theorem mm_append : MMut X "append" appendF := ⟨⟨_, PySem.F.slot_list_append, PySem.F.type_list_append, fun pins s σ H a vs args us xs ps ws r F Q I hH rv rx rp hf sz k => by
  unfold appendF at hf
  split at hf
  · split at hf
    · rename_i hl
      cases hf
      obtain ⟨v, rfl, q1⟩ := rp.one
      have l := rv.length
      refine mt_append pins s σ H (.ref a) [v] _ us Q I rfl rx ⟨a, vs, v, rfl, rfl, hH, by rw [sizeLine_eq]; omega, k _ _ .non (rv.append (.cons q1 .nil)) ?_⟩
      rw [List.length_append, sizeLine_eq]; simp; omega
    · cases hf
  · cases hf⟩⟩
theorem mm_pop : MMut X "pop" popF := ⟨⟨_, PySem.F.slot_list_pop, PySem.F.type_list_pop, fun pins s σ H a vs args us xs ps ws r F Q I hH rv rx rp hf sz k => by
  unfold popF at hf
  have l := rv.length
  have hz := (sz a).1 vs (.inl (.inl hH))
  split at hf
  · obtain ⟨y, hy, e⟩ := Option.map_eq_some_iff.mp hf
    cases e
    cases rp
    rw [List.getLast?_eq_getElem?] at hy
    obtain ⟨v, hv, r1⟩ := rv.get hy
    refine mt_pop pins s σ H (.ref a) [] _ us Q I rfl rx ⟨a, vs, v, rfl, rfl, hH, by rw [l]; exact hv, k _ _ r1 rv.dropLast ?_⟩
    rw [List.length_dropLast]; omega
  · rename_i i
    obtain ⟨j, hj, hf⟩ := Option.bind_eq_some_iff.mp hf
    obtain ⟨y, hy, e⟩ := Option.map_eq_some_iff.mp hf
    cases e
    obtain ⟨v, rfl, q1⟩ := rp.one
    cases q1
    obtain ⟨w, hw, r1⟩ := rv.get hy
    obtain ⟨h1, h2, h3, h4⟩ := ixN_seq hj
    have hn := line63
    refine mt_popAt pins s σ H (.ref a) _ _ us Q I rfl rx ⟨a, vs, i, j, w, rfl, rfl, hH, by omega, by omega, by rw [l]; exact h1, hw, k _ _ r1 (rv.eraseIdx j) ?_⟩
    have := len_erase vs j
    omega
  · cases hf⟩⟩

/-! ### x[i] = v -/
def putP {κ : Type} [DecidableEq κ] (kvs : List (κ × PV)) (k : κ) (v : PV) : List (κ × PV) :=
  if (kvs.any fun kv => decide (kv.1 = k)) = true then kvs.map (fun kv => if kv.1 = k then (kv.1, v) else kv) else kvs ++ [(k, v)]
def setF (d k v : PV) : Option PV := match d with
  | .lst xs => match k with
    | .int i => (ixN xs.length i).map fun j => .lst (xs.set j v)
    | _ => none
  | .dk kvs => if kvs.length < 1000000 then (toKey k).map fun q => .dk (putP kvs q v) else none
  | .dt kvs => match k with
    | .tup ks => if kvs.length < 1000000 then (toKeys ks).map fun q => .dt (putP kvs q v) else none
    | _ => none
  | _ => none
end
section
variable {K : PySem.W.Frag} {F : Addr → Prop} {H : Hp}
theorem RepK.length : ∀ {kvs : List (Key × V)} {xs : List (Key × PV)}, RepK K F H kvs xs → kvs.length = xs.length
  | _, _, .nil => rfl
  | _, _, .cons _ t => by simp [RepK.length t]
theorem RepT.length : ∀ {kvs : List (List Key × V)} {xs : List (List Key × PV)}, RepT K F H kvs xs → kvs.length = xs.length
  | _, _, .nil => rfl
  | _, _, .cons _ t => by simp [RepT.length t]
theorem RepK.any {p : Key → Bool} : ∀ {kvs : List (Key × V)} {xs : List (Key × PV)}, RepK K F H kvs xs → kvs.any (fun kv => p kv.1) = xs.any (fun kv => p kv.1)
  | _, _, .nil => rfl
  | _, _, .cons _ t => by simp only [List.any_cons, RepK.any t]
theorem RepT.any {p : List Key → Bool} : ∀ {kvs : List (List Key × V)} {xs : List (List Key × PV)}, RepT K F H kvs xs → kvs.any (fun kv => p kv.1) = xs.any (fun kv => p kv.1)
  | _, _, .nil => rfl
  | _, _, .cons _ t => by simp only [List.any_cons, RepT.any t]
theorem RepK.over {k : Key} {v : V} {x : PV} (r : Rep K F H v x) : ∀ {kvs : List (Key × V)} {xs : List (Key × PV)}, RepK K F H kvs xs → RepK K F H (kvs.map fun kv => if kv.1 = k then (kv.1, v) else kv) (xs.map fun kv => if kv.1 = k then (kv.1, x) else kv)
  | _, _, .nil => .nil
  | _, _, @RepK.cons _ _ _ k' _ _ _ _ q t => by
    simp only [List.map_cons]
    by_cases h : k' = k
    · rw [if_pos h, if_pos h]; exact .cons r (RepK.over r t)
    · rw [if_neg h, if_neg h]; exact .cons q (RepK.over r t)
theorem RepT.over {k : List Key} {v : V} {x : PV} (r : Rep K F H v x) : ∀ {kvs : List (List Key × V)} {xs : List (List Key × PV)}, RepT K F H kvs xs → RepT K F H (kvs.map fun kv => if kv.1 = k then (kv.1, v) else kv) (xs.map fun kv => if kv.1 = k then (kv.1, x) else kv)
  | _, _, .nil => .nil
  | _, _, @RepT.cons _ _ _ k' _ _ _ _ q t => by
    simp only [List.map_cons]
    by_cases h : k' = k
    · rw [if_pos h, if_pos h]; exact .cons r (RepT.over r t)
    · rw [if_neg h, if_neg h]; exact .cons q (RepT.over r t)
theorem RepK.append : ∀ {kvs ws : List (Key × V)} {xs ys : List (Key × PV)}, RepK K F H kvs xs → RepK K F H ws ys → RepK K F H (kvs ++ ws) (xs ++ ys)
  | _, _, _, _, .nil, s => s
  | _, _, _, _, .cons r t, s => .cons r (RepK.append t s)
theorem RepT.append : ∀ {kvs ws : List (List Key × V)} {xs ys : List (List Key × PV)}, RepT K F H kvs xs → RepT K F H ws ys → RepT K F H (kvs ++ ws) (xs ++ ys)
  | _, _, _, _, .nil, s => s
  | _, _, _, _, .cons r t, s => .cons r (RepT.append t s)
theorem RepK.put {k : Key} {v : V} {x : PV} {kvs : List (Key × V)} {xs : List (Key × PV)} (R : RepK K F H kvs xs) (r : Rep K F H v x) : RepK K F H (putK kvs k v) (putP xs k x) := by
  unfold putK putP
  rw [R.any (p := fun q => decide (q = k))]
  split
  · exact R.over r
  · exact R.append (.cons r .nil)
theorem RepT.put {k : List Key} {v : V} {x : PV} {kvs : List (List Key × V)} {xs : List (List Key × PV)} (R : RepT K F H kvs xs) (r : Rep K F H v x) : RepT K F H (putK kvs k v) (putP xs k x) := by
  unfold putK putP
  rw [R.any (p := fun q => decide (q = k))]
  split
  · exact R.over r
  · exact R.append (.cons r .nil)
theorem toKey_rep {v : V} {x : PV} {k : Key} (r : Rep K F H v x) (h : toKey x = some k) : v = kV k := by
  cases r <;> simp only [toKey] at h <;> cases h <;> rfl
end
/-- what a store does to a container of one's own -/
theorem set_own {X : Cx} (hu : X.A.units + 1 < cLine) {pins : List (Addr × Obj)} {s : Shared} {σ : L2.St} {H : Hp} {F : Addr → Prop} {a : Addr} {d k v d' : PV} {y x : V} {iv u : Value} {Q : Hp → Prop} (I : Inv X pins σ H s) (nF : ¬ F a) (O : OwnAt X.K F H a d) (sz : Sized H)
    (rk : Rep X.K F H y k) (rv : Rep X.K F H x v) (ry : RelV y iv) (rx : RelV x u) (h : setF d k v = some d') (q : ∀ o, PP.HO.small o → OwnAt X.K F (upd H a o) a d' → Q (upd H a o)) :
    wpAny (model X.prog X.w) X.A (setItem (.ref a) iv u) (fun _ s' => ∃ H', Inv X pins σ H' s' ∧ Q H') X.xe s := by
  cases O with
  | @lst vs xs hH r =>
    simp only [setF] at h
    split at h
    · rename_i i
      obtain ⟨j, hj, e⟩ := Option.map_eq_some_iff.mp h
      subst e
      cases rk
      have hz := (sz a).1 vs (.inl (.inl hH))
      refine set_list pins s σ H (.ref a) _ x _ iv u _ I rfl ry rx ⟨a, vs, i, j, rfl, rfl, hH, by rw [r.length]; exact hj, ?_⟩
      refine q _ (by show (vs.set j x).length ≤ _; rw [List.length_set]; exact hz) (.lst upd_same ?_)
      exact (r.set rv j).ex (ex_own nF (OwnAt.lst hH r))
    · cases h
  | @dk kvs xs hH r =>
    simp only [setF] at h
    split at h
    · rename_i hl
      obtain ⟨kk, hk, e⟩ := Option.map_eq_some_iff.mp h
      subst e
      have l := r.length
      have e1 := toKey_rep rk hk
      have l2 := length_putK kvs kk x
      refine d_setItem hu I (.inl ⟨kvs, kk, hH, e1, by rw [sizeLine_eq]; omega, rfl⟩) ry rx fun s' I' => ⟨_, I', q _ (by show (putK kvs kk x).length ≤ _; rw [sizeLine_eq]; omega) (.dk upd_same ?_)⟩
      exact (r.put rv).ex (ex_own nF (OwnAt.dk hH r))
    · cases h
  | @dt kvs xs hH r =>
    simp only [setF] at h
    split at h
    · split at h
      · rename_i hl
        obtain ⟨kk, hk, e⟩ := Option.map_eq_some_iff.mp h
        subst e
        have l := r.length
        have l2 := length_putK kvs kk x
        cases rk with
        | @tup b ks _ hb rb =>
          have e1 := rb.keys hk
          subst e1
          refine d_setItem hu I (.inr ⟨kvs, kk, b, hH, rfl, hb, by rw [sizeLine_eq]; omega, rfl⟩) ry rx fun s' I' => ⟨_, I', q _ (by show (putK kvs kk x).length ≤ _; rw [sizeLine_eq]; omega) (.dt upd_same ?_)⟩
          exact (r.put rv).ex (ex_own nF (OwnAt.dt hH r))
      · cases h
    · cases h
/-- x[i] = e, x a container of one's own -/
def sStore (i : Nat) (ix : Den) (a : Den) : DenS := fun e => (a e).bind fun p => match p.2[i]? with
  | some (.own _) => (ix p.2).bind fun k => match k.2[i]? with
    | some (.own d) => (setF d k.1 p.1).map fun d' => .nx (k.2.set i (.own d'))
    | _ => none
  | _ => none
section
variable {X : Cx} {refs : List Nat} {o ie e : Expr} {de dix : Den} {i : Nat} {pos pos' : Pos}
def rStore (K : PySem.W.Frag) (d k v d' : PV) (i : Nat) (σ : L2.St) : TSet := fun o y x H Q => ∃ F a, o = .ref a ∧ ¬ F a ∧ OwnAt K F H a d ∧ Sized H ∧ Rep K F H y k ∧ Rep K F H x v ∧ setF d k v = some d' ∧ ∀ o, PP.HO.small o → OwnAt K F (upd H a o) a d' → Q (upd H a o)
theorem vs_store (hu : X.A.units + 1 < cLine) (ho : PE X o (tVar i)) (hi : VE X ie dix) (he : VE X e de) (hs : swapsWithSole [.Subscript o ie pos'] e pos.line X.env = pure false) (hw : swappedStores [.Subscript o ie pos'] e X.env = pure none)
    (h1 : (assignEach [.Subscript o ie pos'] X.env).map (·.2) = [assign (.Subscript o ie pos') X.env])
    (ha : ∀ v, assign (.Subscript o ie pos') X.env v = (do
      let ov ← holding [v] (eval o X.env)
      let iv ← holding [v, ov] (eval ie X.env)
      standAt pos'
      holding [v, ov, iv] (setItem ov iv v)
      release [v, ov, iv] [])) : VS X refs (.Assign [.Subscript o ie pos'] e pos) (sStore i dix de) := by
  have hset : PSet X (fun o y x H Q => ∃ F a d k v d', o = .ref a ∧ ¬ F a ∧ OwnAt X.K F H a d ∧ Sized H ∧ Rep X.K F H y k ∧ Rep X.K F H x v ∧ setF d k v = some d' ∧ ∀ o, PP.HO.small o → OwnAt X.K F (upd H a o) a d' → Q (upd H a o)) := by
    intro pins s σ H o y x ov iv u Q I ro ry rx ⟨F, a, d, k, v, d', eo, nF, O, sz, rk, rv, h, q⟩
    subst eo
    cases ro
    exact set_own hu I nF O sz rk rv ry rx h q
  refine ps_imp (ps_asg he (pg_sub ho hi hset ha) hs hw h1) fun D σ H sz ⟨F, env, fl, R, hd, q⟩ => ?_
  unfold sStore at hd
  obtain ⟨⟨p, e1⟩, h1, hd⟩ := Option.bind_eq_some_iff.mp hd
  split at hd
  · rename_i v0 eo0
    obtain ⟨⟨k, e2⟩, h2, hd⟩ := Option.bind_eq_some_iff.mp hd
    split at hd
    · rename_i d eo
      obtain ⟨d', h3, hz⟩ := Option.map_eq_some_iff.mp hd
      subst hz
      refine ⟨F, env, p, e1, R, h1, fun x F1 H1 R1 M1 r1 => ?_⟩
      obtain ⟨a, sa, nF, O⟩ := R1.own i _ eo0
      refine ⟨.ref a, sa, F1, e1, k, e2, R1, h2, fun y F2 H2 R2 M2 r2 => ?_⟩
      obtain ⟨a', sa', nF2, O2⟩ := R2.own i _ eo
      rw [sa] at sa'; cases sa'
      refine ⟨F2, a, d, k, p, d', rfl, nF2, O2, R2.sz, r2, r1.ex (M2.ex R1), h3, fun w sm O3 _ => ?_⟩
      obtain ⟨R3, M3⟩ := R2.mutate eo sa sm O3
      exact q σ F2 _ R3 ((M1.trans M2).trans M3) .refl
    · cases hd
  · cases hd
end

/-! ### new containers -/
section
variable {X : Cx} {e elt tg iter : Expr} {es ifs : List Expr} {pos : Pos} {ds : List Den}
theorem own_new {K : PySem.W.Frag} {F : Addr → Prop} {H : Hp} {env : PEn} {σ : L2.St} {p : Addr} (R : Rel K F H env σ) (np : H p = none) : ¬ F p ∧ ¬ Own env σ p := by
  refine ⟨fun f => ?_, fun o => ?_⟩
  · obtain ⟨u, hu⟩ := R.fz p f; rw [np] at hu; cases hu
  · obtain ⟨v, O⟩ := R.ownAt o
    obtain ⟨u, hu, _⟩ := O.some
    rw [np] at hu; cases hu
theorem vf_lst (hl : ds.length ≤ 1000) (h : VA X es (dArgs ds)) : VF X (.List es pos) (dLst ds) :=
  pe_imp (pe_lst h) fun σ H Q sz ⟨F, env, r, env', R, hd, q⟩ => by
    unfold dLst at hd
    obtain ⟨⟨ps, e1⟩, h1, hz⟩ := Option.map_eq_some_iff.mp hd
    cases hz
    refine ⟨F, env, ps, _, R, h1, fun xs F1 H1 R1 M1 r1 => ⟨?_, fun p np sz' => ?_⟩⟩
    · rw [r1.length, dArgs_len h1]; exact Nat.le_of_lt (small1000 hl)
    · have N : Nw F1 H1 F1 (upd H1 p (.lst xs)) := .upd np R1.fz
      obtain ⟨a1, a2⟩ := own_new R1 np
      exact q p F1 _ (N.rel R1 sz') (M1.trans N.mv) a1 a2 (M1.back np) (.lst upd_same (r1.ex N.ex))
theorem vf_dk : VF X (.Dict [] [] pos) (dC (.dk [])) :=
  pe_imp pe_dnewK fun σ H Q sz ⟨F, env, r, env', R, hd, q⟩ => by
    cases hd
    intro p np sz'
    have N : Nw F H F (upd H p (.dK [])) := .upd np R.fz
    obtain ⟨a1, a2⟩ := own_new R np
    exact q p F _ (N.rel R sz') N.mv a1 a2 np (.dk upd_same .nil)
theorem vf_dt : VF X (.Dict [] [] pos) (dC (.dt [])) :=
  pe_imp pe_dnewT fun σ H Q sz ⟨F, env, r, env', R, hd, q⟩ => by
    cases hd
    intro p np sz'
    have N : Nw F H F (upd H p (.dT [])) := .upd np R.fz
    obtain ⟨a1, a2⟩ := own_new R np
    exact q p F _ (N.rel R sz') N.mv a1 a2 np (.dt upd_same .nil)
/-- list(range(..)) -/
def rngArg (as : List Den) : PEn → Option ((Int × Int) × PEn) := fun e => (dArgs as e).bind fun p => match p.1 with
  | [.int j] => if -(2 ^ 62) ≤ j ∧ j ≤ 16777216 then some ((0, j), p.2) else none
  | [.int i, .int j] => if -(2 ^ 62) ≤ i ∧ i < 2 ^ 62 ∧ -(2 ^ 62) ≤ j ∧ j < 2 ^ 62 ∧ j - i ≤ 16777216 then some ((i, j), p.2) else none
  | _ => none
def dListRg (as : List Den) : Den := fun e => (rngArg as e).map fun p => (.lst (rngP p.1.1 (p.1.2 - p.1.1).toNat), p.2)
def dTupRg (as : List Den) : Den := fun e => (rngArg as e).map fun p => (.tup (rngP p.1.1 (p.1.2 - p.1.1).toNat), p.2)
theorem rgV_rep {K : PySem.W.Frag} {F : Addr → Prop} {H : Hp} (i j : Int) : RepL K F H (rgV i j) (rngP i (j - i).toNat) := by
  unfold rgV rngP
  generalize List.range (j - i).toNat = l
  induction l with
  | nil => exact .nil
  | cons a l ih => exact .cons (.int _) ih
def tRgE (K : PySem.W.Frag) (as : List Den) : L2.St → Hp → (Int → Int → Hp → Prop) → Prop := fun σ H Q => ∃ F env r env', Rel K F H env σ ∧ rngArg as env = some (r, env') ∧ ∀ (F' : Addr → Prop) (H' : Hp), Rel K F' H' env' σ → Mv F H env σ F' H' env' σ → Q r.1 r.2 H'
theorem prg_imp {e : Expr} {t t' : L2.St → Hp → (Int → Int → Hp → Prop) → Prop} (h : PRg X e t) (i : ∀ σ H Q, Sized H → t' σ H Q → t σ H (fun a b H' => Q a b H')) : PRg X e t' := fun pins s σ H Q I hw => h pins s σ H Q I (i σ H Q (sized_of I.hok) hw)
theorem prg_one {a : Expr} {da : Den} {p : Pos} (hg : Gl X "range") (hm : X.mg "range" = none) (hs : notStar a = true) (ha : VE X a da) : PRg X (.Call (.Name "range" p) [a] [] pos) (tRgE X.K [da]) :=
  prg_imp (prg_1 hg hm ha (starEach_cons hs)) fun σ H Q sz ⟨F, env, r, env', R, hd, q⟩ => by
    unfold rngArg at hd
    obtain ⟨⟨ps, e1⟩, h1, hd⟩ := Option.bind_eq_some_iff.mp hd
    unfold dArgs at h1
    obtain ⟨⟨p0, e2⟩, h2, h1⟩ := Option.bind_eq_some_iff.mp h1
    obtain ⟨⟨p1, e3⟩, h3, h1⟩ := Option.map_eq_some_iff.mp h1
    cases h3
    cases h1
    simp only at hd
    refine ⟨F, env, p0, e2, R, h2, fun x F1 H1 R1 M1 r1 => ?_⟩
    split at hd
    · rename_i j ej
      cases ej
      split at hd
      · cases hd
        cases r1
        exact ⟨j, rfl, q F1 H1 R1 M1⟩
      · cases hd
    · rename_i ej; cases ej
    · cases hd
theorem prg_two {a b : Expr} {da db : Den} {p : Pos} (hg : Gl X "range") (hm : X.mg "range" = none) (hs : notStar a = true) (hs2 : notStar b = true) (ha : VE X a da) (hb : VE X b db) : PRg X (.Call (.Name "range" p) [a, b] [] pos) (tRgE X.K [da, db]) :=
  prg_imp (prg_2 hg hm ha hb (starEach_cons hs) (starEach_cons hs2) (by rw [starEach_cons hs2]; rfl)) fun σ H Q sz ⟨F, env, r, env', R, hd, q⟩ => by
    unfold rngArg at hd
    obtain ⟨⟨ps, e1⟩, h1, hd⟩ := Option.bind_eq_some_iff.mp hd
    unfold dArgs at h1
    obtain ⟨⟨p0, e2⟩, h2, h1⟩ := Option.bind_eq_some_iff.mp h1
    obtain ⟨⟨p1, e3⟩, h3, h1⟩ := Option.map_eq_some_iff.mp h1
    cases h1
    unfold dArgs at h3
    obtain ⟨⟨p4, e4⟩, h4, h3⟩ := Option.bind_eq_some_iff.mp h3
    obtain ⟨⟨p5, e5⟩, h5, h3⟩ := Option.map_eq_some_iff.mp h3
    cases h5
    cases h3
    simp only at hd
    refine ⟨F, env, p0, e2, R, h2, fun x F1 H1 R1 M1 r1 => ⟨F1, e2, p4, _, R1, h4, fun y F2 H2 R2 M2 r2 => ?_⟩⟩
    split at hd
    · rename_i ej; cases ej
    · rename_i i j ej
      cases ej
      split at hd
      · cases hd
        cases r1
        cases r2
        exact ⟨i, j, rfl, rfl, q F2 H2 R2 (M1.trans M2)⟩
      · cases hd
    · cases hd
theorem rngArg_ok {as : List Den} {env env' : PEn} {r : Int × Int} (h : rngArg as env = some (r, env')) : RgOk r.1 r.2 := by
  unfold rngArg at h
  obtain ⟨⟨ps, e1⟩, h1, hd⟩ := Option.bind_eq_some_iff.mp h
  simp only at hd
  split at hd
  · split at hd
    · cases hd; exact ⟨by show -(2 ^ 62) ≤ (0 : Int); decide, by show (0 : Int) < 2 ^ 62; decide, by show -(2 ^ 62) ≤ _; omega, by omega, by show (_ - (0 : Int)).toNat ≤ 2 ^ 24; omega⟩
    · cases hd
  · split at hd
    · cases hd
      rename_i hh
      exact ⟨hh.1, hh.2.1, hh.2.2.1, hh.2.2.2.1, by omega⟩
    · cases hd
  · cases hd
theorem vf_listRg {as : List Den} {p : Pos} (hc : X.calm = true) (hg : Gl X "list") (hm : X.mg "list" = none) (hs : notStar e = true) (h : PRg X e (tRgE X.K as)) : VF X (.Call (.Name "list" p) [e] [] pos) (dListRg as) :=
  pe_imp (pe_listRg hc hg hm h (starEach_cons hs)) fun σ H Q sz ⟨F, env, r, env', R, hd, q⟩ => by
    unfold dListRg at hd
    obtain ⟨⟨⟨a, b⟩, e1⟩, h1, hz⟩ := Option.map_eq_some_iff.mp hd
    cases hz
    refine ⟨F, env, (a, b), _, R, h1, fun F1 H1 R1 M1 => ⟨rngArg_ok h1, fun p np sz' => ?_⟩⟩
    have N : Nw F1 H1 F1 (upd H1 p (.lst (rgV a b))) := .upd np R1.fz
    obtain ⟨a1, a2⟩ := own_new R1 np
    exact q p F1 _ (N.rel R1 sz') (M1.trans N.mv) a1 a2 (M1.back np) (.lst upd_same (rgV_rep a b))
theorem ve_tupRg {as : List Den} {p : Pos} (hc : X.calm = true) (hg : Gl X "tuple") (hm : X.mg "tuple" = none) (hs : notStar e = true) (h : PRg X e (tRgE X.K as)) : VE X (.Call (.Name "tuple" p) [e] [] pos) (dTupRg as) :=
  pe_imp (pe_tupRg hc hg hm h (starEach_cons hs)) fun σ H Q sz ⟨F, env, r, env', R, hd, q⟩ => by
    unfold dTupRg at hd
    obtain ⟨⟨⟨a, b⟩, e1⟩, h1, hz⟩ := Option.map_eq_some_iff.mp hd
    cases hz
    refine ⟨F, env, (a, b), _, R, h1, fun F1 H1 R1 M1 => ⟨rngArg_ok h1, fun p np sz' => ?_⟩⟩
    have N : Nw F1 H1 F1 (upd H1 p (.tup (rgV a b))) := .upd np R1.fz
    exact q _ F1 _ (N.rel R1 sz') (M1.trans N.mv) (.tup upd_same (rgV_rep a b))
end
end PP

/-! PP, part m: comprehensions, zip, sorted(dict), tuples that are known. -/
namespace PP
open PySem PySem.Spec PyProof.Rows L2

section
variable {X : Cx} {refs : List Nat} {elt tg iter : Expr} {ifs : List Expr} {scope : Scope} {own : List (Str × Nat)} {pos spos py : Pos} {src : DenI} {t : Tgt} {tt : DenT} {de : Den}
abbrev VTs (X : Cx) (ifs : List Expr) (d : DenT) : Prop := PTs X ifs (tT X.K d)
def dYes : DenT := fun e => some (true, e)
theorem pts_imp {t t' : TT} (h : PTs X ifs t) (i : ∀ σ H Q, Sized H → t' σ H Q → t σ H (fun v H' => Sized H' → Q v H')) : PTs X ifs t' := ⟨fun pins s σ H Q I hw =>
  thn (h.run pins s σ H _ I (i σ H Q (sized_of I.hok) hw)) fun u s' ⟨H', I', q⟩ => ⟨H', I', q (sized_of I'.hok)⟩⟩
theorem vts_nil : VTs X [] dYes := pts_imp pts_nil fun σ H Q sz ⟨F, env, r, env', R, hd, q⟩ => by
  cases hd
  exact fun _ => q F H R .refl
theorem vts_one {c : Expr} (h : VT X c tt) : VTs X [c] tt := pts_one h
theorem tF_sz {K : PySem.W.Frag} {d : Den} {σ : L2.St} {H : Hp} {Q : VK} (h : tF K d σ H (fun v H' => Sized H' → Q v H')) : tF K d σ H Q := by
  obtain ⟨F, env, r, env', R, hd, q⟩ := h
  exact ⟨F, env, r, env', R, hd, fun a F' H' R' M n1 n2 hn O => q a F' H' R' M n1 n2 hn O R'.sz⟩
/-- the block of a comprehension is told -/
structure LcOk (X : Cx) (elt tg iter : Expr) (ifs : List Expr) (scope : Scope) (own : List (Str × Nat)) (src : DenI) (t : Tgt) (tt : DenT) (de : Den) : Prop where
  it : VI X tg iter src
  ok : BlkOk X.N X.env.scope scope own
  tg : ∀ (s : Shared) (H : Hp) (C : Addr) (cl : List (Str × Addr)) (fp : List Addr), PG (X.blk s H scope (compEnvC scope cl C X.env) fp) tg (tG X.K t)
  ts : ∀ (s : Shared) (H : Hp) (C : Addr) (cl : List (Str × Addr)) (fp : List Addr), PTs (X.blk s H scope (compEnvC scope cl C X.env) fp) ifs (tT X.K tt)
  el : ∀ (s : Shared) (H : Hp) (C : Addr) (cl : List (Str × Addr)) (fp : List Addr), PE (X.blk s H scope (compEnvC scope cl C X.env) fp) elt (tE X.K de)
  sub : ∀ i, i ∈ t.slots → i ∈ own.map (·.2)
  fs : ∀ x, foldedSetIterable iter X.env x = pure x
theorem vf_lc (hc : X.calm = true) (hN : X.N.Nodup) (l : LcOk X elt tg iter ifs scope own src t tt de) : VF X (.ListComp elt [⟨tg, iter, ifs, 0⟩] scope pos) (dLC src (own.map (·.2)) t tt de) :=
  pe_imp (pe_lc hc hN l.it l.ok l.tg l.ts l.el l.fs) fun σ H Q sz h => lc_imp l.sub h
theorem vs_ownLc {i : Nat} {y : Str} (hr : i ∉ refs) (hc : X.calm = true) (hN : X.N.Nodup) (hy : X.N[i]? = some y) (hyl : X.env.scope.names.lookup y = some .local)
    (hsw : swapsWith (.ListComp elt [⟨tg, iter, ifs, 0⟩] scope pos) (some (.Name y py)) spos.line X.env = pure true) (l : LcOk X elt tg iter ifs scope own src t tt de) :
    VS X refs (.Assign [.Name y py] (.ListComp elt [⟨tg, iter, ifs, 0⟩] scope pos) spos) (sOwn i (dLC src (own.map (·.2)) t tt de)) :=
  ps_imp (ps_setLc hc hN hy hyl hsw l.it l.ok l.tg l.ts l.el l.fs) fun D σ H sz h => by
    have h1 := own_imp hr h
    have h2 := tF_sz (Q := fun x H1 => D.nx (σ.set i (some x)) H1) h1
    exact lc_imp l.sub h2
end

/-! ### zip -/
section
variable {X : Cx} {e e2 : Expr} {pos p tpos : Pos} {da db : Den}
def zipP : List PV → List PV → List PV
  | x :: xs, y :: ys => .tup [x, y] :: zipP xs ys
  | _, _ => []
theorem zipP_len : ∀ xs ys : List PV, (zipP xs ys).length = min xs.length ys.length
  | x :: xs, y :: ys => by simp only [zipP, List.length_cons, zipP_len xs ys]; omega
  | [], ys => by simp [zipP]
  | x :: xs, [] => by simp [zipP]
theorem zipP_get : ∀ (xs ys : List PV) (i : Nat) (q : PV), (zipP xs ys)[i]? = some q → ∃ x y, xs[i]? = some x ∧ ys[i]? = some y ∧ q = .tup [x, y]
  | x :: xs, y :: ys, 0, q, h => by simp [zipP] at h; exact ⟨x, y, rfl, rfl, h.symm⟩
  | x :: xs, y :: ys, i + 1, q, h => by
    obtain ⟨a, b, h1, h2, h3⟩ := zipP_get xs ys i q (by simpa [zipP] using h)
    exact ⟨a, b, by simpa using h1, by simpa using h2, h3⟩
  | [], ys, i, q, h => by simp [zipP] at h
  | x :: xs, [], i, q, h => by simp [zipP] at h
def zipF (a b : PV) : Option (List PV) := match a, b with
  | .lst xs, .lst ys => some (zipP xs ys)
  | a, b => (tupOf a).bind fun xs => (tupOf b).map fun ys => zipP xs ys
def iZip2 (a b : Den) : DenI := fun e => (dArgs [a, b] e).bind fun p => match p.1 with
  | [x, y] => (zipF x y).map fun l => (l, p.2)
  | _ => none
theorem Rep.tupAt {K : PySem.W.Frag} {F : Addr → Prop} {H : Hp} {v : V} {p : PV} {xs : List PV} (r : Rep K F H v p) (h : tupOf p = some xs) : ∃ a vs, v = .ref a ∧ (H a = some (.tup vs) ∨ ∃ o, H a = some (.frz o (.tup vs))) ∧ RepL K F H vs xs := by
  cases p <;> simp only [PP.tupOf] at h <;> cases h
  · obtain ⟨a, vs, e, h, r⟩ := (BRep.rep r).tup; exact ⟨a, vs, e, .inl h, r⟩
  · obtain ⟨a, its, vs, e, h, r⟩ := (BRep.rep r).fup; exact ⟨a, vs, e, .inr ⟨_, h⟩, r⟩
theorem tupAt_sq {K : PySem.W.Frag} {F F2 : Addr → Prop} {H H2 : Hp} {a : Addr} {vs : List V} (h : H a = some (.tup vs) ∨ ∃ o, H a = some (.frz o (.tup vs))) (e : Ex F H F2 H2) : SqT K H2 a vs := by
  rcases h with h | ⟨o, h⟩
  · exact SqT.of (e.tups _ _ h)
  · exact .inl (.inr ⟨_, e.frzs _ _ _ h⟩)
theorem yld_zip {K : PySem.W.Frag} {F : Addr → Prop} {H : Hp} {J : It} {vs ws : List V} {xs ys : List PV} (r1 : RepL K F H vs xs) (r2 : RepL K F H ws ys)
    (go : ∀ (F2 : Addr → Prop) (H2 : Hp) (i : Nat) (x y : V), Ex F H F2 H2 → vs[i]? = some x → ws[i]? = some y → J.go i H2 ∧ ∀ v H3, J.yld i H2 v H3 → ∃ T, v = .ref T ∧ H2 T = none ∧ H3 = upd H2 T (.tup [x, y]))
    (stop : ∀ (F2 : Addr → Prop) (H2 : Hp) (i : Nat), Ex F H F2 H2 → (vs.length ≤ i ∨ ws.length ≤ i) → J.stop i H2) : Yld K F H J (zipP xs ys) := fun F2 H2 ex fz i => by
  refine ⟨fun q hq => ?_, fun hi => stop F2 H2 i ex ?_⟩
  · obtain ⟨x, y, h1, h2, rfl⟩ := zipP_get xs ys i q hq
    obtain ⟨v, hv, rv⟩ := r1.get h1
    obtain ⟨w, hw, rw'⟩ := r2.get h2
    obtain ⟨g, yl⟩ := go F2 H2 i v w ex hv hw
    refine ⟨g, fun z H3 hy => ?_⟩
    obtain ⟨T, rfl, hT, rfl⟩ := yl z H3 hy
    have N : Nw F2 H2 F2 (upd H2 T (.tup [v, w])) := .upd hT fz
    refine ⟨F2, N, .tup upd_same (.cons ((rv.ex ex).ex N.ex) (.cons ((rw'.ex ex).ex N.ex) .nil)), fun s => s.upd ?_⟩
    show 2 ≤ sizeLine
    rw [sizeLine_eq]; omega
  · rw [zipP_len] at hi
    rw [r1.length, r2.length]; omega
theorem vi_zip {elts : List Expr} {kk : Nat} (hg : Gl X "zip") (hm : X.mg "zip" = none) (hs : notStar e = true) (hs2 : notStar e2 = true) (ha : VE X e da) (hb : VE X e2 db) :
    VI X (.Tuple elts kk tpos) (.Call (.Name "zip" p) [e, e2] [] pos) (iZip2 da db) :=
  pi_imp (RZ.pi_zipA hg hm (va_cons hs ha (va_cons hs2 hb va_nil)) (starEach_cons hs) (by rw [starEach_cons hs2]; rfl)) fun σ H R sz ⟨F, env, items, env', Rl, hd, q⟩ => by
    unfold iZip2 at hd
    obtain ⟨⟨ps, e1⟩, h1, hd⟩ := Option.bind_eq_some_iff.mp hd
    refine ⟨F, env, ps, e1, Rl, h1, fun vs F1 H1 R1 M1 r1 => ?_⟩
    simp only at hd
    split at hd
    · rename_i x y
      obtain ⟨l, h2, hz⟩ := Option.map_eq_some_iff.mp hd
      cases hz
      obtain ⟨v, w, rfl, rx, ry⟩ := r1.two
      unfold zipF at h2
      split at h2
      · rename_i xs ys
        cases h2
        obtain ⟨a, vs, rfl, ha, r1⟩ := (BRep.rep rx).lst
        obtain ⟨b, ws, rfl, hb, r2⟩ := (BRep.rep ry).lst
        cases rx with
        | @lst _ vs _ fa r1 =>
          cases ry with
          | @lst _ ws _ fb r2 =>
            refine ⟨a, b, vs, ws, rfl, .inl ⟨fa.seq, fb.seq, fun _ => q _ F1 H1 R1 M1 (yld_zip r1 r2 (fun F2 H2 i x y ex hx hy => ⟨⟨vs, ws, x, y, fa.sql_ex ex, fb.sql_ex ex, hx, hy⟩, fun v H3 hv => ?_⟩) (fun F2 H2 i ex h => ⟨vs, ws, fa.sql_ex ex, fb.sql_ex ex, h⟩)) ?_⟩⟩
            · obtain ⟨T, x', y', e1, e2, e3, f1, f2⟩ := hv
              have g1 := f1 vs (fa.sql_ex ex)
              have g2 := f2 ws (fb.sql_ex ex)
              rw [hx] at g1; rw [hy] at g2
              cases g1; cases g2
              exact ⟨T, e1, e2, e3⟩
            · rw [zipP_len, ← r1.length]
              have := sql_small R1.sz fa.seq
              omega
      · rename_i hno
        obtain ⟨xs, hx, h2⟩ := Option.bind_eq_some_iff.mp h2
        obtain ⟨ys, hy, e⟩ := Option.map_eq_some_iff.mp h2
        subst e
        obtain ⟨a, vs, rfl, fa, ra⟩ := rx.tupAt hx
        obtain ⟨b, ws, rfl, fb, rb⟩ := ry.tupAt hy
        refine ⟨a, b, vs, ws, rfl, .inr ⟨tupAt_sq fa (.refl (F := F1)), tupAt_sq fb (.refl (F := F1)), fun _ => q _ F1 H1 R1 M1 (yld_zip ra rb (fun F2 H2 i x y ex hx hy => ⟨⟨vs, ws, x, y, tupAt_sq fa ex, tupAt_sq fb ex, hx, hy⟩, fun v H3 hv => ?_⟩) (fun F2 H2 i ex h => ⟨vs, ws, tupAt_sq fa ex, tupAt_sq fb ex, h⟩)) ?_⟩⟩
        · obtain ⟨T, x', y', e1, e2, e3, f1, f2⟩ := hv
          have g1 := f1 vs (tupAt_sq fa ex)
          have g2 := f2 ws (tupAt_sq fb ex)
          rw [hx] at g1; rw [hy] at g2
          cases g1; cases g2
          exact ⟨T, e1, e2, e3⟩
        · rw [zipP_len, ← ra.length]
          have : vs.length ≤ sizeLine := by
            rcases fa with h | ⟨o, h⟩
            · exact (R1.sz a).1 vs (.inr (.inl h))
            · exact (R1.sz a).1 vs (.inr (.inr ⟨_, h⟩))
          omega
    · cases hd
end

/-! ### a new tuple, its object known -/
section
variable {X : Cx}
def tupleZF (ps : List PV) : Option PV := match ps with
  | [.lst xs] => some (.fup xs)
  | [.fup xs] => some (.fup xs)
  | _ => none
theorem cr_tupleZF : CallR X (.type "tuple") (rL X.K tupleZF) := by
  refine call_of fun pins s σ H xs us Q F ps r I rx fz sz r1 e k => ?_
  unfold tupleZF at e
  split at e
  · cases e
    obtain ⟨v, rfl, q1⟩ := r1.one
    obtain ⟨a, vs, rfl, h, r⟩ := q1.lst
    obtain ⟨u, rfl, rv⟩ := rx.one
    cases rv
    obtain ⟨its, r', pl, hz⟩ := I.list h
    have hlen := r'.length
    refine call_tuple_list pl.isList (fun h' kp => ?_) (by simp only [List.size_toArray] <;> omega)
    have I1 : Inv X pins σ H { s with heap := h' } := I.kept (t' := s.toks) kp
    have np : H h'.objs.size = none := I1.hok.fresh (Nat.le_refl _)
    have I2 : Inv X pins σ (upd H h'.objs.size (.frz (tupObj its) (.tup vs))) { s with heap := h'.push (tupObj its) } :=
      I1.laid (t' := s.toks) (fun b o e => Heap.get?_push_of_some _ e) (Nat.le_refl _) ⟨Heap.get?_push_size _ rfl, hz, its, r', IsTup.new _ _⟩
    have N : Nw F H F (upd H h'.objs.size (.frz (tupObj its) (.tup vs))) := .upd np fz
    exact ⟨.ref h'.objs.size, _, I2, rfl, k _ _ _ N (.fup upd_same (r.ex N.ex))⟩
  · cases e
    obtain ⟨v, rfl, q1⟩ := r1.one
    obtain ⟨a, its, vs, rfl, h, r⟩ := q1.fup
    exact call_tuple_of pins s σ H _ us Q I rx ⟨a, vs, rfl, .inr ⟨.inl (.inr ⟨_, h⟩), k _ F H (.refl fz) (.fup h r)⟩⟩
  · cases e

/-! ### sorted of the keys -/
def intKeys : List (Key × PV) → Option (List Int)
  | [] => some []
  | (.inl i, _) :: r => (intKeys r).map fun l => i :: l
  | _ => none
def insI (x : Int) : List Int → List Int
  | [] => [x]
  | y :: r => if x ≤ y then x :: y :: r else y :: insI x r
def sortI : List Int → List Int
  | [] => []
  | x :: r => insI x (sortI r)
theorem insI_perm (x : Int) : ∀ l : List Int, (insI x l).Perm (x :: l)
  | [] => .refl _
  | y :: r => by
    unfold insI
    split
    · exact .refl _
    · exact ((insI_perm x r).cons y).trans (.swap x y r)
theorem sortI_perm : ∀ l : List Int, (sortI l).Perm l
  | [] => .refl _
  | x :: r => (insI_perm x _).trans ((sortI_perm r).cons x)
theorem insI_sorted (x : Int) : ∀ {l : List Int}, l.Pairwise (· ≤ ·) → (insI x l).Pairwise (· ≤ ·)
  | [], _ => by simp [insI]
  | y :: r, h => by
    rw [List.pairwise_cons] at h
    unfold insI
    split
    · rename_i hxy
      rw [List.pairwise_cons]
      refine ⟨fun z hz => ?_, List.pairwise_cons.mpr h⟩
      rcases List.mem_cons.mp hz with e | hz
      · omega
      · have := h.1 z hz; omega
    · rename_i hxy
      rw [List.pairwise_cons]
      refine ⟨fun z hz => ?_, insI_sorted x h.2⟩
      rcases List.mem_cons.mp ((insI_perm x r).mem_iff.mp hz) with e | hz
      · omega
      · exact h.1 z hz
theorem sortI_sorted : ∀ l : List Int, (sortI l).Pairwise (· ≤ ·)
  | [] => .nil
  | x :: r => insI_sorted x (sortI_sorted r)
theorem sorted_uniq : ∀ {l k : List Int}, l.Perm k → l.Pairwise (· ≤ ·) → k.Pairwise (· ≤ ·) → l = k := fun p h1 h2 =>
  p.eq_of_pairwise (fun a b _ _ h1 h2 => by omega) h1 h2
def sortedDF (ps : List PV) : Option PV := match ps with
  | [.dk kvs] => (intKeys kvs).bind fun is => if is.length < 64 then some (.lst ((sortI is).map PV.int)) else none
  | _ => none
theorem RepK.intKeys {K : PySem.W.Frag} {F : Addr → Prop} {H : Hp} : ∀ {kvs : List (Key × V)} {xs : List (Key × PV)} {is : List Int}, RepK K F H kvs xs → PP.intKeys xs = some is → kvs.map (·.1) = is.map Sum.inl
  | _, _, _, .nil, h => by cases h; rfl
  | _, _, _, @RepK.cons _ _ _ k _ _ _ _ r t, h => by
    cases k with
    | inl i =>
      simp only [PP.intKeys] at h
      obtain ⟨l, hl, e⟩ := Option.map_eq_some_iff.mp h
      subst e
      simp [RepK.intKeys t hl]
    | inr s => simp [PP.intKeys] at h
theorem intsL_rep {K : PySem.W.Frag} {F : Addr → Prop} {H : Hp} : ∀ is : List Int, RepL K F H (is.map V.int) (is.map PV.int)
  | [] => .nil
  | i :: is => .cons (.int i) (intsL_rep is)
theorem cr_sortedDF (hc : X.calm = true) : CallR X (.builtin "sorted") (rL X.K sortedDF) := by
  refine call_of fun pins s σ H xs us Q F ps r I rx fz sz r1 e k => ?_
  unfold sortedDF at e
  split at e
  · rename_i kvs
    obtain ⟨is, hi, e⟩ := Option.bind_eq_some_iff.mp e
    split at e
    · rename_i hl
      cases e
      obtain ⟨v, rfl, q1⟩ := r1.one
      obtain ⟨a, rfl, D⟩ := q1.dic rfl
      cases D with
      | @dk ws _ hH rk =>
        refine call_sortedDI hc pins s σ H _ us Q I rx ⟨a, ws, is, rfl, .inl hH, rk.intKeys hi, hl, fun ys p pm so np => ?_⟩
        have ey : ys = sortI is := sorted_uniq (pm.trans (sortI_perm is).symm) so (sortI_sorted is)
        subst ey
        obtain ⟨N, R⟩ := new_list (xs := (sortI is).map PV.int) fz np (intsL_rep _)
        exact k _ _ _ N R
    · cases e
  · cases e
end
end PP

/-! PP, part n: defs and calls. -/
namespace PP
open PySem PySem.Spec PyProof.Rows L2

/-- what a def does: the arguments, then the word and the arguments as they are behind it -/
abbrev Sem := List PV → Option (PV × List PV)
/-- the slots of the parameters; ms tells which are by reference -/
def argE : List Bool → List PV → PEn
  | [], ps => ps.map .val
  | _ :: _, [] => []
  | b :: bs, p :: ps => (if b then .own p else .val p) :: argE bs ps
def outsP (e : PEn) : Nat → List Bool → List PV → Option (List PV)
  | _, [], ps => some ps
  | _, _ :: _, [] => some []
  | k, b :: bs, p :: ps => (if b then (match e[k]? with | some (.own w) => some w | _ => none) else some p).bind fun w => (outsP e (k + 1) bs ps).map (w :: ·)
def runF (ms : List Bool) (m : Nat) (d : DenS) : Sem := fun ps => (d (argE ms ps ++ List.replicate m .no)).bind fun fl => match fl with
  | .nx e => (outsP e 0 ms ps).map fun w => (.non, w)
  | .rt v e => (outsP e 0 ms ps).map fun w => (v, w)
  | _ => none
def spOf (K : PySem.W.Frag) (n : Nat) (ms : List Bool) (sem : Sem) : Sp := fun vs H Q _ => ∃ F ps r ws, vs.length = n ∧ Rel K F H (argE ms ps) (vs.map some) ∧ sem ps = some (r, ws) ∧ (∀ (x : V) (F' : Addr → Prop) (H' : Hp), ws.length = ps.length → Rel K F' H' (argE ms ws) (vs.map some) → Mv F H (argE ms ps) (vs.map some) F' H' (argE ms ws) (vs.map some) → Rep K F' H' x r → Q x H')

theorem argE_get : ∀ (ms : List Bool) (ps : List PV) (i : Nat), (argE ms ps)[i]? = (ps[i]?).map fun p => if ms.getD i false then SlP.own p else SlP.val p
  | [], ps, i => by simp [argE]
  | _ :: _, [], i => by simp [argE]
  | b :: bs, p :: ps, 0 => by cases b <;> simp [argE]
  | b :: bs, p :: ps, i + 1 => by simpa [argE] using argE_get bs ps i
theorem argE_len (ms : List Bool) (ps : List PV) : (argE ms ps).length = ps.length := by
  induction ms generalizing ps with
  | nil => simp [argE]
  | cons b bs ih => cases ps <;> simp [argE, ih]
theorem argE_own {ms : List Bool} {ps : List PV} {i : Nat} {v : PV} (h : (argE ms ps)[i]? = some (SlP.own v)) : ms.getD i false = true ∧ ps[i]? = some v := by
  rw [argE_get] at h
  obtain ⟨p, hp, e⟩ := Option.map_eq_some_iff.mp h
  split at e <;> cases e
  exact ⟨by assumption, hp⟩
theorem argE_val {ms : List Bool} {ps : List PV} {i : Nat} {v : PV} (h : (argE ms ps)[i]? = some (SlP.val v)) : ms.getD i false = false ∧ ps[i]? = some v := by
  rw [argE_get] at h
  obtain ⟨p, hp, e⟩ := Option.map_eq_some_iff.mp h
  split at e <;> cases e
  rename_i h
  exact ⟨by simpa using h, hp⟩
theorem outsP_get {e : PEn} : ∀ {k : Nat} {ms : List Bool} {ps ws : List PV}, outsP e k ms ps = some ws → ws.length = ps.length ∧ ∀ (i : Nat) (w : PV), ws[i]? = some w → if ms.getD i false then e[k + i]? = some (SlP.own w) else ps[i]? = some w
  | k, [], ps, ws, h => by cases h; exact ⟨rfl, fun i w hw => by simpa using hw⟩
  | k, _ :: _, [], ws, h => by cases h; exact ⟨rfl, fun i w hw => by simp at hw⟩
  | k, b :: bs, p :: ps, ws, h => by
    unfold outsP at h
    obtain ⟨w, hw, h⟩ := Option.bind_eq_some_iff.mp h
    obtain ⟨t, ht, e1⟩ := Option.map_eq_some_iff.mp h
    subst e1
    obtain ⟨l, g⟩ := outsP_get ht
    refine ⟨by simp [l], fun i u hu => ?_⟩
    cases i with
    | zero =>
      simp at hu
      subst hu
      cases b with
      | false => simp at hw ⊢; exact hw
      | true =>
        simp only [if_true] at hw
        simp only [List.getD_cons_zero, if_true, Nat.add_zero]
        split at hw
        · rename_i e2; cases hw; exact e2
        · cases hw
    | succ i =>
      have := g i u (by simpa using hu)
      simp only [List.getD_cons_succ, List.getElem?_cons_succ]
      rw [show k + (i + 1) = k + 1 + i by omega]
      exact this

section
variable {K : PySem.W.Frag} {F F' : Addr → Prop} {H H' : Hp} {env e' : PEn} {σ σ' : L2.St} {refs : List Nat} {ms : List Bool} {ps ws : List PV} {vs : List V}
theorem pad_own {m n : Nat} {i : Nat} {v : PV} (h : (env ++ List.replicate m SlP.no)[i]? = some (SlP.own v)) : env[i]? = some (SlP.own v) ∧ i < env.length := by
  by_cases hi : i < env.length
  · rw [List.getElem?_append_left hi] at h; exact ⟨h, hi⟩
  · rw [List.getElem?_append_right (by omega), List.getElem?_replicate] at h
    split at h <;> cases h
theorem pad_val {m : Nat} {i : Nat} {v : PV} (h : (env ++ List.replicate m SlP.no)[i]? = some (SlP.val v)) : env[i]? = some (SlP.val v) ∧ i < env.length := by
  by_cases hi : i < env.length
  · rw [List.getElem?_append_left hi] at h; exact ⟨h, hi⟩
  · rw [List.getElem?_append_right (by omega), List.getElem?_replicate] at h
    split at h <;> cases h
theorem Rel.pad (R : Rel K F H env σ) (m : Nat) : Rel K F H (env ++ List.replicate m SlP.no) (σ ++ List.replicate m none) where
  len := by simp [R.len]
  val := fun i v e => by
    obtain ⟨e, hi⟩ := pad_val e
    rw [List.getElem?_append_left (by rw [← R.len]; exact hi)]
    exact R.val i v e
  own := fun i v e => by
    obtain ⟨e, hi⟩ := pad_own (n := m) e
    rw [List.getElem?_append_left (by rw [← R.len]; exact hi)]
    exact R.own i v e
  apart := fun i j v w a e1 e2 s1 s2 => by
    obtain ⟨e1, h1⟩ := pad_own (n := m) e1
    obtain ⟨e2, h2⟩ := pad_own (n := m) e2
    rw [List.getElem?_append_left (by rw [← R.len]; exact h1)] at s1
    rw [List.getElem?_append_left (by rw [← R.len]; exact h2)] at s2
    exact R.apart i j v w a e1 e2 s1 s2
  fz := R.fz
  sz := R.sz
theorem own_pad {m : Nat} {a : Addr} (l : env.length = σ.length) : Own (env ++ List.replicate m SlP.no) (σ ++ List.replicate m none) a → Own env σ a := fun ⟨i, v, e, s⟩ => by
  obtain ⟨e, h⟩ := pad_own (n := m) e
  rw [List.getElem?_append_left (by rw [← l]; exact h)] at s
  exact ⟨i, v, e, s⟩
/-- behind a body: the parameters by reference -/
theorem fn_end {m : Nat} (R0 : Rel K F H (argE ms ps) (vs.map some)) (hr : ∀ i, ms.getD i false = true → i ∈ refs) (R : Rel K F' H' e' σ') (M : Mv F H (argE ms ps ++ List.replicate m SlP.no) (vs.map some ++ List.replicate m none) F' H' e' σ') (k : Keep refs (vs.map some ++ List.replicate m none) σ')
    (ho : outsP e' 0 ms ps = some ws) : ws.length = ps.length ∧ Rel K F' H' (argE ms ws) (vs.map some) ∧ Mv F H (argE ms ps) (vs.map some) F' H' (argE ms ws) (vs.map some) := by
  obtain ⟨l, g⟩ := outsP_get ho
  have ll : ps.length = vs.length := by have := R0.len; rw [argE_len] at this; simpa using this
  have back : ∀ (i : Nat) (w : PV), (argE ms ws)[i]? = some (SlP.own w) → e'[i]? = some (SlP.own w) ∧ (∀ a, σ'[i]? = some (some (V.ref a)) → (vs.map some)[i]? = some (some (V.ref a))) := fun i w e => by
    obtain ⟨h1, h2⟩ := argE_own e
    have := g i w h2
    rw [if_pos h1, Nat.zero_add] at this
    refine ⟨this, fun a s => ?_⟩
    rw [k i (hr i h1)] at s
    have hi : i < ws.length := (List.getElem?_eq_some_iff.mp h2).1
    rw [List.getElem?_append_left (by simp; omega)] at s
    exact s
  have bck : ∀ (i : Nat) (w : PV), (argE ms ws)[i]? = some (SlP.own w) → ∀ a, (vs.map some)[i]? = some (some (V.ref a)) → σ'[i]? = some (some (V.ref a)) := fun i w e a s => by
    obtain ⟨h1, h2⟩ := argE_own e
    rw [k i (hr i h1)]
    have hi : i < ws.length := (List.getElem?_eq_some_iff.mp h2).1
    rw [List.getElem?_append_left (by simp; omega)]
    exact s
  refine ⟨l, ⟨by rw [argE_len, l, ll]; simp, fun i v e => ?_, fun i v e => ?_, fun i j v w a e1 e2 s1 s2 => ?_, R.fz, R.sz⟩, ⟨M.sub, fun b o hb n => M.frame b o hb fun z => n (own_pad R0.len z), fun a f => ?_, fun a ⟨i, v, e, s⟩ => ?_, M.there⟩⟩
  · obtain ⟨h1, h2⟩ := argE_val e
    have := g i v h2
    rw [h1] at this
    simp only [Bool.false_eq_true, if_false] at this
    obtain ⟨x, sx, r⟩ := R0.val i v (by rw [argE_get, this, h1]; rfl)
    exact ⟨x, sx, r.ex (M.ex (R0.pad m))⟩
  · obtain ⟨e1, e2⟩ := back i v e
    obtain ⟨a, sa, nF, O⟩ := R.own i v e1
    exact ⟨a, e2 a sa, nF, O⟩
  · exact R.apart i j v w a (back i v e1).1 (back j w e2).1 (bck i v e1 a s1) (bck j w e2 a s2)
  · rcases M.fnew a f with z | z | z
    · exact .inl z
    · exact .inr (.inl (own_pad R0.len z))
    · exact .inr (.inr z)
  · rcases M.onew a ⟨i, v, (back i v e).1, bck i v e a s⟩ with z | z
    · exact .inl (own_pad R0.len z)
    · exact .inr z
/-- a body's reading from what the def does -/
theorem fn_body {N : List Str} {n m : Nat} {d : DenS} {Q : VK} {E : XK} (hm : N.length - n = m) (hr : ∀ i, ms.getD i false = true → i ∈ refs) (h : spOf K n ms (runF ms m d) vs H Q E) : tS K refs d { nx := fun _ H' => Q .non H', rt := Q } (L2.start N vs) H := by
  obtain ⟨F, ps, r, ws, hl, R, hs, q⟩ := h
  unfold runF at hs
  obtain ⟨fl, h1, h2⟩ := Option.bind_eq_some_iff.mp hs
  unfold L2.start
  rw [hl, hm]
  refine ⟨F, _, fl, R.pad m, h1, ?_⟩
  cases fl with
  | nx e =>
    obtain ⟨w, hw, e1⟩ := Option.map_eq_some_iff.mp h2
    cases e1
    intro σ' F' H' R' M k
    obtain ⟨a, b, c⟩ := fn_end R hr R' M k hw
    exact q .non F' H' a b c .non
  | rt v e =>
    obtain ⟨w, hw, e1⟩ := Option.map_eq_some_iff.mp h2
    cases e1
    intro x σ' F' H' R' M k rx
    obtain ⟨a, b, c⟩ := fn_end R hr R' M k hw
    exact q x F' H' a b c rx
  | bk e => cases h2
  | ct e => cases h2
end
/-- a def keeps what its body's denotation says -/
theorem fn_ok {P : Program} {w : World} {K : PySem.W.Frag} {mg : Str → Option Value} {base : Heap} {x qual : Str} {params : Arguments} {body : List Stmt} {scope : Scope} {dvs : List V} {kws : List (Str × V)} {f : Addr} {fd : FuncData} {N ps : List Str} {k m : Nat} {ms : List Bool} {refs : List Nat} {d : DenS}
    (Fn : FunD K x qual params body scope dvs kws f fd) (S : FnScope N ps scope) (hm : N.length - ps.length = m) (hr : ∀ i, ms.getD i false = true → i ∈ refs)
    (hb : ∀ (cdv : Value) (A : Around) (outer : List Env) (s : Shared) (H : Hp) (E : XK), Room k (A.deeper (envOfC qual scope s.heap.objs.size f cdv)) → VSs (cxOf CX0 P w K mg base N qual scope f cdv A outer s H E).nox refs body d) :
    FnOk P w K mg base CX0 (k + 1) f fd ps (spOf K ps.length ms (runF ms m d)) :=
  Fn.ok S (fun vs H Q E ⟨_, _, _, _, h, _⟩ => h) fun cdv A outer s H vs Q E hroom h => ⟨_, PSs.nox (hb cdv A outer s H E hroom), fn_body hm hr h⟩

/-! ### calls -/
def isB : Arg → Bool
  | .d _ => false
  | .b _ => true
def slotsB : List Arg → List Nat
  | [] => []
  | .d _ :: r => slotsB r
  | .b i :: r => i :: slotsB r
def cArgs : List Arg → DenA
  | [] => fun e => some ([], e)
  | .d a :: r => fun e => (a e).bind fun p => (cArgs r p.2).map fun q => (p.1 :: q.1, q.2)
  | .b i :: r => fun e => (slotv e i).bind fun _ => (cArgs r e).bind fun q => match q.2[i]? with
    | some (.own v) => some (v :: q.1, q.2)
    | _ => none
def backE : List Arg → List PV → PEn → PEn
  | .b i :: as, p :: ps, e => backE as ps (e.set i (.own p))
  | .d _ :: as, _ :: ps, e => backE as ps e
  | _, _, e => e
def dCall (sem : Sem) (as : List Arg) : Den := fun e => (cArgs as e).bind fun p => (sem p.1).map fun r => (r.1, backE as r.2 p.2)
/-- the arguments as they lie -/
structure ArgRep (K : PySem.W.Frag) (F : Addr → Prop) (H : Hp) (env : PEn) (σ : L2.St) (as : List Arg) (xs : List V) (ps : List PV) : Prop where
  l1 : xs.length = as.length
  l2 : ps.length = as.length
  d : ∀ (j : Nat) (a : Den), as[j]? = some (.d a) → ∃ x p, xs[j]? = some x ∧ ps[j]? = some p ∧ Rep K F H x p
  b : ∀ (j i : Nat), as[j]? = some (.b i) → ∃ x p, xs[j]? = some x ∧ ps[j]? = some p ∧ σ[i]? = some (some x) ∧ env[i]? = some (SlP.own p)
def tC (K : PySem.W.Frag) (as : List Arg) : TA := fun σ H Q => ∃ F env r env', Rel K F H env σ ∧ cArgs as env = some (r, env') ∧ ∀ (xs : List V) (F' : Addr → Prop) (H' : Hp), Rel K F' H' env' σ → Mv F H env σ F' H' env' σ → ArgRep K F' H' env' σ as xs r → Q xs H'
abbrev VC (X : Cx) (es : List Expr) (as : List Arg) : Prop := PA X es (tC X.K as)
section
variable {X : Cx} {e : Expr} {es : List Expr} {as : List Arg} {da : Den}
theorem vc_nil : VC X [] [] := pa_imp pa_nil fun σ H Q sz ⟨F, env, r, env', R, hd, q⟩ => by
  cases hd
  exact fun _ => q [] F H R .refl ⟨rfl, rfl, fun j a h => by simp at h, fun j i h => by simp at h⟩
theorem vc_d (hn : notStar e = true) (ha : VE X e da) (hr : VC X es as) : VC X (e :: es) (.d da :: as) :=
  pa_imp (pa_cons ha hr (starEach_cons hn)) fun σ H Q sz ⟨F, env, r, env', R, hd, q⟩ => by
    unfold cArgs at hd
    obtain ⟨⟨p, e1⟩, h1, hd⟩ := Option.bind_eq_some_iff.mp hd
    obtain ⟨⟨ps, e2⟩, h2, hz⟩ := Option.map_eq_some_iff.mp hd
    cases hz
    refine ⟨F, env, p, e1, R, h1, fun x F1 H1 R1 M1 r1 => ⟨F1, e1, ps, e2, R1, h2, fun xs F2 H2 R2 M2 A => ?_⟩⟩
    refine fun _ => q (x :: xs) F2 H2 R2 (M1.trans M2) ⟨by simp [A.l1], by simp [A.l2], fun j a h => ?_, fun j i h => ?_⟩
    · cases j with
      | zero => exact ⟨x, p, rfl, rfl, r1.ex (M2.ex R1)⟩
      | succ j => obtain ⟨y, z, h1, h2, h3⟩ := A.d j a (by simpa using h); exact ⟨y, z, by simpa using h1, by simpa using h2, h3⟩
    · cases j with
      | zero => simp at h
      | succ j => obtain ⟨y, z, h1, h2, h3⟩ := A.b j i (by simpa using h); exact ⟨y, z, by simpa using h1, by simpa using h2, h3⟩
theorem vc_b {i : Nat} (hn : notStar e = true) (ha : PE X e (tVar i)) (hr : VC X es as) : VC X (e :: es) (.b i :: as) :=
  pa_imp (pa_cons ha hr (starEach_cons hn)) fun σ H Q sz ⟨F, env, r, env', R, hd, q⟩ => by
    unfold cArgs at hd
    obtain ⟨v0, h0, hd⟩ := Option.bind_eq_some_iff.mp hd
    obtain ⟨⟨ps, e1⟩, h1, hd⟩ := Option.bind_eq_some_iff.mp hd
    simp only at hd
    split at hd
    · rename_i v ev
      cases hd
      obtain ⟨x, sx, _⟩ := slotv_rep R h0
      refine ⟨x, sx, F, env, ps, _, R, h1, fun xs F2 H2 R2 M2 A => ?_⟩
      refine fun _ => q (x :: xs) F2 H2 R2 M2 ⟨by simp [A.l1], by simp [A.l2], fun j a h => ?_, fun j i' h => ?_⟩
      · cases j with
        | zero => simp at h
        | succ j => obtain ⟨y, z, h1, h2, h3⟩ := A.d j a (by simpa using h); exact ⟨y, z, by simpa using h1, by simpa using h2, h3⟩
      · cases j with
        | zero => simp at h; subst h; exact ⟨x, v, rfl, rfl, sx, ev⟩
        | succ j => obtain ⟨y, z, h1, h2, h3⟩ := A.b j i' (by simpa using h); exact ⟨y, z, by simpa using h1, by simpa using h2, h3⟩
    · cases hd
theorem backE_len : ∀ (as : List Arg) (ps : List PV) (e : PEn), (backE as ps e).length = e.length
  | .b i :: as, p :: ps, e => by simp [backE, backE_len as ps]
  | .d _ :: as, _ :: ps, e => by simp [backE, backE_len as ps]
  | [], _, e => by simp [backE]
  | .b _ :: _, [], e => by simp [backE]
  | .d _ :: _, [], e => by simp [backE]
theorem mem_slots : ∀ {as : List Arg} {i : Nat}, i ∈ slotsB as ↔ ∃ j : Nat, as[j]? = some (Arg.b i)
  | [], i => by simp [slotsB]
  | .d a :: as, i => by
    rw [slotsB, mem_slots]
    refine ⟨fun ⟨j, h⟩ => ⟨j + 1, by simpa using h⟩, fun ⟨j, h⟩ => ?_⟩
    cases j with
    | zero => simp at h
    | succ j => exact ⟨j, by simpa using h⟩
  | .b k :: as, i => by
    rw [slotsB, List.mem_cons, mem_slots]
    refine ⟨fun h => ?_, fun ⟨j, h⟩ => ?_⟩
    · rcases h with h | ⟨j, h⟩
      · subst h; exact ⟨0, rfl⟩
      · exact ⟨j + 1, by simpa using h⟩
    · cases j with
      | zero => simp at h; exact .inl h.symm
      | succ j => exact .inr ⟨j, by simpa using h⟩
theorem backE_off : ∀ {as : List Arg} {ps : List PV} {e : PEn} {i : Nat}, i ∉ slotsB as → (backE as ps e)[i]? = e[i]?
  | .b k :: as, p :: ps, e, i, h => by
    rw [slotsB, List.mem_cons, not_or] at h
    rw [backE, backE_off h.2, List.getElem?_set_ne (Ne.symm h.1)]
  | .d _ :: as, _ :: ps, e, i, h => by rw [slotsB] at h; rw [backE, backE_off h]
  | [], _, e, i, h => by simp [backE]
  | .b _ :: _, [], e, i, h => by simp [backE]
  | .d _ :: _, [], e, i, h => by simp [backE]
theorem backE_at : ∀ {as : List Arg} {ps : List PV} {e : PEn} {i j : Nat} {w : PV}, (slotsB as).Nodup → as[j]? = some (.b i) → ps[j]? = some w → i < e.length → (backE as ps e)[i]? = some (SlP.own w)
  | .b k :: as, p :: ps, e, i, 0, w, nd, h1, h2, hi => by
    simp at h1 h2
    subst h1 h2
    rw [slotsB, List.nodup_cons] at nd
    rw [backE, backE_off nd.1, List.getElem?_set_self hi]
  | .b k :: as, p :: ps, e, i, j + 1, w, nd, h1, h2, hi => by
    rw [slotsB, List.nodup_cons] at nd
    rw [backE]
    exact backE_at nd.2 (by simpa using h1) (by simpa using h2) (by simpa using hi)
  | .d _ :: as, _ :: ps, e, i, 0, w, nd, h1, h2, hi => by simp at h1
  | .d _ :: as, _ :: ps, e, i, j + 1, w, nd, h1, h2, hi => by
    rw [slotsB] at nd
    rw [backE]
    exact backE_at nd (by simpa using h1) (by simpa using h2) hi
  | [], _, e, i, j, w, nd, h1, h2, hi => by simp at h1
  | _ :: _, [], e, i, j, w, nd, h1, h2, hi => by simp at h2
theorem slots_inj : ∀ {as : List Arg} {i j k : Nat}, (slotsB as).Nodup → as[j]? = some (.b i) → as[k]? = some (.b i) → j = k
  | [], i, j, k, nd, h1, h2 => by simp at h1
  | .d _ :: as, i, j, k, nd, h1, h2 => by
    rw [slotsB] at nd
    cases j with
    | zero => simp at h1
    | succ j =>
      cases k with
      | zero => simp at h2
      | succ k => exact congrArg Nat.succ (slots_inj nd (by simpa using h1) (by simpa using h2))
  | .b q :: as, i, j, k, nd, h1, h2 => by
    rw [slotsB, List.nodup_cons] at nd
    cases j with
    | zero =>
      cases k with
      | zero => rfl
      | succ k =>
        simp at h1
        subst h1
        exact absurd (mem_slots.mpr ⟨k, by simpa using h2⟩) nd.1
    | succ j =>
      cases k with
      | zero =>
        simp at h2
        subst h2
        exact absurd (mem_slots.mpr ⟨j, by simpa using h1⟩) nd.1
      | succ k => exact congrArg Nat.succ (slots_inj nd.2 (by simpa using h1) (by simpa using h2))
end
section
variable {K : PySem.W.Frag} {F F' : Addr → Prop} {H H' : Hp} {env : PEn} {σ : L2.St} {ms : List Bool} {as : List Arg} {ps ws : List PV} {xs : List V}
def mskOk (as : List Arg) (ms : List Bool) : Prop := as.map isB = ms ++ List.replicate (as.length - ms.length) false
theorem msk_get (h : mskOk as ms) {j : Nat} {a : Arg} (ha : as[j]? = some a) : ms.getD j false = isB a := by
  have h1 : (as.map isB)[j]? = some (isB a) := by rw [List.getElem?_map, ha]; rfl
  rw [h] at h1
  rw [List.getD_eq_getElem?_getD]
  by_cases hj : j < ms.length
  · rw [List.getElem?_append_left hj] at h1; rw [h1]; rfl
  · rw [List.getElem?_append_right (by omega), List.getElem?_replicate] at h1
    rw [List.getElem?_eq_none (by omega)]
    split at h1
    · simpa using h1
    · cases h1
theorem arg_at {j : Nat} {p : PV} (A : ArgRep K F H env σ as xs ps) (hp : ps[j]? = some p) : ∃ a, as[j]? = some a := by
  have : j < as.length := by rw [← A.l2]; exact (List.getElem?_eq_some_iff.mp hp).1
  exact ⟨_, List.getElem?_eq_getElem this⟩
/-- a call's arguments are the parameters -/
theorem arg_rel (R : Rel K F H env σ) (A : ArgRep K F H env σ as xs ps) (hk : mskOk as ms) (nd : (slotsB as).Nodup) : Rel K F H (argE ms ps) (xs.map some) where
  len := by rw [argE_len, A.l2, ← A.l1]; simp
  val := fun j v e => by
    obtain ⟨h1, h2⟩ := argE_val e
    obtain ⟨a, ha⟩ := arg_at A h2
    have := msk_get hk ha
    cases a with
    | b i => rw [h1] at this; cases this
    | d a =>
      obtain ⟨x, p, hx, hp, r⟩ := A.d j a ha
      rw [h2] at hp; cases hp
      exact ⟨x, by rw [List.getElem?_map, hx]; rfl, r⟩
  own := fun j v e => by
    obtain ⟨h1, h2⟩ := argE_own e
    obtain ⟨a, ha⟩ := arg_at A h2
    have := msk_get hk ha
    cases a with
    | d a => rw [h1] at this; cases this
    | b i =>
      obtain ⟨x, p, hx, hp, sx, ep⟩ := A.b j i ha
      rw [h2] at hp; cases hp
      obtain ⟨a, sa, nF, O⟩ := R.own i _ ep
      rw [sx] at sa; cases sa
      exact ⟨a, by rw [List.getElem?_map, hx]; rfl, nF, O⟩
  apart := fun j k v w a e1 e2 s1 s2 => by
    have go : ∀ (j : Nat) (v : PV), (argE ms ps)[j]? = some (SlP.own v) → (xs.map some)[j]? = some (some (V.ref a)) → ∃ i, as[j]? = some (.b i) ∧ σ[i]? = some (some (V.ref a)) ∧ ∃ p, env[i]? = some (SlP.own p) := fun j v e s => by
      obtain ⟨h1, h2⟩ := argE_own e
      obtain ⟨b, hb⟩ := arg_at A h2
      have := msk_get hk hb
      cases b with
      | d _ => rw [h1] at this; cases this
      | b i =>
        obtain ⟨x, p, hx, hp, sx, ep⟩ := A.b j i hb
        rw [List.getElem?_map, hx] at s
        cases s
        exact ⟨i, hb, sx, p, ep⟩
    obtain ⟨i1, a1, s1, p1, q1⟩ := go j v e1 s1
    obtain ⟨i2, a2, s2, p2, q2⟩ := go k w e2 s2
    have := R.apart i1 i2 p1 p2 a q1 q2 s1 s2
    subst this
    exact slots_inj nd a1 a2
  fz := R.fz
  sz := R.sz
theorem own_arg (A : ArgRep K F H env σ as xs ps) (hk : mskOk as ms) {a : Addr} (o : Own (argE ms ps) (xs.map some) a) : ∃ i, i ∈ slotsB as ∧ σ[i]? = some (some (V.ref a)) ∧ ∃ p, env[i]? = some (SlP.own p) := by
  obtain ⟨j, v, e, s⟩ := o
  obtain ⟨h1, h2⟩ := argE_own e
  obtain ⟨b, hb⟩ := arg_at A h2
  have := msk_get hk hb
  cases b with
  | d _ => rw [h1] at this; cases this
  | b i =>
    obtain ⟨x, p, hx, hp, sx, ep⟩ := A.b j i hb
    rw [List.getElem?_map, hx] at s
    cases s
    exact ⟨i, mem_slots.mpr ⟨j, hb⟩, sx, p, ep⟩
/-- behind the call -/
theorem arg_back (R : Rel K F H env σ) (A : ArgRep K F H env σ as xs ps) (hk : mskOk as ms) (nd : (slotsB as).Nodup) (hl : ws.length = ps.length) (R2 : Rel K F' H' (argE ms ws) (xs.map some)) (M : Mv F H (argE ms ps) (xs.map some) F' H' (argE ms ws) (xs.map some)) :
    Rel K F' H' (backE as ws env) σ ∧ Mv F H env σ F' H' (backE as ws env) σ := by
  have R1 := arg_rel R A hk nd
  have ex := M.ex R1
  -- a slot by reference
  have inn : ∀ i, i ∈ slotsB as → ∃ a w, σ[i]? = some (some (V.ref a)) ∧ (backE as ws env)[i]? = some (SlP.own w) ∧ ¬ F' a ∧ OwnAt K F' H' a w ∧ Own (argE ms ws) (xs.map some) a ∧ ∃ p, env[i]? = some (SlP.own p) := fun i hi => by
    obtain ⟨j, hj⟩ := mem_slots.mp hi
    obtain ⟨x, p, hx, hp, sx, ep⟩ := A.b j i hj
    have hjl : j < ws.length := by rw [hl]; exact (List.getElem?_eq_some_iff.mp hp).1
    have hw : ws[j]? = some ws[j] := List.getElem?_eq_getElem hjl
    have hm := msk_get hk hj
    have e : (argE ms ws)[j]? = some (SlP.own ws[j]) := by rw [argE_get, hw, hm]; rfl
    obtain ⟨a, sa, nF, O⟩ := R2.own j _ e
    have sa' := sa
    rw [List.getElem?_map, hx] at sa
    cases sa
    exact ⟨a, ws[j], sx, backE_at nd hj hw (List.getElem?_eq_some_iff.mp ep).1, nF, O, ⟨j, _, e, sa'⟩, p, ep⟩
  -- one that is none
  have out : ∀ (i : Nat) (v : PV) (a : Addr), i ∉ slotsB as → env[i]? = some (SlP.own v) → σ[i]? = some (some (V.ref a)) → ¬ Own (argE ms ps) (xs.map some) a := fun i v a hi e s o => by
    obtain ⟨i', h1, h2, p, h3⟩ := own_arg A hk o
    have := R.apart i i' v p a e h3 s h2
    subst this
    exact hi h1
  have ownE : ∀ (a : Addr), Own (argE ms ps) (xs.map some) a → Own env σ a := fun a o => by
    obtain ⟨i, h1, h2, p, h3⟩ := own_arg A hk o
    exact ⟨i, p, h3, h2⟩
  refine ⟨⟨by rw [backE_len]; exact R.len, fun i v e => ?_, fun i v e => ?_, fun i j v w a e1 e2 s1 s2 => ?_, R2.fz, R2.sz⟩, ⟨M.sub, fun b o hb n => M.frame b o hb fun z => n (ownE b z), fun a f => ?_, fun a ⟨i, v, e, s⟩ => ?_, M.there⟩⟩
  · by_cases hi : i ∈ slotsB as
    · obtain ⟨a, w, _, e2, _⟩ := inn i hi
      rw [e] at e2; cases e2
    · rw [backE_off hi] at e
      obtain ⟨x, sx, r⟩ := R.val i v e
      exact ⟨x, sx, r.ex ex⟩
  · by_cases hi : i ∈ slotsB as
    · obtain ⟨a, w, s, e2, nF, O, _⟩ := inn i hi
      rw [e] at e2; cases e2
      exact ⟨a, s, nF, O⟩
    · rw [backE_off hi] at e
      obtain ⟨a, s, nF, O⟩ := R.own i v e
      have no := out i v a hi e s
      obtain ⟨u, hu, _⟩ := O.some
      refine ⟨a, s, fun f => ?_, O.ex ex ((M.frame a u hu no).trans hu.symm)⟩
      rcases M.fnew a f with z | z | z
      · exact nF z
      · exact no z
      · rw [hu] at z; cases z
  · have back : ∀ (i : Nat) (v : PV), (backE as ws env)[i]? = some (SlP.own v) → ∃ p, env[i]? = some (SlP.own p) := fun i v e => by
      by_cases hi : i ∈ slotsB as
      · obtain ⟨_, _, _, _, _, _, _, p, hp⟩ := inn i hi; exact ⟨p, hp⟩
      · rw [backE_off hi] at e; exact ⟨v, e⟩
    obtain ⟨p1, q1⟩ := back i v e1
    obtain ⟨p2, q2⟩ := back j w e2
    exact R.apart i j p1 p2 a q1 q2 s1 s2
  · rcases M.fnew a f with z | z | z
    · exact .inl z
    · exact .inr (.inl (ownE a z))
    · exact .inr (.inr z)
  · by_cases hi : i ∈ slotsB as
    · obtain ⟨_, _, _, _, _, _, _, p, hp⟩ := inn i hi; exact .inl ⟨i, p, hp, s⟩
    · rw [backE_off hi] at e; exact .inl ⟨i, v, e, s⟩
end
section
variable {X : Cx} {e : Expr} {es : List Expr} {as : List Arg} {k n : Nat} {f : Addr} {fd : FuncData} {ps : List Str} {ms : List Bool} {sem : Sem} {x : Str} {p pos : Pos}
theorem call_imp (hk : mskOk as ms) (nd : (slotsB as).Nodup) (hn : as.length = n) {σ : L2.St} {H : Hp} {Q : VK} (h : tE X.K (dCall sem as) σ H Q) : tCall (spOf X.K n ms sem) [] E0 (tC X.K as) σ H Q := by
  obtain ⟨F, env, r, env', R, hd, q⟩ := h
  unfold dCall at hd
  obtain ⟨⟨ps, e1⟩, h1, hd⟩ := Option.bind_eq_some_iff.mp hd
  obtain ⟨⟨z, ws⟩, h2, hz⟩ := Option.map_eq_some_iff.mp hd
  cases hz
  refine ⟨F, env, ps, e1, R, h1, fun xs F1 H1 R1 M1 A => ?_⟩
  show spOf X.K n ms sem (xs ++ []) H1 Q E0
  rw [List.append_nil]
  refine ⟨F1, ps, z, ws, by rw [A.l1]; exact hn, arg_rel R1 A hk nd, h2, fun y F2 H2 hl R2 M2 r2 => ?_⟩
  obtain ⟨R3, M3⟩ := arg_back R1 A hk nd hl R2 M2
  exact q y F2 H2 R3 (M1.trans M3) r2
/-- f(e, ..) -/
theorem ve_call (G : FnOk X.prog X.w X.K X.mg X.base CX0 k f fd ps (spOf X.K n ms sem)) (hr : Room k X.A) (hg : Gl X x) (hm : X.mg x = some (.ref f)) (kp : PySem.W.keepIn X.K (.ref f) = true) (hb : Binds X.K fd ps []) (hdb : (x == ("__debug__" : Str)) = false)
    (hs : (e :: es).all notStar = true) (hk : mskOk as ms) (nd : (slotsB as).Nodup) (hn : as.length = n) (ha : VC X (e :: es) as) : VE X (.Call (.Name x p) (e :: es) [] pos) (dCall sem as) :=
  pe_imp (pe_call G hr hg hm kp hb .nil pass0 ha hdb (starEach_cons (List.all_eq_true.mp hs _ List.mem_cons_self)) (star_plain (by simp only [List.all_cons, Bool.and_eq_true] at hs; exact hs.2) pos)) fun σ H Q sz h =>
    call_imp hk nd hn (Q := fun v H' => Sized H' → Q v H') (by obtain ⟨F, env, r, env', R, hd, q⟩ := h; exact ⟨F, env, r, env', R, hd, fun y F' H' R' M' r' _ => q y F' H' R' M' r'⟩)
end
end PP

/-! PP, part o: contexts, names, the forms that a printed proof uses. -/
namespace PP
open PySem PySem.Spec PyProof.Rows L2

abbrev Nms := List (Str × NameKind)
/-- a frame, a comprehension's block: what is known of its names -/
structure Cn (X : Cx) (N : List Str) (raw nm : Nms) (k : Nat) : Prop where
  calm : X.calm = true
  eN : X.N = N
  nd : N.Nodup
  nm : X.env.scope.names = nm
  kind : X.env.scope.kind = .function
  room : Room k X.A
  xe : PassesOwn (model X.prog X.w) X.A X.env X.xe
  st : ∀ x, raw.lookup x = some .local ∨ raw.lookup x = some .cell → Loc X.env.scope x ∧ (X.fn x = true ∨ X.env.scope.names.lookup x = some .local)
def relN (outer : Nms) (names : Nms) : Nms := names.map fun p => if (p.2 == NameKind.free && outer.lookup p.1 == some .cell) then (p.1, .cell) else p
theorem relN_lookup {outer : Nms} {x : Str} {k : NameKind} (hk : k ≠ .free) : ∀ {names : Nms}, names.lookup x = some k → (relN outer names).lookup x = some k
  | [], h => by simp at h
  | (n, k') :: r, h => by
    unfold relN
    rw [List.map_cons]
    by_cases e : x = n
    · subst e
      rw [List.lookup_cons_self] at h
      cases h
      rw [if_neg (by intro z; simp only [Bool.and_eq_true, beq_iff_eq] at z; exact hk z.1)]
      exact List.lookup_cons_self
    · have e1 : (x == n) = false := by simpa using e
      have h' : r.lookup x = some k := by rw [List.lookup_cons, e1] at h; exact h
      have ih := relN_lookup (outer := outer) hk h'
      unfold relN at ih
      split <;> (rw [List.lookup_cons, e1]; exact ih)
section
variable {X : Cx} {N : List Str} {raw nm : Nms} {k : Nat}
theorem Cn.blk (c : Cn X N raw nm k) (s : Shared) (H : Hp) (scope : Scope) (C : Addr) (cl : List (Str × Addr)) (fp : List Addr) (hk : scope.kind = .function) : Cn (X.blk s H scope (compEnvC scope cl C X.env) fp) N scope.names (relN nm scope.names) k where
  calm := c.calm
  eN := c.eN
  nd := c.nd
  nm := by
    show (relabel scope X.env).names = _
    unfold relabel relN
    simp only [c.kind, Env.kindOf, c.nm]
    first | rfl | (apply List.map_congr_left; intro p hp; obtain ⟨a, b⟩ := p; simp)
  kind := hk
  room := c.room
  xe := PassesOwn.never
  st := fun x h => by
    have hn : (relabel scope X.env).names = relN nm scope.names := by
      unfold relabel relN
      simp only [c.kind, Env.kindOf, c.nm]
      first | rfl | (apply List.map_congr_left; intro p hp; obtain ⟨a, b⟩ := p; simp)
    rcases h with h | h
    · have := relN_lookup (outer := nm) (by decide) h
      exact ⟨.inl (by show (relabel scope X.env).names.lookup x = _; rw [hn]; exact this), .inr (by show (relabel scope X.env).names.lookup x = _; rw [hn]; exact this)⟩
    · have := relN_lookup (outer := nm) (by decide) h
      exact ⟨.inr (by show (relabel scope X.env).names.lookup x = _; rw [hn]; exact this), .inl (by show (scope.names.lookup x == some NameKind.cell) = true; rw [h]; rfl)⟩
def varC (N : List Str) (nm : Nms) (i : Nat) (x : Str) : Bool := decide (N[i]? = some x) && (match nm.lookup x with | some .local => true | some .cell => true | some .free => true | _ => false) && decide ((x == ("__debug__" : Str)) = false) && decide ((x == ("__classdict__" : Str)) = false)
theorem Cn.var (c : Cn X N raw nm k) {i : Nat} {x : Str} (h : varC N nm i x = true) (pos : Pos) : PE X (.Name x pos) (tVar i) := by
  unfold varC at h
  simp only [Bool.and_eq_true, decide_eq_true_eq] at h
  obtain ⟨⟨⟨h1, h2⟩, h3⟩, h4⟩ := h
  refine pe_var (by rw [c.eN]; exact h1) ?_ h3 h4
  unfold Vis
  rw [c.nm]
  split at h2 <;> first | exact .inl (by assumption) | exact .inr (.inl (by assumption)) | exact .inr (.inr (by assumption)) | cases h2
def stoC (N : List Str) (raw : Nms) (i : Nat) (x : Str) : Bool := decide (N[i]? = some x) && (match raw.lookup x with | some .local => true | some .cell => true | _ => false)
theorem stoC_ok (c : Cn X N raw nm k) {i : Nat} {x : Str} (h : stoC N raw i x = true) : X.N.Nodup ∧ X.N[i]? = some x ∧ Loc X.env.scope x ∧ (X.fn x = true ∨ X.env.scope.names.lookup x = some .local) := by
  unfold stoC at h
  simp only [Bool.and_eq_true, decide_eq_true_eq] at h
  obtain ⟨h1, h2⟩ := h
  have h3 : raw.lookup x = some .local ∨ raw.lookup x = some .cell := by
    split at h2 <;> first | exact .inl (by assumption) | exact .inr (by assumption) | cases h2
  obtain ⟨a, b⟩ := c.st x h3
  exact ⟨by rw [c.eN]; exact c.nd, by rw [c.eN]; exact h1, a, b⟩
theorem Cn.tgt (c : Cn X N raw nm k) {i : Nat} {x : Str} (h : stoC N raw i x = true) (pos : Pos) : PG X (.Name x pos) (tG X.K (.nm i)) := by
  obtain ⟨a1, a2, a3, a4⟩ := stoC_ok c h
  exact vg_nm (pg_name a1 a2 a3 a4)
/-- a built-in's name -/
structure Bi (X : Cx) (x : Str) (v : Value) : Prop where
  gl : Gl X x
  mg : X.mg x = none
  boot : bootBuiltins x = some v
  ne : x ≠ "__name__"
  db : (x == ("__debug__" : Str)) = false
/-- the module's names -/
structure GF (mg : Str → Option Value) (free : List Str) (nts : List (Str × Int)) : Prop where
  free : ∀ x ∈ free, mg x = none
  nts : ∀ p ∈ nts, ∃ t, mg p.1 = some (.int p.2 t)
def biC (nm : Nms) (free : List Str) (x : Str) (v : Value) : Bool := decide (nm.lookup x = some .globalImplicit) && decide (x ∈ free) && decide (bootBuiltins x = some v) && decide (x ≠ "__name__") && decide ((x == ("__debug__" : Str)) = false)
theorem Cn.bi (c : Cn X N raw nm k) {free : List Str} {nts : List (Str × Int)} (g : GF X.mg free nts) {x : Str} {v : Value} (h : biC nm free x v = true) : Bi X x v := by
  unfold biC at h
  simp only [Bool.and_eq_true, decide_eq_true_eq] at h
  obtain ⟨⟨⟨⟨h1, h2⟩, h3⟩, h4⟩, h5⟩ := h
  exact ⟨by show X.env.scope.names.lookup x = _; rw [c.nm]; exact h1, g.free x h2, h3, h4, h5⟩
def inC (nm : Nms) (nts : List (Str × Int)) (x : Str) (i : Int) : Bool := decide (nm.lookup x = some .globalImplicit) && decide ((x, i) ∈ nts) && decide ((x == ("__debug__" : Str)) = false)
theorem Cn.int (c : Cn X N raw nm k) {free : List Str} {nts : List (Str × Int)} (g : GF X.mg free nts) {x : Str} {i : Int} (h : inC nm nts x i = true) (pos : Pos) : VE X (.Name x pos) (dC (.int i)) := by
  unfold inC at h
  simp only [Bool.and_eq_true, decide_eq_true_eq] at h
  obtain ⟨⟨h1, h2⟩, h5⟩ := h
  obtain ⟨t, e⟩ := g.nts (x, i) h2
  exact ve_c (pe_glob (v := .int i) (by show X.env.scope.names.lookup x = _; rw [c.nm]; exact h1) e ⟨t, rfl⟩ h5) fun F H => .int i
/-- a def of the module -/
def Fav (P : Program) (w : World) (K : PySem.W.Frag) (mg : Str → Option Value) (base : Heap) (k : Nat) (x : Str) (n : Nat) (ms : List Bool) (sem : Sem) : Prop :=
  ∃ (f : Addr) (fd : FuncData) (ps : List Str), FnOk P w K mg base CX0 k f fd ps (spOf K n ms sem) ∧ mg x = some (.ref f) ∧ PySem.W.keepIn K (.ref f) = true ∧ Binds K fd ps []
abbrev FavX (X : Cx) (k : Nat) (x : Str) (n : Nat) (ms : List Bool) (sem : Sem) : Prop := Fav X.prog X.w X.K X.mg X.base k x n ms sem
def fvC (nm : Nms) (x : Str) : Bool := decide (nm.lookup x = some .globalImplicit) && decide ((x == ("__debug__" : Str)) = false)
theorem Cn.call (c : Cn X N raw nm k) {j n : Nat} {x : Str} {ms : List Bool} {sem : Sem} {e : Expr} {es : List Expr} {as : List Arg} {p pos : Pos} (G : FavX X j x n ms sem) (hj : j ≤ k) (h : fvC nm x = true) (hs : (e :: es).all notStar = true) (hk : mskOk as ms) (nd : (slotsB as).Nodup) (hn : as.length = n) (ha : VC X (e :: es) as) :
    VE X (.Call (.Name x p) (e :: es) [] pos) (dCall sem as) := by
  unfold fvC at h
  simp only [Bool.and_eq_true, decide_eq_true_eq] at h
  obtain ⟨f, fd, ps, F, hm, kp, hb⟩ := G
  exact ve_call F (c.room.mono hj) (by show X.env.scope.names.lookup x = _; rw [c.nm]; exact h.1) hm kp hb h.2 hs hk nd hn ha
theorem Cn.hu (c : Cn X N raw nm k) : X.A.units + 100 < cLine := by have := c.room.un; omega
theorem Cn.hu1 (c : Cn X N raw nm k) : X.A.units + 1 < cLine := by have := c.room.un; omega
theorem Cn.hu0 (c : Cn X N raw nm k) : X.A.units < cLine := by have := c.room.un; omega
theorem Cn.hu64 (c : Cn X N raw nm k) : X.A.units + 64 < cLine := by have := c.room.un; omega
theorem Cn.hu65 (c : Cn X N raw nm k) : X.A.units + 65 < cLine := by have := c.room.un; omega
end
section
variable {X : Cx} {N : List Str} {raw nm : Nms} {k : Nat} {a b c' e elt tg iter : Expr} {es ifs : List Expr} {da db dc de : Den} {tt : DenT} {src : DenI} {t : Tgt} {own : List (Str × Nat)} {scope : Scope} {refs : List Nat} {p pos spos py : Pos} {as : List Arg} {x : Str} {T : String}
theorem Bi.app {f : List PV → Option PV} (B : Bi X x (.builtin T)) (hc : CallR X (.builtin T) (rL X.K f)) (hs : (e :: es).all notStar = true) (h : VAB X (e :: es) (bArgs as)) : VE X (.Call (.Name x p) (e :: es) [] pos) (dApp f as) := ve_app hc B.gl B.mg B.boot B.ne B.db hs h
theorem Bi.appTy {f : List PV → Option PV} (B : Bi X x (.type T)) (hc : CallR X (.type T) (rL X.K f)) (hs : (e :: es).all notStar = true) (h : VAB X (e :: es) (bArgs as)) : VE X (.Call (.Name x p) (e :: es) [] pos) (dApp f as) := ve_appTy hc B.gl B.mg B.boot B.ne B.db hs h
theorem Bi.isi {ar : Arg} {ty : TyN} {pos' : Pos} (B : Bi X "isinstance" (.builtin "isinstance")) (B2 : Bi X x (.type ty.name)) (hs : notStar e = true) (ho : VArg X e ar) : VE X (.Call (.Name "isinstance" p) [e, .Name x pos'] [] pos) (dIsI ty ar) := ve_isi B.gl B.mg B2.gl B2.mg B2.boot B2.ne B2.db hs ho
theorem Bi.range1 (B : Bi X "range" (.type "range")) (hs : notStar a = true) (ha : VE X a da) : VI X tg (.Call (.Name "range" p) [a] [] pos) (iRange [da]) := vi_range1 B.gl B.mg hs ha
theorem Bi.range2 (B : Bi X "range" (.type "range")) (hs : notStar a = true) (hs2 : notStar b = true) (ha : VE X a da) (hb : VE X b db) : VI X tg (.Call (.Name "range" p) [a, b] [] pos) (iRange [da, db]) := vi_range2 B.gl B.mg hs hs2 ha hb
theorem Bi.prg1 (B : Bi X "range" (.type "range")) (hs : notStar a = true) (ha : VE X a da) : PRg X (.Call (.Name "range" p) [a] [] pos) (tRgE X.K [da]) := prg_one B.gl B.mg hs ha
theorem Bi.prg2 (B : Bi X "range" (.type "range")) (hs : notStar a = true) (hs2 : notStar b = true) (ha : VE X a da) (hb : VE X b db) : PRg X (.Call (.Name "range" p) [a, b] [] pos) (tRgE X.K [da, db]) := prg_two B.gl B.mg hs hs2 ha hb
theorem Bi.zip {elts : List Expr} {kk : Nat} {tpos : Pos} (B : Bi X "zip" (.type "zip")) (hs : notStar a = true) (hs2 : notStar b = true) (ha : VE X a da) (hb : VE X b db) : VI X (.Tuple elts kk tpos) (.Call (.Name "zip" p) [a, b] [] pos) (iZip2 da db) := vi_zip B.gl B.mg hs hs2 ha hb
theorem Bi.listRg {as : List Den} (B : Bi X "list" (.type "list")) (hc : X.calm = true) (hs : notStar e = true) (h : PRg X e (tRgE X.K as)) : VF X (.Call (.Name "list" p) [e] [] pos) (dListRg as) := vf_listRg hc B.gl B.mg hs h
theorem Bi.tupRg {as : List Den} (B : Bi X "tuple" (.type "tuple")) (hc : X.calm = true) (hs : notStar e = true) (h : PRg X e (tRgE X.K as)) : VE X (.Call (.Name "tuple" p) [e] [] pos) (dTupRg as) := ve_tupRg hc B.gl B.mg hs h

def asBl (v : PV) : Option Bool := match v with | .bl b => some b | _ => none
def dB (d : Den) : DenT := fun e => (d e).bind fun p => (asBl p.1).map fun z => (z, p.2)
theorem vt_val (he : ∀ whole, isTrue e X.env whole = (do let v ← whole; standAt e.pos; holding [v] (truthy v))) (h : VE X e da) : VT X e (dB da) :=
  pt_imp (pt_val h he) fun σ H Q sz ⟨F, env, r, env', R, hd, q⟩ => by
    unfold dB at hd
    obtain ⟨⟨p, e1⟩, h1, hd⟩ := Option.bind_eq_some_iff.mp hd
    obtain ⟨z, h3, hz⟩ := Option.map_eq_some_iff.mp hd
    cases hz
    refine ⟨F, env, p, _, R, h1, fun x F1 H1 R1 M1 r1 => ?_⟩
    unfold asBl at h3
    dsimp only at h3
    split at h3
    · cases h3
      cases r1
      exact ⟨_, rfl, fun _ => q F1 H1 R1 M1⟩
    · cases h3
theorem vt_cmp {op : CmpOp} {f : PV → PV → Option PV} (ho : OpR X (compareOp op) (rB X.K f)) (hm : behindInMarks op b = false) (ha : VE X a da) (hb : VE X b db) : VT X (.Compare a [op] [b] pos) (dB (dBin f da db)) :=
  pt_imp (pt_cmpR (opr_sz ho) ha hb hm) fun σ H Q sz ⟨F, env, r, env', R, hd, q⟩ => by
    unfold dB dBin at hd
    obtain ⟨⟨z, e0⟩, h0, hd⟩ := Option.bind_eq_some_iff.mp hd
    obtain ⟨⟨p, e1⟩, h1, h0⟩ := Option.bind_eq_some_iff.mp h0
    obtain ⟨⟨q', e2⟩, h2, h0⟩ := Option.bind_eq_some_iff.mp h0
    obtain ⟨z', h3, hz⟩ := Option.map_eq_some_iff.mp h0
    cases hz
    obtain ⟨b', h4, hz⟩ := Option.map_eq_some_iff.mp hd
    cases hz
    refine ⟨F, env, p, e1, R, h1, fun x F1 H1 R1 M1 r1 => ⟨F1, e1, q', _, R1, h2, fun y F2 H2 R2 M2 r2 => ⟨F2, p, q', _, R2.fz, R2.sz, .rep (r1.ex (M2.ex R1)), .rep r2, h3, fun v F3 H3 N r3 s3 => ?_⟩⟩⟩
    unfold asBl at h4
    dsimp only at h4
    split at h4
    · cases h4
      cases r3
      exact ⟨_, rfl, fun _ => q F3 H3 (N.rel R2 s3) ((M1.trans M2).trans N.mv)⟩
    · cases h4
theorem vt_cmpR {op : CmpOp} {f : PV → PV → Option PV} {i : Nat} (ho : OpR X (compareOp op) (rB X.K f)) (hm : behindInMarks op b = false) (ha : VE X a da) (hb : PE X b (tVar i)) : VT X (.Compare a [op] [b] pos) (dB (dBinR f da i)) :=
  pt_imp (pt_cmpR (opr_sz ho) ha hb hm) fun σ H Q sz ⟨F, env, r, env', R, hd, q⟩ => by
    unfold dB dBinR at hd
    obtain ⟨⟨z, e0⟩, h0, hd⟩ := Option.bind_eq_some_iff.mp hd
    obtain ⟨⟨p, e1⟩, h1, h0⟩ := Option.bind_eq_some_iff.mp h0
    obtain ⟨y, h2, h0⟩ := Option.bind_eq_some_iff.mp h0
    obtain ⟨z', h3, hz⟩ := Option.map_eq_some_iff.mp h0
    cases hz
    obtain ⟨b', h4, hz⟩ := Option.map_eq_some_iff.mp hd
    cases hz
    refine ⟨F, env, p, _, R, h1, fun x F1 H1 R1 M1 r1 => ?_⟩
    obtain ⟨x', sx', r'⟩ := slotv_rep R1 h2
    refine ⟨x', sx', F1, p, y, _, R1.fz, R1.sz, .rep r1, r', h3, fun v F3 H3 N r3 s3 => ?_⟩
    unfold asBl at h4
    dsimp only at h4
    split at h4
    · cases h4
      cases r3
      exact ⟨_, rfl, fun _ => q F3 H3 (N.rel R1 s3) (M1.trans N.mv)⟩
    · cases h4
theorem chain_imp {f g : PV → PV → Option PV} {σ : L2.St} {H : Hp} {Q : VK} (h : tE X.K (dChain f g da db dc) σ H Q) :
    tChain (fun x y H Q => rB X.K f x y H fun v H' => Sized H' → Q v H') (fun x y H Q => rB X.K g x y H fun v H' => Sized H' → Q v H') (tE X.K da) (tE X.K db) (tE X.K dc) σ H Q := by
  obtain ⟨F, env, r, env', R, hd, q⟩ := h
  unfold dChain at hd
  obtain ⟨⟨p, e1⟩, h1, hd⟩ := Option.bind_eq_some_iff.mp hd
  obtain ⟨⟨p2, e2⟩, h2, hd⟩ := Option.bind_eq_some_iff.mp hd
  obtain ⟨z, h3, hd⟩ := Option.bind_eq_some_iff.mp hd
  refine ⟨F, env, p, e1, R, h1, fun x F1 H1 R1 M1 r1 => ⟨F1, e1, p2, e2, R1, h2, fun y F2 H2 R2 M2 r2 => ⟨F2, p, p2, z, R2.fz, R2.sz, .rep (r1.ex (M2.ex R1)), .rep r2, h3, fun v F3 H3 N r3 s3 => ?_⟩⟩⟩
  cases z <;> simp only at hd <;> try cases hd
  rename_i k
  cases r3
  cases k with
  | false =>
    cases hd
    exact ⟨false, rfl, by
      rw [if_neg Bool.false_ne_true]
      exact q _ F3 H3 (N.rel R2 s3) ((M1.trans M2).trans N.mv) (.bl _)⟩
  | true =>
    refine ⟨true, rfl, ?_⟩
    rw [if_pos rfl]
    obtain ⟨⟨p3, e3⟩, h4, hd⟩ := Option.bind_eq_some_iff.mp hd
    obtain ⟨y', h5, hz⟩ := Option.map_eq_some_iff.mp hd
    cases hz
    have R3 := N.rel R2 s3
    refine ⟨F3, e2, p3, e3, R3, h4, fun w F4 H4 R4 M4 r4 => ⟨F4, p2, p3, r, R4.fz, R4.sz, .rep (r2.ex (Ex.trans N.ex (M4.ex R3))), .rep r4, h5, fun v F5 H5 N5 r5 s5 => ?_⟩⟩
    exact q v F5 H5 (N5.rel R4 s5) (((M1.trans M2).trans N.mv).trans (M4.trans N5.mv)) r5
theorem vt_chain {op op' : CmpOp} {f g : PV → PV → Option PV} (ho : OpR X (compareOp op) (rB X.K f)) (ho' : OpR X (compareOp op') (rB X.K g)) (ha : VE X a da) (hb : VE X b db) (hc : VE X c' dc) (hm : lastMarks [op, op'] [b, c'] = false) :
    VT X (.Compare a [op, op'] [b, c'] pos) (dB (dChain f g da db dc)) :=
  pt_imp (pt_chain (opr_sz ho) (opr_sz ho') ha hb hc hm) fun σ H Q sz ⟨F, env, r, env', R, hd, q⟩ => by
    unfold dB at hd
    obtain ⟨⟨z, e0⟩, h0, hd⟩ := Option.bind_eq_some_iff.mp hd
    obtain ⟨b', h4, hz⟩ := Option.map_eq_some_iff.mp hd
    cases hz
    refine chain_imp ⟨F, env, z, _, R, h0, fun v F1 H1 R1 M1 r1 => ?_⟩
    unfold asBl at h4
    dsimp only at h4
    split at h4
    · cases h4
      cases r1
      exact ⟨_, rfl, fun _ => q F1 H1 R1 M1⟩
    · cases h4
/-- comprehensions -/
theorem Cn.lc (c : Cn X N raw nm k) (it : VI X tg iter src) (hok : blkC N { kind := .function, names := nm, isGenerator := false, isCoroutine := false } scope own = true) (hk : scope.kind = .function) (sub : (t.slots.all fun i => decide (i ∈ own.map (·.2))) = true) (fs : ∀ x, foldedSetIterable iter X.env x = pure x)
    (bd : ∀ (s : Shared) (H : Hp) (C : Addr) (cl : List (Str × Addr)) (fp : List Addr), Cn (X.blk s H scope (compEnvC scope cl C X.env) fp) N scope.names (relN nm scope.names) k →
      PG (X.blk s H scope (compEnvC scope cl C X.env) fp) tg (tG X.K t) ∧ PTs (X.blk s H scope (compEnvC scope cl C X.env) fp) ifs (tT X.K tt) ∧ PE (X.blk s H scope (compEnvC scope cl C X.env) fp) elt (tE X.K de)) : LcOk X elt tg iter ifs scope own src t tt de where
  it := it
  ok := by
    have := blkOk_by hok
    exact ⟨this.kind, this.uniq, by rw [c.eN]; exact this.ix, fun y hy e => by rw [c.nm]; exact this.free y hy e, by rw [c.eN]; exact this.own⟩
  tg := fun s H C cl fp => (bd s H C cl fp (c.blk s H scope C cl fp hk)).1
  ts := fun s H C cl fp => (bd s H C cl fp (c.blk s H scope C cl fp hk)).2.1
  el := fun s H C cl fp => (bd s H C cl fp (c.blk s H scope C cl fp hk)).2.2
  sub := fun i hi => by simpa using List.all_eq_true.mp sub i hi
  fs := fs
theorem Cn.vf (c : Cn X N raw nm k) (l : LcOk X elt tg iter ifs scope own src t tt de) : VF X (.ListComp elt [⟨tg, iter, ifs, 0⟩] scope pos) (dLC src (own.map (·.2)) t tt de) := vf_lc c.calm (by rw [c.eN]; exact c.nd) l
def swC (nm : Nms) (scope : Scope) (y : Str) (l1 l2 : Nat) : Bool := nm.lookup y == some .local && l1 == l2 && !(scope.names.any fun p => p.1 == y && (p.2 == .local || p.2 == .cell))
theorem Cn.bk (c : Cn X N raw nm k) : X.env.blockKind = .function := by unfold Env.blockKind; rw [c.kind]; rfl
theorem Cn.sw (c : Cn X N raw nm k) {gens : List Comprehension} {y : Str} {line : Nat} : swapsWith (.ListComp elt gens scope pos) (some (.Name y py)) line X.env = pure (swC nm scope y py.line pos.line) := by
  show (pure _ : PySem.Sem Bool) = _
  congr 1
  unfold swC
  rw [c.bk]
  show (ScopeKind.function == ScopeKind.function && X.env.scope.names.lookup y == _ && _ && _) = _
  rw [c.nm]
  rfl
theorem Cn.ownLc (c : Cn X N raw nm k) {i : Nat} {y : Str} (hr : (refs.all fun j => j != i) = true) (hs : stoC N raw i y = true) (hl : decide (nm.lookup y = some .local) = true) (hw : swC nm scope y py.line pos.line = true) (l : LcOk X elt tg iter ifs scope own src t tt de) :
    VS X refs (.Assign [.Name y py] (.ListComp elt [⟨tg, iter, ifs, 0⟩] scope pos) spos) (sOwn i (dLC src (own.map (·.2)) t tt de)) := by
  obtain ⟨a1, a2, a3, a4⟩ := stoC_ok c hs
  refine vs_ownLc (fun h => ?_) c.calm a1 a2 (by rw [c.nm]; simpa using hl) (by rw [c.sw, hw]) l
  have := List.all_eq_true.mp hr i h
  simp at this
theorem Cn.ownLc0 (c : Cn X N raw nm k) {i : Nat} {y : Str} (hr : (refs.all fun j => j != i) = true) (hs : stoC N raw i y = true) (hw : swC nm scope y py.line pos.line = false) (l : LcOk X elt tg iter ifs scope own src t tt de) :
    VS X refs (.Assign [.Name y py] (.ListComp elt [⟨tg, iter, ifs, 0⟩] scope pos) spos) (sOwn i (dLC src (own.map (·.2)) t tt de)) := by
  obtain ⟨a1, a2, a3, a4⟩ := stoC_ok c hs
  refine vs_own (fun h => ?_) a1 a2 a3 (c.vf l) (by rw [c.sw, hw]) a4
  have := List.all_eq_true.mp hr i h
  simp at this
theorem Cn.set (c : Cn X N raw nm k) {i : Nat} {y : Str} (hr : (refs.all fun j => j != i) = true) (hs : stoC N raw i y = true) (he : VE X e de) (hw : swapsWith e (some (.Name y py)) pos.line X.env = pure false) : VS X refs (.Assign [.Name y py] e pos) (sAsg (.nm i) de) := by
  obtain ⟨a1, a2, a3, a4⟩ := stoC_ok c hs
  refine vs_set (fun h => ?_) a1 a2 a3 he hw a4
  have := List.all_eq_true.mp hr i h
  simp at this
theorem Cn.ownF (c : Cn X N raw nm k) {i : Nat} {y : Str} (hr : (refs.all fun j => j != i) = true) (hs : stoC N raw i y = true) (he : VF X e de) (hw : swapsWith e (some (.Name y py)) pos.line X.env = pure false) : VS X refs (.Assign [.Name y py] e pos) (sOwn i de) := by
  obtain ⟨a1, a2, a3, a4⟩ := stoC_ok c hs
  refine vs_own (fun h => ?_) a1 a2 a3 he hw a4
  have := List.all_eq_true.mp hr i h
  simp at this
theorem refs_tgt (h : (refs.all fun j => decide (j ∉ t.slots)) = true) : ∀ i ∈ refs, i ∉ t.slots := fun i hi => by simpa using List.all_eq_true.mp h i hi
/-- a slot as a value that keeps it a container of one's own: frozen where it is read otherwise -/
theorem pe_iv {i : Int} {j : Nat} : VE X (.Constant (.int i) j pos) (dC (.int i)) := ve_c pe_int fun _ _ => .int i
theorem pe_bv {b : Bool} {j : Nat} : VE X (.Constant (.bool b) j pos) (dC (.bl b)) := ve_c pe_bl fun _ _ => .bl b
theorem pe_nv {j : Nat} : VE X (.Constant .none j pos) (dC .non) := ve_c pe_non fun _ _ => .non
theorem pe_sv {x : Str} {j : Nat} : VE X (.Constant (.str x) j pos) (dC (.str x)) := ve_c pe_str fun _ _ => .str x
end
end PP

/-! PP, part p: defs of the module, one that makes a list of its own. -/
namespace PP
open PySem PySem.Spec PyProof.Rows L2

section
variable {P : Program} {w : World} {K : PySem.W.Frag} {mg : Str → Option Value} {base : Heap} {x qual : Str} {params : Arguments} {body : List Stmt} {scope : Scope} {f : Addr} {fd : FuncData} {N ps : List Str} {k m : Nat}
theorem cn_body {cdv : Value} {A : Around} {outer : List Env} {s : Shared} {H : Hp} {E : XK} (S : FnScope N ps scope) (hr : Room k (A.deeper (envOfC qual scope s.heap.objs.size f cdv))) :
    Cn (cxOf CX0 P w K mg base N qual scope f cdv A outer s H E).nox N scope.names scope.names k where
  calm := rfl
  eN := rfl
  nd := S.nd
  nm := rfl
  kind := S.kind
  room := hr
  xe := PassesOwn.never
  st := fun x h => ⟨h, .inl rfl⟩
theorem fav_of {ms : List Bool} {refs : List Nat} {d : DenS} (Fn : FunD K x qual params body scope [] [] f fd) (hm : mg x = some (.ref f)) (S : FnScope N ps scope) (hl : N.length - ps.length = m) (hr : (ms.zipIdx.all fun p => !p.1 || decide (p.2 ∈ refs)) = true)
    (hb : ∀ (kV doc pm : Value) (an : Option Addr) (cdv ct : Value) (us : List Value), us.length = ps.length → bindArgs (PySem.W.fnOf x qual params body scope .none kV doc pm an cdv ct) ⟨us, []⟩ = pure (ps.zip us))
    (h : ∀ (cdv : Value) (A : Around) (outer : List Env) (s : Shared) (H : Hp) (E : XK), Cn (cxOf CX0 P w K mg base N qual scope f cdv A outer s H E).nox N scope.names scope.names k → VSs (cxOf CX0 P w K mg base N qual scope f cdv A outer s H E).nox refs body d) :
    Fav P w K mg base (k + 1) x ps.length ms (runF ms m d) := by
  refine ⟨f, fd, ps, fn_ok Fn S hl (fun i hi => ?_) fun cdv A outer s H E hroom => h cdv A outer s H E (cn_body S hroom), hm, Fn.kp, Fn.bindsN hb⟩
  have hlt : i < ms.length := by
    by_cases hlt : i < ms.length
    · exact hlt
    · rw [List.getD_eq_getElem?_getD, List.getElem?_eq_none (by omega)] at hi; cases hi
  have := List.all_eq_true.mp hr (ms[i], i) (by rw [List.mem_zipIdx_iff_getElem?]; exact List.getElem?_eq_getElem hlt)
  rw [List.getD_eq_getElem?_getD, List.getElem?_eq_getElem hlt] at hi
  simp only [Option.getD_some] at hi
  rw [hi] at this
  simpa using this

/-! ### a def whose one statement returns a new container -/
abbrev FSemN := List PV → Option PV
def spF (K : PySem.W.Frag) (n : Nat) (sem : FSemN) : Sp := fun vs H Q _ => ∃ F ps r, vs.length = n ∧ Rel K F H (argE [] ps) (vs.map some) ∧ sem ps = some r ∧
  ∀ (a : Addr) (F' : Addr → Prop) (H' : Hp), Nw F H F' H' → Sized H' → ¬ F' a → H a = none → OwnAt K F' H' a r → Q (.ref a) H'
def runFN (m : Nat) (d : Den) : FSemN := fun ps => (d (argE [] ps ++ List.replicate m .no)).map (·.1)
def FavN (P : Program) (w : World) (K : PySem.W.Frag) (mg : Str → Option Value) (base : Heap) (k : Nat) (x : Str) (n : Nat) (sem : FSemN) : Prop :=
  ∃ (f : Addr) (fd : FuncData) (ps : List Str), FnOk P w K mg base CX0 k f fd ps (spF K n sem) ∧ mg x = some (.ref f) ∧ PySem.W.keepIn K (.ref f) = true ∧ Binds K fd ps []
theorem favN_of {e : Expr} {pos : Pos} {d : Den} (Fn : FunD K x qual params [.Return (some e) pos] scope [] [] f fd) (hm : mg x = some (.ref f)) (S : FnScope N ps scope) (hl : N.length - ps.length = m)
    (hb : ∀ (kV doc pm : Value) (an : Option Addr) (cdv ct : Value) (us : List Value), us.length = ps.length → bindArgs (PySem.W.fnOf x qual params [.Return (some e) pos] scope .none kV doc pm an cdv ct) ⟨us, []⟩ = pure (ps.zip us))
    (h : ∀ (cdv : Value) (A : Around) (outer : List Env) (s : Shared) (H : Hp) (E : XK), Cn (cxOf CX0 P w K mg base N qual scope f cdv A outer s H E).nox N scope.names scope.names k → VF (cxOf CX0 P w K mg base N qual scope f cdv A outer s H E).nox e d) :
    FavN P w K mg base (k + 1) x ps.length (runFN m d) := by
  refine ⟨f, fd, ps, Fn.ok S (fun vs H Q E ⟨_, _, _, h, _⟩ => h) (fun cdv A outer s H vs Q E hroom hsp => ?_), hm, Fn.kp, Fn.bindsN hb⟩
  obtain ⟨F, us, r, hvl, R, hs, q⟩ := hsp
  refine ⟨_, PSs.nox (pss_one (ps_ret (h cdv A outer s H E (cn_body S hroom)))), ?_⟩
  unfold runFN at hs
  obtain ⟨⟨r', e'⟩, h1, h2⟩ := Option.map_eq_some_iff.mp hs
  cases h2
  unfold L2.start
  rw [hvl, hl]
  have no : ∀ a, ¬ Own (argE [] us ++ List.replicate m SlP.no) (vs.map some ++ List.replicate m none) a := fun a o => by
    obtain ⟨i, v, e1, _⟩ := own_pad R.len o
    have := (argE_own e1).1
    simp at this
  refine ⟨F, _, r', e', R.pad m, h1, fun a F' H' R' M nF nO hn O => ?_⟩
  exact q a F' H' ⟨M.sub, fun b o hb => M.frame b o hb (no b), fun b fb => by
    rcases M.fnew b fb with z | z | z
    · exact .inl z
    · exact absurd z (no b)
    · exact .inr z, R'.fz⟩ R'.sz nF hn O
end
def dCallN (sem : FSemN) (ds : List Den) : Den := fun e => (dArgs ds e).bind fun p => (sem p.1).map fun r => (r, p.2)
section
variable {X : Cx} {N : List Str} {raw nm : Nms} {k : Nat}
theorem repL_at {K : PySem.W.Frag} {F : Addr → Prop} {H : Hp} {vs : List V} {ps : List PV} (r : RepL K F H vs ps) {env : PEn} {σ : L2.St} (R : Rel K F H env σ) : Rel K F H (argE [] ps) (vs.map some) where
  len := by rw [argE_len, ← r.length]; simp
  val := fun i v e => by
    obtain ⟨_, h⟩ := argE_val e
    obtain ⟨x, hx, rx⟩ := r.get h
    exact ⟨x, by rw [List.getElem?_map, hx]; rfl, rx⟩
  own := fun i v e => by have := (argE_own e).1; simp at this
  apart := fun i j v w a e1 _ _ _ => by have := (argE_own e1).1; simp at this
  fz := R.fz
  sz := R.sz
theorem Cn.callN (c : Cn X N raw nm k) {j n : Nat} {x : Str} {sem : FSemN} {e : Expr} {es : List Expr} {ds : List Den} {p pos : Pos} (G : FavN X.prog X.w X.K X.mg X.base j x n sem) (hj : j ≤ k) (h : fvC nm x = true) (hs : (e :: es).all notStar = true) (hn : ds.length = n) (ha : VA X (e :: es) (dArgs ds)) :
    VF X (.Call (.Name x p) (e :: es) [] pos) (dCallN sem ds) := by
  unfold fvC at h
  simp only [Bool.and_eq_true, decide_eq_true_eq] at h
  obtain ⟨f, fd, ps, F, hm, kp, hb⟩ := G
  refine pe_imp (pe_call F (c.room.mono hj) (by show X.env.scope.names.lookup x = _; rw [c.nm]; exact h.1) hm kp hb .nil pass0 ha h.2 (starEach_cons (List.all_eq_true.mp hs _ List.mem_cons_self)) (star_plain (by simp only [List.all_cons, Bool.and_eq_true] at hs; exact hs.2) pos)) fun σ H Q sz ⟨F, env, r, env', R, hd, q⟩ => ?_
  unfold dCallN at hd
  obtain ⟨⟨ps, e1⟩, h1, hd⟩ := Option.bind_eq_some_iff.mp hd
  obtain ⟨z, h2, hz⟩ := Option.map_eq_some_iff.mp hd
  cases hz
  refine ⟨F, env, ps, _, R, h1, fun xs F1 H1 R1 M1 r1 => ?_⟩
  show spF X.K n sem (xs ++ []) H1 _ E0
  rw [List.append_nil]
  refine ⟨F1, ps, _, by rw [r1.length, dArgs_len h1]; exact hn, repL_at r1 R1, h2, fun a F' H' Nn sz' nF hn' O _ => ?_⟩
  have R2 := Nn.rel R1 sz'
  refine q a F' H' R2 (M1.trans Nn.mv) nF (fun o => ?_) (M1.back hn') O
  obtain ⟨v, Ov⟩ := R1.ownAt o
  obtain ⟨u, hu, _⟩ := Ov.some
  rw [hn'] at hu; cases hu
end
end PP

/-! PP, part q: the law itself. -/
namespace PP
open PySem PySem.Spec PyProof.Rows L2

/-- a promise over heaps of small lists -/
def spZ (K : PySem.W.Frag) (n : Nat) (ms : List Bool) (sem : Sem) : Sp := fun vs H Q E => vs.length = n ∧ (Sized H → spOf K n ms sem vs H Q E)
def tZ (t : TS) : TS := fun D σ H => Sized H → t D σ H
theorem fnZ_ok {P : Program} {w : World} {K : PySem.W.Frag} {mg : Str → Option Value} {base : Heap} {x qual : Str} {params : Arguments} {body : List Stmt} {scope : Scope} {f : Addr} {fd : FuncData} {N ps : List Str} {k m : Nat} {ms : List Bool} {refs : List Nat} {d : DenS}
    (Fn : FunD K x qual params body scope [] [] f fd) (S : FnScope N ps scope) (hm : N.length - ps.length = m) (hr : (ms.zipIdx.all fun p => !p.1 || decide (p.2 ∈ refs)) = true)
    (hb : ∀ (cdv : Value) (A : Around) (outer : List Env) (s : Shared) (H : Hp) (E : XK), Room k (A.deeper (envOfC qual scope s.heap.objs.size f cdv)) → VSs (cxOf CX0 P w K mg base N qual scope f cdv A outer s H E).nox refs body d) :
    FnOk P w K mg base CX0 (k + 1) f fd ps (spZ K ps.length ms (runF ms m d)) :=
  Fn.ok S (fun vs H Q E ⟨h, _⟩ => h) fun cdv A outer s H vs Q E hroom ⟨_, h⟩ => ⟨tZ (tS K refs d), PSs.nox (pss_imp (hb cdv A outer s H E hroom) fun D σ H sz ht => by
    obtain ⟨F, env, fl, R, hd, q⟩ := ht sz
    exact ⟨F, env, fl, R, hd, q.sz⟩), fun sz => fn_body hm (fun i hi => by
    have hlt : i < ms.length := by
      by_cases hlt : i < ms.length
      · exact hlt
      · rw [List.getD_eq_getElem?_getD, List.getElem?_eq_none (by omega)] at hi; cases hi
    have := List.all_eq_true.mp hr (ms[i], i) (by rw [List.mem_zipIdx_iff_getElem?]; exact List.getElem?_eq_getElem hlt)
    rw [List.getD_eq_getElem?_getD, List.getElem?_eq_getElem hlt] at hi
    simp only [Option.getD_some] at hi
    rw [hi] at this
    simpa using this) (h sz)⟩
theorem law_sp {K : PySem.W.Frag} {H : Hp} {a : Addr} {ns : List Int} {sem : Sem} {E : XK} (hS : SqL K H a (ns.map V.int)) (h : ∃ ws, sem [.lst (ns.map PV.int)] = some (.bl true, ws)) : spZ K 1 [] sem [.ref a] H (fun v _ => v = .bl true) E := by
  obtain ⟨ws, h⟩ := h
  refine ⟨rfl, fun sz => ?_⟩
  refine ⟨fun b => ∃ o, H b = some o, _, _, ws, rfl, ?_, h, fun x F' H' _ _ _ r => by cases r; rfl⟩
  have rp : Rep K (fun b => ∃ o, H b = some o) H (.ref a) (.lst (ns.map PV.int)) := by
    refine .lst ?_ (intsL_rep ns)
    cases e : H a with
    | some o => exact .inl ⟨⟨o, e⟩, hS⟩
    | none =>
      right
      rcases hS with (z | ⟨o, z⟩) | z
      · rw [e] at z; cases z
      · rw [e] at z; cases z
      · exact .inr z
  refine ⟨rfl, fun i v e => ?_, fun i v e => ?_, fun i j v w b e1 _ _ _ => ?_, fun b hb => hb, sz⟩
  · obtain ⟨_, h2⟩ := argE_val e
    cases i with
    | zero => simp at h2; subst h2; exact ⟨_, rfl, rp⟩
    | succ i => simp at h2
  · have := (argE_own e).1; simp at this
  · have := (argE_own e1).1; simp at this
theorem gf_of {K : PySem.W.Frag} {h : Heap} {mg : Str → Option Value} {fa : List He.Fa} {fn : List He.DefD} {free : List Str} {nts : List (Str × Int)} (X : K.In h) (G : h.Ns mainGlobals mg) (c : He.SaysD fa fn K) (h1 : ∀ x ∈ free, He.Fa.free x ∈ fa) (h2 : ∀ p ∈ nts, He.Fa.int p.1 p.2 ∈ fa) : GF mg free nts := by
  refine ⟨fun x hx => ?_, fun p hp => ?_⟩
  · obtain ⟨i, hi⟩ := List.mem_iff_getElem?.mp (h1 x hx)
    exact He.free_ok X G (c.fact i hi)
  · obtain ⟨i, hi⟩ := List.mem_iff_getElem?.mp (h2 p hp)
    exact He.int_ok X G (c.fact i hi)
end PP

/-! PP, part r: evaluation by rewriting, from the left. -/
namespace PP
open L2 (atI ixN)

/-! what goes on behind a part: no lambda is seen -/
section
variable {e e1 e2 : PEn} {a b c : Den} {t u : DenT} {x y : DenS}
def kR (o : Option PV) (e : PEn) : Option (PV × PEn) := o.map fun z => (z, e)
@[simp] theorem kR_s {z : PV} : kR (some z) e = some (z, e) := id rfl
def kSeq (o : Option Fl) (y : DenS) : Option Fl := o.bind fun f => match f with | .nx e1 => y e1 | f => some f
@[simp] theorem kSeq_nx : kSeq (some (.nx e)) y = y e := id rfl
@[simp] theorem kSeq_rt {v : PV} : kSeq (some (.rt v e)) y = some (.rt v e) := id rfl
@[simp] theorem kSeq_bk : kSeq (some (.bk e)) y = some (.bk e) := id rfl
@[simp] theorem sSeq_ev : sSeq x y e = kSeq (x e) y := id rfl
@[simp] theorem sNil_ev : sNil e = some (.nx e) := id rfl
def kRet (o : Option (PV × PEn)) : Option Fl := o.map fun p => .rt p.1 p.2
@[simp] theorem kRet_s {v : PV} : kRet (some (v, e)) = some (.rt v e) := id rfl
@[simp] theorem sRet_ev : sRet a e = kRet (a e) := id rfl
@[simp] theorem sRetN_ev : sRetN e = some (.rt .non e) := id rfl
@[simp] theorem sBreak_ev : sBreak e = some (.bk e) := id rfl
def kDrop (o : Option (PV × PEn)) : Option Fl := o.map fun p => .nx p.2
@[simp] theorem kDrop_s {v : PV} : kDrop (some (v, e)) = some (.nx e) := id rfl
@[simp] theorem sDrop_ev : sDrop a e = kDrop (a e) := id rfl
def kIf (o : Option (Bool × PEn)) (x y : DenS) : Option Fl := o.bind fun p => if p.1 then x p.2 else y p.2
@[simp] theorem kIf_t : kIf (some (true, e)) x y = x e := id rfl
@[simp] theorem kIf_f : kIf (some (false, e)) x y = y e := id rfl
@[simp] theorem sIf_ev : sIf t x y e = kIf (t e) x y := id rfl
def kNx (o : Option PEn) : Option Fl := o.map fun e' => .nx e'
@[simp] theorem kNx_s : kNx (some e) = some (.nx e) := id rfl
def kAsg (g : Tgt) (o : Option (PV × PEn)) : Option Fl := o.bind fun p => (tgtF g p.1 p.2).map fun e' => .nx e'
@[simp] theorem kAsg_s {g : Tgt} {v : PV} : kAsg g (some (v, e)) = kNx (tgtF g v e) := id rfl
@[simp] theorem sAsg_ev {g : Tgt} : sAsg g a e = kAsg g (a e) := id rfl
def kOwn (i : Nat) (o : Option (PV × PEn)) : Option Fl := o.bind fun p => if i < p.2.length then some (.nx (p.2.set i (.own p.1))) else none
@[simp] theorem kOwn_s {i : Nat} {v : PV} : kOwn i (some (v, e)) = if i < e.length then some (.nx (e.set i (.own v))) else none := id rfl
@[simp] theorem sOwn_ev {i : Nat} : sOwn i a e = kOwn i (a e) := id rfl
def kFor (g : Tgt) (x : DenS) (o : Option (List PV × PEn)) : Option Fl := o.bind fun p => forF g x p.1 p.2
@[simp] theorem kFor_s {g : Tgt} {xs : List PV} : kFor g x (some (xs, e)) = forF g x xs e := id rfl
@[simp] theorem sFor_ev {s : DenI} {g : Tgt} : sFor s g x e = kFor g x (s e) := id rfl
@[simp] theorem dC_ev {v : PV} : dC v e = some (v, e) := id rfl
def kUn (f : PV → Option PV) (o : Option (PV × PEn)) : Option (PV × PEn) := o.bind fun p => (f p.1).map fun z => (z, p.2)
@[simp] theorem kUn_s {f : PV → Option PV} {v : PV} : kUn f (some (v, e)) = kR (f v) e := id rfl
@[simp] theorem dUn_ev {f : PV → Option PV} : dUn f a e = kUn f (a e) := id rfl
def kB2 (f : PV → PV → Option PV) (p : PV) (o : Option (PV × PEn)) : Option (PV × PEn) := o.bind fun q => (f p q.1).map fun z => (z, q.2)
@[simp] theorem kB2_s {f : PV → PV → Option PV} {p q : PV} : kB2 f p (some (q, e)) = kR (f p q) e := id rfl
def kB1 (f : PV → PV → Option PV) (b : Den) (o : Option (PV × PEn)) : Option (PV × PEn) := o.bind fun p => (b p.2).bind fun q => (f p.1 q.1).map fun z => (z, q.2)
@[simp] theorem kB1_s {f : PV → PV → Option PV} {p : PV} : kB1 f b (some (p, e)) = kB2 f p (b e) := id rfl
@[simp] theorem dBin_ev {f : PV → PV → Option PV} : dBin f a b e = kB1 f b (a e) := id rfl
def kBR2 (f : PV → PV → Option PV) (p : PV) (o : Option PV) (e : PEn) : Option (PV × PEn) := o.bind fun y => (f p y).map fun z => (z, e)
@[simp] theorem kBR2_s {f : PV → PV → Option PV} {p q : PV} : kBR2 f p (some q) e = kR (f p q) e := id rfl
def kBR (f : PV → PV → Option PV) (i : Nat) (o : Option (PV × PEn)) : Option (PV × PEn) := o.bind fun p => (slotv p.2 i).bind fun y => (f p.1 y).map fun z => (z, p.2)
@[simp] theorem kBR_s {f : PV → PV → Option PV} {i : Nat} {p : PV} : kBR f i (some (p, e)) = kBR2 f p (slotv e i) e := id rfl
@[simp] theorem dBinR_ev {f : PV → PV → Option PV} {i : Nat} : dBinR f a i e = kBR f i (a e) := id rfl
def kBL3 (f : PV → PV → Option PV) (q : PV) (o : Option PV) (e : PEn) : Option (PV × PEn) := o.bind fun x => (f x q).map fun z => (z, e)
@[simp] theorem kBL3_s {f : PV → PV → Option PV} {p q : PV} : kBL3 f q (some p) e = kR (f p q) e := id rfl
def kBL2 (f : PV → PV → Option PV) (i : Nat) (o : Option (PV × PEn)) : Option (PV × PEn) := o.bind fun q => (slotv q.2 i).bind fun x => (f x q.1).map fun z => (z, q.2)
@[simp] theorem kBL2_s {f : PV → PV → Option PV} {i : Nat} {q : PV} : kBL2 f i (some (q, e)) = kBL3 f q (slotv e i) e := id rfl
def kBL (f : PV → PV → Option PV) (i : Nat) (b : Den) (o : Option PV) (e : PEn) : Option (PV × PEn) := o.bind fun _ => (b e).bind fun q => (slotv q.2 i).bind fun x => (f x q.1).map fun z => (z, q.2)
@[simp] theorem kBL_s {f : PV → PV → Option PV} {i : Nat} {q : PV} : kBL f i b (some q) e = kBL2 f i (b e) := id rfl
@[simp] theorem dBinL_ev {f : PV → PV → Option PV} {i : Nat} : dBinL f i b e = kBL f i b (slotv e i) e := id rfl
/-! arguments -/
def kA2 (p : PV) (o : Option (List PV × PEn)) : Option (List PV × PEn) := o.map fun q => (p :: q.1, q.2)
@[simp] theorem kA2_s {p : PV} {q : List PV} : kA2 p (some (q, e)) = some (p :: q, e) := id rfl
def kA1 (r : List Den) (o : Option (PV × PEn)) : Option (List PV × PEn) := o.bind fun p => (dArgs r p.2).map fun q => (p.1 :: q.1, q.2)
@[simp] theorem kA1_s {r : List Den} {p : PV} : kA1 r (some (p, e)) = kA2 p (dArgs r e) := id rfl
@[simp] theorem dArgs_nil : dArgs [] e = some ([], e) := id rfl
@[simp] theorem dArgs_cons {r : List Den} : dArgs (a :: r) e = kA1 r (a e) := id rfl
def kAd (r : List Arg) (o : Option (PV × PEn)) : Option (List PV × PEn) := o.bind fun p => (bArgs r p.2).map fun q => (p.1 :: q.1, q.2)
@[simp] theorem kAd_s {r : List Arg} {p : PV} : kAd r (some (p, e)) = kA2 p (bArgs r e) := id rfl
def kAb3 (q : List PV) (o : Option PV) (e : PEn) : Option (List PV × PEn) := o.map fun v => (v :: q, e)
@[simp] theorem kAb3_s {q : List PV} {v : PV} : kAb3 q (some v) e = some (v :: q, e) := id rfl
def kAb2 (i : Nat) (o : Option (List PV × PEn)) : Option (List PV × PEn) := o.bind fun q => (slotv q.2 i).map fun v => (v :: q.1, q.2)
@[simp] theorem kAb2_s {i : Nat} {q : List PV} : kAb2 i (some (q, e)) = kAb3 q (slotv e i) e := id rfl
def kAb (i : Nat) (r : List Arg) (o : Option PV) (e : PEn) : Option (List PV × PEn) := o.bind fun _ => (bArgs r e).bind fun q => (slotv q.2 i).map fun v => (v :: q.1, q.2)
@[simp] theorem kAb_s {i : Nat} {r : List Arg} {v : PV} : kAb i r (some v) e = kAb2 i (bArgs r e) := id rfl
@[simp] theorem bArgs_nil : bArgs [] e = some ([], e) := id rfl
@[simp] theorem bArgs_d {r : List Arg} : bArgs (.d a :: r) e = kAd r (a e) := id rfl
@[simp] theorem bArgs_b {r : List Arg} {i : Nat} : bArgs (.b i :: r) e = kAb i r (slotv e i) e := id rfl
def ownv (e : PEn) (i : Nat) : Option PV := match e[i]? with
  | some (.own v) => some v
  | _ => none
theorem ownv_match {α : Type} {e : PEn} {i : Nat} {F : PV → Option α} : (match e[i]? with | some (.own v) => F v | _ => none) = (ownv e i).bind F := by
  unfold ownv
  split <;> first | rfl | (split <;> first | rfl | (rename_i h _ h2; exact absurd h2 (h _)))
def kCd (r : List Arg) (o : Option (PV × PEn)) : Option (List PV × PEn) := o.bind fun p => (cArgs r p.2).map fun q => (p.1 :: q.1, q.2)
@[simp] theorem kCd_s {r : List Arg} {p : PV} : kCd r (some (p, e)) = kA2 p (cArgs r e) := id rfl
def kCb2 (i : Nat) (o : Option (List PV × PEn)) : Option (List PV × PEn) := o.bind fun q => (ownv q.2 i).map fun v => (v :: q.1, q.2)
@[simp] theorem kCb2_s {i : Nat} {q : List PV} : kCb2 i (some (q, e)) = kAb3 q (ownv e i) e := id rfl
def kCb (i : Nat) (r : List Arg) (o : Option PV) (e : PEn) : Option (List PV × PEn) := o.bind fun _ => kCb2 i (cArgs r e)
@[simp] theorem kCb_s {i : Nat} {r : List Arg} {v : PV} : kCb i r (some v) e = kCb2 i (cArgs r e) := id rfl
@[simp] theorem cArgs_nil : cArgs [] e = some ([], e) := id rfl
@[simp] theorem cArgs_d {r : List Arg} : cArgs (.d a :: r) e = kCd r (a e) := id rfl
@[simp] theorem cArgs_b {r : List Arg} {i : Nat} : cArgs (.b i :: r) e = kCb i r (slotv e i) e := by
  show ((slotv e i).bind fun _ => (cArgs r e).bind fun q => match q.2[i]? with | some (.own v) => some (v :: q.1, q.2) | _ => none) = _
  unfold kCb kCb2
  congr 1; funext v
  congr 1; funext q
  exact (ownv_match (e := q.2) (F := fun v => some (v :: q.1, q.2))).trans (by cases ownv q.2 i <;> rfl)
def kApp (f : List PV → Option PV) (o : Option (List PV × PEn)) : Option (PV × PEn) := o.bind fun p => (f p.1).map fun z => (z, p.2)
@[simp] theorem kApp_s {f : List PV → Option PV} {ps : List PV} : kApp f (some (ps, e)) = kR (f ps) e := id rfl
@[simp] theorem dApp_ev {f : List PV → Option PV} {as : List Arg} : dApp f as e = kApp f (bArgs as e) := id rfl
def kCall2 (as : List Arg) (e : PEn) (o : Option (PV × List PV)) : Option (PV × PEn) := o.map fun r => (r.1, backE as r.2 e)
@[simp] theorem kCall2_s {as : List Arg} {z : PV} {ws : List PV} : kCall2 as e (some (z, ws)) = some (z, backE as ws e) := id rfl
def kCall (f : Sem) (as : List Arg) (o : Option (List PV × PEn)) : Option (PV × PEn) := o.bind fun p => (f p.1).map fun r => (r.1, backE as r.2 p.2)
@[simp] theorem kCall_s {f : Sem} {as : List Arg} {ps : List PV} : kCall f as (some (ps, e)) = kCall2 as e (f ps) := id rfl
@[simp] theorem dCall_ev {f : Sem} {as : List Arg} : dCall f as e = kCall f as (cArgs as e) := id rfl
@[simp] theorem dCallN_ev {f : FSemN} {ds : List Den} : dCallN f ds e = kApp f (dArgs ds e) := id rfl
@[simp] theorem backE_nil {ps : List PV} : backE [] ps e = e := by cases ps <;> rfl
@[simp] theorem backE_d {as : List Arg} {p : PV} {ps : List PV} : backE (.d a :: as) (p :: ps) e = backE as ps e := id rfl
@[simp] theorem backE_b {as : List Arg} {i : Nat} {p : PV} {ps : List PV} : backE (.b i :: as) (p :: ps) e = backE as ps (e.set i (.own p)) := id rfl
def kTup (o : Option (List PV × PEn)) : Option (PV × PEn) := o.map fun p => (.tup p.1, p.2)
@[simp] theorem kTup_s {ps : List PV} : kTup (some (ps, e)) = some (.tup ps, e) := id rfl
@[simp] theorem dTup_ev {ds : List Den} : dTup ds e = kTup (dArgs ds e) := id rfl
def kLst (o : Option (List PV × PEn)) : Option (PV × PEn) := o.map fun p => (.lst p.1, p.2)
@[simp] theorem kLst_s {ps : List PV} : kLst (some (ps, e)) = some (.lst ps, e) := id rfl
@[simp] theorem dLst_ev {ds : List Den} : dLst ds e = kLst (dArgs ds e) := id rfl
/-! tests -/
def kT2 (o : Option Bool) (e : PEn) : Option (Bool × PEn) := o.map fun z => (z, e)
@[simp] theorem kT2_s {k : Bool} : kT2 (some k) e = some (k, e) := id rfl
def kDB (o : Option (PV × PEn)) : Option (Bool × PEn) := o.bind fun p => (asBl p.1).map fun z => (z, p.2)
@[simp] theorem kDB_s {v : PV} : kDB (some (v, e)) = kT2 (asBl v) e := id rfl
@[simp] theorem dB_ev : dB a e = kDB (a e) := id rfl
@[simp] theorem asBl_ev {k : Bool} : asBl (.bl k) = some k := id rfl
def kNot (o : Option (Bool × PEn)) : Option (Bool × PEn) := o.map fun p => (!p.1, p.2)
@[simp] theorem kNot_s {k : Bool} : kNot (some (k, e)) = some (!k, e) := id rfl
@[simp] theorem dNot_ev : dNot t e = kNot (t e) := id rfl
def kAnd (o : Option (Bool × PEn)) (u : DenT) : Option (Bool × PEn) := o.bind fun p => if p.1 then u p.2 else some (false, p.2)
@[simp] theorem kAnd_t : kAnd (some (true, e)) u = u e := id rfl
@[simp] theorem kAnd_f : kAnd (some (false, e)) u = some (false, e) := id rfl
@[simp] theorem dAnd_ev : dAnd t u e = kAnd (t e) u := id rfl
def kOr (o : Option (Bool × PEn)) (u : DenT) : Option (Bool × PEn) := o.bind fun p => if p.1 then some (true, p.2) else u p.2
@[simp] theorem kOr_t : kOr (some (true, e)) u = some (true, e) := id rfl
@[simp] theorem kOr_f : kOr (some (false, e)) u = u e := id rfl
@[simp] theorem dOr_ev : dOr t u e = kOr (t e) u := id rfl
def kIfE (o : Option (Bool × PEn)) (a b : Den) : Option (PV × PEn) := o.bind fun p => if p.1 then a p.2 else b p.2
@[simp] theorem kIfE_t : kIfE (some (true, e)) a b = a e := id rfl
@[simp] theorem kIfE_f : kIfE (some (false, e)) a b = b e := id rfl
@[simp] theorem dIf_ev : dIf t a b e = kIfE (t e) a b := id rfl
@[simp] theorem dYes_ev : dYes e = some (true, e) := id rfl
def kTr (o : Option (PV × PEn)) : Option (Bool × PEn) := o.bind fun p => (truthF p.1).map fun b => (b, p.2)
@[simp] theorem kTr_s {v : PV} : kTr (some (v, e)) = kT2 (truthF v) e := id rfl
@[simp] theorem dTruth_ev {o : Arg} : dTruth o e = kTr (dHead o e) := id rfl
@[simp] theorem dHead_d : dHead (.d a) e = a e := id rfl
@[simp] theorem dHead_b {i : Nat} : dHead (.b i) e = kR (slotv e i) e := id rfl
@[simp] theorem dBack_d {p : PV} : dBack (.d a) p e = some p := id rfl
@[simp] theorem dBack_b {i : Nat} {p : PV} : dBack (.b i) p e = slotv e i := id rfl
def kIs (k : TyN) (o : Option (PV × PEn)) : Option (PV × PEn) := o.map fun p => (.bl (isTy k p.1), p.2)
@[simp] theorem kIs_s {k : TyN} {v : PV} : kIs k (some (v, e)) = some (.bl (isTy k v), e) := id rfl
@[simp] theorem dIsI_ev {k : TyN} {o : Arg} : dIsI k o e = kIs k (dHead o e) := id rfl
def kAV (o : Option (PV × PEn)) (b : Den) : Option (PV × PEn) := o.bind fun p => match p.1 with
  | .bl true => b p.2
  | .bl false => some (.bl false, p.2)
  | _ => none
@[simp] theorem kAV_t : kAV (some (.bl true, e)) b = b e := id rfl
@[simp] theorem kAV_f : kAV (some (.bl false, e)) b = some (.bl false, e) := id rfl
@[simp] theorem dAndV_ev : dAndV a b e = kAV (a e) b := id rfl
def kOV (o : Option (PV × PEn)) (b : Den) : Option (PV × PEn) := o.bind fun p => match p.1 with
  | .bl false => b p.2
  | .bl true => some (.bl true, p.2)
  | _ => none
@[simp] theorem kOV_f : kOV (some (.bl false, e)) b = b e := id rfl
@[simp] theorem kOV_t : kOV (some (.bl true, e)) b = some (.bl true, e) := id rfl
@[simp] theorem dOrV_ev : dOrV a b e = kOV (a e) b := id rfl
@[simp] theorem notF_ev {k : Bool} : notF (.bl k) = some (.bl (!k)) := id rfl
def kC3 (g : PV → PV → Option PV) (c : Den) (q : PV) (e : PEn) (o : Option PV) : Option (PV × PEn) := o.bind fun z => match z with
  | .bl true => (c e).bind fun r => (g q r.1).map fun y => (y, r.2)
  | .bl false => some (.bl false, e)
  | _ => none
@[simp] theorem kC3_t {g : PV → PV → Option PV} {q : PV} : kC3 g c q e (some (.bl true)) = kB2 g q (c e) := id rfl
@[simp] theorem kC3_f {g : PV → PV → Option PV} {q : PV} : kC3 g c q e (some (.bl false)) = some (.bl false, e) := id rfl
def kC2 (f g : PV → PV → Option PV) (c : Den) (p : PV) (o : Option (PV × PEn)) : Option (PV × PEn) := o.bind fun q => kC3 g c q.1 q.2 (f p q.1)
@[simp] theorem kC2_s {f g : PV → PV → Option PV} {p q : PV} : kC2 f g c p (some (q, e)) = kC3 g c q e (f p q) := id rfl
def kC1 (f g : PV → PV → Option PV) (b c : Den) (o : Option (PV × PEn)) : Option (PV × PEn) := o.bind fun p => kC2 f g c p.1 (b p.2)
@[simp] theorem kC1_s {f g : PV → PV → Option PV} {p : PV} : kC1 f g b c (some (p, e)) = kC2 f g c p (b e) := id rfl
@[simp] theorem dChain_ev {f g : PV → PV → Option PV} : dChain f g a b c e = kC1 f g b c (a e) := id rfl
/-! containers of one's own -/
def ownL (e : PEn) (i : Nat) : Option (List PV) := match e[i]? with
  | some (.own (.lst xs)) => some xs
  | _ => none
theorem ownL_match {α : Type} {e : PEn} {i : Nat} {F : List PV → Option α} : (match e[i]? with | some (.own (.lst v)) => F v | _ => none) = (ownL e i).bind F := by
  unfold ownL
  split <;> first | rfl | (split <;> first | rfl | (rename_i h _ _ h2; exact absurd h2 (h _)))
def kM4 (i : Nat) (e : PEn) (o : Option (PV × List PV)) : Option (PV × PEn) := o.map fun z => (z.1, e.set i (.own (.lst z.2)))
@[simp] theorem kM4_s {i : Nat} {z : PV} {ws : List PV} : kM4 i e (some (z, ws)) = some (z, e.set i (.own (.lst ws))) := id rfl
def kM3 (f : List PV → List PV → Option (PV × List PV)) (i : Nat) (q : List PV) (e : PEn) (o : Option (List PV)) : Option (PV × PEn) := o.bind fun xs => kM4 i e (f xs q)
@[simp] theorem kM3_s {f : List PV → List PV → Option (PV × List PV)} {i : Nat} {q xs : List PV} : kM3 f i q e (some xs) = kM4 i e (f xs q) := id rfl
def kM2 (f : List PV → List PV → Option (PV × List PV)) (i : Nat) (o : Option (List PV × PEn)) : Option (PV × PEn) := o.bind fun q => kM3 f i q.1 q.2 (ownL q.2 i)
@[simp] theorem kM2_s {f : List PV → List PV → Option (PV × List PV)} {i : Nat} {q : List PV} : kM2 f i (some (q, e)) = kM3 f i q e (ownL e i) := id rfl
def kM (f : List PV → List PV → Option (PV × List PV)) (i : Nat) (ds : List Den) (o : Option (List PV)) (e : PEn) : Option (PV × PEn) := o.bind fun _ => kM2 f i (dArgs ds e)
@[simp] theorem kM_s {f : List PV → List PV → Option (PV × List PV)} {i : Nat} {ds : List Den} {xs : List PV} : kM f i ds (some xs) e = kM2 f i (dArgs ds e) := id rfl
@[simp] theorem dMut_ev {f : List PV → List PV → Option (PV × List PV)} {i : Nat} {ds : List Den} : dMut f i ds e = kM f i ds (ownL e i) e := by
  refine (ownL_match (e := e) (i := i) (F := fun _ => (dArgs ds e).bind (fun (q : List PV × PEn) => (match q.2[i]? with | some (.own (.lst xs)) => (f xs q.1).map (fun (z : PV × List PV) => (z.1, q.2.set i (.own (.lst z.2)))) | _ => none)))).trans ?_
  unfold kM kM2 kM3 kM4
  congr 1; funext _
  congr 1; funext q
  exact ownL_match (F := fun xs => (f xs q.1).map fun (z : PV × List PV) => (z.1, q.2.set i (.own (.lst z.2))))
def kS5 (i : Nat) (e : PEn) (o : Option PV) : Option Fl := o.map fun d' => .nx (e.set i (.own d'))
@[simp] theorem kS5_s {i : Nat} {d : PV} : kS5 i e (some d) = some (.nx (e.set i (.own d))) := id rfl
def kS4 (i : Nat) (v k : PV) (e : PEn) (o : Option PV) : Option Fl := o.bind fun d => kS5 i e (setF d k v)
@[simp] theorem kS4_s {i : Nat} {v k d : PV} : kS4 i v k e (some d) = kS5 i e (setF d k v) := id rfl
def kS3 (i : Nat) (v : PV) (o : Option (PV × PEn)) : Option Fl := o.bind fun k => kS4 i v k.1 k.2 (ownv k.2 i)
@[simp] theorem kS3_s {i : Nat} {v k : PV} : kS3 i v (some (k, e)) = kS4 i v k e (ownv e i) := id rfl
def kS2 (i : Nat) (a : Den) (v : PV) (o : Option PV) (e : PEn) : Option Fl := o.bind fun _ => kS3 i v (a e)
@[simp] theorem kS2_s {i : Nat} {v d : PV} : kS2 i a v (some d) e = kS3 i v (a e) := id rfl
def kS (i : Nat) (a : Den) (o : Option (PV × PEn)) : Option Fl := o.bind fun p => kS2 i a p.1 (ownv p.2 i) p.2
@[simp] theorem kS_s {i : Nat} {v : PV} : kS i a (some (v, e)) = kS2 i a v (ownv e i) e := id rfl
@[simp] theorem sStore_ev {i : Nat} : sStore i a b e = kS i a (b e) := by
  show ((b e).bind fun p => match p.2[i]? with | some (.own _) => (a p.2).bind (fun k => (match k.2[i]? with | some (.own d) => (setF d k.1 p.1).map (fun d' => Fl.nx (k.2.set i (.own d'))) | _ => none)) | _ => none) = _
  unfold kS kS2 kS3 kS4 kS5
  congr 1; funext p
  rw [ownv_match (F := fun _ => (a p.2).bind (fun k => (match k.2[i]? with | some (.own d) => (setF d k.1 p.1).map (fun d' => Fl.nx (k.2.set i (.own d'))) | _ => none)))]
  congr 1; funext _
  congr 1; funext k
  exact ownv_match (F := fun d => (setF d k.1 p.1).map fun d' => Fl.nx (k.2.set i (.own d')))
def kRv3 (f : PV → List PV → Option PV) (q : List PV) (p : PV) (e : PEn) (o : Option PV) : Option (PV × PEn) := o.bind fun y => if kind y = kind p then (f y q).map fun z => (z, e) else none
@[simp] theorem kRv3_s {f : PV → List PV → Option PV} {q : List PV} {p y : PV} : kRv3 f q p e (some y) = if kind y = kind p then kR (f y q) e else none := id rfl
def kRv2 (f : PV → List PV → Option PV) (o : Arg) (p : PV) (r : Option (List PV × PEn)) : Option (PV × PEn) := r.bind fun q => kRv3 f q.1 p q.2 (dBack o p q.2)
@[simp] theorem kRv2_s {f : PV → List PV → Option PV} {o : Arg} {p : PV} {q : List PV} : kRv2 f o p (some (q, e)) = kRv3 f q p e (dBack o p e) := id rfl
def kRv (g : PV → Bool) (o : Arg) (as : List Den) (f : PV → List PV → Option PV) (r : Option (PV × PEn)) : Option (PV × PEn) := r.bind fun p => if g p.1 then kRv2 f o p.1 (dArgs as p.2) else none
@[simp] theorem kRv_s {g : PV → Bool} {o : Arg} {as : List Den} {f : PV → List PV → Option PV} {p : PV} : kRv g o as f (some (p, e)) = if g p then kRv2 f o p (dArgs as e) else none := id rfl
@[simp] theorem dRecv_ev {g : PV → Bool} {o : Arg} {as : List Den} {f : PV → List PV → Option PV} : dRecv g o as f e = kRv g o as f (dHead o e) := id rfl
def kLR (o : Option ((Int × Int) × PEn)) : Option (PV × PEn) := o.map fun p => (.lst (rngP p.1.1 (p.1.2 - p.1.1).toNat), p.2)
@[simp] theorem kLR_s {i j : Int} : kLR (some ((i, j), e)) = some (.lst (rngP i (j - i).toNat), e) := id rfl
@[simp] theorem dListRg_ev {as : List Den} : dListRg as e = kLR (rngArg as e) := id rfl
def kSq2 (o : Option (List PV)) (e : PEn) : Option (List PV × PEn) := o.map fun xs => (xs, e)
@[simp] theorem kSq2_s {xs : List PV} : kSq2 (some xs) e = some (xs, e) := id rfl
def kSq (o : Option (PV × PEn)) : Option (List PV × PEn) := o.bind fun p => (seqOf p.1).map fun xs => (xs, p.2)
@[simp] theorem kSq_s {v : PV} : kSq (some (v, e)) = kSq2 (seqOf v) e := id rfl
@[simp] theorem iSeq_ev : iSeq a e = kSq (a e) := id rfl
def kLC2 (vs : List Nat) (e : PEn) (o : Option (List PV × PEn)) : Option (PV × PEn) := o.map fun q => (.lst q.1, restoreE q.2 e vs)
@[simp] theorem kLC2_s {vs : List Nat} {ys : List PV} : kLC2 vs e (some (ys, e1)) = some (.lst ys, restoreE e1 e vs) := id rfl
def kLC (g : Tgt) (t : DenT) (a : Den) (vs : List Nat) (o : Option (List PV × PEn)) : Option (PV × PEn) := o.bind fun p => (lcF g t a vs p.1 (wipeE p.2 vs)).map fun q => (.lst q.1, restoreE q.2 p.2 vs)
@[simp] theorem kLC_s {g : Tgt} {vs : List Nat} {xs : List PV} : kLC g t a vs (some (xs, e)) = kLC2 vs e (lcF g t a vs xs (wipeE e vs)) := id rfl
@[simp] theorem dLC_ev {s : DenI} {vs : List Nat} {g : Tgt} : dLC s vs g t a e = kLC g t a vs (s e) := id rfl
@[simp] theorem wipeE_nil : wipeE e [] = e := id rfl
@[simp] theorem wipeE_cons {v : Nat} {vs : List Nat} : wipeE e (v :: vs) = (wipeE e vs).set v .no := id rfl
@[simp] theorem restoreE_nil {o : PEn} : restoreE e o [] = e := id rfl
@[simp] theorem restoreE_cons {v : Nat} {vs : List Nat} {o : PEn} : restoreE e o (v :: vs) = (restoreE e o vs).set v (keepV o v) := id rfl
@[simp] theorem tgt_nm {i : Nat} {v : PV} : tgtF (.nm i) v e = if i < e.length then some (e.set i (.val v)) else none := by unfold tgtF; exact id rfl
def kTp (ts : List Tgt) (e : PEn) (o : Option (List PV)) : Option PEn := o.bind fun xs => tgtsF ts xs e
@[simp] theorem kTp_s {ts : List Tgt} {xs : List PV} : kTp ts e (some xs) = tgtsF ts xs e := id rfl
@[simp] theorem tgt_tp {ts : List Tgt} {v : PV} : tgtF (.tp ts) v e = kTp ts e (tupOf v) := by
  unfold tgtF kTp
  cases tupOf v <;> rfl
@[simp] theorem tgts_nil : tgtsF [] [] e = some e := by unfold tgtsF; exact id rfl
def kTs (ts : List Tgt) (vs : List PV) (o : Option PEn) : Option PEn := o.bind fun e1 => tgtsF ts vs e1
@[simp] theorem kTs_s {ts : List Tgt} {vs : List PV} : kTs ts vs (some e) = tgtsF ts vs e := id rfl
@[simp] theorem tgts_cons {g : Tgt} {ts : List Tgt} {v : PV} {vs : List PV} : tgtsF (g :: ts) (v :: vs) e = kTs ts vs (tgtF g v e) := by
  unfold kTs
  conv => lhs; unfold tgtsF
@[simp] theorem tupOf_tup {xs : List PV} : tupOf (.tup xs) = some xs := id rfl
@[simp] theorem tupOf_fup {xs : List PV} : tupOf (.fup xs) = some xs := id rfl
@[simp] theorem seqOf_tup {xs : List PV} : seqOf (.tup xs) = some xs := id rfl
@[simp] theorem seqOf_fup {xs : List PV} : seqOf (.fup xs) = some xs := id rfl
@[simp] theorem seqOf_lst {xs : List PV} : seqOf (.lst xs) = some xs := id rfl
/-! slots of a written environment -/
def kV (s : SlP) (o : Option (PV × PEn)) : Option (PV × PEn) := o.map fun p => (p.1, s :: p.2)
@[simp] theorem kV_s {s : SlP} {v : PV} : kV s (some (v, e)) = some (v, s :: e) := id rfl
@[simp] theorem dVar_0v {v : PV} {r : PEn} : dVar 0 (.val v :: r) = some (v, .val v :: r) := id rfl
@[simp] theorem dVar_0o {v : PV} {r : PEn} : dVar 0 (.own v :: r) = some (v, .val v :: r) := id rfl
@[simp] theorem dVar_s {i : Nat} {s : SlP} {r : PEn} : dVar (i + 1) (s :: r) = kV s (dVar i r) := by
  unfold dVar kV
  rw [List.getElem?_cons_succ]
  cases h : r[i]? with
  | none => rfl
  | some x => cases x <;> rfl
@[simp] theorem slotv_0v {v : PV} {r : PEn} : slotv (.val v :: r) 0 = some v := id rfl
@[simp] theorem slotv_0o {v : PV} {r : PEn} : slotv (.own v :: r) 0 = some v := id rfl
@[simp] theorem slotv_s {i : Nat} {s : SlP} {r : PEn} : slotv (s :: r) (i + 1) = slotv r i := id rfl
@[simp] theorem ownv_0 {v : PV} {r : PEn} : ownv (.own v :: r) 0 = some v := id rfl
@[simp] theorem ownv_s {i : Nat} {s : SlP} {r : PEn} : ownv (s :: r) (i + 1) = ownv r i := id rfl
@[simp] theorem ownL_0 {v : List PV} {r : PEn} : ownL (.own (.lst v) :: r) 0 = some v := id rfl
@[simp] theorem ownL_s {i : Nat} {s : SlP} {r : PEn} : ownL (s :: r) (i + 1) = ownL r i := id rfl
@[simp] theorem keepV_0v {v : PV} {r : PEn} : keepV (.val v :: r) 0 = .val v := id rfl
@[simp] theorem keepV_0o {v : PV} {r : PEn} : keepV (.own v :: r) 0 = .no := id rfl
@[simp] theorem keepV_0n {r : PEn} : keepV (.no :: r) 0 = .no := id rfl
@[simp] theorem keepV_s {i : Nat} {s : SlP} {r : PEn} : keepV (s :: r) (i + 1) = keepV r i := id rfl
@[simp] theorem argE_nil {ps : List PV} : argE [] ps = ps.map .val := id rfl
@[simp] theorem argE_t {ms : List Bool} {p : PV} {ps : List PV} : argE (true :: ms) (p :: ps) = .own p :: argE ms ps := id rfl
@[simp] theorem argE_f {ms : List Bool} {p : PV} {ps : List PV} : argE (false :: ms) (p :: ps) = .val p :: argE ms ps := id rfl
def kO2 (w : PV) (o : Option (List PV)) : Option (List PV) := o.map (w :: ·)
@[simp] theorem kO2_s {w : PV} {ws : List PV} : kO2 w (some ws) = some (w :: ws) := id rfl
def kO1 (e : PEn) (k : Nat) (ms : List Bool) (ps : List PV) (o : Option PV) : Option (List PV) := o.bind fun w => kO2 w (outsP e k ms ps)
@[simp] theorem kO1_s {k : Nat} {ms : List Bool} {ps : List PV} {w : PV} : kO1 e k ms ps (some w) = kO2 w (outsP e k ms ps) := id rfl
@[simp] theorem outsP_nil {k : Nat} {ps : List PV} : outsP e k [] ps = some ps := id rfl
@[simp] theorem outsP_t {k : Nat} {ms : List Bool} {p : PV} {ps : List PV} : outsP e k (true :: ms) (p :: ps) = kO1 e (k + 1) ms ps (ownv e k) := id rfl
@[simp] theorem outsP_f {k : Nat} {ms : List Bool} {p : PV} {ps : List PV} : outsP e k (false :: ms) (p :: ps) = kO2 p (outsP e (k + 1) ms ps) := id rfl
end
/-- what a run of a body ends in -/
def kE2 (v : PV) (o : Option (List PV)) : Option (PV × List PV) := o.map fun w => (v, w)
@[simp] theorem kE2_s {v : PV} {ws : List PV} : kE2 v (some ws) = some (v, ws) := id rfl
def kEnd (ms : List Bool) (ps : List PV) (o : Option Fl) : Option (PV × List PV) := o.bind fun fl => match fl with
  | .nx e => (outsP e 0 ms ps).map fun w => (.non, w)
  | .rt v e => (outsP e 0 ms ps).map fun w => (v, w)
  | _ => none
@[simp] theorem kEnd_nx {ms : List Bool} {ps : List PV} {e : PEn} : kEnd ms ps (some (.nx e)) = kE2 .non (outsP e 0 ms ps) := id rfl
@[simp] theorem kEnd_rt {ms : List Bool} {ps : List PV} {v : PV} {e : PEn} : kEnd ms ps (some (.rt v e)) = kE2 v (outsP e 0 ms ps) := id rfl
theorem runF_ev {ms : List Bool} {m : Nat} {d : DenS} {ps : List PV} : runF ms m d ps = kEnd ms ps (d (argE ms ps ++ List.replicate m .no)) := rfl
/-! numbers -/
theorem okD_int (n : Nat) (i : Int) : okD n (.int i) = true := by cases n <;> rfl
@[simp] theorem addF_int (i j : Int) : addF (.int i) (.int j) = some (.int (i + j)) := id rfl
@[simp] theorem subF_int (i j : Int) : subF (.int i) (.int j) = some (.int (i - j)) := id rfl
@[simp] theorem leF_int (i j : Int) : leF (.int i) (.int j) = some (.bl (decide (i ≤ j))) := id rfl
@[simp] theorem gtF_int (i j : Int) : gtF (.int i) (.int j) = some (.bl (decide (j < i))) := id rfl
@[simp] theorem geF_int (i j : Int) : geF (.int i) (.int j) = some (.bl (decide (j ≤ i))) := id rfl
@[simp] theorem ltF_int (i j : Int) : ltF (.int i) (.int j) = some (.bl (decide (i < j))) := id rfl
@[simp] theorem eqF_int (i j : Int) : eqF (.int i) (.int j) = some (.bl (decide (i = j))) := by
  simp only [eqF, okD_int, eqv, toD, PySem.PyData.eqv, Bool.and_self, if_true]
  congr 2
@[simp] theorem neF_int (i j : Int) : neF (.int i) (.int j) = some (.bl (!decide (i = j))) := by
  simp only [neF, okD_int, eqv, toD, PySem.PyData.eqv, Bool.and_self, if_true]
  congr 2
@[simp] theorem intTF_int (i : Int) : intTF [.int i] = some (.int i) := id rfl
@[simp] theorem intTF_bl (k : Bool) : intTF [.bl k] = some (.int (if k then 1 else 0)) := id rfl
@[simp] theorem lenF_lst (xs : List PV) : lenF [.lst xs] = some (.int xs.length) := id rfl
@[simp] theorem lenF_tup (xs : List PV) : lenF [.tup xs] = some (.int xs.length) := id rfl
@[simp] theorem lenF_fup (xs : List PV) : lenF [.fup xs] = some (.int xs.length) := id rfl
@[simp] theorem tupleF_lst (xs : List PV) : tupleF [.lst xs] = some (.tup xs) := id rfl
@[simp] theorem tupleZF_lst (xs : List PV) : tupleZF [.lst xs] = some (.fup xs) := id rfl
@[simp] theorem listF_lst (xs : List PV) : listF [.lst xs] = some (.lst xs) := id rfl
@[simp] theorem truthF_bl (k : Bool) : truthF (.bl k) = some k := id rfl
@[simp] theorem isNF_non (p : PV) : isNF p .non = some (.bl (isNone p)) := id rfl
@[simp] theorem notNF_non (p : PV) : notNF p .non = some (.bl (!isNone p)) := id rfl
@[simp] theorem isNone_non : isNone .non = true := id rfl
@[simp] theorem isNone_int (i : Int) : isNone (.int i) = false := id rfl
theorem modF_nat (a b : Nat) (h : 0 < b) : modF (.int a) (.int b) = some (.int ((a % b : Nat) : Int)) := by
  simp only [modF, intF, decide_eq_true_eq]
  rw [if_pos (by simpa using h)]
  rfl
theorem divF_nat (a b : Nat) (h : 0 < b) (h2 : b < 1000000) : divF (.int a) (.int b) = some (.int ((a / b : Nat) : Int)) := by
  simp only [divF, intF, decide_eq_true_eq]
  rw [if_pos (by omega)]
  rfl
theorem mulF_nat (a b : Nat) (h : a < 2 ^ 60) : mulF (.int a) (.int b) = some (.int ((a * b : Nat) : Int)) := by
  simp only [mulF, intF]
  rw [if_pos (by simp; left; omega)]
  simp
theorem getF_seq {d : PV} {xs : List PV} {k : Nat} {x : PV} (hs : seqOf d = some xs) (h : xs[k]? = some x) : getF d (.int k) = some x := by
  have hk : k < xs.length := (List.getElem?_eq_some_iff.mp h).1
  simp only [getF, hs, atI, ixN]
  rw [if_pos (by omega), if_pos (by omega)]
  simpa using h
@[simp] theorem getF_l0 (x : PV) (xs : List PV) : getF (.lst (x :: xs)) (.int 0) = some x := getF_seq (k := 0) rfl rfl
@[simp] theorem getF_l1 (x y : PV) (xs : List PV) : getF (.lst (x :: y :: xs)) (.int 1) = some y := getF_seq (k := 1) rfl rfl
@[simp] theorem getF_l2 (x y z : PV) (xs : List PV) : getF (.lst (x :: y :: z :: xs)) (.int 2) = some z := getF_seq (k := 2) rfl rfl
@[simp] theorem getF_t0 (x : PV) (xs : List PV) : getF (.tup (x :: xs)) (.int 0) = some x := getF_seq (k := 0) rfl rfl
@[simp] theorem getF_t1 (x y : PV) (xs : List PV) : getF (.tup (x :: y :: xs)) (.int 1) = some y := getF_seq (k := 1) rfl rfl
@[simp] theorem getF_t2 (x y z : PV) (xs : List PV) : getF (.tup (x :: y :: z :: xs)) (.int 2) = some z := getF_seq (k := 2) rfl rfl
@[simp] theorem setF_l1 (x y v : PV) (xs : List PV) : setF (.lst (x :: y :: xs)) (.int 1) v = some (.lst (x :: v :: xs)) := by
  simp only [setF, ixN, List.length_cons]
  rw [if_pos (by decide), if_pos (by omega)]
  rfl
@[simp] theorem setF_l2 (x y z v : PV) (xs : List PV) : setF (.lst (x :: y :: z :: xs)) (.int 2) v = some (.lst (x :: y :: v :: xs)) := by
  simp only [setF, ixN, List.length_cons]
  rw [if_pos (by decide), if_pos (by omega)]
  rfl
end PP

/-! PP, part s: loops and comprehensions by invariants. -/
namespace PP
/-- a loop that ends behind its last item -/
theorem forF_suf {t : Tgt} {b : DenS} {P : List PV → PEn → Prop} (step : ∀ x xs e, P (x :: xs) e → ∃ e1 e2, tgtF t x e = some e1 ∧ b e1 = some (.nx e2) ∧ P xs e2) : ∀ xs e, P xs e → ∃ e', forF t b xs e = some (.nx e') ∧ P [] e'
  | [], e, h => ⟨e, by unfold forF; rfl, h⟩
  | x :: xs, e, h => by
    obtain ⟨e1, e2, h1, h2, h3⟩ := step x xs e h
    obtain ⟨e', h4, h5⟩ := forF_suf step xs e2 h3
    refine ⟨e', ?_, h5⟩
    unfold forF
    rw [h1, Option.bind_some, h2]
    exact h4
/-- .. or leaves by a return -/
theorem forF_ret {t : Tgt} {b : DenS} {P : List PV → PEn → Prop} {R : PV → PEn → Prop} (step : ∀ x xs e, P (x :: xs) e → ∃ e1, tgtF t x e = some e1 ∧ ((∃ e2, b e1 = some (.nx e2) ∧ P xs e2) ∨ ∃ v e2, b e1 = some (.rt v e2) ∧ R v e2)) :
    ∀ xs e, P xs e → (∃ e', forF t b xs e = some (.nx e') ∧ P [] e') ∨ ∃ v e', forF t b xs e = some (.rt v e') ∧ R v e'
  | [], e, h => .inl ⟨e, by unfold forF; rfl, h⟩
  | x :: xs, e, h => by
    obtain ⟨e1, h1, h2⟩ := step x xs e h
    rcases h2 with ⟨e2, h2, h3⟩ | ⟨v, e2, h2, h3⟩
    · rcases forF_ret step xs e2 h3 with ⟨e', h4, h5⟩ | ⟨v, e', h4, h5⟩
      · refine .inl ⟨e', ?_, h5⟩
        unfold forF
        rw [h1, Option.bind_some, h2]
        exact h4
      · refine .inr ⟨v, e', ?_, h5⟩
        unfold forF
        rw [h1, Option.bind_some, h2]
        exact h4
    · refine .inr ⟨v, e2, ?_, h3⟩
      unfold forF
      rw [h1, Option.bind_some, h2]
      rfl
/-- a comprehension that leaves the slots as they are -/
theorem lcF_pure {t : Tgt} {tt : DenT} {elt : Den} {vs : List Nat} {e : PEn} {p : PV → Bool} {f : PV → PV} : ∀ {xs : List PV}, (∀ x ∈ xs, ∃ e1 e2, tgtF t x e = some e1 ∧ tt e1 = some (p x, e2) ∧ (p x = false → wipeE e2 vs = e) ∧ (p x = true → ∃ e3, elt e2 = some (f x, e3) ∧ wipeE e3 vs = e)) →
    lcF t tt elt vs xs e = some ((xs.filter p).map f, e)
  | [], _ => by unfold lcF; rfl
  | x :: xs, h => by
    obtain ⟨e1, e2, h1, h2, h3, h4⟩ := h x List.mem_cons_self
    have ih := lcF_pure (p := p) (f := f) fun y hy => h y (List.mem_cons_of_mem _ hy)
    unfold lcF
    rw [h1, Option.bind_some, h2, Option.bind_some]
    cases hp : p x with
    | false =>
      rw [if_neg (by simp), h3 hp, ih, List.filter_cons_of_neg (by simp [hp])]
    | true =>
      obtain ⟨e3, h5, h6⟩ := h4 hp
      rw [if_pos (by rfl), h5, Option.bind_some]
      show Option.map _ (lcF t tt elt vs xs (wipeE e3 vs)) = _
      rw [h6, ih, List.filter_cons_of_pos hp]
      rfl
/-- some of the items, each with what is made of it -/
inductive Made (G : PV → PV → Prop) : List PV → List PV → Prop
  | nil : Made G [] []
  | skip {x : PV} {xs ys : List PV} : Made G xs ys → Made G (x :: xs) ys
  | take {x y : PV} {xs ys : List PV} : G x y → Made G xs ys → Made G (x :: xs) (y :: ys)
theorem lcF_made {t : Tgt} {tt : DenT} {elt : Den} {vs : List Nat} {P : PEn → Prop} {G : PV → PV → Prop} : ∀ {xs : List PV} {e : PEn}, (∀ x ∈ xs, ∀ e, P e → ∃ e1 b e2, tgtF t x e = some e1 ∧ tt e1 = some (b, e2) ∧ (b = false → P (wipeE e2 vs)) ∧ (b = true → ∃ y e3, elt e2 = some (y, e3) ∧ G x y ∧ P (wipeE e3 vs))) → P e →
    ∃ ys e', lcF t tt elt vs xs e = some (ys, e') ∧ P e' ∧ Made G xs ys
  | [], e, _, hp => ⟨[], e, by unfold lcF; rfl, hp, .nil⟩
  | x :: xs, e, h, hp => by
    obtain ⟨e1, b, e2, h1, h2, h3, h4⟩ := h x List.mem_cons_self e hp
    have hh : ∀ y ∈ xs, _ := fun y hy => h y (List.mem_cons_of_mem _ hy)
    cases b with
    | false =>
      obtain ⟨ys, e', a1, a2, a3⟩ := lcF_made hh (h3 rfl)
      refine ⟨ys, e', ?_, a2, .skip a3⟩
      unfold lcF
      rw [h1, Option.bind_some, h2, Option.bind_some, if_neg (by simp), a1]
    | true =>
      obtain ⟨y, e3, h5, h6, h7⟩ := h4 rfl
      obtain ⟨ys, e', a1, a2, a3⟩ := lcF_made hh h7
      refine ⟨y :: ys, e', ?_, a2, .take h6 a3⟩
      unfold lcF
      rw [h1, Option.bind_some, h2, Option.bind_some, if_pos (by rfl), h5, Option.bind_some]
      show Option.map _ (lcF t tt elt vs xs (wipeE e3 vs)) = _
      rw [a1]
      rfl
/-- each item with what is made of it: none is left out -/
inductive Each (G : PV → PV → Prop) : List PV → List PV → Prop
  | nil : Each G [] []
  | cons {x y : PV} {xs ys : List PV} : G x y → Each G xs ys → Each G (x :: xs) (y :: ys)
theorem lcF_each {t : Tgt} {elt : Den} {vs : List Nat} {P : PEn → Prop} {G : PV → PV → Prop} : ∀ {xs : List PV} {e : PEn}, (∀ x ∈ xs, ∀ e, P e → ∃ e1 y e3, tgtF t x e = some e1 ∧ elt e1 = some (y, e3) ∧ G x y ∧ P (wipeE e3 vs)) → P e →
    ∃ ys e', lcF t dYes elt vs xs e = some (ys, e') ∧ P e' ∧ Each G xs ys
  | [], e, _, hp => ⟨[], e, by unfold lcF; rfl, hp, .nil⟩
  | x :: xs, e, h, hp => by
    obtain ⟨e1, y, e3, h1, h5, h6, h7⟩ := h x List.mem_cons_self e hp
    obtain ⟨ys, e', a1, a2, a3⟩ := lcF_each (fun y hy => h y (List.mem_cons_of_mem _ hy)) h7
    refine ⟨y :: ys, e', ?_, a2, .cons h6 a3⟩
    unfold lcF
    rw [h1, Option.bind_some, dYes_ev, Option.bind_some, if_pos (by rfl), h5, Option.bind_some]
    show Option.map _ (lcF t dYes elt vs xs (wipeE e3 vs)) = _
    rw [a1]
    rfl
theorem iRange_1 {a : Den} {e e1 : PEn} {n : Nat} (h : a e = some (.int n, e1)) (hn : n ≤ 16777216) : iRange [a] e = some (rngP 0 n, e1) := by
  unfold iRange
  rw [dArgs_cons, h, kA1_s, dArgs_nil, kA2_s, Option.bind_some]
  show (if -(2 ^ 62) ≤ (n : Int) ∧ (n : Int) ≤ 16777216 then some (rngP 0 (n : Int).toNat, e1) else none) = _
  rw [if_pos (by omega)]
  rfl
theorem iRange_2 {a b : Den} {e e1 e2 : PEn} {i j : Int} (h : a e = some (.int i, e1)) (h2 : b e1 = some (.int j, e2)) (hi : 0 ≤ i ∧ i ≤ 1000000) (hj : 0 ≤ j ∧ j ≤ 1000000) : iRange [a, b] e = some (rngP i (j - i).toNat, e2) := by
  unfold iRange
  rw [dArgs_cons, h, kA1_s, dArgs_cons, h2, kA1_s, dArgs_nil, kA2_s, kA2_s, Option.bind_some]
  show (if -(2 ^ 62) ≤ i ∧ i < 2 ^ 62 ∧ -(2 ^ 62) ≤ j ∧ j < 2 ^ 62 ∧ j - i ≤ 16777216 then some (rngP i (j - i).toNat, e2) else none) = _
  rw [if_pos (by omega)]
theorem rngP_mem {lo : Int} {n : Nat} {x : PV} (h : x ∈ rngP lo n) : ∃ i : Nat, i < n ∧ x = .int (lo + i) := by
  unfold rngP at h
  obtain ⟨i, hi, e⟩ := List.mem_map.mp h
  exact ⟨i, by simpa using hi, e.symm⟩
theorem rngP_succ (lo : Int) (n : Nat) : rngP lo (n + 1) = .int lo :: rngP (lo + 1) n := by
  unfold rngP
  rw [List.range_succ_eq_map, List.map_cons, List.map_map]
  congr 1
  · simp
  · apply List.map_congr_left
    intro i _
    show PV.int _ = PV.int _
    congr 1
    push_cast
    omega
theorem rngP_zero (lo : Int) : rngP lo 0 = [] := rfl
end PP

/-! PP, part t: sorting of numbers and of tuples of numbers. -/
namespace PP
theorem sortL_perm (xs : List PV) : (sortL xs).Perm xs := List.mergeSort_perm xs leP
theorem sortL_pw (xs : List PV) : (sortL xs).Pairwise fun a b => leP a b = true := by
  have T := PySem.W.sortLe_total (PyProof.Rows.listOrd PyProof.Rows.itemOrd) false fun b => PySem.W.keyToks (toD b)
  exact List.pairwise_mergeSort (fun a b c h1 h2 => T.trans a b c h1 h2) (fun a b => by simpa using T.total a b) xs
theorem lex_cons {a b : Int} {l m : List (Int ⊕ List Nat)} : PyProof.Rows.lexLt PyProof.Rows.itemOrd (.inl a :: l) (.inl b :: m) = if a = b then PyProof.Rows.lexLt PyProof.Rows.itemOrd l m else decide (a < b) := by
  by_cases h : a = b
  · subst h
    rw [if_pos rfl]
    exact PyProof.Rows.lex_self (O := PyProof.Rows.itemOrd) _ l m
  · rw [if_neg h]
    refine (PyProof.Rows.lex_diff (O := PyProof.Rows.itemOrd) (by simpa using h)).trans ?_
    rfl
theorem lex_toks : ∀ (a b : List Int), PyProof.Rows.lexLt PyProof.Rows.itemOrd (PySem.W.keyToksAll (a.map PySem.PyData.int)) (PySem.W.keyToksAll (b.map PySem.PyData.int)) = HT.lexLt a b
  | [], [] => by
    show PyProof.Rows.lexLt PyProof.Rows.itemOrd [.inl 0] [.inl 0] = _
    rw [lex_cons, if_pos rfl]
    rfl
  | [], y :: ys => by
    simp only [List.map_nil, List.map_cons, PySem.W.keyToksAll]
    rw [lex_cons]
    rfl
  | x :: xs, [] => by
    simp only [List.map_nil, List.map_cons, PySem.W.keyToksAll]
    rw [lex_cons]
    rfl
  | x :: xs, y :: ys => by
    simp only [List.map_cons, PySem.W.keyToksAll, PySem.W.keyToks, List.cons_append, List.nil_append]
    rw [lex_cons, if_pos rfl, lex_cons, lex_toks xs ys, HT.lexLt_cons]
theorem toDs_ints (a : List Int) : toDs (a.map PV.int) = a.map PySem.PyData.int := by
  rw [toDs_map, List.map_map]
  apply List.map_congr_left
  intro i _
  simp [toD]
theorem leP_tup (a b : List Int) : leP (.tup (a.map PV.int)) (.tup (b.map PV.int)) = !HT.lexLt b a := by
  show (!PyProof.Rows.lexLt PyProof.Rows.itemOrd (PySem.W.keyToks (toD (.tup (b.map PV.int)))) (PySem.W.keyToks (toD (.tup (a.map PV.int))))) = _
  simp only [toD, PySem.W.keyToks, toDs_ints]
  rw [lex_toks]
theorem leP_int (i j : Int) : leP (.int i) (.int j) = decide (i ≤ j) := by
  show (!PyProof.Rows.lexLt PyProof.Rows.itemOrd (PySem.W.keyToks (toD (.int j))) (PySem.W.keyToks (toD (.int i)))) = _
  simp only [toD, PySem.W.keyToks]
  rw [lex_cons]
  by_cases h : j = i
  · subst h
    rw [if_pos rfl]
    simp [PyProof.Rows.lexLt]
  · rw [if_neg h]
    by_cases h2 : j < i
    · simp [h2]
    · simp [h2]; omega
/-! numbers -/
theorem comparable_ints (l : List Int) : comparable (l.map PV.int) = true := by
  unfold comparable
  simp only [Bool.and_eq_true, List.all_eq_true, List.mem_map]
  refine ⟨⟨⟨?_, ?_⟩, ?_⟩, ?_⟩
  · rintro x ⟨i, _, rfl⟩; exact okD_int _ _
  · unfold alikeB
    simp only [List.all_eq_true, List.mem_map]
    rintro x ⟨i, _, rfl⟩ y ⟨j, _, rfl⟩
    simp [toD, PySem.W.alike]
  · rw [plainPs_all]
    simp only [List.all_eq_true, List.mem_map]
    rintro x ⟨i, _, rfl⟩
    simp [plainP]
  · rintro x ⟨i, _, rfl⟩; rfl
theorem sortable_ints (l : List Int) : sortable (l.map PV.int) = true := by
  unfold sortable
  simp only [Bool.or_eq_true, List.all_eq_true, List.mem_map]
  left; right
  rintro x ⟨i, _, rfl⟩
  rfl
/-- of a sorting of f's values: f's arguments -/
theorem perm_map {α : Type} {f : α → PV} {g : PV → α} (hg : ∀ a, g (f a) = a) {l : List α} {ys : List PV} (h : ys.Perm (l.map f)) : ys = (ys.map g).map f ∧ (ys.map g).Perm l := by
  refine ⟨?_, ?_⟩
  · rw [List.map_map]
    conv => lhs; rw [← List.map_id ys]
    apply List.map_congr_left
    intro y hy
    obtain ⟨a, _, e⟩ := List.mem_map.mp (h.mem_iff.mp hy)
    subst e
    simp [hg]
  · have := h.map g
    rwa [List.map_map, show g ∘ f = id from funext hg, List.map_id] at this
def unI : PV → Int
  | .int i => i
  | _ => 0
theorem sortL_ints (l : List Int) : sortL (l.map PV.int) = (sortI l).map PV.int := by
  obtain ⟨h1, h2⟩ := perm_map (g := unI) (fun i => rfl) (sortL_perm (l.map PV.int))
  have pw := sortL_pw (l.map PV.int)
  rw [h1, List.pairwise_map] at pw
  rw [h1]
  congr 1
  refine sorted_uniq (h2.trans (sortI_perm l).symm) (pw.imp fun {a b} h => ?_) (sortI_sorted l)
  rw [leP_int] at h
  simpa using h
theorem sortedF_ints (l : List Int) : sortedF [.lst (l.map PV.int)] = some (.lst ((sortI l).map PV.int)) := by
  simp only [sortedF]
  rw [comparable_ints, sortable_ints, sortL_ints]
  rfl
/-! pairs and rows of numbers -/
theorem alikeAll_ints : ∀ a b : List Int, PySem.W.alikeAll (a.map PySem.PyData.int) (b.map PySem.PyData.int) = true
  | [], _ => by simp [PySem.W.alikeAll]
  | _ :: _, [] => by simp [PySem.W.alikeAll]
  | x :: xs, y :: ys => by simp [PySem.W.alikeAll, PySem.W.alike, alikeAll_ints xs ys]
theorem okD_ints (n : Nat) (l : List Int) : (l.map PV.int).all (okD n) = true := by
  rw [List.all_eq_true]
  intro x hx
  obtain ⟨i, _, rfl⟩ := List.mem_map.mp hx
  exact okD_int _ _
theorem plainPs_ints (l : List Int) : plainPs (l.map PV.int) = true := by
  rw [plainPs_all, List.all_eq_true]
  intro x hx
  obtain ⟨i, _, rfl⟩ := List.mem_map.mp hx
  simp [plainP]
theorem comparable_tups (l : List (List Int)) : comparable (l.map fun a => .tup (a.map PV.int)) = true := by
  unfold comparable
  simp only [Bool.and_eq_true, List.all_eq_true, List.mem_map]
  refine ⟨⟨⟨?_, ?_⟩, ?_⟩, ?_⟩
  · rintro x ⟨i, _, rfl⟩
    simpa [okD] using okD_ints 59 i
  · unfold alikeB
    simp only [List.all_eq_true, List.mem_map]
    rintro x ⟨i, _, rfl⟩ y ⟨j, _, rfl⟩
    simp only [toD, PySem.W.alike, toDs_ints]
    exact alikeAll_ints i j
  · rw [plainPs_all]
    simp only [List.all_eq_true, List.mem_map]
    rintro x ⟨i, _, rfl⟩
    simpa [plainP] using plainPs_ints i
  · rintro x ⟨i, _, rfl⟩; rfl
theorem sortable_tups (l : List (List Int)) (h : ∀ a ∈ l, a ≠ []) : sortable (l.map fun a => .tup (a.map PV.int)) = true := by
  unfold sortable
  simp only [Bool.or_eq_true, List.all_eq_true, List.mem_map]
  left; left
  rintro x ⟨a, ha, rfl⟩
  cases a with
  | nil => exact absurd rfl (h [] ha)
  | cons i r => rfl
end PP

set_option maxHeartbeats 0
/-! the walk of tabletalk_k09_whole_rejecting_nodes (printed by gen.py) -/
namespace WK
open PySem PySem.Spec PyProof.Rows L2 PP
def top (i : Nat) : Stmt := PySem.Challenge.pw_tabletalk_k09_whole_rejecting_nodes.main.body.getD i (.Pass ⟨0, 0, 0, 0⟩)
def FREE : List Str := ["len", "abs", "all", "any", "sum", "min", "max", "sorted", "isinstance", "int", "tuple", "list", "bool", "str", "range", "zip"]
def INTS : List (Str × Int) := [("MOST_VARIABLE", 5), ("WIDEST_SCOPE", 3), ("MOST_COST", 100), ("MOST_NODES", 5)]
/-! _law_stream -/
def N__law_stream : List Str := ["_law_script"]
def d__law_stream : Den := (dLst [(dApp listF [.d (dVar 0)]), (dC (.int 0)), (dC (.int 0))])
def s__law_stream : FSemN := runFN 0 d__law_stream
def e__law_stream : Expr := match defBody (top 29) with | [.Return (some e) _] => e | _ => .Constant .none 0 ⟨0, 0, 0, 0⟩
theorem b__law_stream {X : Cx} (c : Cn X N__law_stream (defScope (top 29)).names (defScope (top 29)).names 0) (g : GF X.mg FREE INTS) : VF X (e__law_stream) d__law_stream := by
  have v1_0 := fun pos => c.var (i := 0) (x := ("_law_script" : Str)) (by decide +kernel) pos
  have b1_list := c.bi g (x := ("list" : Str)) (v := .type "list") (by decide +kernel)
  exact (vf_lst (by decide) (va_cons rfl (b1_list.appTy cr_listF rfl (vab_d rfl (ve_var (v1_0 _)) vab_nil)) (va_cons rfl pe_iv (va_cons rfl pe_iv va_nil))))
/-! _law_next -/
def N__law_next : List Str := ["_law_stream_here", "_law_many", "_law_k", "_law_cell", "_law_digit"]
def d__law_next : DenS := (sSeq (sIf (dB (dBin eqF (dBinL getF 0 (dC (.int 1))) (dC (.int 0)))) (sSeq (sAsg (.nm 2) (dBinL getF 0 (dC (.int 2)))) (sSeq (sAsg (.nm 3) (dBin addF (dC (.int 7)) (dVar 2))) (sSeq (sIf (dB (dBin ltF (dVar 2) (dApp lenF [.d (dBinL getF 0 (dC (.int 0)))]))) (sSeq (sAsg (.nm 3) (dApp absF [.d (dBin getF (dBinL getF 0 (dC (.int 0))) (dVar 2))])) sNil) sNil) (sSeq (sIf (dB (dBin ltF (dVar 3) (dBin powF (dC (.int 10)) (dC (.int 18))))) (sSeq (sAsg (.nm 3) (dBin modF (dApp intTF [.d (dBin addF (dBin addF (dBin mulF (dVar 3) (dC (.int 48271))) (dBin mulF (dVar 2) (dC (.int 69621)))) (dC (.int 11)))]) (dC (.int 2147483647)))) (sSeq (sAsg (.nm 3) (dBin addF (dBin mulF (dBin modF (dApp intTF [.d (dBin addF (dBin mulF (dVar 3) (dC (.int 16807))) (dC (.int 13)))]) (dC (.int 2147483647))) (dC (.int 65537))) (dVar 3))) sNil)) sNil) (sSeq (sStore 0 (dC (.int 1)) (dVar 3)) (sSeq (sStore 0 (dC (.int 2)) (dBin addF (dVar 2) (dC (.int 1)))) sNil)))))) sNil) (sSeq (sAsg (.nm 4) (dBin modF (dApp intTF [.d (dBinL getF 0 (dC (.int 1)))]) (dVar 1))) (sSeq (sStore 0 (dC (.int 1)) (dBin divF (dBinL getF 0 (dC (.int 1))) (dVar 1))) (sSeq (sRet (dVar 4)) sNil))))
def s__law_next : PP.Sem := runF [true] 3 d__law_next
theorem b__law_next {X : Cx} (c : Cn X N__law_next (defScope (top 30)).names (defScope (top 30)).names 0) (g : GF X.mg FREE INTS) : VSs X [0] (defBody (top 30)) d__law_next := by
  have v1_4 := fun pos => c.var (i := 4) (x := ("_law_digit" : Str)) (by decide +kernel) pos
  have v1_0 := fun pos => c.var (i := 0) (x := ("_law_stream_here" : Str)) (by decide +kernel) pos
  have v1_1 := fun pos => c.var (i := 1) (x := ("_law_many" : Str)) (by decide +kernel) pos
  have v1_2 := fun pos => c.var (i := 2) (x := ("_law_k" : Str)) (by decide +kernel) pos
  have v1_3 := fun pos => c.var (i := 3) (x := ("_law_cell" : Str)) (by decide +kernel) pos
  have b1_int := c.bi g (x := ("int" : Str)) (v := .type "int") (by decide +kernel)
  have b1_len := c.bi g (x := ("len" : Str)) (v := .builtin "len") (by decide +kernel)
  have b1_abs := c.bi g (x := ("abs" : Str)) (v := .builtin "abs") (by decide +kernel)
  exact (vss_cons (vs_if (vt_cmp (op_eqF c.hu64) rfl (ve_subL c.hu1 (plainIx trivial) (v1_0 _) pe_iv) pe_iv) (vss_cons (c.set (by decide) (by decide +kernel) (ve_subL c.hu1 (plainIx trivial) (v1_0 _) pe_iv) rfl) (vss_cons (c.set (by decide) (by decide +kernel) (ve_bin op_addF pe_iv (ve_var (v1_2 _))) rfl) (vss_cons (vs_if (vt_cmp (op_ltF c.hu0) rfl (ve_var (v1_2 _)) (b1_len.app cr_lenF rfl (vab_d rfl (ve_subL c.hu1 (plainIx trivial) (v1_0 _) pe_iv) vab_nil))) (vss_cons (c.set (by decide) (by decide +kernel) (b1_abs.app cr_absF rfl (vab_d rfl (ve_sub c.hu1 (plainIx trivial) (ve_subL c.hu1 (plainIx trivial) (v1_0 _) pe_iv) (ve_var (v1_2 _))) vab_nil)) rfl) vss_nil) vss_nil) (vss_cons (vs_if (vt_cmp (op_ltF c.hu0) rfl (ve_var (v1_3 _)) (ve_bin op_powF pe_iv pe_iv)) (vss_cons (c.set (by decide) (by decide +kernel) (ve_bin op_modF (b1_int.appTy cr_intTF rfl (vab_d rfl (ve_bin op_addF (ve_bin op_addF (ve_bin op_mulF (ve_var (v1_3 _)) pe_iv) (ve_bin op_mulF (ve_var (v1_2 _)) pe_iv)) pe_iv) vab_nil)) pe_iv) rfl) (vss_cons (c.set (by decide) (by decide +kernel) (ve_bin op_addF (ve_bin op_mulF (ve_bin op_modF (b1_int.appTy cr_intTF rfl (vab_d rfl (ve_bin op_addF (ve_bin op_mulF (ve_var (v1_3 _)) pe_iv) pe_iv) vab_nil)) pe_iv) pe_iv) (ve_var (v1_3 _))) rfl) vss_nil)) vss_nil) (vss_cons (vs_store c.hu1 (v1_0 _) pe_iv (ve_var (v1_3 _)) rfl rfl rfl (fun _ => rfl)) (vss_cons (vs_store c.hu1 (v1_0 _) pe_iv (ve_bin op_addF (ve_var (v1_2 _)) pe_iv) rfl rfl rfl (fun _ => rfl)) vss_nil)))))) vss_nil) (vss_cons (c.set (by decide) (by decide +kernel) (ve_bin op_modF (b1_int.appTy cr_intTF rfl (vab_d rfl (ve_subL c.hu1 (plainIx trivial) (v1_0 _) pe_iv) vab_nil)) (ve_var (v1_1 _))) rfl) (vss_cons (vs_store c.hu1 (v1_0 _) pe_iv (ve_bin op_divF (ve_subL c.hu1 (plainIx trivial) (v1_0 _) pe_iv) (ve_var (v1_1 _))) rfl rfl rfl (fun _ => rfl)) (vss_cons (vs_ret (ve_var (v1_4 _))) vss_nil))))
/-! _law_some -/
def N__law_some : List Str := ["_law_stream_here", "_law_most", "_law_high", "_law_found", "_law_variable"]
def d__law_some : DenS := (sSeq (sOwn 3 (dLst [])) (sSeq (sFor (iRange [(dVar 2)]) (.nm 4) (sSeq (sIf (dAnd (dB (dBin ltF (dApp lenF [.b 3]) (dVar 1))) (dB (dBin eqF (dCall s__law_next [.b 0, .d (dC (.int 2))]) (dC (.int 0))))) (sSeq (sDrop (dMut appendF 3 [(dVar 4)])) sNil) sNil) sNil)) (sSeq (sRet (dApp tupleF [.b 3])) sNil)))
def s__law_some : PP.Sem := runF [true] 2 d__law_some
theorem b__law_some {X : Cx} (c : Cn X N__law_some (defScope (top 32)).names (defScope (top 32)).names 1) (g : GF X.mg FREE INTS) (f__law_next : FavX X 1 "_law_next" 2 [true] s__law_next) : VSs X [0] (defBody (top 32)) d__law_some := by
  have v1_3 := fun pos => c.var (i := 3) (x := ("_law_found" : Str)) (by decide +kernel) pos
  have v1_2 := fun pos => c.var (i := 2) (x := ("_law_high" : Str)) (by decide +kernel) pos
  have v1_1 := fun pos => c.var (i := 1) (x := ("_law_most" : Str)) (by decide +kernel) pos
  have v1_0 := fun pos => c.var (i := 0) (x := ("_law_stream_here" : Str)) (by decide +kernel) pos
  have v1_4 := fun pos => c.var (i := 4) (x := ("_law_variable" : Str)) (by decide +kernel) pos
  have b1_tuple := c.bi g (x := ("tuple" : Str)) (v := .type "tuple") (by decide +kernel)
  have b1_range := c.bi g (x := ("range" : Str)) (v := .type "range") (by decide +kernel)
  have b1_len := c.bi g (x := ("len" : Str)) (v := .builtin "len") (by decide +kernel)
  have t1_4 := fun pos => c.tgt (i := 4) (x := ("_law_variable" : Str)) (by decide +kernel) pos
  exact (vss_cons (c.ownF (by decide) (by decide +kernel) (vf_lst (by decide) va_nil) rfl) (vss_cons (vs_for c.xe c.calm (refs_tgt (by decide)) (b1_range.range1 rfl (ve_var (v1_2 _))) (t1_4 _) (vss_cons (vs_if (PW.pt (vw_and (vt_cmp (op_ltF c.hu0) rfl (b1_len.app cr_lenF rfl (vab_b rfl (v1_3 _) vab_nil)) (ve_var (v1_1 _))) (vw_and1 (vt_cmp (op_eqF c.hu64) rfl (c.call f__law_next (by decide) (by decide +kernel) rfl (by rfl) (by decide) (by rfl) (vc_b rfl (v1_0 _) (vc_d rfl pe_iv vc_nil))) pe_iv)))) (vss_cons (vs_drop rfl (ve_mut mm_append (mcall rfl rfl (by decide) (by decide +kernel)) (v1_3 _) (va_cons rfl (ve_var (v1_4 _)) va_nil))) vss_nil) vss_nil) vss_nil) (fun _ => rfl)) (vss_cons (vs_ret (b1_tuple.appTy cr_tupleF rfl (vab_b rfl (v1_3 _) vab_nil))) vss_nil)))
/-! _law_graph -/
def N__law_graph : List Str := ["_law_stream_here", "_law_nodes", "_law_values", "_law_many", "_law_scopes", "_law_node", "_law_edges", "_law_a", "_law_b"]
def d__law_graph : DenS := (sSeq (sAsg (.nm 2) (dBin addF (dC (.int 2)) (dApp intTF [.d (dBin eqF (dCall s__law_next [.b 0, .d (dC (.int 5))]) (dC (.int 0)))]))) (sSeq (sAsg (.nm 3) (dBin addF (dC (.int 1)) (dCall s__law_next [.b 0, .d (dVar 1)]))) (sSeq (sAsg (.nm 4) (dApp tupleF [.d (dLC (iRange [(dVar 3)]) [5] (.nm 5) dYes (dCall s__law_some [.b 0, .d (dBin addF (dC (.int 2)) (dApp intTF [.d (dBin eqF (dVar 2) (dC (.int 2)))])), .d (dC (.int 4))]))])) (sSeq (sOwn 6 (dLst [])) (sSeq (sFor (iRange [(dVar 3)]) (.nm 7) (sSeq (sFor (iRange [(dBin addF (dVar 7) (dC (.int 1))), (dVar 3)]) (.nm 8) (sSeq (sIf (dB (dBin eqF (dCall s__law_next [.b 0, .d (dC (.int 2))]) (dC (.int 0)))) (sSeq (sDrop (dMut appendF 6 [(dTup [(dVar 7), (dVar 8)])])) sNil) sNil) sNil)) sNil)) (sSeq (sRet (dTup [(dVar 2), (dVar 4), (dApp tupleF [.b 6])])) sNil))))))
def s__law_graph : PP.Sem := runF [true] 7 d__law_graph
theorem b__law_graph {X : Cx} (c : Cn X N__law_graph (defScope (top 33)).names (defScope (top 33)).names 2) (g : GF X.mg FREE INTS) (f__law_next : FavX X 1 "_law_next" 2 [true] s__law_next) (f__law_some : FavX X 2 "_law_some" 3 [true] s__law_some) : VSs X [0] (defBody (top 33)) d__law_graph := by
  have v1_6 := fun pos => c.var (i := 6) (x := ("_law_edges" : Str)) (by decide +kernel) pos
  have v1_4 := fun pos => c.var (i := 4) (x := ("_law_scopes" : Str)) (by decide +kernel) pos
  have v1_2 := fun pos => c.var (i := 2) (x := ("_law_values" : Str)) (by decide +kernel) pos
  have v1_3 := fun pos => c.var (i := 3) (x := ("_law_many" : Str)) (by decide +kernel) pos
  have v1_7 := fun pos => c.var (i := 7) (x := ("_law_a" : Str)) (by decide +kernel) pos
  have v1_0 := fun pos => c.var (i := 0) (x := ("_law_stream_here" : Str)) (by decide +kernel) pos
  have v1_8 := fun pos => c.var (i := 8) (x := ("_law_b" : Str)) (by decide +kernel) pos
  have v1_1 := fun pos => c.var (i := 1) (x := ("_law_nodes" : Str)) (by decide +kernel) pos
  have b1_tuple := c.bi g (x := ("tuple" : Str)) (v := .type "tuple") (by decide +kernel)
  have b1_range := c.bi g (x := ("range" : Str)) (v := .type "range") (by decide +kernel)
  have b1_int := c.bi g (x := ("int" : Str)) (v := .type "int") (by decide +kernel)
  have t1_7 := fun pos => c.tgt (i := 7) (x := ("_law_a" : Str)) (by decide +kernel) pos
  have t1_8 := fun pos => c.tgt (i := 8) (x := ("_law_b" : Str)) (by decide +kernel) pos
  exact (vss_cons (c.set (by decide) (by decide +kernel) (ve_bin op_addF pe_iv (b1_int.appTy cr_intTF rfl (vab_d rfl (ve_cmp (op_eqF c.hu64) rfl (c.call f__law_next (by decide) (by decide +kernel) rfl (by rfl) (by decide) (by rfl) (vc_b rfl (v1_0 _) (vc_d rfl pe_iv vc_nil))) pe_iv) vab_nil))) rfl) (vss_cons (c.set (by decide) (by decide +kernel) (ve_bin op_addF pe_iv (c.call f__law_next (by decide) (by decide +kernel) rfl (by rfl) (by decide) (by rfl) (vc_b rfl (v1_0 _) (vc_d rfl (ve_var (v1_1 _)) vc_nil)))) rfl) (vss_cons (c.set (by decide) (by decide +kernel) (b1_tuple.appTy cr_tupleF rfl (vab_d rfl (vf_ve (c.vf (c.lc (own := [(("_law_node" : Str), 5)]) (b1_range.range1 rfl (ve_var (v1_3 _))) (by decide +kernel) rfl (by decide) (fun _ => rfl) (fun _ _ _ _ _ c2 => by (have v2_2 := fun pos => c2.var (i := 2) (x := ("_law_values" : Str)) (by decide +kernel) pos; have v2_0 := fun pos => c2.var (i := 0) (x := ("_law_stream_here" : Str)) (by decide +kernel) pos; have b2_int := c2.bi g (x := ("int" : Str)) (v := .type "int") (by decide +kernel); have t2_5 := fun pos => c2.tgt (i := 5) (x := ("_law_node" : Str)) (by decide +kernel) pos; exact ⟨(t2_5 _), vts_nil, (c2.call f__law_some (by decide) (by decide +kernel) rfl (by rfl) (by decide) (by rfl) (vc_b rfl (v2_0 _) (vc_d rfl (ve_bin op_addF pe_iv (b2_int.appTy cr_intTF rfl (vab_d rfl (ve_cmp (op_eqF c2.hu64) rfl (ve_var (v2_2 _)) pe_iv) vab_nil))) (vc_d rfl pe_iv vc_nil))))⟩))))) vab_nil)) rfl) (vss_cons (c.ownF (by decide) (by decide +kernel) (vf_lst (by decide) va_nil) rfl) (vss_cons (vs_for c.xe c.calm (refs_tgt (by decide)) (b1_range.range1 rfl (ve_var (v1_3 _))) (t1_7 _) (vss_cons (vs_for c.xe c.calm (refs_tgt (by decide)) (b1_range.range2 rfl rfl (ve_bin op_addF (ve_var (v1_7 _)) pe_iv) (ve_var (v1_3 _))) (t1_8 _) (vss_cons (vs_if (vt_cmp (op_eqF c.hu64) rfl (c.call f__law_next (by decide) (by decide +kernel) rfl (by rfl) (by decide) (by rfl) (vc_b rfl (v1_0 _) (vc_d rfl pe_iv vc_nil))) pe_iv) (vss_cons (vs_drop rfl (ve_mut mm_append (mcall rfl rfl (by decide) (by decide +kernel)) (v1_6 _) (va_cons rfl (ve_tup (by decide) (va_cons rfl (ve_var (v1_7 _)) (va_cons rfl (ve_var (v1_8 _)) va_nil))) va_nil))) vss_nil) vss_nil) vss_nil) (fun _ => rfl)) vss_nil) (fun _ => rfl)) (vss_cons (vs_ret (ve_tup (by decide) (va_cons rfl (ve_var (v1_2 _)) (va_cons rfl (ve_var (v1_4 _)) (va_cons rfl (b1_tuple.appTy cr_tupleF rfl (vab_b rfl (v1_6 _) vab_nil)) va_nil))))) vss_nil))))))
/-! _law_tree -/
def N__law_tree : List Str := ["_law_stream_here", "_law_nodes", "_law_values", "_law_scopes", "_law_edges", "_law_fresh", "_law_node", "_law_above", "_law_kept", "_law_variable"]
def d__law_tree : DenS := (sSeq (sAsg (.nm 2) (dBin addF (dC (.int 2)) (dApp intTF [.d (dBin eqF (dCall s__law_next [.b 0, .d (dC (.int 5))]) (dC (.int 0)))]))) (sSeq (sOwn 3 (dLst [(dCall s__law_some [.b 0, .d (dC (.int 2)), .d (dC (.int 4))])])) (sSeq (sOwn 4 (dLst [])) (sSeq (sAsg (.nm 5) (dC (.int 4))) (sSeq (sFor (iRange [(dC (.int 1)), (dBin addF (dC (.int 1)) (dCall s__law_next [.b 0, .d (dVar 1)]))]) (.nm 6) (sSeq (sAsg (.nm 7) (dCall s__law_next [.b 0, .d (dVar 6)])) (sSeq (sOwn 8 (dLC (iSeq (dBinL getF 3 (dVar 7))) [9] (.nm 9) (dB (dBin gtF (dCall s__law_next [.b 0, .d (dC (.int 3))]) (dC (.int 0)))) (dVar 9))) (sSeq (sIf (dAnd (dB (dBin ltF (dVar 5) (dC (.int 6)))) (dAnd (dB (dBin eqF (dCall s__law_next [.b 0, .d (dC (.int 2))]) (dC (.int 0)))) (dB (dBin ltF (dApp lenF [.b 8]) (dC (.int 2)))))) (sSeq (sDrop (dMut appendF 8 [(dVar 5)])) (sSeq (sAsg (.nm 5) (dBin addF (dVar 5) (dC (.int 1)))) sNil)) sNil) (sSeq (sDrop (dMut appendF 3 [(dApp tupleF [.b 8])])) (sSeq (sDrop (dMut appendF 4 [(dTup [(dVar 7), (dVar 6)])])) sNil)))))) (sSeq (sRet (dTup [(dVar 2), (dApp tupleF [.b 3]), (dApp tupleF [.d (dApp sortedF [.b 4])])])) sNil))))))
def s__law_tree : PP.Sem := runF [true] 8 d__law_tree
theorem b__law_tree {X : Cx} (c : Cn X N__law_tree (defScope (top 34)).names (defScope (top 34)).names 2) (g : GF X.mg FREE INTS) (f__law_next : FavX X 1 "_law_next" 2 [true] s__law_next) (f__law_some : FavX X 2 "_law_some" 3 [true] s__law_some) : VSs X [0] (defBody (top 34)) d__law_tree := by
  have v1_4 := fun pos => c.var (i := 4) (x := ("_law_edges" : Str)) (by decide +kernel) pos
  have v1_3 := fun pos => c.var (i := 3) (x := ("_law_scopes" : Str)) (by decide +kernel) pos
  have v1_2 := fun pos => c.var (i := 2) (x := ("_law_values" : Str)) (by decide +kernel) pos
  have v1_1 := fun pos => c.var (i := 1) (x := ("_law_nodes" : Str)) (by decide +kernel) pos
  have v1_0 := fun pos => c.var (i := 0) (x := ("_law_stream_here" : Str)) (by decide +kernel) pos
  have v1_6 := fun pos => c.var (i := 6) (x := ("_law_node" : Str)) (by decide +kernel) pos
  have v1_7 := fun pos => c.var (i := 7) (x := ("_law_above" : Str)) (by decide +kernel) pos
  have v1_8 := fun pos => c.var (i := 8) (x := ("_law_kept" : Str)) (by decide +kernel) pos
  have v1_5 := fun pos => c.var (i := 5) (x := ("_law_fresh" : Str)) (by decide +kernel) pos
  have b1_sorted := c.bi g (x := ("sorted" : Str)) (v := .builtin "sorted") (by decide +kernel)
  have b1_tuple := c.bi g (x := ("tuple" : Str)) (v := .type "tuple") (by decide +kernel)
  have b1_range := c.bi g (x := ("range" : Str)) (v := .type "range") (by decide +kernel)
  have b1_len := c.bi g (x := ("len" : Str)) (v := .builtin "len") (by decide +kernel)
  have b1_int := c.bi g (x := ("int" : Str)) (v := .type "int") (by decide +kernel)
  have t1_6 := fun pos => c.tgt (i := 6) (x := ("_law_node" : Str)) (by decide +kernel) pos
  exact (vss_cons (c.set (by decide) (by decide +kernel) (ve_bin op_addF pe_iv (b1_int.appTy cr_intTF rfl (vab_d rfl (ve_cmp (op_eqF c.hu64) rfl (c.call f__law_next (by decide) (by decide +kernel) rfl (by rfl) (by decide) (by rfl) (vc_b rfl (v1_0 _) (vc_d rfl pe_iv vc_nil))) pe_iv) vab_nil))) rfl) (vss_cons (c.ownF (by decide) (by decide +kernel) (vf_lst (by decide) (va_cons rfl (c.call f__law_some (by decide) (by decide +kernel) rfl (by rfl) (by decide) (by rfl) (vc_b rfl (v1_0 _) (vc_d rfl pe_iv (vc_d rfl pe_iv vc_nil)))) va_nil)) rfl) (vss_cons (c.ownF (by decide) (by decide +kernel) (vf_lst (by decide) va_nil) rfl) (vss_cons (c.set (by decide) (by decide +kernel) pe_iv rfl) (vss_cons (vs_for c.xe c.calm (refs_tgt (by decide)) (b1_range.range2 rfl rfl pe_iv (ve_bin op_addF pe_iv (c.call f__law_next (by decide) (by decide +kernel) rfl (by rfl) (by decide) (by rfl) (vc_b rfl (v1_0 _) (vc_d rfl (ve_var (v1_1 _)) vc_nil))))) (t1_6 _) (vss_cons (c.set (by decide) (by decide +kernel) (c.call f__law_next (by decide) (by decide +kernel) rfl (by rfl) (by decide) (by rfl) (vc_b rfl (v1_0 _) (vc_d rfl (ve_var (v1_6 _)) vc_nil))) rfl) (vss_cons (c.ownLc (by decide) (by decide +kernel) (by decide +kernel) (by decide +kernel) (c.lc (own := [(("_law_variable" : Str), 9)]) (vi_seq (ve_subL c.hu1 (plainIx trivial) (v1_3 _) (ve_var (v1_7 _)))) (by decide +kernel) rfl (by decide) (fun _ => rfl) (fun _ _ _ _ _ c2 => by (have v2_0 := fun pos => c2.var (i := 0) (x := ("_law_stream_here" : Str)) (by decide +kernel) pos; have v2_9 := fun pos => c2.var (i := 9) (x := ("_law_variable" : Str)) (by decide +kernel) pos; have t2_9 := fun pos => c2.tgt (i := 9) (x := ("_law_variable" : Str)) (by decide +kernel) pos; exact ⟨(t2_9 _), (vts_one (vt_cmp op_gtF rfl (c2.call f__law_next (by decide) (by decide +kernel) rfl (by rfl) (by decide) (by rfl) (vc_b rfl (v2_0 _) (vc_d rfl pe_iv vc_nil))) pe_iv)), (ve_var (v2_9 _))⟩)))) (vss_cons (vs_if (PW.pt (vw_and (vt_cmp (op_ltF c.hu0) rfl (ve_var (v1_5 _)) pe_iv) (vw_and (vt_cmp (op_eqF c.hu64) rfl (c.call f__law_next (by decide) (by decide +kernel) rfl (by rfl) (by decide) (by rfl) (vc_b rfl (v1_0 _) (vc_d rfl pe_iv vc_nil))) pe_iv) (vw_and1 (vt_cmp (op_ltF c.hu0) rfl (b1_len.app cr_lenF rfl (vab_b rfl (v1_8 _) vab_nil)) pe_iv))))) (vss_cons (vs_drop rfl (ve_mut mm_append (mcall rfl rfl (by decide) (by decide +kernel)) (v1_8 _) (va_cons rfl (ve_var (v1_5 _)) va_nil))) (vss_cons (c.set (by decide) (by decide +kernel) (ve_bin op_addF (ve_var (v1_5 _)) pe_iv) rfl) vss_nil)) vss_nil) (vss_cons (vs_drop rfl (ve_mut mm_append (mcall rfl rfl (by decide) (by decide +kernel)) (v1_3 _) (va_cons rfl (b1_tuple.appTy cr_tupleF rfl (vab_b rfl (v1_8 _) vab_nil)) va_nil))) (vss_cons (vs_drop rfl (ve_mut mm_append (mcall rfl rfl (by decide) (by decide +kernel)) (v1_4 _) (va_cons rfl (ve_tup (by decide) (va_cons rfl (ve_var (v1_7 _)) (va_cons rfl (ve_var (v1_6 _)) va_nil))) va_nil))) vss_nil))))) (fun _ => rfl)) (vss_cons (vs_ret (ve_tup (by decide) (va_cons rfl (ve_var (v1_2 _)) (va_cons rfl (b1_tuple.appTy cr_tupleF rfl (vab_b rfl (v1_3 _) vab_nil)) (va_cons rfl (b1_tuple.appTy cr_tupleF rfl (vab_d rfl (b1_sorted.app (cr_sortedF c.hu) rfl (vab_b rfl (v1_4 _) vab_nil)) vab_nil)) va_nil))))) vss_nil))))))
/-! _law_rows -/
def N__law_rows : List Str := ["_law_values", "_law_many", "_law_rows_here", "_law_turn", "_law_longer", "_law_row", "_law_value"]
def d__law_rows : DenS := (sSeq (sAsg (.nm 2) (dLst [(dTup [])])) (sSeq (sFor (iRange [(dVar 1)]) (.nm 3) (sSeq (sAsg (.nm 4) (dLst [])) (sSeq (sFor (iSeq (dVar 2)) (.nm 5) (sSeq (sAsg (.nm 4) (dBin addF (dVar 4) (dLC (iRange [(dVar 0)]) [6] (.nm 6) dYes (dBin addF (dVar 5) (dTup [(dVar 6)]))))) sNil)) (sSeq (sAsg (.nm 2) (dVar 4)) sNil)))) (sSeq (sRet (dVar 2)) sNil)))
def s__law_rows : PP.Sem := runF [] 5 d__law_rows
theorem b__law_rows {X : Cx} (c : Cn X N__law_rows (defScope (top 35)).names (defScope (top 35)).names 0) (g : GF X.mg FREE INTS) : VSs X [] (defBody (top 35)) d__law_rows := by
  have v1_2 := fun pos => c.var (i := 2) (x := ("_law_rows_here" : Str)) (by decide +kernel) pos
  have v1_1 := fun pos => c.var (i := 1) (x := ("_law_many" : Str)) (by decide +kernel) pos
  have v1_4 := fun pos => c.var (i := 4) (x := ("_law_longer" : Str)) (by decide +kernel) pos
  have v1_0 := fun pos => c.var (i := 0) (x := ("_law_values" : Str)) (by decide +kernel) pos
  have b1_range := c.bi g (x := ("range" : Str)) (v := .type "range") (by decide +kernel)
  have t1_3 := fun pos => c.tgt (i := 3) (x := ("_law_turn" : Str)) (by decide +kernel) pos
  have t1_5 := fun pos => c.tgt (i := 5) (x := ("_law_row" : Str)) (by decide +kernel) pos
  exact (vss_cons (c.set (by decide) (by decide +kernel) (ve_lst (by decide) (va_cons rfl (ve_tup (by decide) va_nil) va_nil)) rfl) (vss_cons (vs_for c.xe c.calm (refs_tgt (by decide)) (b1_range.range1 rfl (ve_var (v1_1 _))) (t1_3 _) (vss_cons (c.set (by decide) (by decide +kernel) (ve_lst (by decide) va_nil) rfl) (vss_cons (vs_for c.xe c.calm (refs_tgt (by decide)) (vi_seq (ve_var (v1_2 _))) (t1_5 _) (vss_cons (c.set (by decide) (by decide +kernel) (ve_bin op_addF (ve_var (v1_4 _)) (vf_ve (c.vf (c.lc (own := [(("_law_value" : Str), 6)]) (b1_range.range1 rfl (ve_var (v1_0 _))) (by decide +kernel) rfl (by decide) (fun _ => rfl) (fun _ _ _ _ _ c2 => by (have v2_5 := fun pos => c2.var (i := 5) (x := ("_law_row" : Str)) (by decide +kernel) pos; have v2_6 := fun pos => c2.var (i := 6) (x := ("_law_value" : Str)) (by decide +kernel) pos; have t2_6 := fun pos => c2.tgt (i := 6) (x := ("_law_value" : Str)) (by decide +kernel) pos; exact ⟨(t2_6 _), vts_nil, (ve_bin op_addF (ve_var (v2_5 _)) (ve_tup (by decide) (va_cons rfl (ve_var (v2_6 _)) va_nil)))⟩)))))) rfl) vss_nil) (fun _ => rfl)) (vss_cons (c.set (by decide) (by decide +kernel) (ve_var (v1_4 _)) rfl) vss_nil))) (fun _ => rfl)) (vss_cons (vs_ret (ve_var (v1_2 _))) vss_nil)))
/-! _law_tables -/
def N__law_tables : List Str := ["_law_stream_here", "_law_graph_here", "_law_tables_here", "_law_scope", "_law_rows_here", "_law_row"]
def d__law_tables : DenS := (sSeq (sOwn 2 (dLst [])) (sSeq (sFor (iSeq (dBin getF (dVar 1) (dC (.int 1)))) (.nm 3) (sSeq (sOwn 4 (dLC (iSeq (dCall s__law_rows [.d (dBin getF (dVar 1) (dC (.int 0))), .d (dApp lenF [.d (dVar 3)])])) [5] (.nm 5) (dB (dBin gtF (dCall s__law_next [.b 0, .d (dC (.int 4))]) (dC (.int 0)))) (dVar 5))) (sSeq (sIf (dB (dBin eqF (dCall s__law_next [.b 0, .d (dC (.int 9))]) (dC (.int 0)))) (sSeq (sAsg (.nm 4) (dLst [])) sNil) sNil) (sSeq (sDrop (dMut appendF 2 [(dApp tupleF [.d (dLC (iSeq (dVar 4)) [5] (.nm 5) dYes (dTup [(dVar 5), (dCall s__law_next [.b 0, .d (dBin getF (dLst [(dC (.int 4)), (dC (.int 12))]) (dCall s__law_next [.b 0, .d (dC (.int 2))]))])]))])])) sNil)))) (sSeq (sRet (dApp tupleF [.b 2])) sNil)))
def s__law_tables : PP.Sem := runF [true] 4 d__law_tables
theorem b__law_tables {X : Cx} (c : Cn X N__law_tables (defScope (top 36)).names (defScope (top 36)).names 1) (g : GF X.mg FREE INTS) (f__law_next : FavX X 1 "_law_next" 2 [true] s__law_next) (f__law_rows : FavX X 1 "_law_rows" 2 [] s__law_rows) : VSs X [0] (defBody (top 36)) d__law_tables := by
  have v1_2 := fun pos => c.var (i := 2) (x := ("_law_tables_here" : Str)) (by decide +kernel) pos
  have v1_1 := fun pos => c.var (i := 1) (x := ("_law_graph_here" : Str)) (by decide +kernel) pos
  have v1_4 := fun pos => c.var (i := 4) (x := ("_law_rows_here" : Str)) (by decide +kernel) pos
  have v1_0 := fun pos => c.var (i := 0) (x := ("_law_stream_here" : Str)) (by decide +kernel) pos
  have v1_3 := fun pos => c.var (i := 3) (x := ("_law_scope" : Str)) (by decide +kernel) pos
  have b1_tuple := c.bi g (x := ("tuple" : Str)) (v := .type "tuple") (by decide +kernel)
  have b1_len := c.bi g (x := ("len" : Str)) (v := .builtin "len") (by decide +kernel)
  have t1_3 := fun pos => c.tgt (i := 3) (x := ("_law_scope" : Str)) (by decide +kernel) pos
  exact (vss_cons (c.ownF (by decide) (by decide +kernel) (vf_lst (by decide) va_nil) rfl) (vss_cons (vs_for c.xe c.calm (refs_tgt (by decide)) (vi_seq (ve_sub c.hu1 (plainIx trivial) (ve_var (v1_1 _)) pe_iv)) (t1_3 _) (vss_cons (c.ownLc (by decide) (by decide +kernel) (by decide +kernel) (by decide +kernel) (c.lc (own := [(("_law_row" : Str), 5)]) (vi_seq (c.call f__law_rows (by decide) (by decide +kernel) rfl (by rfl) (by decide) (by rfl) (vc_d rfl (ve_sub c.hu1 (plainIx trivial) (ve_var (v1_1 _)) pe_iv) (vc_d rfl (b1_len.app cr_lenF rfl (vab_d rfl (ve_var (v1_3 _)) vab_nil)) vc_nil)))) (by decide +kernel) rfl (by decide) (fun _ => rfl) (fun _ _ _ _ _ c3 => by (have v3_0 := fun pos => c3.var (i := 0) (x := ("_law_stream_here" : Str)) (by decide +kernel) pos; have v3_5 := fun pos => c3.var (i := 5) (x := ("_law_row" : Str)) (by decide +kernel) pos; have t3_5 := fun pos => c3.tgt (i := 5) (x := ("_law_row" : Str)) (by decide +kernel) pos; exact ⟨(t3_5 _), (vts_one (vt_cmp op_gtF rfl (c3.call f__law_next (by decide) (by decide +kernel) rfl (by rfl) (by decide) (by rfl) (vc_b rfl (v3_0 _) (vc_d rfl pe_iv vc_nil))) pe_iv)), (ve_var (v3_5 _))⟩)))) (vss_cons (vs_if (vt_cmp (op_eqF c.hu64) rfl (c.call f__law_next (by decide) (by decide +kernel) rfl (by rfl) (by decide) (by rfl) (vc_b rfl (v1_0 _) (vc_d rfl pe_iv vc_nil))) pe_iv) (vss_cons (c.set (by decide) (by decide +kernel) (ve_lst (by decide) va_nil) rfl) vss_nil) vss_nil) (vss_cons (vs_drop rfl (ve_mut mm_append (mcall rfl rfl (by decide) (by decide +kernel)) (v1_2 _) (va_cons rfl (b1_tuple.appTy cr_tupleF rfl (vab_d rfl (vf_ve (c.vf (c.lc (own := [(("_law_row" : Str), 5)]) (vi_seq (ve_var (v1_4 _))) (by decide +kernel) rfl (by decide) (fun _ => rfl) (fun _ _ _ _ _ c2 => by (have v2_0 := fun pos => c2.var (i := 0) (x := ("_law_stream_here" : Str)) (by decide +kernel) pos; have v2_5 := fun pos => c2.var (i := 5) (x := ("_law_row" : Str)) (by decide +kernel) pos; have t2_5 := fun pos => c2.tgt (i := 5) (x := ("_law_row" : Str)) (by decide +kernel) pos; exact ⟨(t2_5 _), vts_nil, (ve_tup (by decide) (va_cons rfl (ve_var (v2_5 _)) (va_cons rfl (c2.call f__law_next (by decide) (by decide +kernel) rfl (by rfl) (by decide) (by rfl) (vc_b rfl (v2_0 _) (vc_d rfl (ve_sub c2.hu1 (plainIx trivial) (ve_lst (by decide) (va_cons rfl pe_iv (va_cons rfl pe_iv va_nil))) (c2.call f__law_next (by decide) (by decide +kernel) rfl (by rfl) (by decide) (by rfl) (vc_b rfl (v2_0 _) (vc_d rfl pe_iv vc_nil)))) vc_nil))) va_nil)))⟩))))) vab_nil)) va_nil))) vss_nil))) (fun _ => rfl)) (vss_cons (vs_ret (b1_tuple.appTy cr_tupleF rfl (vab_b rfl (v1_2 _) vab_nil))) vss_nil)))
/-! _law_variables -/
def N__law_variables : List Str := ["_law_graph_here", "_law_nodes", "_law_found", "_law_node", "_law_variable"]
def d__law_variables : DenS := (sSeq (sAsg (.nm 2) (dLst [])) (sSeq (sFor (iSeq (dVar 1)) (.nm 3) (sSeq (sAsg (.nm 2) (dBin addF (dVar 2) (dLC (iSeq (dBin getF (dBin getF (dVar 0) (dC (.int 1))) (dVar 3))) [4] (.nm 4) (dB (dBin notInF (dVar 4) (dVar 2))) (dVar 4)))) sNil)) (sSeq (sRet (dApp tupleZF [.d (dApp sortedF [.d (dVar 2)])])) sNil)))
def s__law_variables : PP.Sem := runF [] 3 d__law_variables
theorem b__law_variables {X : Cx} (c : Cn X N__law_variables (defScope (top 37)).names (defScope (top 37)).names 0) (g : GF X.mg FREE INTS) : VSs X [] (defBody (top 37)) d__law_variables := by
  have v1_2 := fun pos => c.var (i := 2) (x := ("_law_found" : Str)) (by decide +kernel) pos
  have v1_1 := fun pos => c.var (i := 1) (x := ("_law_nodes" : Str)) (by decide +kernel) pos
  have v1_3 := fun pos => c.var (i := 3) (x := ("_law_node" : Str)) (by decide +kernel) pos
  have v1_0 := fun pos => c.var (i := 0) (x := ("_law_graph_here" : Str)) (by decide +kernel) pos
  have b1_sorted := c.bi g (x := ("sorted" : Str)) (v := .builtin "sorted") (by decide +kernel)
  have b1_tuple := c.bi g (x := ("tuple" : Str)) (v := .type "tuple") (by decide +kernel)
  have t1_3 := fun pos => c.tgt (i := 3) (x := ("_law_node" : Str)) (by decide +kernel) pos
  exact (vss_cons (c.set (by decide) (by decide +kernel) (ve_lst (by decide) va_nil) rfl) (vss_cons (vs_for c.xe c.calm (refs_tgt (by decide)) (vi_seq (ve_var (v1_1 _))) (t1_3 _) (vss_cons (c.set (by decide) (by decide +kernel) (ve_bin op_addF (ve_var (v1_2 _)) (vf_ve (c.vf (c.lc (own := [(("_law_variable" : Str), 4)]) (vi_seq (ve_sub c.hu1 (plainIx trivial) (ve_sub c.hu1 (plainIx trivial) (ve_var (v1_0 _)) pe_iv) (ve_var (v1_3 _)))) (by decide +kernel) rfl (by decide) (fun _ => rfl) (fun _ _ _ _ _ c2 => by (have v2_4 := fun pos => c2.var (i := 4) (x := ("_law_variable" : Str)) (by decide +kernel) pos; have v2_2 := fun pos => c2.var (i := 2) (x := ("_law_found" : Str)) (by decide +kernel) pos; have t2_4 := fun pos => c2.tgt (i := 4) (x := ("_law_variable" : Str)) (by decide +kernel) pos; exact ⟨(t2_4 _), (vts_one (vt_cmp (op_notInF c2.hu65) rfl (ve_var (v2_4 _)) (ve_var (v2_2 _)))), (ve_var (v2_4 _))⟩)))))) rfl) vss_nil) (fun _ => rfl)) (vss_cons (vs_ret (b1_tuple.appTy cr_tupleZF rfl (vab_d rfl (b1_sorted.app (cr_sortedF c.hu) rfl (vab_d rfl (ve_var (v1_2 _)) vab_nil)) vab_nil))) vss_nil)))
/-! _law_cut -/
def N__law_cut : List Str := ["_law_row", "_law_scope", "_law_some_here", "_law_variable"]
def d__law_cut : DenS := (sSeq (sRet (dApp tupleF [.d (dLC (iSeq (dVar 2)) [3] (.nm 3) dYes (dBin getF (dVar 0) (dRecv isSeqI (.d (dVar 1)) [(dVar 3)] indexF)))])) sNil)
def s__law_cut : PP.Sem := runF [] 1 d__law_cut
theorem b__law_cut {X : Cx} (c : Cn X N__law_cut (defScope (top 38)).names (defScope (top 38)).names 0) (g : GF X.mg FREE INTS) : VSs X [] (defBody (top 38)) d__law_cut := by
  have v1_2 := fun pos => c.var (i := 2) (x := ("_law_some_here" : Str)) (by decide +kernel) pos
  have b1_tuple := c.bi g (x := ("tuple" : Str)) (v := .type "tuple") (by decide +kernel)
  exact (vss_cons (vs_ret (b1_tuple.appTy cr_tupleF rfl (vab_d rfl (vf_ve (c.vf (c.lc (own := [(("_law_variable" : Str), 3)]) (vi_seq (ve_var (v1_2 _))) (by decide +kernel) rfl (by decide) (fun _ => rfl) (fun _ _ _ _ _ c2 => by (have v2_1 := fun pos => c2.var (i := 1) (x := ("_law_scope" : Str)) (by decide +kernel) pos; have v2_3 := fun pos => c2.var (i := 3) (x := ("_law_variable" : Str)) (by decide +kernel) pos; have v2_0 := fun pos => c2.var (i := 0) (x := ("_law_row" : Str)) (by decide +kernel) pos; have t2_3 := fun pos => c2.tgt (i := 3) (x := ("_law_variable" : Str)) (by decide +kernel) pos; exact ⟨(t2_3 _), vts_nil, (ve_sub c2.hu1 (plainIx trivial) (ve_var (v2_0 _)) (ve_meth (m_index c2.hu65) (mcall rfl rfl (by decide) (by decide +kernel)) (.d (ve_var (v2_1 _))) (va_cons rfl (ve_var (v2_3 _)) va_nil)))⟩))))) vab_nil))) vss_nil)
/-! is_number -/
def N_is_number : List Str := ["value", "low", "high"]
def d_is_number : DenS := (sSeq (sRet (dAndV (dIsI .int (.d (dVar 0))) (dAndV (dUn notF (dIsI .bool (.d (dVar 0)))) (dChain leF leF (dVar 1) (dVar 0) (dVar 2))))) sNil)
def s_is_number : PP.Sem := runF [] 0 d_is_number
theorem b_is_number {X : Cx} (c : Cn X N_is_number (defScope (top 16)).names (defScope (top 16)).names 0) (g : GF X.mg FREE INTS) : VSs X [] (defBody (top 16)) d_is_number := by
  have v1_0 := fun pos => c.var (i := 0) (x := ("value" : Str)) (by decide +kernel) pos
  have v1_1 := fun pos => c.var (i := 1) (x := ("low" : Str)) (by decide +kernel) pos
  have v1_2 := fun pos => c.var (i := 2) (x := ("high" : Str)) (by decide +kernel) pos
  have b1_isinstance := c.bi g (x := ("isinstance" : Str)) (v := .builtin "isinstance") (by decide +kernel)
  have b1_int := c.bi g (x := ("int" : Str)) (v := .type "int") (by decide +kernel)
  have b1_bool := c.bi g (x := ("bool" : Str)) (v := .type "bool") (by decide +kernel)
  exact (vss_cons (vs_ret (ve_and (b1_isinstance.isi (ty := .int) b1_int rfl (.d (ve_var (v1_0 _)))) (ve_and (ve_not (b1_isinstance.isi (ty := .bool) b1_bool rfl (.d (ve_var (v1_0 _))))) (ve_one (ve_chain op_leF op_leF (ve_var (v1_1 _)) (ve_var (v1_0 _)) (ve_var (v1_2 _)) rfl))))) vss_nil)
/-! is_whole -/
def N_is_whole : List Str := ["value", "low", "high"]
def d_is_whole : DenS := (sSeq (sRet (dAndV (dIsI .int (.d (dVar 0))) (dAndV (dUn notF (dIsI .bool (.d (dVar 0)))) (dChain leF leF (dVar 1) (dVar 0) (dVar 2))))) sNil)
def s_is_whole : PP.Sem := runF [] 0 d_is_whole
theorem b_is_whole {X : Cx} (c : Cn X N_is_whole (defScope (top 7)).names (defScope (top 7)).names 0) (g : GF X.mg FREE INTS) : VSs X [] (defBody (top 7)) d_is_whole := by
  have v1_0 := fun pos => c.var (i := 0) (x := ("value" : Str)) (by decide +kernel) pos
  have v1_1 := fun pos => c.var (i := 1) (x := ("low" : Str)) (by decide +kernel) pos
  have v1_2 := fun pos => c.var (i := 2) (x := ("high" : Str)) (by decide +kernel) pos
  have b1_isinstance := c.bi g (x := ("isinstance" : Str)) (v := .builtin "isinstance") (by decide +kernel)
  have b1_int := c.bi g (x := ("int" : Str)) (v := .type "int") (by decide +kernel)
  have b1_bool := c.bi g (x := ("bool" : Str)) (v := .type "bool") (by decide +kernel)
  exact (vss_cons (vs_ret (ve_and (b1_isinstance.isi (ty := .int) b1_int rfl (.d (ve_var (v1_0 _)))) (ve_and (ve_not (b1_isinstance.isi (ty := .bool) b1_bool rfl (.d (ve_var (v1_0 _))))) (ve_one (ve_chain op_leF op_leF (ve_var (v1_1 _)) (ve_var (v1_0 _)) (ve_var (v1_2 _)) rfl))))) vss_nil)
/-! is_climbing -/
def N_is_climbing : List Str := ["value", "at"]
def d_is_climbing : DenS := (sSeq (sRet (dApp allF [.d (dLC (iRange [(dBin subF (dApp lenF [.d (dVar 0)]) (dC (.int 1)))]) [1] (.nm 1) dYes (dBin ltF (dBin getF (dVar 0) (dVar 1)) (dBin getF (dVar 0) (dBin addF (dVar 1) (dC (.int 1))))))])) sNil)
def s_is_climbing : PP.Sem := runF [] 1 d_is_climbing
theorem b_is_climbing {X : Cx} (c : Cn X N_is_climbing (defScope (top 8)).names (defScope (top 8)).names 0) (g : GF X.mg FREE INTS) : VSs X [] (defBody (top 8)) d_is_climbing := by
  have v1_0 := fun pos => c.var (i := 0) (x := ("value" : Str)) (by decide +kernel) pos
  have b1_range := c.bi g (x := ("range" : Str)) (v := .type "range") (by decide +kernel)
  have b1_len := c.bi g (x := ("len" : Str)) (v := .builtin "len") (by decide +kernel)
  have b1_all := c.bi g (x := ("all" : Str)) (v := .builtin "all") (by decide +kernel)
  exact (vss_cons (vs_ret (b1_all.app (cr_allF c.calm) rfl (vab_d rfl (vf_ve (c.vf (c.lc (own := [(("at" : Str), 1)]) (b1_range.range1 rfl (ve_bin op_subF (b1_len.app cr_lenF rfl (vab_d rfl (ve_var (v1_0 _)) vab_nil)) pe_iv)) (by decide +kernel) rfl (by decide) (fun _ => rfl) (fun _ _ _ _ _ c2 => by (have v2_1 := fun pos => c2.var (i := 1) (x := ("at" : Str)) (by decide +kernel) pos; have v2_0 := fun pos => c2.var (i := 0) (x := ("value" : Str)) (by decide +kernel) pos; have t2_1 := fun pos => c2.tgt (i := 1) (x := ("at" : Str)) (by decide +kernel) pos; exact ⟨(t2_1 _), vts_nil, (ve_cmp (op_ltF c2.hu0) rfl (ve_sub c2.hu1 (plainIx trivial) (ve_var (v2_0 _)) (ve_var (v2_1 _))) (ve_sub c2.hu1 (plainIx trivial) (ve_var (v2_0 _)) (ve_bin op_addF (ve_var (v2_1 _)) pe_iv)))⟩))))) vab_nil))) vss_nil)
/-! are_variables -/
def N_are_variables : List Str := ["value", "one"]
def d_are_variables : DenS := (sSeq (sIf (dOr (dNot (dTruth (.d (dIsI .tuple (.d (dVar 0)))))) (dNot (dTruth (.d (dApp allF [.d (dLC (iSeq (dVar 0)) [1] (.nm 1) dYes (dCall s_is_whole [.d (dVar 1), .d (dC (.int 0)), .d (dC (.int 5))]))]))))) (sSeq (sRet (dC (.bl false))) sNil) sNil) (sSeq (sRet (dCall s_is_climbing [.d (dVar 0)])) sNil))
def s_are_variables : PP.Sem := runF [] 1 d_are_variables
theorem b_are_variables {X : Cx} (c : Cn X N_are_variables (defScope (top 9)).names (defScope (top 9)).names 1) (g : GF X.mg FREE INTS) (f_is_climbing : FavX X 1 "is_climbing" 1 [] s_is_climbing) (f_is_whole : FavX X 1 "is_whole" 3 [] s_is_whole) : VSs X [] (defBody (top 9)) d_are_variables := by
  have v1_0 := fun pos => c.var (i := 0) (x := ("value" : Str)) (by decide +kernel) pos
  have b1_isinstance := c.bi g (x := ("isinstance" : Str)) (v := .builtin "isinstance") (by decide +kernel)
  have b1_tuple := c.bi g (x := ("tuple" : Str)) (v := .type "tuple") (by decide +kernel)
  have b1_all := c.bi g (x := ("all" : Str)) (v := .builtin "all") (by decide +kernel)
  exact (vss_cons (vs_if (PW.pt (vw_or (vt_not (vt_truth (fun _ => rfl) (.d (b1_isinstance.isi (ty := .tuple) b1_tuple rfl (.d (ve_var (v1_0 _))))))) (vw_or1 (vt_not (vt_truth (fun _ => rfl) (.d (b1_all.app (cr_allF c.calm) rfl (vab_d rfl (vf_ve (c.vf (c.lc (own := [(("one" : Str), 1)]) (vi_seq (ve_var (v1_0 _))) (by decide +kernel) rfl (by decide) (fun _ => rfl) (fun _ _ _ _ _ c2 => by (have v2_1 := fun pos => c2.var (i := 1) (x := ("one" : Str)) (by decide +kernel) pos; have i2_MOST_VARIABLE := fun pos => c2.int g (x := ("MOST_VARIABLE" : Str)) (i := 5) (by decide +kernel) pos; have t2_1 := fun pos => c2.tgt (i := 1) (x := ("one" : Str)) (by decide +kernel) pos; exact ⟨(t2_1 _), vts_nil, (c2.call f_is_whole (by decide) (by decide +kernel) rfl (by rfl) (by decide) (by rfl) (vc_d rfl (ve_var (v2_1 _)) (vc_d rfl pe_iv (vc_d rfl (i2_MOST_VARIABLE _) vc_nil))))⟩))))) vab_nil)))))))) (vss_cons (vs_ret pe_bv) vss_nil) vss_nil) (vss_cons (vs_ret (c.call f_is_climbing (by decide) (by decide +kernel) rfl (by rfl) (by decide) (by rfl) (vc_d rfl (ve_var (v1_0 _)) vc_nil))) vss_nil))
/-! is_scope -/
def N_is_scope : List Str := ["value"]
def d_is_scope : DenS := (sSeq (sRet (dAndV (dCall s_are_variables [.d (dVar 0)]) (dBin leF (dApp lenF [.d (dVar 0)]) (dC (.int 3))))) sNil)
def s_is_scope : PP.Sem := runF [] 0 d_is_scope
theorem b_is_scope {X : Cx} (c : Cn X N_is_scope (defScope (top 10)).names (defScope (top 10)).names 2) (g : GF X.mg FREE INTS) (f_are_variables : FavX X 2 "are_variables" 1 [] s_are_variables) : VSs X [] (defBody (top 10)) d_is_scope := by
  have v1_0 := fun pos => c.var (i := 0) (x := ("value" : Str)) (by decide +kernel) pos
  have b1_len := c.bi g (x := ("len" : Str)) (v := .builtin "len") (by decide +kernel)
  have i1_WIDEST_SCOPE := fun pos => c.int g (x := ("WIDEST_SCOPE" : Str)) (i := 3) (by decide +kernel) pos
  exact (vss_cons (vs_ret (ve_and (c.call f_are_variables (by decide) (by decide +kernel) rfl (by rfl) (by decide) (by rfl) (vc_d rfl (ve_var (v1_0 _)) vc_nil)) (ve_one (ve_cmp op_leF rfl (b1_len.app cr_lenF rfl (vab_d rfl (ve_var (v1_0 _)) vab_nil)) (i1_WIDEST_SCOPE _))))) vss_nil)
/-! is_edge -/
def N_is_edge : List Str := ["value", "many", "one"]
def d_is_edge : DenS := (sSeq (sIf (dOr (dNot (dTruth (.d (dIsI .tuple (.d (dVar 0)))))) (dOr (dB (dBin neF (dApp lenF [.d (dVar 0)]) (dC (.int 2)))) (dNot (dTruth (.d (dApp allF [.d (dLC (iSeq (dVar 0)) [2] (.nm 2) dYes (dCall s_is_number [.d (dVar 2), .d (dC (.int 0)), .d (dBin subF (dVar 1) (dC (.int 1)))]))])))))) (sSeq (sRet (dC (.bl false))) sNil) sNil) (sSeq (sRet (dBin ltF (dBin getF (dVar 0) (dC (.int 0))) (dBin getF (dVar 0) (dC (.int 1))))) sNil))
def s_is_edge : PP.Sem := runF [] 1 d_is_edge
theorem b_is_edge {X : Cx} (c : Cn X N_is_edge (defScope (top 17)).names (defScope (top 17)).names 1) (g : GF X.mg FREE INTS) (f_is_number : FavX X 1 "is_number" 3 [] s_is_number) : VSs X [] (defBody (top 17)) d_is_edge := by
  have v1_0 := fun pos => c.var (i := 0) (x := ("value" : Str)) (by decide +kernel) pos
  have b1_isinstance := c.bi g (x := ("isinstance" : Str)) (v := .builtin "isinstance") (by decide +kernel)
  have b1_tuple := c.bi g (x := ("tuple" : Str)) (v := .type "tuple") (by decide +kernel)
  have b1_len := c.bi g (x := ("len" : Str)) (v := .builtin "len") (by decide +kernel)
  have b1_all := c.bi g (x := ("all" : Str)) (v := .builtin "all") (by decide +kernel)
  exact (vss_cons (vs_if (PW.pt (vw_or (vt_not (vt_truth (fun _ => rfl) (.d (b1_isinstance.isi (ty := .tuple) b1_tuple rfl (.d (ve_var (v1_0 _))))))) (vw_or (vt_cmp (op_neF c.hu64) rfl (b1_len.app cr_lenF rfl (vab_d rfl (ve_var (v1_0 _)) vab_nil)) pe_iv) (vw_or1 (vt_not (vt_truth (fun _ => rfl) (.d (b1_all.app (cr_allF c.calm) rfl (vab_d rfl (vf_ve (c.vf (c.lc (own := [(("one" : Str), 2)]) (vi_seq (ve_var (v1_0 _))) (by decide +kernel) rfl (by decide) (fun _ => rfl) (fun _ _ _ _ _ c2 => by (have v2_1 := fun pos => c2.var (i := 1) (x := ("many" : Str)) (by decide +kernel) pos; have v2_2 := fun pos => c2.var (i := 2) (x := ("one" : Str)) (by decide +kernel) pos; have t2_2 := fun pos => c2.tgt (i := 2) (x := ("one" : Str)) (by decide +kernel) pos; exact ⟨(t2_2 _), vts_nil, (c2.call f_is_number (by decide) (by decide +kernel) rfl (by rfl) (by decide) (by rfl) (vc_d rfl (ve_var (v2_2 _)) (vc_d rfl pe_iv (vc_d rfl (ve_bin op_subF (ve_var (v2_1 _)) pe_iv) vc_nil))))⟩))))) vab_nil))))))))) (vss_cons (vs_ret pe_bv) vss_nil) vss_nil) (vss_cons (vs_ret (ve_cmp (op_ltF c.hu0) rfl (ve_sub c.hu1 (plainIx trivial) (ve_var (v1_0 _)) pe_iv) (ve_sub c.hu1 (plainIx trivial) (ve_var (v1_0 _)) pe_iv))) vss_nil))
/-! is_graph -/
def N_is_graph : List Str := ["value", "values", "scopes", "edges", "one", "edge", "at"]
def d_is_graph : DenS := (sSeq (sIf (dOr (dNot (dTruth (.d (dIsI .tuple (.d (dVar 0)))))) (dOr (dB (dBin neF (dApp lenF [.d (dVar 0)]) (dC (.int 3)))) (dNot (dTruth (.d (dCall s_is_number [.d (dBin getF (dVar 0) (dC (.int 0))), .d (dC (.int 2)), .d (dC (.int 3))])))))) (sSeq (sRet (dC (.bl false))) sNil) sNil) (sSeq (sAsg (.tp [(.nm 1), (.nm 2), (.nm 3)]) (dVar 0)) (sSeq (sIf (dOr (dNot (dTruth (.d (dIsI .tuple (.d (dVar 2)))))) (dNot (dB (dChain leF leF (dC (.int 1)) (dApp lenF [.d (dVar 2)]) (dC (.int 5)))))) (sSeq (sRet (dC (.bl false))) sNil) sNil) (sSeq (sIf (dNot (dTruth (.d (dApp allF [.d (dLC (iSeq (dVar 2)) [4] (.nm 4) dYes (dCall s_is_scope [.d (dVar 4)]))])))) (sSeq (sRet (dC (.bl false))) sNil) sNil) (sSeq (sIf (dOr (dNot (dTruth (.d (dIsI .tuple (.d (dVar 3)))))) (dNot (dTruth (.d (dApp allF [.d (dLC (iSeq (dVar 3)) [5] (.nm 5) dYes (dCall s_is_edge [.d (dVar 5), .d (dApp lenF [.d (dVar 2)])]))]))))) (sSeq (sRet (dC (.bl false))) sNil) sNil) (sSeq (sRet (dApp allF [.d (dLC (iRange [(dBin subF (dApp lenF [.d (dVar 3)]) (dC (.int 1)))]) [6] (.nm 6) dYes (dBin ltF (dBin getF (dVar 3) (dVar 6)) (dBin getF (dVar 3) (dBin addF (dVar 6) (dC (.int 1))))))])) sNil))))))
def s_is_graph : PP.Sem := runF [] 6 d_is_graph
theorem b_is_graph {X : Cx} (c : Cn X N_is_graph (defScope (top 18)).names (defScope (top 18)).names 3) (g : GF X.mg FREE INTS) (f_is_edge : FavX X 2 "is_edge" 2 [] s_is_edge) (f_is_scope : FavX X 3 "is_scope" 1 [] s_is_scope) (f_is_number : FavX X 1 "is_number" 3 [] s_is_number) : VSs X [] (defBody (top 18)) d_is_graph := by
  have v1_3 := fun pos => c.var (i := 3) (x := ("edges" : Str)) (by decide +kernel) pos
  have v1_2 := fun pos => c.var (i := 2) (x := ("scopes" : Str)) (by decide +kernel) pos
  have v1_0 := fun pos => c.var (i := 0) (x := ("value" : Str)) (by decide +kernel) pos
  have b1_range := c.bi g (x := ("range" : Str)) (v := .type "range") (by decide +kernel)
  have b1_len := c.bi g (x := ("len" : Str)) (v := .builtin "len") (by decide +kernel)
  have b1_all := c.bi g (x := ("all" : Str)) (v := .builtin "all") (by decide +kernel)
  have b1_isinstance := c.bi g (x := ("isinstance" : Str)) (v := .builtin "isinstance") (by decide +kernel)
  have b1_tuple := c.bi g (x := ("tuple" : Str)) (v := .type "tuple") (by decide +kernel)
  have i1_MOST_NODES := fun pos => c.int g (x := ("MOST_NODES" : Str)) (i := 5) (by decide +kernel) pos
  have t1_3 := fun pos => c.tgt (i := 3) (x := ("edges" : Str)) (by decide +kernel) pos
  have t1_2 := fun pos => c.tgt (i := 2) (x := ("scopes" : Str)) (by decide +kernel) pos
  have t1_1 := fun pos => c.tgt (i := 1) (x := ("values" : Str)) (by decide +kernel) pos
  exact (vss_cons (vs_if (PW.pt (vw_or (vt_not (vt_truth (fun _ => rfl) (.d (b1_isinstance.isi (ty := .tuple) b1_tuple rfl (.d (ve_var (v1_0 _))))))) (vw_or (vt_cmp (op_neF c.hu64) rfl (b1_len.app cr_lenF rfl (vab_d rfl (ve_var (v1_0 _)) vab_nil)) pe_iv) (vw_or1 (vt_not (vt_truth (fun _ => rfl) (.d (c.call f_is_number (by decide) (by decide +kernel) rfl (by rfl) (by decide) (by rfl) (vc_d rfl (ve_sub c.hu1 (plainIx trivial) (ve_var (v1_0 _)) pe_iv) (vc_d rfl pe_iv (vc_d rfl pe_iv vc_nil))))))))))) (vss_cons (vs_ret pe_bv) vss_nil) vss_nil) (vss_cons (vs_asg (refs_tgt (by decide)) (ve_var (v1_0 _)) (vg_tp c.calm rfl rfl (vgs_cons rfl (t1_1 _) (vgs_cons rfl (t1_2 _) (vgs_cons rfl (t1_3 _) vgs_nil)))) rfl rfl rfl) (vss_cons (vs_if (PW.pt (vw_or (vt_not (vt_truth (fun _ => rfl) (.d (b1_isinstance.isi (ty := .tuple) b1_tuple rfl (.d (ve_var (v1_2 _))))))) (vw_or1 (vt_not (vt_chain op_leF op_leF pe_iv (b1_len.app cr_lenF rfl (vab_d rfl (ve_var (v1_2 _)) vab_nil)) (i1_MOST_NODES _) rfl))))) (vss_cons (vs_ret pe_bv) vss_nil) vss_nil) (vss_cons (vs_if (vt_not (vt_truth (fun _ => rfl) (.d (b1_all.app (cr_allF c.calm) rfl (vab_d rfl (vf_ve (c.vf (c.lc (own := [(("one" : Str), 4)]) (vi_seq (ve_var (v1_2 _))) (by decide +kernel) rfl (by decide) (fun _ => rfl) (fun _ _ _ _ _ c4 => by (have v4_4 := fun pos => c4.var (i := 4) (x := ("one" : Str)) (by decide +kernel) pos; have t4_4 := fun pos => c4.tgt (i := 4) (x := ("one" : Str)) (by decide +kernel) pos; exact ⟨(t4_4 _), vts_nil, (c4.call f_is_scope (by decide) (by decide +kernel) rfl (by rfl) (by decide) (by rfl) (vc_d rfl (ve_var (v4_4 _)) vc_nil))⟩))))) vab_nil))))) (vss_cons (vs_ret pe_bv) vss_nil) vss_nil) (vss_cons (vs_if (PW.pt (vw_or (vt_not (vt_truth (fun _ => rfl) (.d (b1_isinstance.isi (ty := .tuple) b1_tuple rfl (.d (ve_var (v1_3 _))))))) (vw_or1 (vt_not (vt_truth (fun _ => rfl) (.d (b1_all.app (cr_allF c.calm) rfl (vab_d rfl (vf_ve (c.vf (c.lc (own := [(("edge" : Str), 5)]) (vi_seq (ve_var (v1_3 _))) (by decide +kernel) rfl (by decide) (fun _ => rfl) (fun _ _ _ _ _ c3 => by (have v3_2 := fun pos => c3.var (i := 2) (x := ("scopes" : Str)) (by decide +kernel) pos; have v3_5 := fun pos => c3.var (i := 5) (x := ("edge" : Str)) (by decide +kernel) pos; have b3_len := c3.bi g (x := ("len" : Str)) (v := .builtin "len") (by decide +kernel); have t3_5 := fun pos => c3.tgt (i := 5) (x := ("edge" : Str)) (by decide +kernel) pos; exact ⟨(t3_5 _), vts_nil, (c3.call f_is_edge (by decide) (by decide +kernel) rfl (by rfl) (by decide) (by rfl) (vc_d rfl (ve_var (v3_5 _)) (vc_d rfl (b3_len.app cr_lenF rfl (vab_d rfl (ve_var (v3_2 _)) vab_nil)) vc_nil)))⟩))))) vab_nil)))))))) (vss_cons (vs_ret pe_bv) vss_nil) vss_nil) (vss_cons (vs_ret (b1_all.app (cr_allF c.calm) rfl (vab_d rfl (vf_ve (c.vf (c.lc (own := [(("at" : Str), 6)]) (b1_range.range1 rfl (ve_bin op_subF (b1_len.app cr_lenF rfl (vab_d rfl (ve_var (v1_3 _)) vab_nil)) pe_iv)) (by decide +kernel) rfl (by decide) (fun _ => rfl) (fun _ _ _ _ _ c2 => by (have v2_6 := fun pos => c2.var (i := 6) (x := ("at" : Str)) (by decide +kernel) pos; have v2_3 := fun pos => c2.var (i := 3) (x := ("edges" : Str)) (by decide +kernel) pos; have t2_6 := fun pos => c2.tgt (i := 6) (x := ("at" : Str)) (by decide +kernel) pos; exact ⟨(t2_6 _), vts_nil, (ve_cmp (op_ltF c2.hu0) rfl (ve_sub c2.hu1 (plainIx trivial) (ve_var (v2_3 _)) (ve_var (v2_6 _))) (ve_sub c2.hu1 (plainIx trivial) (ve_var (v2_3 _)) (ve_bin op_addF (ve_var (v2_6 _)) pe_iv)))⟩))))) vab_nil))) vss_nil))))))
/-! check_graph -/
def N_check_graph : List Str := ["graph"]
def d_check_graph : DenS := (sSeq (sIf (dNot (dTruth (.d (dCall s_is_graph [.d (dVar 0)])))) (sSeq sNever sNil) sNil) sNil)
def s_check_graph : PP.Sem := runF [] 0 d_check_graph
theorem b_check_graph {X : Cx} (c : Cn X N_check_graph (defScope (top 22)).names (defScope (top 22)).names 4) (g : GF X.mg FREE INTS) (f_is_graph : FavX X 4 "is_graph" 1 [] s_is_graph) : VSs X [] (defBody (top 22)) d_check_graph := by
  have v1_0 := fun pos => c.var (i := 0) (x := ("graph" : Str)) (by decide +kernel) pos
  exact (vss_cons (vs_if (vt_not (vt_truth (fun _ => rfl) (.d (c.call f_is_graph (by decide) (by decide +kernel) rfl (by rfl) (by decide) (by rfl) (vc_d rfl (ve_var (v1_0 _)) vc_nil))))) (vss_cons vs_never vss_nil) vss_nil) vss_nil)
/-! is_row -/
def N_is_row : List Str := ["values", "some", "value", "one"]
def d_is_row : DenS := (sSeq (sIf (dOr (dNot (dTruth (.d (dIsI .tuple (.d (dVar 2)))))) (dB (dBin neF (dApp lenF [.d (dVar 2)]) (dApp lenF [.d (dVar 1)])))) (sSeq (sRet (dC (.bl false))) sNil) sNil) (sSeq (sRet (dApp allF [.d (dLC (iSeq (dVar 2)) [3] (.nm 3) dYes (dCall s_is_whole [.d (dVar 3), .d (dC (.int 0)), .d (dBin subF (dVar 0) (dC (.int 1)))]))])) sNil))
def s_is_row : PP.Sem := runF [] 1 d_is_row
theorem b_is_row {X : Cx} (c : Cn X N_is_row (defScope (top 11)).names (defScope (top 11)).names 1) (g : GF X.mg FREE INTS) (f_is_whole : FavX X 1 "is_whole" 3 [] s_is_whole) : VSs X [] (defBody (top 11)) d_is_row := by
  have v1_2 := fun pos => c.var (i := 2) (x := ("value" : Str)) (by decide +kernel) pos
  have v1_1 := fun pos => c.var (i := 1) (x := ("some" : Str)) (by decide +kernel) pos
  have b1_all := c.bi g (x := ("all" : Str)) (v := .builtin "all") (by decide +kernel)
  have b1_isinstance := c.bi g (x := ("isinstance" : Str)) (v := .builtin "isinstance") (by decide +kernel)
  have b1_tuple := c.bi g (x := ("tuple" : Str)) (v := .type "tuple") (by decide +kernel)
  have b1_len := c.bi g (x := ("len" : Str)) (v := .builtin "len") (by decide +kernel)
  exact (vss_cons (vs_if (PW.pt (vw_or (vt_not (vt_truth (fun _ => rfl) (.d (b1_isinstance.isi (ty := .tuple) b1_tuple rfl (.d (ve_var (v1_2 _))))))) (vw_or1 (vt_cmp (op_neF c.hu64) rfl (b1_len.app cr_lenF rfl (vab_d rfl (ve_var (v1_2 _)) vab_nil)) (b1_len.app cr_lenF rfl (vab_d rfl (ve_var (v1_1 _)) vab_nil)))))) (vss_cons (vs_ret pe_bv) vss_nil) vss_nil) (vss_cons (vs_ret (b1_all.app (cr_allF c.calm) rfl (vab_d rfl (vf_ve (c.vf (c.lc (own := [(("one" : Str), 3)]) (vi_seq (ve_var (v1_2 _))) (by decide +kernel) rfl (by decide) (fun _ => rfl) (fun _ _ _ _ _ c2 => by (have v2_0 := fun pos => c2.var (i := 0) (x := ("values" : Str)) (by decide +kernel) pos; have v2_3 := fun pos => c2.var (i := 3) (x := ("one" : Str)) (by decide +kernel) pos; have t2_3 := fun pos => c2.tgt (i := 3) (x := ("one" : Str)) (by decide +kernel) pos; exact ⟨(t2_3 _), vts_nil, (c2.call f_is_whole (by decide) (by decide +kernel) rfl (by rfl) (by decide) (by rfl) (vc_d rfl (ve_var (v2_3 _)) (vc_d rfl pe_iv (vc_d rfl (ve_bin op_subF (ve_var (v2_0 _)) pe_iv) vc_nil))))⟩))))) vab_nil))) vss_nil))
/-! is_table -/
def N_is_table : List Str := ["values", "scope", "value", "pair"]
def d_is_table : DenS := (sSeq (sIf (dNot (dTruth (.d (dIsI .tuple (.d (dVar 2)))))) (sSeq (sRet (dC (.bl false))) sNil) sNil) (sSeq (sFor (iSeq (dVar 2)) (.nm 3) (sSeq (sIf (dOr (dNot (dTruth (.d (dIsI .tuple (.d (dVar 3)))))) (dOr (dB (dBin neF (dApp lenF [.d (dVar 3)]) (dC (.int 2)))) (dNot (dTruth (.d (dCall s_is_row [.d (dVar 0), .d (dVar 1), .d (dBin getF (dVar 3) (dC (.int 0)))])))))) (sSeq (sRet (dC (.bl false))) sNil) sNil) (sSeq (sIf (dNot (dTruth (.d (dCall s_is_whole [.d (dBin getF (dVar 3) (dC (.int 1))), .d (dC (.int 0)), .d (dC (.int 100))])))) (sSeq (sRet (dC (.bl false))) sNil) sNil) sNil))) (sSeq (sRet (dCall s_is_climbing [.d (dLC (iSeq (dVar 2)) [3] (.nm 3) dYes (dBin getF (dVar 3) (dC (.int 0))))])) sNil)))
def s_is_table : PP.Sem := runF [] 1 d_is_table
theorem b_is_table {X : Cx} (c : Cn X N_is_table (defScope (top 12)).names (defScope (top 12)).names 2) (g : GF X.mg FREE INTS) (f_is_climbing : FavX X 1 "is_climbing" 1 [] s_is_climbing) (f_is_whole : FavX X 1 "is_whole" 3 [] s_is_whole) (f_is_row : FavX X 2 "is_row" 3 [] s_is_row) : VSs X [] (defBody (top 12)) d_is_table := by
  have v1_2 := fun pos => c.var (i := 2) (x := ("value" : Str)) (by decide +kernel) pos
  have v1_3 := fun pos => c.var (i := 3) (x := ("pair" : Str)) (by decide +kernel) pos
  have v1_1 := fun pos => c.var (i := 1) (x := ("scope" : Str)) (by decide +kernel) pos
  have v1_0 := fun pos => c.var (i := 0) (x := ("values" : Str)) (by decide +kernel) pos
  have b1_isinstance := c.bi g (x := ("isinstance" : Str)) (v := .builtin "isinstance") (by decide +kernel)
  have b1_tuple := c.bi g (x := ("tuple" : Str)) (v := .type "tuple") (by decide +kernel)
  have b1_len := c.bi g (x := ("len" : Str)) (v := .builtin "len") (by decide +kernel)
  have i1_MOST_COST := fun pos => c.int g (x := ("MOST_COST" : Str)) (i := 100) (by decide +kernel) pos
  have t1_3 := fun pos => c.tgt (i := 3) (x := ("pair" : Str)) (by decide +kernel) pos
  exact (vss_cons (vs_if (vt_not (vt_truth (fun _ => rfl) (.d (b1_isinstance.isi (ty := .tuple) b1_tuple rfl (.d (ve_var (v1_2 _))))))) (vss_cons (vs_ret pe_bv) vss_nil) vss_nil) (vss_cons (vs_for c.xe c.calm (refs_tgt (by decide)) (vi_seq (ve_var (v1_2 _))) (t1_3 _) (vss_cons (vs_if (PW.pt (vw_or (vt_not (vt_truth (fun _ => rfl) (.d (b1_isinstance.isi (ty := .tuple) b1_tuple rfl (.d (ve_var (v1_3 _))))))) (vw_or (vt_cmp (op_neF c.hu64) rfl (b1_len.app cr_lenF rfl (vab_d rfl (ve_var (v1_3 _)) vab_nil)) pe_iv) (vw_or1 (vt_not (vt_truth (fun _ => rfl) (.d (c.call f_is_row (by decide) (by decide +kernel) rfl (by rfl) (by decide) (by rfl) (vc_d rfl (ve_var (v1_0 _)) (vc_d rfl (ve_var (v1_1 _)) (vc_d rfl (ve_sub c.hu1 (plainIx trivial) (ve_var (v1_3 _)) pe_iv) vc_nil))))))))))) (vss_cons (vs_ret pe_bv) vss_nil) vss_nil) (vss_cons (vs_if (vt_not (vt_truth (fun _ => rfl) (.d (c.call f_is_whole (by decide) (by decide +kernel) rfl (by rfl) (by decide) (by rfl) (vc_d rfl (ve_sub c.hu1 (plainIx trivial) (ve_var (v1_3 _)) pe_iv) (vc_d rfl pe_iv (vc_d rfl (i1_MOST_COST _) vc_nil))))))) (vss_cons (vs_ret pe_bv) vss_nil) vss_nil) vss_nil)) (fun _ => rfl)) (vss_cons (vs_ret (c.call f_is_climbing (by decide) (by decide +kernel) rfl (by rfl) (by decide) (by rfl) (vc_d rfl (vf_ve (c.vf (c.lc (own := [(("pair" : Str), 3)]) (vi_seq (ve_var (v1_2 _))) (by decide +kernel) rfl (by decide) (fun _ => rfl) (fun _ _ _ _ _ c2 => by (have v2_3 := fun pos => c2.var (i := 3) (x := ("pair" : Str)) (by decide +kernel) pos; have t2_3 := fun pos => c2.tgt (i := 3) (x := ("pair" : Str)) (by decide +kernel) pos; exact ⟨(t2_3 _), vts_nil, (ve_sub c2.hu1 (plainIx trivial) (ve_var (v2_3 _)) pe_iv)⟩))))) vc_nil))) vss_nil)))
/-! are_tables -/
def N_are_tables : List Str := ["graph", "value", "scope", "table"]
def d_are_tables : DenS := (sSeq (sIf (dOr (dNot (dTruth (.d (dIsI .tuple (.d (dVar 1)))))) (dB (dBin neF (dApp lenF [.d (dVar 1)]) (dApp lenF [.d (dBin getF (dVar 0) (dC (.int 1)))])))) (sSeq (sRet (dC (.bl false))) sNil) sNil) (sSeq (sRet (dApp allF [.d (dLC (iZip2 (dBin getF (dVar 0) (dC (.int 1))) (dVar 1)) [2, 3] (.tp [(.nm 2), (.nm 3)]) dYes (dCall s_is_table [.d (dBin getF (dVar 0) (dC (.int 0))), .d (dVar 2), .d (dVar 3)]))])) sNil))
def s_are_tables : PP.Sem := runF [] 2 d_are_tables
theorem b_are_tables {X : Cx} (c : Cn X N_are_tables (defScope (top 19)).names (defScope (top 19)).names 3) (g : GF X.mg FREE INTS) (f_is_table : FavX X 3 "is_table" 3 [] s_is_table) : VSs X [] (defBody (top 19)) d_are_tables := by
  have v1_0 := fun pos => c.var (i := 0) (x := ("graph" : Str)) (by decide +kernel) pos
  have v1_1 := fun pos => c.var (i := 1) (x := ("value" : Str)) (by decide +kernel) pos
  have b1_zip := c.bi g (x := ("zip" : Str)) (v := .type "zip") (by decide +kernel)
  have b1_all := c.bi g (x := ("all" : Str)) (v := .builtin "all") (by decide +kernel)
  have b1_isinstance := c.bi g (x := ("isinstance" : Str)) (v := .builtin "isinstance") (by decide +kernel)
  have b1_tuple := c.bi g (x := ("tuple" : Str)) (v := .type "tuple") (by decide +kernel)
  have b1_len := c.bi g (x := ("len" : Str)) (v := .builtin "len") (by decide +kernel)
  exact (vss_cons (vs_if (PW.pt (vw_or (vt_not (vt_truth (fun _ => rfl) (.d (b1_isinstance.isi (ty := .tuple) b1_tuple rfl (.d (ve_var (v1_1 _))))))) (vw_or1 (vt_cmp (op_neF c.hu64) rfl (b1_len.app cr_lenF rfl (vab_d rfl (ve_var (v1_1 _)) vab_nil)) (b1_len.app cr_lenF rfl (vab_d rfl (ve_sub c.hu1 (plainIx trivial) (ve_var (v1_0 _)) pe_iv) vab_nil)))))) (vss_cons (vs_ret pe_bv) vss_nil) vss_nil) (vss_cons (vs_ret (b1_all.app (cr_allF c.calm) rfl (vab_d rfl (vf_ve (c.vf (c.lc (own := [(("scope" : Str), 2), (("table" : Str), 3)]) (b1_zip.zip rfl rfl (ve_sub c.hu1 (plainIx trivial) (ve_var (v1_0 _)) pe_iv) (ve_var (v1_1 _))) (by decide +kernel) rfl (by decide) (fun _ => rfl) (fun _ _ _ _ _ c2 => by (have v2_3 := fun pos => c2.var (i := 3) (x := ("table" : Str)) (by decide +kernel) pos; have v2_2 := fun pos => c2.var (i := 2) (x := ("scope" : Str)) (by decide +kernel) pos; have v2_0 := fun pos => c2.var (i := 0) (x := ("graph" : Str)) (by decide +kernel) pos; have t2_3 := fun pos => c2.tgt (i := 3) (x := ("table" : Str)) (by decide +kernel) pos; have t2_2 := fun pos => c2.tgt (i := 2) (x := ("scope" : Str)) (by decide +kernel) pos; exact ⟨(vg_tp c2.calm rfl rfl (vgs_cons rfl (t2_2 _) (vgs_cons rfl (t2_3 _) vgs_nil))), vts_nil, (c2.call f_is_table (by decide) (by decide +kernel) rfl (by rfl) (by decide) (by rfl) (vc_d rfl (ve_sub c2.hu1 (plainIx trivial) (ve_var (v2_0 _)) pe_iv) (vc_d rfl (ve_var (v2_2 _)) (vc_d rfl (ve_var (v2_3 _)) vc_nil))))⟩))))) vab_nil))) vss_nil))
/-! check_tables -/
def N_check_tables : List Str := ["graph", "tables"]
def d_check_tables : DenS := (sSeq (sDrop (dCall s_check_graph [.d (dVar 0)])) (sSeq (sIf (dNot (dTruth (.d (dCall s_are_tables [.d (dVar 0), .d (dVar 1)])))) (sSeq sNever sNil) sNil) sNil))
def s_check_tables : PP.Sem := runF [] 0 d_check_tables
theorem b_check_tables {X : Cx} (c : Cn X N_check_tables (defScope (top 23)).names (defScope (top 23)).names 5) (g : GF X.mg FREE INTS) (f_are_tables : FavX X 4 "are_tables" 2 [] s_are_tables) (f_check_graph : FavX X 5 "check_graph" 1 [] s_check_graph) : VSs X [] (defBody (top 23)) d_check_tables := by
  have v1_1 := fun pos => c.var (i := 1) (x := ("tables" : Str)) (by decide +kernel) pos
  have v1_0 := fun pos => c.var (i := 0) (x := ("graph" : Str)) (by decide +kernel) pos
  exact (vss_cons (vs_drop rfl (c.call f_check_graph (by decide) (by decide +kernel) rfl (by rfl) (by decide) (by rfl) (vc_d rfl (ve_var (v1_0 _)) vc_nil))) (vss_cons (vs_if (vt_not (vt_truth (fun _ => rfl) (.d (c.call f_are_tables (by decide) (by decide +kernel) rfl (by rfl) (by decide) (by rfl) (vc_d rfl (ve_var (v1_0 _)) (vc_d rfl (ve_var (v1_1 _)) vc_nil)))))) (vss_cons vs_never vss_nil) vss_nil) vss_nil))
/-! is_row_of -/
def N_is_row_of : List Str := ["values", "value", "many", "one"]
def d_is_row_of : DenS := (sSeq (sIf (dOr (dNot (dTruth (.d (dIsI .tuple (.d (dVar 1)))))) (dB (dBin neF (dApp lenF [.d (dVar 1)]) (dVar 2)))) (sSeq (sRet (dC (.bl false))) sNil) sNil) (sSeq (sRet (dApp allF [.d (dLC (iSeq (dVar 1)) [3] (.nm 3) dYes (dCall s_is_number [.d (dVar 3), .d (dC (.int 0)), .d (dBin subF (dVar 0) (dC (.int 1)))]))])) sNil))
def s_is_row_of : PP.Sem := runF [] 1 d_is_row_of
theorem b_is_row_of {X : Cx} (c : Cn X N_is_row_of (defScope (top 24)).names (defScope (top 24)).names 1) (g : GF X.mg FREE INTS) (f_is_number : FavX X 1 "is_number" 3 [] s_is_number) : VSs X [] (defBody (top 24)) d_is_row_of := by
  have v1_1 := fun pos => c.var (i := 1) (x := ("value" : Str)) (by decide +kernel) pos
  have v1_2 := fun pos => c.var (i := 2) (x := ("many" : Str)) (by decide +kernel) pos
  have b1_all := c.bi g (x := ("all" : Str)) (v := .builtin "all") (by decide +kernel)
  have b1_isinstance := c.bi g (x := ("isinstance" : Str)) (v := .builtin "isinstance") (by decide +kernel)
  have b1_tuple := c.bi g (x := ("tuple" : Str)) (v := .type "tuple") (by decide +kernel)
  have b1_len := c.bi g (x := ("len" : Str)) (v := .builtin "len") (by decide +kernel)
  exact (vss_cons (vs_if (PW.pt (vw_or (vt_not (vt_truth (fun _ => rfl) (.d (b1_isinstance.isi (ty := .tuple) b1_tuple rfl (.d (ve_var (v1_1 _))))))) (vw_or1 (vt_cmp (op_neF c.hu64) rfl (b1_len.app cr_lenF rfl (vab_d rfl (ve_var (v1_1 _)) vab_nil)) (ve_var (v1_2 _)))))) (vss_cons (vs_ret pe_bv) vss_nil) vss_nil) (vss_cons (vs_ret (b1_all.app (cr_allF c.calm) rfl (vab_d rfl (vf_ve (c.vf (c.lc (own := [(("one" : Str), 3)]) (vi_seq (ve_var (v1_1 _))) (by decide +kernel) rfl (by decide) (fun _ => rfl) (fun _ _ _ _ _ c2 => by (have v2_0 := fun pos => c2.var (i := 0) (x := ("values" : Str)) (by decide +kernel) pos; have v2_3 := fun pos => c2.var (i := 3) (x := ("one" : Str)) (by decide +kernel) pos; have t2_3 := fun pos => c2.tgt (i := 3) (x := ("one" : Str)) (by decide +kernel) pos; exact ⟨(t2_3 _), vts_nil, (c2.call f_is_number (by decide) (by decide +kernel) rfl (by rfl) (by decide) (by rfl) (vc_d rfl (ve_var (v2_3 _)) (vc_d rfl pe_iv (vc_d rfl (ve_bin op_subF (ve_var (v2_0 _)) pe_iv) vc_nil))))⟩))))) vab_nil))) vss_nil))
/-! scope_of -/
def N_scope_of : List Str := ["graph", "nodes", "found", "node", "variable"]
def d_scope_of : DenS := (sSeq (sOwn 2 (dC (.dk []))) (sSeq (sFor (iSeq (dVar 1)) (.nm 3) (sSeq (sFor (iSeq (dBin getF (dBin getF (dVar 0) (dC (.int 1))) (dVar 3))) (.nm 4) (sSeq (sStore 2 (dVar 4) (dC (.bl true))) sNil)) sNil)) (sSeq (sRet (dApp tupleF [.d (dApp sortedDF [.b 2])])) sNil)))
def s_scope_of : PP.Sem := runF [] 3 d_scope_of
theorem b_scope_of {X : Cx} (c : Cn X N_scope_of (defScope (top 21)).names (defScope (top 21)).names 0) (g : GF X.mg FREE INTS) : VSs X [] (defBody (top 21)) d_scope_of := by
  have v1_2 := fun pos => c.var (i := 2) (x := ("found" : Str)) (by decide +kernel) pos
  have v1_1 := fun pos => c.var (i := 1) (x := ("nodes" : Str)) (by decide +kernel) pos
  have v1_3 := fun pos => c.var (i := 3) (x := ("node" : Str)) (by decide +kernel) pos
  have v1_0 := fun pos => c.var (i := 0) (x := ("graph" : Str)) (by decide +kernel) pos
  have v1_4 := fun pos => c.var (i := 4) (x := ("variable" : Str)) (by decide +kernel) pos
  have b1_sorted := c.bi g (x := ("sorted" : Str)) (v := .builtin "sorted") (by decide +kernel)
  have b1_tuple := c.bi g (x := ("tuple" : Str)) (v := .type "tuple") (by decide +kernel)
  have t1_3 := fun pos => c.tgt (i := 3) (x := ("node" : Str)) (by decide +kernel) pos
  have t1_4 := fun pos => c.tgt (i := 4) (x := ("variable" : Str)) (by decide +kernel) pos
  exact (vss_cons (c.ownF (by decide) (by decide +kernel) vf_dk rfl) (vss_cons (vs_for c.xe c.calm (refs_tgt (by decide)) (vi_seq (ve_var (v1_1 _))) (t1_3 _) (vss_cons (vs_for c.xe c.calm (refs_tgt (by decide)) (vi_seq (ve_sub c.hu1 (plainIx trivial) (ve_sub c.hu1 (plainIx trivial) (ve_var (v1_0 _)) pe_iv) (ve_var (v1_3 _)))) (t1_4 _) (vss_cons (vs_store c.hu1 (v1_2 _) (ve_var (v1_4 _)) pe_bv rfl rfl rfl (fun _ => rfl)) vss_nil) (fun _ => rfl)) vss_nil) (fun _ => rfl)) (vss_cons (vs_ret (b1_tuple.appTy cr_tupleF rfl (vab_d rfl (b1_sorted.app (cr_sortedDF c.calm) rfl (vab_b rfl (v1_2 _) vab_nil)) vab_nil))) vss_nil)))
/-! variables_of -/
def N_variables_of : List Str := ["graph"]
def d_variables_of : DenS := (sSeq (sRet (dCall s_scope_of [.d (dVar 0), .d (dListRg [(dApp lenF [.d (dBin getF (dVar 0) (dC (.int 1)))])])])) sNil)
def s_variables_of : PP.Sem := runF [] 0 d_variables_of
theorem b_variables_of {X : Cx} (c : Cn X N_variables_of (defScope (top 20)).names (defScope (top 20)).names 1) (g : GF X.mg FREE INTS) (f_scope_of : FavX X 1 "scope_of" 2 [] s_scope_of) : VSs X [] (defBody (top 20)) d_variables_of := by
  have v1_0 := fun pos => c.var (i := 0) (x := ("graph" : Str)) (by decide +kernel) pos
  have b1_range := c.bi g (x := ("range" : Str)) (v := .type "range") (by decide +kernel)
  have b1_len := c.bi g (x := ("len" : Str)) (v := .builtin "len") (by decide +kernel)
  have b1_list := c.bi g (x := ("list" : Str)) (v := .type "list") (by decide +kernel)
  exact (vss_cons (vs_ret (c.call f_scope_of (by decide) (by decide +kernel) rfl (by rfl) (by decide) (by rfl) (vc_d rfl (ve_var (v1_0 _)) (vc_d rfl (vf_ve (b1_list.listRg c.calm rfl (b1_range.prg1 rfl (b1_len.app cr_lenF rfl (vab_d rfl (ve_sub c.hu1 (plainIx trivial) (ve_var (v1_0 _)) pe_iv) vab_nil))))) vc_nil)))) vss_nil)
/-! check_row -/
def N_check_row : List Str := ["graph", "row"]
def d_check_row : DenS := (sSeq (sIf (dNot (dTruth (.d (dCall s_is_row_of [.d (dBin getF (dVar 0) (dC (.int 0))), .d (dVar 1), .d (dApp lenF [.d (dCall s_variables_of [.d (dVar 0)])])])))) (sSeq sNever sNil) sNil) sNil)
def s_check_row : PP.Sem := runF [] 0 d_check_row
theorem b_check_row {X : Cx} (c : Cn X N_check_row (defScope (top 25)).names (defScope (top 25)).names 2) (g : GF X.mg FREE INTS) (f_is_row_of : FavX X 2 "is_row_of" 3 [] s_is_row_of) (f_variables_of : FavX X 2 "variables_of" 1 [] s_variables_of) : VSs X [] (defBody (top 25)) d_check_row := by
  have v1_0 := fun pos => c.var (i := 0) (x := ("graph" : Str)) (by decide +kernel) pos
  have v1_1 := fun pos => c.var (i := 1) (x := ("row" : Str)) (by decide +kernel) pos
  have b1_len := c.bi g (x := ("len" : Str)) (v := .builtin "len") (by decide +kernel)
  exact (vss_cons (vs_if (vt_not (vt_truth (fun _ => rfl) (.d (c.call f_is_row_of (by decide) (by decide +kernel) rfl (by rfl) (by decide) (by rfl) (vc_d rfl (ve_sub c.hu1 (plainIx trivial) (ve_var (v1_0 _)) pe_iv) (vc_d rfl (ve_var (v1_1 _)) (vc_d rfl (b1_len.app cr_lenF rfl (vab_d rfl (c.call f_variables_of (by decide) (by decide +kernel) rfl (by rfl) (by decide) (by rfl) (vc_d rfl (ve_var (v1_0 _)) vc_nil)) vab_nil)) vc_nil))))))) (vss_cons vs_never vss_nil) vss_nil) vss_nil)
/-! cut_to -/
def N_cut_to : List Str := ["row", "some", "kept", "variable", "one"]
def d_cut_to : DenS := (sSeq (sRet (dApp tupleF [.d (dLC (iZip2 (dVar 1) (dVar 0)) [3, 4] (.tp [(.nm 3), (.nm 4)]) (dB (dBin inF (dVar 3) (dVar 2))) (dVar 4))])) sNil)
def s_cut_to : PP.Sem := runF [] 2 d_cut_to
theorem b_cut_to {X : Cx} (c : Cn X N_cut_to (defScope (top 13)).names (defScope (top 13)).names 0) (g : GF X.mg FREE INTS) : VSs X [] (defBody (top 13)) d_cut_to := by
  have v1_1 := fun pos => c.var (i := 1) (x := ("some" : Str)) (by decide +kernel) pos
  have v1_0 := fun pos => c.var (i := 0) (x := ("row" : Str)) (by decide +kernel) pos
  have b1_zip := c.bi g (x := ("zip" : Str)) (v := .type "zip") (by decide +kernel)
  have b1_tuple := c.bi g (x := ("tuple" : Str)) (v := .type "tuple") (by decide +kernel)
  exact (vss_cons (vs_ret (b1_tuple.appTy cr_tupleF rfl (vab_d rfl (vf_ve (c.vf (c.lc (own := [(("variable" : Str), 3), (("one" : Str), 4)]) (b1_zip.zip rfl rfl (ve_var (v1_1 _)) (ve_var (v1_0 _))) (by decide +kernel) rfl (by decide) (fun _ => rfl) (fun _ _ _ _ _ c2 => by (have v2_3 := fun pos => c2.var (i := 3) (x := ("variable" : Str)) (by decide +kernel) pos; have v2_2 := fun pos => c2.var (i := 2) (x := ("kept" : Str)) (by decide +kernel) pos; have v2_4 := fun pos => c2.var (i := 4) (x := ("one" : Str)) (by decide +kernel) pos; have t2_4 := fun pos => c2.tgt (i := 4) (x := ("one" : Str)) (by decide +kernel) pos; have t2_3 := fun pos => c2.tgt (i := 3) (x := ("variable" : Str)) (by decide +kernel) pos; exact ⟨(vg_tp c2.calm rfl rfl (vgs_cons rfl (t2_3 _) (vgs_cons rfl (t2_4 _) vgs_nil))), (vts_one (vt_cmp (op_inF c2.hu65) rfl (ve_var (v2_3 _)) (ve_var (v2_2 _)))), (ve_var (v2_4 _))⟩))))) vab_nil))) vss_nil)
/-! first_rejecting -/
def N_first_rejecting : List Str := ["graph", "tables", "nodes", "row", "some", "node", "part", "own", "price"]
def d_first_rejecting : DenS := (sSeq (sAsg (.nm 4) (dCall s_scope_of [.d (dVar 0), .d (dVar 2)])) (sSeq (sFor (iSeq (dVar 2)) (.nm 5) (sSeq (sAsg (.nm 6) (dCall s_cut_to [.d (dVar 3), .d (dVar 4), .d (dBin getF (dBin getF (dVar 0) (dC (.int 1))) (dVar 5))])) (sSeq (sIf (dNot (dTruth (.d (dApp anyF [.d (dLC (iSeq (dBin getF (dVar 1) (dVar 5))) [7, 8] (.tp [(.nm 7), (.nm 8)]) dYes (dBin eqF (dVar 7) (dVar 6)))])))) (sSeq (sRet (dVar 5)) sNil) sNil) sNil))) (sSeq (sRet (dC .non)) sNil)))
def s_first_rejecting : PP.Sem := runF [] 5 d_first_rejecting
theorem b_first_rejecting {X : Cx} (c : Cn X N_first_rejecting (defScope (top 26)).names (defScope (top 26)).names 1) (g : GF X.mg FREE INTS) (f_cut_to : FavX X 1 "cut_to" 3 [] s_cut_to) (f_scope_of : FavX X 1 "scope_of" 2 [] s_scope_of) : VSs X [] (defBody (top 26)) d_first_rejecting := by
  have v1_2 := fun pos => c.var (i := 2) (x := ("nodes" : Str)) (by decide +kernel) pos
  have v1_5 := fun pos => c.var (i := 5) (x := ("node" : Str)) (by decide +kernel) pos
  have v1_1 := fun pos => c.var (i := 1) (x := ("tables" : Str)) (by decide +kernel) pos
  have v1_0 := fun pos => c.var (i := 0) (x := ("graph" : Str)) (by decide +kernel) pos
  have v1_4 := fun pos => c.var (i := 4) (x := ("some" : Str)) (by decide +kernel) pos
  have v1_3 := fun pos => c.var (i := 3) (x := ("row" : Str)) (by decide +kernel) pos
  have b1_any := c.bi g (x := ("any" : Str)) (v := .builtin "any") (by decide +kernel)
  have t1_5 := fun pos => c.tgt (i := 5) (x := ("node" : Str)) (by decide +kernel) pos
  exact (vss_cons (c.set (by decide) (by decide +kernel) (c.call f_scope_of (by decide) (by decide +kernel) rfl (by rfl) (by decide) (by rfl) (vc_d rfl (ve_var (v1_0 _)) (vc_d rfl (ve_var (v1_2 _)) vc_nil))) rfl) (vss_cons (vs_for c.xe c.calm (refs_tgt (by decide)) (vi_seq (ve_var (v1_2 _))) (t1_5 _) (vss_cons (c.set (by decide) (by decide +kernel) (c.call f_cut_to (by decide) (by decide +kernel) rfl (by rfl) (by decide) (by rfl) (vc_d rfl (ve_var (v1_3 _)) (vc_d rfl (ve_var (v1_4 _)) (vc_d rfl (ve_sub c.hu1 (plainIx trivial) (ve_sub c.hu1 (plainIx trivial) (ve_var (v1_0 _)) pe_iv) (ve_var (v1_5 _))) vc_nil)))) rfl) (vss_cons (vs_if (vt_not (vt_truth (fun _ => rfl) (.d (b1_any.app (cr_anyF c.calm) rfl (vab_d rfl (vf_ve (c.vf (c.lc (own := [(("own" : Str), 7), (("price" : Str), 8)]) (vi_seq (ve_sub c.hu1 (plainIx trivial) (ve_var (v1_1 _)) (ve_var (v1_5 _)))) (by decide +kernel) rfl (by decide) (fun _ => rfl) (fun _ _ _ _ _ c2 => by (have v2_7 := fun pos => c2.var (i := 7) (x := ("own" : Str)) (by decide +kernel) pos; have v2_6 := fun pos => c2.var (i := 6) (x := ("part" : Str)) (by decide +kernel) pos; have t2_8 := fun pos => c2.tgt (i := 8) (x := ("price" : Str)) (by decide +kernel) pos; have t2_7 := fun pos => c2.tgt (i := 7) (x := ("own" : Str)) (by decide +kernel) pos; exact ⟨(vg_tp c2.calm rfl rfl (vgs_cons rfl (t2_7 _) (vgs_cons rfl (t2_8 _) vgs_nil))), vts_nil, (ve_cmp (op_eqF c2.hu64) rfl (ve_var (v2_7 _)) (ve_var (v2_6 _)))⟩))))) vab_nil))))) (vss_cons (vs_ret (ve_var (v1_5 _))) vss_nil) vss_nil) vss_nil)) (fun _ => rfl)) (vss_cons (vs_ret pe_nv) vss_nil)))
/-! rejecting -/
def N_rejecting : List Str := ["graph", "tables", "row"]
def d_rejecting : DenS := (sSeq (sDrop (dCall s_check_tables [.d (dVar 0), .d (dVar 1)])) (sSeq (sDrop (dCall s_check_row [.d (dVar 0), .d (dVar 2)])) (sSeq (sRet (dCall s_first_rejecting [.d (dVar 0), .d (dVar 1), .d (dListRg [(dApp lenF [.d (dBin getF (dVar 0) (dC (.int 1)))])]), .d (dVar 2)])) sNil)))
def s_rejecting : PP.Sem := runF [] 0 d_rejecting
theorem b_rejecting {X : Cx} (c : Cn X N_rejecting (defScope (top 27)).names (defScope (top 27)).names 6) (g : GF X.mg FREE INTS) (f_first_rejecting : FavX X 2 "first_rejecting" 4 [] s_first_rejecting) (f_check_row : FavX X 3 "check_row" 2 [] s_check_row) (f_check_tables : FavX X 6 "check_tables" 2 [] s_check_tables) : VSs X [] (defBody (top 27)) d_rejecting := by
  have v1_2 := fun pos => c.var (i := 2) (x := ("row" : Str)) (by decide +kernel) pos
  have v1_0 := fun pos => c.var (i := 0) (x := ("graph" : Str)) (by decide +kernel) pos
  have v1_1 := fun pos => c.var (i := 1) (x := ("tables" : Str)) (by decide +kernel) pos
  have b1_range := c.bi g (x := ("range" : Str)) (v := .type "range") (by decide +kernel)
  have b1_len := c.bi g (x := ("len" : Str)) (v := .builtin "len") (by decide +kernel)
  have b1_list := c.bi g (x := ("list" : Str)) (v := .type "list") (by decide +kernel)
  exact (vss_cons (vs_drop rfl (c.call f_check_tables (by decide) (by decide +kernel) rfl (by rfl) (by decide) (by rfl) (vc_d rfl (ve_var (v1_0 _)) (vc_d rfl (ve_var (v1_1 _)) vc_nil)))) (vss_cons (vs_drop rfl (c.call f_check_row (by decide) (by decide +kernel) rfl (by rfl) (by decide) (by rfl) (vc_d rfl (ve_var (v1_0 _)) (vc_d rfl (ve_var (v1_2 _)) vc_nil)))) (vss_cons (vs_ret (c.call f_first_rejecting (by decide) (by decide +kernel) rfl (by rfl) (by decide) (by rfl) (vc_d rfl (ve_var (v1_0 _)) (vc_d rfl (ve_var (v1_1 _)) (vc_d rfl (vf_ve (b1_list.listRg c.calm rfl (b1_range.prg1 rfl (b1_len.app cr_lenF rfl (vab_d rfl (ve_sub c.hu1 (plainIx trivial) (ve_var (v1_0 _)) pe_iv) vab_nil))))) (vc_d rfl (ve_var (v1_2 _)) vc_nil)))))) vss_nil)))
/-! _law_is_integer -/
def N__law_is_integer : List Str := ["_law_actual"]
def d__law_is_integer : DenS := (sSeq (sRet (dAndV (dIsI .int (.d (dVar 0))) (dUn notF (dIsI .bool (.d (dVar 0)))))) sNil)
def s__law_is_integer : PP.Sem := runF [] 0 d__law_is_integer
theorem b__law_is_integer {X : Cx} (c : Cn X N__law_is_integer (defScope (top 31)).names (defScope (top 31)).names 0) (g : GF X.mg FREE INTS) : VSs X [] (defBody (top 31)) d__law_is_integer := by
  have v1_0 := fun pos => c.var (i := 0) (x := ("_law_actual" : Str)) (by decide +kernel) pos
  have b1_isinstance := c.bi g (x := ("isinstance" : Str)) (v := .builtin "isinstance") (by decide +kernel)
  have b1_int := c.bi g (x := ("int" : Str)) (v := .type "int") (by decide +kernel)
  have b1_bool := c.bi g (x := ("bool" : Str)) (v := .type "bool") (by decide +kernel)
  exact (vss_cons (vs_ret (ve_and (b1_isinstance.isi (ty := .int) b1_int rfl (.d (ve_var (v1_0 _)))) (ve_one (ve_not (b1_isinstance.isi (ty := .bool) b1_bool rfl (.d (ve_var (v1_0 _)))))))) vss_nil)
/-! law -/
def N_law : List Str := ["_law_script", "_law_stream_here", "_law_graph_here", "_law_tables_here", "_law_nodes", "_law_scope", "_law_row", "_law_due", "_law_node", "_law_part", "_law_own", "_law_price", "_law_told"]
def d_law : DenS := (sSeq (sOwn 1 (dCallN s__law_stream [(dVar 0)])) (sSeq (sAsg (.nm 2) (dBin getF (dLst [(dCall s__law_graph [.b 1, .d (dC (.int 4))]), (dCall s__law_tree [.b 1, .d (dC (.int 4))])]) (dCall s__law_next [.b 1, .d (dC (.int 2))]))) (sSeq (sAsg (.nm 3) (dCall s__law_tables [.b 1, .d (dVar 2)])) (sSeq (sAsg (.nm 4) (dListRg [(dApp lenF [.d (dBin getF (dVar 2) (dC (.int 1)))])])) (sSeq (sAsg (.nm 5) (dCall s__law_variables [.d (dVar 2), .d (dVar 4)])) (sSeq (sFor (iSeq (dCall s__law_rows [.d (dBin getF (dVar 2) (dC (.int 0))), .d (dApp lenF [.d (dVar 5)])])) (.nm 6) (sSeq (sAsg (.nm 7) (dC .non)) (sSeq (sFor (iSeq (dVar 4)) (.nm 8) (sSeq (sAsg (.nm 9) (dCall s__law_cut [.d (dVar 6), .d (dVar 5), .d (dBin getF (dBin getF (dVar 2) (dC (.int 1))) (dVar 8))])) (sSeq (sIf (dAnd (dB (dBin isNF (dVar 7) (dC .non))) (dB (dBin notInF (dVar 9) (dLC (iSeq (dBin getF (dVar 3) (dVar 8))) [10, 11] (.tp [(.nm 10), (.nm 11)]) dYes (dVar 10))))) (sSeq (sAsg (.nm 7) (dVar 8)) sNil) sNil) sNil))) (sSeq (sAsg (.nm 12) (dCall s_rejecting [.d (dVar 2), .d (dVar 3), .d (dVar 6)])) (sSeq (sIf (dOr (dB (dBin neF (dVar 12) (dVar 7))) (dAnd (dB (dBin notNF (dVar 7) (dC .non))) (dNot (dTruth (.d (dCall s__law_is_integer [.d (dVar 12)])))))) (sSeq (sRet (dC (.bl false))) sNil) sNil) sNil))))) (sSeq (sRet (dC (.bl true))) sNil)))))))
def s_law : PP.Sem := runF [] 12 d_law
theorem b_law {X : Cx} (c : Cn X N_law (defScope (top 42)).names (defScope (top 42)).names 7) (g : GF X.mg FREE INTS) (f__law_rows : FavX X 1 "_law_rows" 2 [] s__law_rows) (f__law_is_integer : FavX X 1 "_law_is_integer" 1 [] s__law_is_integer) (f_rejecting : FavX X 7 "rejecting" 3 [] s_rejecting) (f__law_cut : FavX X 1 "_law_cut" 3 [] s__law_cut) (f__law_variables : FavX X 1 "_law_variables" 2 [] s__law_variables) (f__law_tables : FavX X 2 "_law_tables" 2 [true] s__law_tables) (f__law_next : FavX X 1 "_law_next" 2 [true] s__law_next) (f__law_tree : FavX X 3 "_law_tree" 2 [true] s__law_tree) (f__law_graph : FavX X 3 "_law_graph" 2 [true] s__law_graph) (f__law_stream : FavN X.prog X.w X.K X.mg X.base 1 "_law_stream" 1 s__law_stream) : VSs X [] (defBody (top 42)) d_law := by
  have v1_5 := fun pos => c.var (i := 5) (x := ("_law_scope" : Str)) (by decide +kernel) pos
  have v1_2 := fun pos => c.var (i := 2) (x := ("_law_graph_here" : Str)) (by decide +kernel) pos
  have v1_12 := fun pos => c.var (i := 12) (x := ("_law_told" : Str)) (by decide +kernel) pos
  have v1_7 := fun pos => c.var (i := 7) (x := ("_law_due" : Str)) (by decide +kernel) pos
  have v1_6 := fun pos => c.var (i := 6) (x := ("_law_row" : Str)) (by decide +kernel) pos
  have v1_3 := fun pos => c.var (i := 3) (x := ("_law_tables_here" : Str)) (by decide +kernel) pos
  have v1_4 := fun pos => c.var (i := 4) (x := ("_law_nodes" : Str)) (by decide +kernel) pos
  have v1_9 := fun pos => c.var (i := 9) (x := ("_law_part" : Str)) (by decide +kernel) pos
  have v1_8 := fun pos => c.var (i := 8) (x := ("_law_node" : Str)) (by decide +kernel) pos
  have v1_1 := fun pos => c.var (i := 1) (x := ("_law_stream_here" : Str)) (by decide +kernel) pos
  have v1_0 := fun pos => c.var (i := 0) (x := ("_law_script" : Str)) (by decide +kernel) pos
  have b1_len := c.bi g (x := ("len" : Str)) (v := .builtin "len") (by decide +kernel)
  have b1_range := c.bi g (x := ("range" : Str)) (v := .type "range") (by decide +kernel)
  have b1_list := c.bi g (x := ("list" : Str)) (v := .type "list") (by decide +kernel)
  have t1_6 := fun pos => c.tgt (i := 6) (x := ("_law_row" : Str)) (by decide +kernel) pos
  have t1_8 := fun pos => c.tgt (i := 8) (x := ("_law_node" : Str)) (by decide +kernel) pos
  exact (vss_cons (c.ownF (by decide) (by decide +kernel) (c.callN f__law_stream (by decide) (by decide +kernel) rfl rfl (va_cons rfl (ve_var (v1_0 _)) va_nil)) rfl) (vss_cons (c.set (by decide) (by decide +kernel) (ve_sub c.hu1 (plainIx trivial) (ve_lst (by decide) (va_cons rfl (c.call f__law_graph (by decide) (by decide +kernel) rfl (by rfl) (by decide) (by rfl) (vc_b rfl (v1_1 _) (vc_d rfl pe_iv vc_nil))) (va_cons rfl (c.call f__law_tree (by decide) (by decide +kernel) rfl (by rfl) (by decide) (by rfl) (vc_b rfl (v1_1 _) (vc_d rfl pe_iv vc_nil))) va_nil))) (c.call f__law_next (by decide) (by decide +kernel) rfl (by rfl) (by decide) (by rfl) (vc_b rfl (v1_1 _) (vc_d rfl pe_iv vc_nil)))) rfl) (vss_cons (c.set (by decide) (by decide +kernel) (c.call f__law_tables (by decide) (by decide +kernel) rfl (by rfl) (by decide) (by rfl) (vc_b rfl (v1_1 _) (vc_d rfl (ve_var (v1_2 _)) vc_nil))) rfl) (vss_cons (c.set (by decide) (by decide +kernel) (vf_ve (b1_list.listRg c.calm rfl (b1_range.prg1 rfl (b1_len.app cr_lenF rfl (vab_d rfl (ve_sub c.hu1 (plainIx trivial) (ve_var (v1_2 _)) pe_iv) vab_nil))))) rfl) (vss_cons (c.set (by decide) (by decide +kernel) (c.call f__law_variables (by decide) (by decide +kernel) rfl (by rfl) (by decide) (by rfl) (vc_d rfl (ve_var (v1_2 _)) (vc_d rfl (ve_var (v1_4 _)) vc_nil))) rfl) (vss_cons (vs_for c.xe c.calm (refs_tgt (by decide)) (vi_seq (c.call f__law_rows (by decide) (by decide +kernel) rfl (by rfl) (by decide) (by rfl) (vc_d rfl (ve_sub c.hu1 (plainIx trivial) (ve_var (v1_2 _)) pe_iv) (vc_d rfl (b1_len.app cr_lenF rfl (vab_d rfl (ve_var (v1_5 _)) vab_nil)) vc_nil)))) (t1_6 _) (vss_cons (c.set (by decide) (by decide +kernel) pe_nv rfl) (vss_cons (vs_for c.xe c.calm (refs_tgt (by decide)) (vi_seq (ve_var (v1_4 _))) (t1_8 _) (vss_cons (c.set (by decide) (by decide +kernel) (c.call f__law_cut (by decide) (by decide +kernel) rfl (by rfl) (by decide) (by rfl) (vc_d rfl (ve_var (v1_6 _)) (vc_d rfl (ve_var (v1_5 _)) (vc_d rfl (ve_sub c.hu1 (plainIx trivial) (ve_sub c.hu1 (plainIx trivial) (ve_var (v1_2 _)) pe_iv) (ve_var (v1_8 _))) vc_nil)))) rfl) (vss_cons (vs_if (PW.pt (vw_and (vt_cmp op_isNF rfl (ve_var (v1_7 _)) pe_nv) (vw_and1 (vt_cmp (op_notInF c.hu65) rfl (ve_var (v1_9 _)) (vf_ve (c.vf (c.lc (own := [(("_law_own" : Str), 10), (("_law_price" : Str), 11)]) (vi_seq (ve_sub c.hu1 (plainIx trivial) (ve_var (v1_3 _)) (ve_var (v1_8 _)))) (by decide +kernel) rfl (by decide) (fun _ => rfl) (fun _ _ _ _ _ c2 => by (have v2_10 := fun pos => c2.var (i := 10) (x := ("_law_own" : Str)) (by decide +kernel) pos; have t2_11 := fun pos => c2.tgt (i := 11) (x := ("_law_price" : Str)) (by decide +kernel) pos; have t2_10 := fun pos => c2.tgt (i := 10) (x := ("_law_own" : Str)) (by decide +kernel) pos; exact ⟨(vg_tp c2.calm rfl rfl (vgs_cons rfl (t2_10 _) (vgs_cons rfl (t2_11 _) vgs_nil))), vts_nil, (ve_var (v2_10 _))⟩))))))))) (vss_cons (c.set (by decide) (by decide +kernel) (ve_var (v1_8 _)) rfl) vss_nil) vss_nil) vss_nil)) (fun _ => rfl)) (vss_cons (c.set (by decide) (by decide +kernel) (c.call f_rejecting (by decide) (by decide +kernel) rfl (by rfl) (by decide) (by rfl) (vc_d rfl (ve_var (v1_2 _)) (vc_d rfl (ve_var (v1_3 _)) (vc_d rfl (ve_var (v1_6 _)) vc_nil)))) rfl) (vss_cons (vs_if (PW.pt (vw_or (vt_cmp (op_neF c.hu64) rfl (ve_var (v1_12 _)) (ve_var (v1_7 _))) (vw_or1 (PW.pt (vw_and (vt_cmp op_notNF rfl (ve_var (v1_7 _)) pe_nv) (vw_and1 (vt_not (vt_truth (fun _ => rfl) (.d (c.call f__law_is_integer (by decide) (by decide +kernel) rfl (by rfl) (by decide) (by rfl) (vc_d rfl (ve_var (v1_12 _)) vc_nil))))))))))) (vss_cons (vs_ret pe_bv) vss_nil) vss_nil) vss_nil)))) (fun _ => rfl)) (vss_cons (vs_ret pe_bv) vss_nil)))))))
section
variable {P : Program} {w : World} {K : PySem.W.Frag} {mg : Str → Option Value} {base : Heap}
theorem sc__law_stream : FnScope N__law_stream ["_law_script"] (defScope (top 29)) := ⟨by decide +kernel, by decide +kernel, by decide +kernel, by decide +kernel, by decide +kernel, by decide +kernel, by decide +kernel⟩
def r__law_stream : Pos := match defBody (top 29) with | [.Return _ p] => p | _ => ⟨0, 0, 0, 0⟩
theorem a__law_stream {f : Addr} {fd : FuncData} (Fn : FunD K "_law_stream" "_law_stream" (defArgs (top 29)) [.Return (some e__law_stream) r__law_stream] (defScope (top 29)) [] [] f fd) (hm : mg "_law_stream" = some (.ref f)) (g : GF mg FREE INTS) :
    FavN P w K mg base 1 "_law_stream" 1 s__law_stream := favN_of (ps := ["_law_script"]) Fn hm sc__law_stream rfl (fun _ _ _ _ _ _ us hl => match us, hl with | [_], _ => rfl) fun _ _ _ _ _ _ c => b__law_stream c g
theorem sc__law_next : FnScope N__law_next ["_law_stream_here", "_law_many"] (defScope (top 30)) := ⟨by decide +kernel, by decide +kernel, by decide +kernel, by decide +kernel, by decide +kernel, by decide +kernel, by decide +kernel⟩
theorem a__law_next {f : Addr} {fd : FuncData} (Fn : FunD K "_law_next" "_law_next" (defArgs (top 30)) (defBody (top 30)) (defScope (top 30)) [] [] f fd) (hm : mg "_law_next" = some (.ref f)) (g : GF mg FREE INTS) :
    Fav P w K mg base 1 "_law_next" 2 [true] s__law_next := fav_of (ps := ["_law_stream_here", "_law_many"]) (refs := [0]) Fn hm sc__law_next rfl (by decide) (fun _ _ _ _ _ _ us hl => match us, hl with | [_, _], _ => rfl) fun _ _ _ _ _ _ c => b__law_next c g
theorem sc__law_some : FnScope N__law_some ["_law_stream_here", "_law_most", "_law_high"] (defScope (top 32)) := ⟨by decide +kernel, by decide +kernel, by decide +kernel, by decide +kernel, by decide +kernel, by decide +kernel, by decide +kernel⟩
theorem a__law_some {f : Addr} {fd : FuncData} (Fn : FunD K "_law_some" "_law_some" (defArgs (top 32)) (defBody (top 32)) (defScope (top 32)) [] [] f fd) (hm : mg "_law_some" = some (.ref f)) (g : GF mg FREE INTS) (f__law_next : Fav P w K mg base 1 "_law_next" 2 [true] s__law_next) :
    Fav P w K mg base 2 "_law_some" 3 [true] s__law_some := fav_of (ps := ["_law_stream_here", "_law_most", "_law_high"]) (refs := [0]) Fn hm sc__law_some rfl (by decide) (fun _ _ _ _ _ _ us hl => match us, hl with | [_, _, _], _ => rfl) fun _ _ _ _ _ _ c => b__law_some c g f__law_next
theorem sc__law_graph : FnScope N__law_graph ["_law_stream_here", "_law_nodes"] (defScope (top 33)) := ⟨by decide +kernel, by decide +kernel, by decide +kernel, by decide +kernel, by decide +kernel, by decide +kernel, by decide +kernel⟩
theorem a__law_graph {f : Addr} {fd : FuncData} (Fn : FunD K "_law_graph" "_law_graph" (defArgs (top 33)) (defBody (top 33)) (defScope (top 33)) [] [] f fd) (hm : mg "_law_graph" = some (.ref f)) (g : GF mg FREE INTS) (f__law_next : Fav P w K mg base 1 "_law_next" 2 [true] s__law_next) (f__law_some : Fav P w K mg base 2 "_law_some" 3 [true] s__law_some) :
    Fav P w K mg base 3 "_law_graph" 2 [true] s__law_graph := fav_of (ps := ["_law_stream_here", "_law_nodes"]) (refs := [0]) Fn hm sc__law_graph rfl (by decide) (fun _ _ _ _ _ _ us hl => match us, hl with | [_, _], _ => rfl) fun _ _ _ _ _ _ c => b__law_graph c g f__law_next f__law_some
theorem sc__law_tree : FnScope N__law_tree ["_law_stream_here", "_law_nodes"] (defScope (top 34)) := ⟨by decide +kernel, by decide +kernel, by decide +kernel, by decide +kernel, by decide +kernel, by decide +kernel, by decide +kernel⟩
theorem a__law_tree {f : Addr} {fd : FuncData} (Fn : FunD K "_law_tree" "_law_tree" (defArgs (top 34)) (defBody (top 34)) (defScope (top 34)) [] [] f fd) (hm : mg "_law_tree" = some (.ref f)) (g : GF mg FREE INTS) (f__law_next : Fav P w K mg base 1 "_law_next" 2 [true] s__law_next) (f__law_some : Fav P w K mg base 2 "_law_some" 3 [true] s__law_some) :
    Fav P w K mg base 3 "_law_tree" 2 [true] s__law_tree := fav_of (ps := ["_law_stream_here", "_law_nodes"]) (refs := [0]) Fn hm sc__law_tree rfl (by decide) (fun _ _ _ _ _ _ us hl => match us, hl with | [_, _], _ => rfl) fun _ _ _ _ _ _ c => b__law_tree c g f__law_next f__law_some
theorem sc__law_rows : FnScope N__law_rows ["_law_values", "_law_many"] (defScope (top 35)) := ⟨by decide +kernel, by decide +kernel, by decide +kernel, by decide +kernel, by decide +kernel, by decide +kernel, by decide +kernel⟩
theorem a__law_rows {f : Addr} {fd : FuncData} (Fn : FunD K "_law_rows" "_law_rows" (defArgs (top 35)) (defBody (top 35)) (defScope (top 35)) [] [] f fd) (hm : mg "_law_rows" = some (.ref f)) (g : GF mg FREE INTS) :
    Fav P w K mg base 1 "_law_rows" 2 [] s__law_rows := fav_of (ps := ["_law_values", "_law_many"]) (refs := []) Fn hm sc__law_rows rfl (by decide) (fun _ _ _ _ _ _ us hl => match us, hl with | [_, _], _ => rfl) fun _ _ _ _ _ _ c => b__law_rows c g
theorem sc__law_tables : FnScope N__law_tables ["_law_stream_here", "_law_graph_here"] (defScope (top 36)) := ⟨by decide +kernel, by decide +kernel, by decide +kernel, by decide +kernel, by decide +kernel, by decide +kernel, by decide +kernel⟩
theorem a__law_tables {f : Addr} {fd : FuncData} (Fn : FunD K "_law_tables" "_law_tables" (defArgs (top 36)) (defBody (top 36)) (defScope (top 36)) [] [] f fd) (hm : mg "_law_tables" = some (.ref f)) (g : GF mg FREE INTS) (f__law_next : Fav P w K mg base 1 "_law_next" 2 [true] s__law_next) (f__law_rows : Fav P w K mg base 1 "_law_rows" 2 [] s__law_rows) :
    Fav P w K mg base 2 "_law_tables" 2 [true] s__law_tables := fav_of (ps := ["_law_stream_here", "_law_graph_here"]) (refs := [0]) Fn hm sc__law_tables rfl (by decide) (fun _ _ _ _ _ _ us hl => match us, hl with | [_, _], _ => rfl) fun _ _ _ _ _ _ c => b__law_tables c g f__law_next f__law_rows
theorem sc__law_variables : FnScope N__law_variables ["_law_graph_here", "_law_nodes"] (defScope (top 37)) := ⟨by decide +kernel, by decide +kernel, by decide +kernel, by decide +kernel, by decide +kernel, by decide +kernel, by decide +kernel⟩
theorem a__law_variables {f : Addr} {fd : FuncData} (Fn : FunD K "_law_variables" "_law_variables" (defArgs (top 37)) (defBody (top 37)) (defScope (top 37)) [] [] f fd) (hm : mg "_law_variables" = some (.ref f)) (g : GF mg FREE INTS) :
    Fav P w K mg base 1 "_law_variables" 2 [] s__law_variables := fav_of (ps := ["_law_graph_here", "_law_nodes"]) (refs := []) Fn hm sc__law_variables rfl (by decide) (fun _ _ _ _ _ _ us hl => match us, hl with | [_, _], _ => rfl) fun _ _ _ _ _ _ c => b__law_variables c g
theorem sc__law_cut : FnScope N__law_cut ["_law_row", "_law_scope", "_law_some_here"] (defScope (top 38)) := ⟨by decide +kernel, by decide +kernel, by decide +kernel, by decide +kernel, by decide +kernel, by decide +kernel, by decide +kernel⟩
theorem a__law_cut {f : Addr} {fd : FuncData} (Fn : FunD K "_law_cut" "_law_cut" (defArgs (top 38)) (defBody (top 38)) (defScope (top 38)) [] [] f fd) (hm : mg "_law_cut" = some (.ref f)) (g : GF mg FREE INTS) :
    Fav P w K mg base 1 "_law_cut" 3 [] s__law_cut := fav_of (ps := ["_law_row", "_law_scope", "_law_some_here"]) (refs := []) Fn hm sc__law_cut rfl (by decide) (fun _ _ _ _ _ _ us hl => match us, hl with | [_, _, _], _ => rfl) fun _ _ _ _ _ _ c => b__law_cut c g
theorem sc_is_number : FnScope N_is_number ["value", "low", "high"] (defScope (top 16)) := ⟨by decide +kernel, by decide +kernel, by decide +kernel, by decide +kernel, by decide +kernel, by decide +kernel, by decide +kernel⟩
theorem a_is_number {f : Addr} {fd : FuncData} (Fn : FunD K "is_number" "is_number" (defArgs (top 16)) (defBody (top 16)) (defScope (top 16)) [] [] f fd) (hm : mg "is_number" = some (.ref f)) (g : GF mg FREE INTS) :
    Fav P w K mg base 1 "is_number" 3 [] s_is_number := fav_of (ps := ["value", "low", "high"]) (refs := []) Fn hm sc_is_number rfl (by decide) (fun _ _ _ _ _ _ us hl => match us, hl with | [_, _, _], _ => rfl) fun _ _ _ _ _ _ c => b_is_number c g
theorem sc_is_whole : FnScope N_is_whole ["value", "low", "high"] (defScope (top 7)) := ⟨by decide +kernel, by decide +kernel, by decide +kernel, by decide +kernel, by decide +kernel, by decide +kernel, by decide +kernel⟩
theorem a_is_whole {f : Addr} {fd : FuncData} (Fn : FunD K "is_whole" "is_whole" (defArgs (top 7)) (defBody (top 7)) (defScope (top 7)) [] [] f fd) (hm : mg "is_whole" = some (.ref f)) (g : GF mg FREE INTS) :
    Fav P w K mg base 1 "is_whole" 3 [] s_is_whole := fav_of (ps := ["value", "low", "high"]) (refs := []) Fn hm sc_is_whole rfl (by decide) (fun _ _ _ _ _ _ us hl => match us, hl with | [_, _, _], _ => rfl) fun _ _ _ _ _ _ c => b_is_whole c g
theorem sc_is_climbing : FnScope N_is_climbing ["value"] (defScope (top 8)) := ⟨by decide +kernel, by decide +kernel, by decide +kernel, by decide +kernel, by decide +kernel, by decide +kernel, by decide +kernel⟩
theorem a_is_climbing {f : Addr} {fd : FuncData} (Fn : FunD K "is_climbing" "is_climbing" (defArgs (top 8)) (defBody (top 8)) (defScope (top 8)) [] [] f fd) (hm : mg "is_climbing" = some (.ref f)) (g : GF mg FREE INTS) :
    Fav P w K mg base 1 "is_climbing" 1 [] s_is_climbing := fav_of (ps := ["value"]) (refs := []) Fn hm sc_is_climbing rfl (by decide) (fun _ _ _ _ _ _ us hl => match us, hl with | [_], _ => rfl) fun _ _ _ _ _ _ c => b_is_climbing c g
theorem sc_are_variables : FnScope N_are_variables ["value"] (defScope (top 9)) := ⟨by decide +kernel, by decide +kernel, by decide +kernel, by decide +kernel, by decide +kernel, by decide +kernel, by decide +kernel⟩
theorem a_are_variables {f : Addr} {fd : FuncData} (Fn : FunD K "are_variables" "are_variables" (defArgs (top 9)) (defBody (top 9)) (defScope (top 9)) [] [] f fd) (hm : mg "are_variables" = some (.ref f)) (g : GF mg FREE INTS) (f_is_climbing : Fav P w K mg base 1 "is_climbing" 1 [] s_is_climbing) (f_is_whole : Fav P w K mg base 1 "is_whole" 3 [] s_is_whole) :
    Fav P w K mg base 2 "are_variables" 1 [] s_are_variables := fav_of (ps := ["value"]) (refs := []) Fn hm sc_are_variables rfl (by decide) (fun _ _ _ _ _ _ us hl => match us, hl with | [_], _ => rfl) fun _ _ _ _ _ _ c => b_are_variables c g f_is_climbing f_is_whole
theorem sc_is_scope : FnScope N_is_scope ["value"] (defScope (top 10)) := ⟨by decide +kernel, by decide +kernel, by decide +kernel, by decide +kernel, by decide +kernel, by decide +kernel, by decide +kernel⟩
theorem a_is_scope {f : Addr} {fd : FuncData} (Fn : FunD K "is_scope" "is_scope" (defArgs (top 10)) (defBody (top 10)) (defScope (top 10)) [] [] f fd) (hm : mg "is_scope" = some (.ref f)) (g : GF mg FREE INTS) (f_are_variables : Fav P w K mg base 2 "are_variables" 1 [] s_are_variables) :
    Fav P w K mg base 3 "is_scope" 1 [] s_is_scope := fav_of (ps := ["value"]) (refs := []) Fn hm sc_is_scope rfl (by decide) (fun _ _ _ _ _ _ us hl => match us, hl with | [_], _ => rfl) fun _ _ _ _ _ _ c => b_is_scope c g f_are_variables
theorem sc_is_edge : FnScope N_is_edge ["value", "many"] (defScope (top 17)) := ⟨by decide +kernel, by decide +kernel, by decide +kernel, by decide +kernel, by decide +kernel, by decide +kernel, by decide +kernel⟩
theorem a_is_edge {f : Addr} {fd : FuncData} (Fn : FunD K "is_edge" "is_edge" (defArgs (top 17)) (defBody (top 17)) (defScope (top 17)) [] [] f fd) (hm : mg "is_edge" = some (.ref f)) (g : GF mg FREE INTS) (f_is_number : Fav P w K mg base 1 "is_number" 3 [] s_is_number) :
    Fav P w K mg base 2 "is_edge" 2 [] s_is_edge := fav_of (ps := ["value", "many"]) (refs := []) Fn hm sc_is_edge rfl (by decide) (fun _ _ _ _ _ _ us hl => match us, hl with | [_, _], _ => rfl) fun _ _ _ _ _ _ c => b_is_edge c g f_is_number
theorem sc_is_graph : FnScope N_is_graph ["value"] (defScope (top 18)) := ⟨by decide +kernel, by decide +kernel, by decide +kernel, by decide +kernel, by decide +kernel, by decide +kernel, by decide +kernel⟩
theorem a_is_graph {f : Addr} {fd : FuncData} (Fn : FunD K "is_graph" "is_graph" (defArgs (top 18)) (defBody (top 18)) (defScope (top 18)) [] [] f fd) (hm : mg "is_graph" = some (.ref f)) (g : GF mg FREE INTS) (f_is_edge : Fav P w K mg base 2 "is_edge" 2 [] s_is_edge) (f_is_scope : Fav P w K mg base 3 "is_scope" 1 [] s_is_scope) (f_is_number : Fav P w K mg base 1 "is_number" 3 [] s_is_number) :
    Fav P w K mg base 4 "is_graph" 1 [] s_is_graph := fav_of (ps := ["value"]) (refs := []) Fn hm sc_is_graph rfl (by decide) (fun _ _ _ _ _ _ us hl => match us, hl with | [_], _ => rfl) fun _ _ _ _ _ _ c => b_is_graph c g f_is_edge f_is_scope f_is_number
theorem sc_check_graph : FnScope N_check_graph ["graph"] (defScope (top 22)) := ⟨by decide +kernel, by decide +kernel, by decide +kernel, by decide +kernel, by decide +kernel, by decide +kernel, by decide +kernel⟩
theorem a_check_graph {f : Addr} {fd : FuncData} (Fn : FunD K "check_graph" "check_graph" (defArgs (top 22)) (defBody (top 22)) (defScope (top 22)) [] [] f fd) (hm : mg "check_graph" = some (.ref f)) (g : GF mg FREE INTS) (f_is_graph : Fav P w K mg base 4 "is_graph" 1 [] s_is_graph) :
    Fav P w K mg base 5 "check_graph" 1 [] s_check_graph := fav_of (ps := ["graph"]) (refs := []) Fn hm sc_check_graph rfl (by decide) (fun _ _ _ _ _ _ us hl => match us, hl with | [_], _ => rfl) fun _ _ _ _ _ _ c => b_check_graph c g f_is_graph
theorem sc_is_row : FnScope N_is_row ["values", "some", "value"] (defScope (top 11)) := ⟨by decide +kernel, by decide +kernel, by decide +kernel, by decide +kernel, by decide +kernel, by decide +kernel, by decide +kernel⟩
theorem a_is_row {f : Addr} {fd : FuncData} (Fn : FunD K "is_row" "is_row" (defArgs (top 11)) (defBody (top 11)) (defScope (top 11)) [] [] f fd) (hm : mg "is_row" = some (.ref f)) (g : GF mg FREE INTS) (f_is_whole : Fav P w K mg base 1 "is_whole" 3 [] s_is_whole) :
    Fav P w K mg base 2 "is_row" 3 [] s_is_row := fav_of (ps := ["values", "some", "value"]) (refs := []) Fn hm sc_is_row rfl (by decide) (fun _ _ _ _ _ _ us hl => match us, hl with | [_, _, _], _ => rfl) fun _ _ _ _ _ _ c => b_is_row c g f_is_whole
theorem sc_is_table : FnScope N_is_table ["values", "scope", "value"] (defScope (top 12)) := ⟨by decide +kernel, by decide +kernel, by decide +kernel, by decide +kernel, by decide +kernel, by decide +kernel, by decide +kernel⟩
theorem a_is_table {f : Addr} {fd : FuncData} (Fn : FunD K "is_table" "is_table" (defArgs (top 12)) (defBody (top 12)) (defScope (top 12)) [] [] f fd) (hm : mg "is_table" = some (.ref f)) (g : GF mg FREE INTS) (f_is_climbing : Fav P w K mg base 1 "is_climbing" 1 [] s_is_climbing) (f_is_whole : Fav P w K mg base 1 "is_whole" 3 [] s_is_whole) (f_is_row : Fav P w K mg base 2 "is_row" 3 [] s_is_row) :
    Fav P w K mg base 3 "is_table" 3 [] s_is_table := fav_of (ps := ["values", "scope", "value"]) (refs := []) Fn hm sc_is_table rfl (by decide) (fun _ _ _ _ _ _ us hl => match us, hl with | [_, _, _], _ => rfl) fun _ _ _ _ _ _ c => b_is_table c g f_is_climbing f_is_whole f_is_row
theorem sc_are_tables : FnScope N_are_tables ["graph", "value"] (defScope (top 19)) := ⟨by decide +kernel, by decide +kernel, by decide +kernel, by decide +kernel, by decide +kernel, by decide +kernel, by decide +kernel⟩
theorem a_are_tables {f : Addr} {fd : FuncData} (Fn : FunD K "are_tables" "are_tables" (defArgs (top 19)) (defBody (top 19)) (defScope (top 19)) [] [] f fd) (hm : mg "are_tables" = some (.ref f)) (g : GF mg FREE INTS) (f_is_table : Fav P w K mg base 3 "is_table" 3 [] s_is_table) :
    Fav P w K mg base 4 "are_tables" 2 [] s_are_tables := fav_of (ps := ["graph", "value"]) (refs := []) Fn hm sc_are_tables rfl (by decide) (fun _ _ _ _ _ _ us hl => match us, hl with | [_, _], _ => rfl) fun _ _ _ _ _ _ c => b_are_tables c g f_is_table
theorem sc_check_tables : FnScope N_check_tables ["graph", "tables"] (defScope (top 23)) := ⟨by decide +kernel, by decide +kernel, by decide +kernel, by decide +kernel, by decide +kernel, by decide +kernel, by decide +kernel⟩
theorem a_check_tables {f : Addr} {fd : FuncData} (Fn : FunD K "check_tables" "check_tables" (defArgs (top 23)) (defBody (top 23)) (defScope (top 23)) [] [] f fd) (hm : mg "check_tables" = some (.ref f)) (g : GF mg FREE INTS) (f_are_tables : Fav P w K mg base 4 "are_tables" 2 [] s_are_tables) (f_check_graph : Fav P w K mg base 5 "check_graph" 1 [] s_check_graph) :
    Fav P w K mg base 6 "check_tables" 2 [] s_check_tables := fav_of (ps := ["graph", "tables"]) (refs := []) Fn hm sc_check_tables rfl (by decide) (fun _ _ _ _ _ _ us hl => match us, hl with | [_, _], _ => rfl) fun _ _ _ _ _ _ c => b_check_tables c g f_are_tables f_check_graph
theorem sc_is_row_of : FnScope N_is_row_of ["values", "value", "many"] (defScope (top 24)) := ⟨by decide +kernel, by decide +kernel, by decide +kernel, by decide +kernel, by decide +kernel, by decide +kernel, by decide +kernel⟩
theorem a_is_row_of {f : Addr} {fd : FuncData} (Fn : FunD K "is_row_of" "is_row_of" (defArgs (top 24)) (defBody (top 24)) (defScope (top 24)) [] [] f fd) (hm : mg "is_row_of" = some (.ref f)) (g : GF mg FREE INTS) (f_is_number : Fav P w K mg base 1 "is_number" 3 [] s_is_number) :
    Fav P w K mg base 2 "is_row_of" 3 [] s_is_row_of := fav_of (ps := ["values", "value", "many"]) (refs := []) Fn hm sc_is_row_of rfl (by decide) (fun _ _ _ _ _ _ us hl => match us, hl with | [_, _, _], _ => rfl) fun _ _ _ _ _ _ c => b_is_row_of c g f_is_number
theorem sc_scope_of : FnScope N_scope_of ["graph", "nodes"] (defScope (top 21)) := ⟨by decide +kernel, by decide +kernel, by decide +kernel, by decide +kernel, by decide +kernel, by decide +kernel, by decide +kernel⟩
theorem a_scope_of {f : Addr} {fd : FuncData} (Fn : FunD K "scope_of" "scope_of" (defArgs (top 21)) (defBody (top 21)) (defScope (top 21)) [] [] f fd) (hm : mg "scope_of" = some (.ref f)) (g : GF mg FREE INTS) :
    Fav P w K mg base 1 "scope_of" 2 [] s_scope_of := fav_of (ps := ["graph", "nodes"]) (refs := []) Fn hm sc_scope_of rfl (by decide) (fun _ _ _ _ _ _ us hl => match us, hl with | [_, _], _ => rfl) fun _ _ _ _ _ _ c => b_scope_of c g
theorem sc_variables_of : FnScope N_variables_of ["graph"] (defScope (top 20)) := ⟨by decide +kernel, by decide +kernel, by decide +kernel, by decide +kernel, by decide +kernel, by decide +kernel, by decide +kernel⟩
theorem a_variables_of {f : Addr} {fd : FuncData} (Fn : FunD K "variables_of" "variables_of" (defArgs (top 20)) (defBody (top 20)) (defScope (top 20)) [] [] f fd) (hm : mg "variables_of" = some (.ref f)) (g : GF mg FREE INTS) (f_scope_of : Fav P w K mg base 1 "scope_of" 2 [] s_scope_of) :
    Fav P w K mg base 2 "variables_of" 1 [] s_variables_of := fav_of (ps := ["graph"]) (refs := []) Fn hm sc_variables_of rfl (by decide) (fun _ _ _ _ _ _ us hl => match us, hl with | [_], _ => rfl) fun _ _ _ _ _ _ c => b_variables_of c g f_scope_of
theorem sc_check_row : FnScope N_check_row ["graph", "row"] (defScope (top 25)) := ⟨by decide +kernel, by decide +kernel, by decide +kernel, by decide +kernel, by decide +kernel, by decide +kernel, by decide +kernel⟩
theorem a_check_row {f : Addr} {fd : FuncData} (Fn : FunD K "check_row" "check_row" (defArgs (top 25)) (defBody (top 25)) (defScope (top 25)) [] [] f fd) (hm : mg "check_row" = some (.ref f)) (g : GF mg FREE INTS) (f_is_row_of : Fav P w K mg base 2 "is_row_of" 3 [] s_is_row_of) (f_variables_of : Fav P w K mg base 2 "variables_of" 1 [] s_variables_of) :
    Fav P w K mg base 3 "check_row" 2 [] s_check_row := fav_of (ps := ["graph", "row"]) (refs := []) Fn hm sc_check_row rfl (by decide) (fun _ _ _ _ _ _ us hl => match us, hl with | [_, _], _ => rfl) fun _ _ _ _ _ _ c => b_check_row c g f_is_row_of f_variables_of
theorem sc_cut_to : FnScope N_cut_to ["row", "some", "kept"] (defScope (top 13)) := ⟨by decide +kernel, by decide +kernel, by decide +kernel, by decide +kernel, by decide +kernel, by decide +kernel, by decide +kernel⟩
theorem a_cut_to {f : Addr} {fd : FuncData} (Fn : FunD K "cut_to" "cut_to" (defArgs (top 13)) (defBody (top 13)) (defScope (top 13)) [] [] f fd) (hm : mg "cut_to" = some (.ref f)) (g : GF mg FREE INTS) :
    Fav P w K mg base 1 "cut_to" 3 [] s_cut_to := fav_of (ps := ["row", "some", "kept"]) (refs := []) Fn hm sc_cut_to rfl (by decide) (fun _ _ _ _ _ _ us hl => match us, hl with | [_, _, _], _ => rfl) fun _ _ _ _ _ _ c => b_cut_to c g
theorem sc_first_rejecting : FnScope N_first_rejecting ["graph", "tables", "nodes", "row"] (defScope (top 26)) := ⟨by decide +kernel, by decide +kernel, by decide +kernel, by decide +kernel, by decide +kernel, by decide +kernel, by decide +kernel⟩
theorem a_first_rejecting {f : Addr} {fd : FuncData} (Fn : FunD K "first_rejecting" "first_rejecting" (defArgs (top 26)) (defBody (top 26)) (defScope (top 26)) [] [] f fd) (hm : mg "first_rejecting" = some (.ref f)) (g : GF mg FREE INTS) (f_cut_to : Fav P w K mg base 1 "cut_to" 3 [] s_cut_to) (f_scope_of : Fav P w K mg base 1 "scope_of" 2 [] s_scope_of) :
    Fav P w K mg base 2 "first_rejecting" 4 [] s_first_rejecting := fav_of (ps := ["graph", "tables", "nodes", "row"]) (refs := []) Fn hm sc_first_rejecting rfl (by decide) (fun _ _ _ _ _ _ us hl => match us, hl with | [_, _, _, _], _ => rfl) fun _ _ _ _ _ _ c => b_first_rejecting c g f_cut_to f_scope_of
theorem sc_rejecting : FnScope N_rejecting ["graph", "tables", "row"] (defScope (top 27)) := ⟨by decide +kernel, by decide +kernel, by decide +kernel, by decide +kernel, by decide +kernel, by decide +kernel, by decide +kernel⟩
theorem a_rejecting {f : Addr} {fd : FuncData} (Fn : FunD K "rejecting" "rejecting" (defArgs (top 27)) (defBody (top 27)) (defScope (top 27)) [] [] f fd) (hm : mg "rejecting" = some (.ref f)) (g : GF mg FREE INTS) (f_first_rejecting : Fav P w K mg base 2 "first_rejecting" 4 [] s_first_rejecting) (f_check_row : Fav P w K mg base 3 "check_row" 2 [] s_check_row) (f_check_tables : Fav P w K mg base 6 "check_tables" 2 [] s_check_tables) :
    Fav P w K mg base 7 "rejecting" 3 [] s_rejecting := fav_of (ps := ["graph", "tables", "row"]) (refs := []) Fn hm sc_rejecting rfl (by decide) (fun _ _ _ _ _ _ us hl => match us, hl with | [_, _, _], _ => rfl) fun _ _ _ _ _ _ c => b_rejecting c g f_first_rejecting f_check_row f_check_tables
theorem sc__law_is_integer : FnScope N__law_is_integer ["_law_actual"] (defScope (top 31)) := ⟨by decide +kernel, by decide +kernel, by decide +kernel, by decide +kernel, by decide +kernel, by decide +kernel, by decide +kernel⟩
theorem a__law_is_integer {f : Addr} {fd : FuncData} (Fn : FunD K "_law_is_integer" "_law_is_integer" (defArgs (top 31)) (defBody (top 31)) (defScope (top 31)) [] [] f fd) (hm : mg "_law_is_integer" = some (.ref f)) (g : GF mg FREE INTS) :
    Fav P w K mg base 1 "_law_is_integer" 1 [] s__law_is_integer := fav_of (ps := ["_law_actual"]) (refs := []) Fn hm sc__law_is_integer rfl (by decide) (fun _ _ _ _ _ _ us hl => match us, hl with | [_], _ => rfl) fun _ _ _ _ _ _ c => b__law_is_integer c g
theorem sc_law : FnScope N_law ["_law_script"] (defScope (top 42)) := ⟨by decide +kernel, by decide +kernel, by decide +kernel, by decide +kernel, by decide +kernel, by decide +kernel, by decide +kernel⟩
theorem a_law {f : Addr} {fd : FuncData} (Fn : FunD K "law" "law" (defArgs (top 42)) (defBody (top 42)) (defScope (top 42)) [] [] f fd) (g : GF mg FREE INTS) (f__law_rows : Fav P w K mg base 1 "_law_rows" 2 [] s__law_rows) (f__law_is_integer : Fav P w K mg base 1 "_law_is_integer" 1 [] s__law_is_integer) (f_rejecting : Fav P w K mg base 7 "rejecting" 3 [] s_rejecting) (f__law_cut : Fav P w K mg base 1 "_law_cut" 3 [] s__law_cut) (f__law_variables : Fav P w K mg base 1 "_law_variables" 2 [] s__law_variables) (f__law_tables : Fav P w K mg base 2 "_law_tables" 2 [true] s__law_tables) (f__law_next : Fav P w K mg base 1 "_law_next" 2 [true] s__law_next) (f__law_tree : Fav P w K mg base 3 "_law_tree" 2 [true] s__law_tree) (f__law_graph : Fav P w K mg base 3 "_law_graph" 2 [true] s__law_graph) (f__law_stream : FavN P w K mg base 1 "_law_stream" 1 s__law_stream) :
    FnOk P w K mg base CX0 8 f fd ["_law_script"] (spZ K 1 [] s_law) := fnZ_ok (ps := ["_law_script"]) (refs := []) Fn sc_law rfl (by decide) fun _ _ _ _ _ _ hr => b_law (cn_body sc_law hr) g f__law_rows f__law_is_integer f_rejecting f__law_cut f__law_variables f__law_tables f__law_next f__law_tree f__law_graph f__law_stream
end
def D__law_stream : He.DefD := ⟨("_law_stream", none), "_law_stream", "_law_stream", defArgs (top 29), [.Return (some e__law_stream) r__law_stream], defScope (top 29), [], []⟩
def D__law_next : He.DefD := ⟨("_law_next", none), "_law_next", "_law_next", defArgs (top 30), (defBody (top 30)), defScope (top 30), [], []⟩
def D__law_some : He.DefD := ⟨("_law_some", none), "_law_some", "_law_some", defArgs (top 32), (defBody (top 32)), defScope (top 32), [], []⟩
def D__law_graph : He.DefD := ⟨("_law_graph", none), "_law_graph", "_law_graph", defArgs (top 33), (defBody (top 33)), defScope (top 33), [], []⟩
def D__law_tree : He.DefD := ⟨("_law_tree", none), "_law_tree", "_law_tree", defArgs (top 34), (defBody (top 34)), defScope (top 34), [], []⟩
def D__law_rows : He.DefD := ⟨("_law_rows", none), "_law_rows", "_law_rows", defArgs (top 35), (defBody (top 35)), defScope (top 35), [], []⟩
def D__law_tables : He.DefD := ⟨("_law_tables", none), "_law_tables", "_law_tables", defArgs (top 36), (defBody (top 36)), defScope (top 36), [], []⟩
def D__law_variables : He.DefD := ⟨("_law_variables", none), "_law_variables", "_law_variables", defArgs (top 37), (defBody (top 37)), defScope (top 37), [], []⟩
def D__law_cut : He.DefD := ⟨("_law_cut", none), "_law_cut", "_law_cut", defArgs (top 38), (defBody (top 38)), defScope (top 38), [], []⟩
def D_is_number : He.DefD := ⟨("is_number", none), "is_number", "is_number", defArgs (top 16), (defBody (top 16)), defScope (top 16), [], []⟩
def D_is_whole : He.DefD := ⟨("is_whole", none), "is_whole", "is_whole", defArgs (top 7), (defBody (top 7)), defScope (top 7), [], []⟩
def D_is_climbing : He.DefD := ⟨("is_climbing", none), "is_climbing", "is_climbing", defArgs (top 8), (defBody (top 8)), defScope (top 8), [], []⟩
def D_are_variables : He.DefD := ⟨("are_variables", none), "are_variables", "are_variables", defArgs (top 9), (defBody (top 9)), defScope (top 9), [], []⟩
def D_is_scope : He.DefD := ⟨("is_scope", none), "is_scope", "is_scope", defArgs (top 10), (defBody (top 10)), defScope (top 10), [], []⟩
def D_is_edge : He.DefD := ⟨("is_edge", none), "is_edge", "is_edge", defArgs (top 17), (defBody (top 17)), defScope (top 17), [], []⟩
def D_is_graph : He.DefD := ⟨("is_graph", none), "is_graph", "is_graph", defArgs (top 18), (defBody (top 18)), defScope (top 18), [], []⟩
def D_check_graph : He.DefD := ⟨("check_graph", none), "check_graph", "check_graph", defArgs (top 22), (defBody (top 22)), defScope (top 22), [], []⟩
def D_is_row : He.DefD := ⟨("is_row", none), "is_row", "is_row", defArgs (top 11), (defBody (top 11)), defScope (top 11), [], []⟩
def D_is_table : He.DefD := ⟨("is_table", none), "is_table", "is_table", defArgs (top 12), (defBody (top 12)), defScope (top 12), [], []⟩
def D_are_tables : He.DefD := ⟨("are_tables", none), "are_tables", "are_tables", defArgs (top 19), (defBody (top 19)), defScope (top 19), [], []⟩
def D_check_tables : He.DefD := ⟨("check_tables", none), "check_tables", "check_tables", defArgs (top 23), (defBody (top 23)), defScope (top 23), [], []⟩
def D_is_row_of : He.DefD := ⟨("is_row_of", none), "is_row_of", "is_row_of", defArgs (top 24), (defBody (top 24)), defScope (top 24), [], []⟩
def D_scope_of : He.DefD := ⟨("scope_of", none), "scope_of", "scope_of", defArgs (top 21), (defBody (top 21)), defScope (top 21), [], []⟩
def D_variables_of : He.DefD := ⟨("variables_of", none), "variables_of", "variables_of", defArgs (top 20), (defBody (top 20)), defScope (top 20), [], []⟩
def D_check_row : He.DefD := ⟨("check_row", none), "check_row", "check_row", defArgs (top 25), (defBody (top 25)), defScope (top 25), [], []⟩
def D_cut_to : He.DefD := ⟨("cut_to", none), "cut_to", "cut_to", defArgs (top 13), (defBody (top 13)), defScope (top 13), [], []⟩
def D_first_rejecting : He.DefD := ⟨("first_rejecting", none), "first_rejecting", "first_rejecting", defArgs (top 26), (defBody (top 26)), defScope (top 26), [], []⟩
def D_rejecting : He.DefD := ⟨("rejecting", none), "rejecting", "rejecting", defArgs (top 27), (defBody (top 27)), defScope (top 27), [], []⟩
def D__law_is_integer : He.DefD := ⟨("_law_is_integer", none), "_law_is_integer", "_law_is_integer", defArgs (top 31), (defBody (top 31)), defScope (top 31), [], []⟩
def D_law : He.DefD := ⟨("law", none), "law", "law", defArgs (top 42), (defBody (top 42)), defScope (top 42), [], []⟩
def fn : List He.DefD := [D__law_stream, D__law_next, D__law_some, D__law_graph, D__law_tree, D__law_rows, D__law_tables, D__law_variables, D__law_cut, D_is_number, D_is_whole, D_is_climbing, D_are_variables, D_is_scope, D_is_edge, D_is_graph, D_check_graph, D_is_row, D_is_table, D_are_tables, D_check_tables, D_is_row_of, D_scope_of, D_variables_of, D_check_row, D_cut_to, D_first_rejecting, D_rejecting, D__law_is_integer, D_law]
def fa : List He.Fa := [.glo "_law_stream", .glo "_law_next", .glo "_law_some", .glo "_law_graph", .glo "_law_tree", .glo "_law_rows", .glo "_law_tables", .glo "_law_variables", .glo "_law_cut", .glo "is_number", .glo "is_whole", .glo "is_climbing", .glo "are_variables", .glo "is_scope", .glo "is_edge", .glo "is_graph", .glo "check_graph", .glo "is_row", .glo "is_table", .glo "are_tables", .glo "check_tables", .glo "is_row_of", .glo "scope_of", .glo "variables_of", .glo "check_row", .glo "cut_to", .glo "first_rejecting", .glo "rejecting", .glo "_law_is_integer", .glo "law"] ++ (FREE.map He.Fa.free ++ INTS.map fun p => He.Fa.int p.1 p.2)
abbrev R : PySem.W.OpenRow := PySem.W.OpenLaw.row PySem.Challenge.rw_tabletalk_k09_whole_rejecting_nodes
abbrev hk : PySem.W.Hook := He.hookD 4 fa fn
def ob (s : PySem.W.SharedT) : He.AlD := He.obsDG 4 fa fn (HandSHeadRun.getT s)
theorem ob_eq (s : PySem.W.SharedT) : ob s = hk.obs s.abs := He.obsDG_eq (HandSHeadRun.getT_eq s)
def loose0 : List Str := ["TableError", "BadValue", "MOST_VARIABLE", "WIDEST_SCOPE", "MOST_COST", "is_whole", "is_climbing", "are_variables", "is_scope", "is_row", "is_table", "cut_to", "MOST_NODES", "is_number", "is_edge", "is_graph", "are_tables", "variables_of", "scope_of", "check_graph", "check_tables", "is_row_of", "check_row", "first_rejecting", "rejecting", "_law_stream", "_law_next", "_law_is_integer", "_law_some", "_law_graph"]
def loose1 : List Str := ["_law_tree", "_law_rows", "_law_tables", "_law_variables", "_law_cut", "_law_cost", "_law_solutions", "_law_left"]
def loose : List Str := loose0 ++ loose1
theorem run (w : World) : HandSHeadRun.RunEq R (PySem.W.view R.prog [42]) hk ob 2000 loose w := by
  intro os
  kernel_rfl
theorem facts {P : Program} {w : World} {K : PySem.W.Frag} {h : Heap} {mg : Str → Option Value} {f : Addr} (X : K.In h) (G : h.Ns mainGlobals mg) (hfa : mg ("law" : Str) = some (.ref f)) (c : He.SaysD fa fn K) :
    ∃ fd : FuncData, (∀ (s : Shared) (v : Value), BindsTo s fd ⟨[v], []⟩ [("_law_script", v)]) ∧ ∀ base : Heap, K.In base → base.Ns mainGlobals mg → FnOk P w K mg base CX0 8 f fd ["_law_script"] (spZ K 1 [] s_law) := by
  obtain ⟨fd__law_stream, F__law_stream⟩ := c.def_ 0 (d := D__law_stream) rfl
  obtain ⟨fd__law_next, F__law_next⟩ := c.def_ 1 (d := D__law_next) rfl
  obtain ⟨fd__law_some, F__law_some⟩ := c.def_ 2 (d := D__law_some) rfl
  obtain ⟨fd__law_graph, F__law_graph⟩ := c.def_ 3 (d := D__law_graph) rfl
  obtain ⟨fd__law_tree, F__law_tree⟩ := c.def_ 4 (d := D__law_tree) rfl
  obtain ⟨fd__law_rows, F__law_rows⟩ := c.def_ 5 (d := D__law_rows) rfl
  obtain ⟨fd__law_tables, F__law_tables⟩ := c.def_ 6 (d := D__law_tables) rfl
  obtain ⟨fd__law_variables, F__law_variables⟩ := c.def_ 7 (d := D__law_variables) rfl
  obtain ⟨fd__law_cut, F__law_cut⟩ := c.def_ 8 (d := D__law_cut) rfl
  obtain ⟨fd_is_number, F_is_number⟩ := c.def_ 9 (d := D_is_number) rfl
  obtain ⟨fd_is_whole, F_is_whole⟩ := c.def_ 10 (d := D_is_whole) rfl
  obtain ⟨fd_is_climbing, F_is_climbing⟩ := c.def_ 11 (d := D_is_climbing) rfl
  obtain ⟨fd_are_variables, F_are_variables⟩ := c.def_ 12 (d := D_are_variables) rfl
  obtain ⟨fd_is_scope, F_is_scope⟩ := c.def_ 13 (d := D_is_scope) rfl
  obtain ⟨fd_is_edge, F_is_edge⟩ := c.def_ 14 (d := D_is_edge) rfl
  obtain ⟨fd_is_graph, F_is_graph⟩ := c.def_ 15 (d := D_is_graph) rfl
  obtain ⟨fd_check_graph, F_check_graph⟩ := c.def_ 16 (d := D_check_graph) rfl
  obtain ⟨fd_is_row, F_is_row⟩ := c.def_ 17 (d := D_is_row) rfl
  obtain ⟨fd_is_table, F_is_table⟩ := c.def_ 18 (d := D_is_table) rfl
  obtain ⟨fd_are_tables, F_are_tables⟩ := c.def_ 19 (d := D_are_tables) rfl
  obtain ⟨fd_check_tables, F_check_tables⟩ := c.def_ 20 (d := D_check_tables) rfl
  obtain ⟨fd_is_row_of, F_is_row_of⟩ := c.def_ 21 (d := D_is_row_of) rfl
  obtain ⟨fd_scope_of, F_scope_of⟩ := c.def_ 22 (d := D_scope_of) rfl
  obtain ⟨fd_variables_of, F_variables_of⟩ := c.def_ 23 (d := D_variables_of) rfl
  obtain ⟨fd_check_row, F_check_row⟩ := c.def_ 24 (d := D_check_row) rfl
  obtain ⟨fd_cut_to, F_cut_to⟩ := c.def_ 25 (d := D_cut_to) rfl
  obtain ⟨fd_first_rejecting, F_first_rejecting⟩ := c.def_ 26 (d := D_first_rejecting) rfl
  obtain ⟨fd_rejecting, F_rejecting⟩ := c.def_ 27 (d := D_rejecting) rfl
  obtain ⟨fd__law_is_integer, F__law_is_integer⟩ := c.def_ 28 (d := D__law_is_integer) rfl
  obtain ⟨fd_law, F_law⟩ := c.def_ 29 (d := D_law) rfl
  have e := hfa.symm.trans (He.glo_ok X G (c.fact 29 (f := .glo "law") rfl))
  cases e
  have b := FunD.bindsA (ps := ["_law_script"]) F_law fun _ _ _ _ _ _ us hl => match us, hl with | [_], _ => rfl
  have g : GF mg FREE INTS := gf_of X G c (fun x hx => List.mem_append_right _ (List.mem_append_left _ (List.mem_map_of_mem hx))) (fun p hp => List.mem_append_right _ (List.mem_append_right _ (List.mem_map.mpr ⟨p, hp, rfl⟩)))
  refine ⟨fd_law, fun s v => b s [v] rfl, fun base _ _ => ?_⟩
  have f__law_stream := a__law_stream (P := P) (w := w) (base := base) F__law_stream (He.glo_ok X G (c.fact 0 (f := .glo "_law_stream") rfl)) g
  have f__law_next := a__law_next (P := P) (w := w) (base := base) F__law_next (He.glo_ok X G (c.fact 1 (f := .glo "_law_next") rfl)) g
  have f__law_some := a__law_some (P := P) (w := w) (base := base) F__law_some (He.glo_ok X G (c.fact 2 (f := .glo "_law_some") rfl)) g f__law_next
  have f__law_graph := a__law_graph (P := P) (w := w) (base := base) F__law_graph (He.glo_ok X G (c.fact 3 (f := .glo "_law_graph") rfl)) g f__law_next f__law_some
  have f__law_tree := a__law_tree (P := P) (w := w) (base := base) F__law_tree (He.glo_ok X G (c.fact 4 (f := .glo "_law_tree") rfl)) g f__law_next f__law_some
  have f__law_rows := a__law_rows (P := P) (w := w) (base := base) F__law_rows (He.glo_ok X G (c.fact 5 (f := .glo "_law_rows") rfl)) g
  have f__law_tables := a__law_tables (P := P) (w := w) (base := base) F__law_tables (He.glo_ok X G (c.fact 6 (f := .glo "_law_tables") rfl)) g f__law_next f__law_rows
  have f__law_variables := a__law_variables (P := P) (w := w) (base := base) F__law_variables (He.glo_ok X G (c.fact 7 (f := .glo "_law_variables") rfl)) g
  have f__law_cut := a__law_cut (P := P) (w := w) (base := base) F__law_cut (He.glo_ok X G (c.fact 8 (f := .glo "_law_cut") rfl)) g
  have f_is_number := a_is_number (P := P) (w := w) (base := base) F_is_number (He.glo_ok X G (c.fact 9 (f := .glo "is_number") rfl)) g
  have f_is_whole := a_is_whole (P := P) (w := w) (base := base) F_is_whole (He.glo_ok X G (c.fact 10 (f := .glo "is_whole") rfl)) g
  have f_is_climbing := a_is_climbing (P := P) (w := w) (base := base) F_is_climbing (He.glo_ok X G (c.fact 11 (f := .glo "is_climbing") rfl)) g
  have f_are_variables := a_are_variables (P := P) (w := w) (base := base) F_are_variables (He.glo_ok X G (c.fact 12 (f := .glo "are_variables") rfl)) g f_is_climbing f_is_whole
  have f_is_scope := a_is_scope (P := P) (w := w) (base := base) F_is_scope (He.glo_ok X G (c.fact 13 (f := .glo "is_scope") rfl)) g f_are_variables
  have f_is_edge := a_is_edge (P := P) (w := w) (base := base) F_is_edge (He.glo_ok X G (c.fact 14 (f := .glo "is_edge") rfl)) g f_is_number
  have f_is_graph := a_is_graph (P := P) (w := w) (base := base) F_is_graph (He.glo_ok X G (c.fact 15 (f := .glo "is_graph") rfl)) g f_is_edge f_is_scope f_is_number
  have f_check_graph := a_check_graph (P := P) (w := w) (base := base) F_check_graph (He.glo_ok X G (c.fact 16 (f := .glo "check_graph") rfl)) g f_is_graph
  have f_is_row := a_is_row (P := P) (w := w) (base := base) F_is_row (He.glo_ok X G (c.fact 17 (f := .glo "is_row") rfl)) g f_is_whole
  have f_is_table := a_is_table (P := P) (w := w) (base := base) F_is_table (He.glo_ok X G (c.fact 18 (f := .glo "is_table") rfl)) g f_is_climbing f_is_whole f_is_row
  have f_are_tables := a_are_tables (P := P) (w := w) (base := base) F_are_tables (He.glo_ok X G (c.fact 19 (f := .glo "are_tables") rfl)) g f_is_table
  have f_check_tables := a_check_tables (P := P) (w := w) (base := base) F_check_tables (He.glo_ok X G (c.fact 20 (f := .glo "check_tables") rfl)) g f_are_tables f_check_graph
  have f_is_row_of := a_is_row_of (P := P) (w := w) (base := base) F_is_row_of (He.glo_ok X G (c.fact 21 (f := .glo "is_row_of") rfl)) g f_is_number
  have f_scope_of := a_scope_of (P := P) (w := w) (base := base) F_scope_of (He.glo_ok X G (c.fact 22 (f := .glo "scope_of") rfl)) g
  have f_variables_of := a_variables_of (P := P) (w := w) (base := base) F_variables_of (He.glo_ok X G (c.fact 23 (f := .glo "variables_of") rfl)) g f_scope_of
  have f_check_row := a_check_row (P := P) (w := w) (base := base) F_check_row (He.glo_ok X G (c.fact 24 (f := .glo "check_row") rfl)) g f_is_row_of f_variables_of
  have f_cut_to := a_cut_to (P := P) (w := w) (base := base) F_cut_to (He.glo_ok X G (c.fact 25 (f := .glo "cut_to") rfl)) g
  have f_first_rejecting := a_first_rejecting (P := P) (w := w) (base := base) F_first_rejecting (He.glo_ok X G (c.fact 26 (f := .glo "first_rejecting") rfl)) g f_cut_to f_scope_of
  have f_rejecting := a_rejecting (P := P) (w := w) (base := base) F_rejecting (He.glo_ok X G (c.fact 27 (f := .glo "rejecting") rfl)) g f_first_rejecting f_check_row f_check_tables
  have f__law_is_integer := a__law_is_integer (P := P) (w := w) (base := base) F__law_is_integer (He.glo_ok X G (c.fact 28 (f := .glo "_law_is_integer") rfl)) g
  exact a_law F_law g f__law_rows f__law_is_integer f_rejecting f__law_cut f__law_variables f__law_tables f__law_next f__law_tree f__law_graph f__law_stream
end WK
namespace QQ
open PP WK

theorem modF_int (i j : Int) (h : 0 < j) : modF (.int i) (.int j) = some (.int (i % j)) := by
  simp only [modF, intF]; rw [if_pos (by simpa using h)]
theorem divF_int (i j : Int) (h : 0 < j ∧ j < 1073741824) : divF (.int i) (.int j) = some (.int (i / j)) := by
  simp only [divF, intF]; rw [if_pos (by simpa using h)]
theorem mulF_int (i j : Int) (h : -(2 ^ 64) < i ∧ i < 2 ^ 64 ∨ -(2 ^ 64) < j ∧ j < 2 ^ 64) : mulF (.int i) (.int j) = some (.int (i * j)) := by
  simp only [mulF, intF]; rw [if_pos (by simpa using h)]
theorem getF_at (ns : List Int) (k : Nat) (h : k < ns.length) : getF (.lst (ns.map PV.int)) (.int k) = some (.int ns[k]) := getF_seq rfl (by simp [h])
theorem pow18 : powF (.int 10) (.int 18) = some (.int 1000000000000000000) := by
  simp only [powF, intF]
  rw [if_pos (by decide)]
  rfl
/-! _law_next -/
def stP (ns : List Int) (c k : Int) : PV := .lst [.lst (ns.map PV.int), .int c, .int k]
def nxI : DenS := (sIf (dB (dBin ltF (dVar 3) (dBin powF (dC (.int 10)) (dC (.int 18))))) (sSeq (sAsg (.nm 3) (dBin modF (dApp intTF [.d (dBin addF (dBin addF (dBin mulF (dVar 3) (dC (.int 48271))) (dBin mulF (dVar 2) (dC (.int 69621)))) (dC (.int 11)))]) (dC (.int 2147483647)))) (sSeq (sAsg (.nm 3) (dBin addF (dBin mulF (dBin modF (dApp intTF [.d (dBin addF (dBin mulF (dVar 3) (dC (.int 16807))) (dC (.int 13)))]) (dC (.int 2147483647))) (dC (.int 65537))) (dVar 3))) sNil)) sNil)
def nxT : DenS := (sSeq (sStore 0 (dC (.int 1)) (dVar 3)) (sSeq (sStore 0 (dC (.int 2)) (dBin addF (dVar 2) (dC (.int 1)))) sNil))
def nxC : DenS := (sIf (dB (dBin ltF (dVar 2) (dApp lenF [.d (dBinL getF 0 (dC (.int 0)))]))) (sSeq (sAsg (.nm 3) (dApp absF [.d (dBin getF (dBinL getF 0 (dC (.int 0))) (dVar 2))])) sNil) sNil)
def nxE : DenS := (sSeq (sAsg (.nm 4) (dBin modF (dApp intTF [.d (dBinL getF 0 (dC (.int 1)))]) (dVar 1))) (sSeq (sStore 0 (dC (.int 1)) (dBin divF (dBinL getF 0 (dC (.int 1))) (dVar 1))) (sSeq (sRet (dVar 4)) sNil)))
theorem next_eq : d__law_next = sSeq (sIf (dB (dBin eqF (dBinL getF 0 (dC (.int 1))) (dC (.int 0)))) (sSeq (sAsg (.nm 2) (dBinL getF 0 (dC (.int 2)))) (sSeq (sAsg (.nm 3) (dBin addF (dC (.int 7)) (dVar 2))) (sSeq nxC (sSeq nxI nxT)))) sNil) nxE := rfl
theorem cell_nn (x k : Int) : ∃ u v, 0 ≤ u ∧ 0 ≤ v ∧ (x * 48271 + k * 69621 + 11) % 2147483647 = u ∧ (u * 16807 + 13) % 2147483647 = v := ⟨_, _, Int.emod_nonneg _ (by decide), Int.emod_nonneg _ (by decide), rfl, rfl⟩
theorem nxI_ok (a b : SlP) (k x : Int) (hx : 0 ≤ x) : ∃ y : Int, 0 ≤ y ∧ nxI [a, b, .val (.int k), .val (.int x), .no] = some (.nx [a, b, .val (.int k), .val (.int y), .no]) := by
  have e3 : ∀ x : Int, modF (.int x) (.int 2147483647) = some (.int (x % 2147483647)) := fun x => modF_int x _ (by decide)
  have e4 : ∀ x : Int, mulF (.int x) (.int 48271) = some (.int (x * 48271)) := fun x => mulF_int _ _ (.inr (by decide))
  have e5 : ∀ x : Int, mulF (.int x) (.int 69621) = some (.int (x * 69621)) := fun x => mulF_int _ _ (.inr (by decide))
  have e6 : ∀ x : Int, mulF (.int x) (.int 16807) = some (.int (x * 16807)) := fun x => mulF_int _ _ (.inr (by decide))
  have e7 : ∀ x : Int, mulF (.int x) (.int 65537) = some (.int (x * 65537)) := fun x => mulF_int _ _ (.inr (by decide))
  by_cases hb : x < 1000000000000000000
  · obtain ⟨u, v, hu, hv, e1, e2⟩ := cell_nn x k
    exact ⟨v * 65537 + u, Int.add_nonneg (Int.mul_nonneg hv (by decide)) hu, by simp [nxI, e3, e4, e5, e6, e7, pow18, hb, e1, e2]⟩
  · exact ⟨x, hx, by simp [nxI, pow18, hb]⟩
theorem nxT_ok (ns : List Int) (b : SlP) (k x : Int) : nxT [.own (stP ns 0 k), b, .val (.int k), .val (.int x), .no] = some (.nx [.own (stP ns x (k + 1)), b, .val (.int k), .val (.int x), .no]) := by
  simp [nxT, stP]
theorem nxC_ok (ns : List Int) (b : SlP) (k : Nat) : ∃ x : Int, 0 ≤ x ∧ nxC [.own (stP ns 0 k), b, .val (.int k), .val (.int (7 + k)), .no] = some (.nx [.own (stP ns 0 k), b, .val (.int k), .val (.int x), .no]) := by
  by_cases hk : (k : Int) < ns.length
  · have g := getF_at ns k (by omega)
    exact ⟨if ns[k] < 0 then -ns[k] else ns[k], by split <;> omega, by simp [nxC, stP, hk, g, absF]⟩
  · exact ⟨7 + k, by omega, by simp [nxC, stP, hk]⟩
theorem nxE_ok (ns : List Int) (a b : SlP) (c k many : Int) (h : 0 < many) (hm : many < 1000000) : nxE [.own (stP ns c k), .val (.int many), a, b, .no] = some (.rt (.int (c % many)) [.own (stP ns (c / many) k), .val (.int many), a, b, .val (.int (c % many))]) := by
  have e1 : ∀ x : Int, modF (.int x) (.int many) = some (.int (x % many)) := fun x => modF_int x many h
  have e2 : ∀ x : Int, divF (.int x) (.int many) = some (.int (x / many)) := fun x => divF_int x many ⟨h, by omega⟩
  simp [nxE, stP, e1, e2]
structure St where
  ns : List Int
  c : Int
  k : Nat
  hc : 0 ≤ c
def St.p (s : St) : PV := stP s.ns s.c s.k
theorem next_ok (s : St) (many : Int) (h : 0 < many) (hm : many < 1000000) : ∃ (d : Int) (s' : St), 0 ≤ d ∧ d < many ∧ s__law_next [s.p, .int many] = some (.int d, [s'.p, .int many]) := by
  obtain ⟨ns, c, k, hc⟩ := s
  by_cases h0 : c = 0
  · subst h0
    obtain ⟨x, hx, ex⟩ := nxC_ok ns (.val (.int many)) k
    obtain ⟨y, hy, ey⟩ := nxI_ok (.own (stP ns 0 k)) (.val (.int many)) k x hx
    have et := nxT_ok ns (.val (.int many)) k y
    have ee := nxE_ok ns (.val (.int k)) (.val (.int y)) y (k + 1) many h hm
    refine ⟨y % many, ⟨ns, y / many, k + 1, Int.ediv_nonneg hy (by omega)⟩, Int.emod_nonneg _ (by omega), Int.emod_lt_of_pos _ h, ?_⟩
    unfold s__law_next
    rw [next_eq, runF_ev]
    have g1 : getF (stP ns 0 k) (.int 1) = some (.int 0) := by simp [stP]
    have g2 : getF (stP ns 0 k) (.int 2) = some (.int k) := by simp [stP]
    simp [St.p, g1, g2, ex, ey, et, ee]
  · refine ⟨c % many, ⟨ns, c / many, k, Int.ediv_nonneg hc (by omega)⟩, Int.emod_nonneg _ (by omega), Int.emod_lt_of_pos _ h, ?_⟩
    have ee := nxE_ok ns .no .no c k many h hm
    unfold s__law_next
    rw [next_eq, runF_ev]
    have g1 : getF (stP ns c k) (.int 1) = some (.int c) := by simp [stP]
    simp [St.p, g1, ee, h0]
end QQ

namespace QQ
open PP WK
def tI (l : List Int) : PV := .tup (l.map PV.int)
theorem appendF_ok (xs : List PV) (y : PV) (h : xs.length < 1000000) : appendF xs [y] = some (.non, xs ++ [y]) := by
  simp only [appendF]; rw [if_pos h]
theorem some_ok (s : St) (most high : Int) (hm : 0 ≤ most) (hh : 0 ≤ high ∧ high ≤ 1000) : ∃ (l : List Int) (s' : St), s__law_some [s.p, .int most, .int high] = some (tI l, [s'.p, .int most, .int high]) ∧ l.Pairwise (· < ·) ∧ (∀ x ∈ l, 0 ≤ x ∧ x < high) ∧ (l.length : Int) ≤ most := by
  have loop := forF_suf (t := .nm 4) (b := (sSeq (sIf (dAnd (dB (dBin ltF (dApp lenF [.b 3]) (dVar 1))) (dB (dBin eqF (dCall s__law_next [.b 0, .d (dC (.int 2))]) (dC (.int 0))))) (sSeq (sDrop (dMut appendF 3 [(dVar 4)])) sNil) sNil) sNil))
    (P := fun rem env => ∃ (s : St) (l : List Int) (v4 : SlP) (i : Int) (n : Nat), env = [.own s.p, .val (.int most), .val (.int high), .own (.lst (l.map PV.int)), v4] ∧ rem = rngP i n ∧ i + n = high ∧ 0 ≤ i ∧ l.Pairwise (· < ·) ∧ (∀ x ∈ l, 0 ≤ x ∧ x < i) ∧ (l.length : Int) ≤ most ∧ (l.length : Int) ≤ i) (fun x xs env ⟨s, l, v4, i, n, e, hr, hi, h0, hp, hb, hl, hli⟩ => by
      subst e
      cases n with
      | zero => rw [rngP_zero] at hr; cases hr
      | succ n =>
        rw [rngP_succ] at hr
        cases hr
        refine ⟨[.own s.p, .val (.int most), .val (.int high), .own (.lst (l.map PV.int)), .val (.int i)], ?_⟩
        by_cases hlt : (l.length : Int) < most
        · obtain ⟨d, s', hd0, hd, e⟩ := next_ok s 2 (by decide) (by decide)
          by_cases hz : d = 0
          · subst hz
            have ha := appendF_ok (l.map PV.int) (.int i) (by simp; omega)
            refine ⟨[.own s'.p, .val (.int most), .val (.int high), .own (.lst ((l ++ [i]).map PV.int)), .val (.int i)], by simp, by simp [hlt, e, ha], s', l ++ [i], _, i + 1, n, rfl, rfl, by omega, by omega, ?_, ?_, ?_, ?_⟩
            · rw [List.pairwise_append]
              exact ⟨hp, by simp, fun a hma b hmb => by simp at hmb; subst hmb; exact (hb a hma).2⟩
            · intro x hx
              rcases List.mem_append.mp hx with hx | hx
              · have := hb x hx; omega
              · simp at hx; omega
            · rw [List.length_append]; simp; omega
            · rw [List.length_append]; simp; omega
          · refine ⟨_, by simp, by simp [hlt, e, hz]; rfl, s', l, _, i + 1, n, rfl, rfl, by omega, by omega, hp, fun x hx => by have := hb x hx; omega, hl, by omega⟩
        · refine ⟨_, by simp, by simp [hlt]; rfl, s, l, _, i + 1, n, rfl, rfl, by omega, by omega, hp, fun x hx => by have := hb x hx; omega, hl, by omega⟩)
  obtain ⟨e', h1, s', l, v4, i, n, h2, h3, h4, h5, h6, h7, h8, h9⟩ := loop (rngP 0 high.toNat) [.own s.p, .val (.int most), .val (.int high), .own (.lst []), .no] ⟨s, [], .no, 0, high.toNat, rfl, rfl, by omega, by omega, .nil, by simp, by simpa using hm, by simp⟩
  have hn : n = 0 := by
    cases n with
    | zero => rfl
    | succ n => rw [rngP_succ] at h3; cases h3
  subst hn h2
  refine ⟨l, s', ?_, h6, fun x hx => by have := h7 x hx; omega, h8⟩
  unfold s__law_some d__law_some
  rw [runF_ev]
  have hr : iRange [dVar 2] [.own s.p, .val (.int most), .val (.int high), .own (.lst []), .no] = some (rngP 0 high.toNat, [.own s.p, .val (.int most), .val (.int high), .own (.lst []), .no]) := iRange_1 (n := high.toNat) (by simp; omega) (by omega)
  simp [hr, h1, tI]
end QQ

namespace QQ
open PP WK
def lt2 (p q : Int × Int) : Prop := p.1 < q.1 ∨ (p.1 = q.1 ∧ p.2 < q.2)
def pE (p : Int × Int) : PV := .tup [.int p.1, .int p.2]
def gP (v : Int) (sc : List (List Int)) (ed : List (Int × Int)) : PV := .tup [.int v, .tup (sc.map tI), .tup (ed.map pE)]
def OkS (l : List Int) : Prop := l.Pairwise (· < ·) ∧ (∀ x ∈ l, 0 ≤ x ∧ x < 6) ∧ l.length ≤ 3
structure OkG (v : Int) (sc : List (List Int)) (ed : List (Int × Int)) : Prop where
  v : v = 2 ∨ v = 3
  n0 : 1 ≤ sc.length
  n1 : sc.length ≤ 4
  ss : ∀ l ∈ sc, OkS l
  es : ∀ p ∈ ed, 0 ≤ p.1 ∧ p.1 < p.2 ∧ p.2 < sc.length
  eo : ed.Pairwise lt2
theorem each_map {α : Type} {G : PV → PV → Prop} {f : α → PV} {Q : α → Prop} (h : ∀ x y, G x y → ∃ l, y = f l ∧ Q l) : ∀ {xs ys : List PV}, Each G xs ys → ∃ ls : List α, ys = ls.map f ∧ (∀ l ∈ ls, Q l) ∧ ls.length = xs.length
  | _, _, .nil => ⟨[], rfl, by simp, rfl⟩
  | _, _, .cons g t => by
    obtain ⟨l, e, q⟩ := h _ _ g
    obtain ⟨ls, e1, q1, q2⟩ := each_map h t
    subst e e1
    exact ⟨l :: ls, rfl, fun z hz => (List.mem_cons.mp hz).elim (fun e => e ▸ q) (q1 z), by simp [q2]⟩
theorem rngP_nil {i : Int} {n : Nat} (h : [] = rngP i n) : n = 0 := by
  cases n with
  | zero => rfl
  | succ n => rw [rngP_succ] at h; cases h
theorem rngP_cons {i : Int} {n : Nat} {x : PV} {xs : List PV} (h : x :: xs = rngP i n) : ∃ m, n = m + 1 ∧ x = .int i ∧ xs = rngP (i + 1) m := by
  cases n with
  | zero => rw [rngP_zero] at h; cases h
  | succ n => rw [rngP_succ] at h; cases h; exact ⟨n, rfl, rfl, rfl⟩
/-- the inner loop over b -/
abbrev grB : DenS := (sSeq (sIf (dB (dBin eqF (dCall s__law_next [.b 0, .d (dC (.int 2))]) (dC (.int 0)))) (sSeq (sDrop (dMut appendF 6 [(dTup [(dVar 7), (dVar 8)])])) sNil) sNil) sNil)
theorem grB_ok (nd v many sc5 : PV) (v5 : SlP) (a : Int) (m : Int) (s : St) (ed : List (Int × Int)) (v8 : SlP) (n : Nat) (hn : a + 1 + n = m) (hm : m ≤ 4) (h0 : 0 ≤ a) (h1 : ∀ p ∈ ed, 0 ≤ p.1 ∧ p.1 < p.2 ∧ p.2 < m) (h2 : ed.Pairwise lt2) (h3 : ∀ p ∈ ed, p.1 < a) (h4 : (ed.length : Int) ≤ a * 4) :
    ∃ (s' : St) (ed' : List (Int × Int)) (v8' : SlP), forF (.nm 8) grB (rngP (a + 1) n) [.own s.p, .val nd, .val v, .val many, .val sc5, v5, .own (.lst (ed.map pE)), .val (.int a), v8] = some (.nx [.own s'.p, .val nd, .val v, .val many, .val sc5, v5, .own (.lst (ed'.map pE)), .val (.int a), v8']) ∧
      (∀ p ∈ ed', 0 ≤ p.1 ∧ p.1 < p.2 ∧ p.2 < m) ∧ ed'.Pairwise lt2 ∧ (∀ p ∈ ed', p.1 < a + 1) ∧ (ed'.length : Int) ≤ (a + 1) * 4 := by
  have loop := forF_suf (t := .nm 8) (b := grB) (P := fun rem env => ∃ (s' : St) (ed' : List (Int × Int)) (v8' : SlP) (i : Int) (k : Nat), env = [.own s'.p, .val nd, .val v, .val many, .val sc5, v5, .own (.lst (ed'.map pE)), .val (.int a), v8'] ∧ rem = rngP i k ∧ i + k = m ∧ a < i ∧
    (∀ p ∈ ed', 0 ≤ p.1 ∧ p.1 < p.2 ∧ p.2 < m) ∧ ed'.Pairwise lt2 ∧ (∀ p ∈ ed', p.1 < a ∨ p.1 = a ∧ p.2 < i) ∧ (ed'.length : Int) ≤ a * 4 + (i - a - 1)) (fun x xs env ⟨s, ed, v8, i, k, e, hr, hk, hi, q1, q2, q3, q4⟩ => by
      subst e
      obtain ⟨k', rfl, rfl, rfl⟩ := rngP_cons hr
      obtain ⟨d, s', hd0, hd, e⟩ := next_ok s 2 (by decide) (by decide)
      by_cases hz : d = 0
      · subst hz
        have ha := appendF_ok (ed.map pE) (.tup [.int a, .int i]) (by simp; omega)
        refine ⟨_, [.own s'.p, .val nd, .val v, .val many, .val sc5, v5, .own (.lst ((ed ++ [(a, i)]).map pE)), .val (.int a), .val (.int i)], by simp; rfl, by simp [e, ha, pE], s', _, _, i + 1, k', rfl, rfl, by omega, by omega, ?_, ?_, ?_, ?_⟩
        · intro p hp
          rcases List.mem_append.mp hp with hp | hp
          · exact q1 p hp
          · simp at hp; subst hp; exact ⟨h0, hi, by show i < m; omega⟩
        · rw [List.pairwise_append]
          refine ⟨q2, by simp, fun p hp q hq => ?_⟩
          simp at hq
          subst hq
          rcases q3 p hp with z | ⟨z, z2⟩
          · exact .inl z
          · exact .inr ⟨z, z2⟩
        · intro p hp
          rcases List.mem_append.mp hp with hp | hp
          · rcases q3 p hp with z | ⟨z, z2⟩
            · exact .inl z
            · exact .inr ⟨z, by omega⟩
          · simp at hp; subst hp; exact .inr ⟨rfl, by show i < i + 1; omega⟩
        · rw [List.length_append]; simp; omega
      · refine ⟨_, _, by simp; rfl, by simp [e, hz]; rfl, s', ed, _, i + 1, k', rfl, rfl, by omega, by omega, q1, q2, fun p hp => ?_, by omega⟩
        rcases q3 p hp with z | ⟨z, z2⟩
        · exact .inl z
        · exact .inr ⟨z, by omega⟩)
  obtain ⟨e', g1, s', ed', v8', i, k, g2, g3, g4, g5, g6, g7, g8, g9⟩ := loop (rngP (a + 1) n) _ ⟨s, ed, v8, a + 1, n, rfl, rfl, hn, by omega, h1, h2, fun p hp => .inl (h3 p hp), by omega⟩
  have hz := rngP_nil g3
  subst hz g2
  refine ⟨s', ed', v8', g1, g6, g7, fun p hp => ?_, by omega⟩
  rcases g8 p hp with z | ⟨z, z2⟩ <;> omega
/-- the loop over a -/
abbrev grA : DenS := (sSeq (sFor (iRange [(dBin addF (dVar 7) (dC (.int 1))), (dVar 3)]) (.nm 8) grB) sNil)
theorem grA_ok (nd v sc5 : PV) (v5 v7 v8 : SlP) (m : Nat) (s : St) (hm : m ≤ 4) :
    ∃ (s' : St) (ed' : List (Int × Int)) (v7' v8' : SlP), forF (.nm 7) grA (rngP 0 m) [.own s.p, .val nd, .val v, .val (.int m), .val sc5, v5, .own (.lst []), v7, v8] = some (.nx [.own s'.p, .val nd, .val v, .val (.int m), .val sc5, v5, .own (.lst (ed'.map pE)), v7', v8']) ∧
      (∀ p ∈ ed', 0 ≤ p.1 ∧ p.1 < p.2 ∧ p.2 < m) ∧ ed'.Pairwise lt2 ∧ ed'.length ≤ 16 := by
  have loop := forF_suf (t := .nm 7) (b := grA) (P := fun rem env => ∃ (s' : St) (ed' : List (Int × Int)) (v7' v8' : SlP) (i : Int) (k : Nat), env = [.own s'.p, .val nd, .val v, .val (.int m), .val sc5, v5, .own (.lst (ed'.map pE)), v7', v8'] ∧ rem = rngP i k ∧ i + k = m ∧ 0 ≤ i ∧
    (∀ p ∈ ed', 0 ≤ p.1 ∧ p.1 < p.2 ∧ p.2 < m) ∧ ed'.Pairwise lt2 ∧ (∀ p ∈ ed', p.1 < i) ∧ (ed'.length : Int) ≤ i * 4) (fun x xs env ⟨s, ed, v7, v8, i, k, e, hr, hk, hi, q1, q2, q3, q4⟩ => by
      subst e
      obtain ⟨k', rfl, rfl, rfl⟩ := rngP_cons hr
      obtain ⟨s', ed', v8', g, a1, a2, a3, a4⟩ := grB_ok nd v (.int m) sc5 v5 i m s ed v8 k' (by omega) (by omega) hi q1 q2 q3 q4
      refine ⟨[.own s.p, .val nd, .val v, .val (.int m), .val sc5, v5, .own (.lst (ed.map pE)), .val (.int i), v8], [.own s'.p, .val nd, .val v, .val (.int m), .val sc5, v5, .own (.lst (ed'.map pE)), .val (.int i), v8'], by simp, ?_, s', ed', _, _, i + 1, k', rfl, rfl, by omega, by omega, a1, a2, a3, a4⟩
      have hr := iRange_2 (a := dBin addF (dVar 7) (dC (.int 1))) (b := dVar 3) (e := [.own s.p, .val nd, .val v, .val (.int m), .val sc5, v5, .own (.lst (ed.map pE)), .val (.int i), v8]) (i := i + 1) (j := m) (e1 := [.own s.p, .val nd, .val v, .val (.int m), .val sc5, v5, .own (.lst (ed.map pE)), .val (.int i), v8]) (e2 := [.own s.p, .val nd, .val v, .val (.int m), .val sc5, v5, .own (.lst (ed.map pE)), .val (.int i), v8]) (by simp) (by simp) (by omega) (by omega)
      rw [show ((m : Int) - (i + 1)).toNat = k' by omega] at hr
      unfold grA
      rw [sSeq_ev, sFor_ev, hr, kFor_s, g]
      rfl)
  obtain ⟨e', g1, s', ed', v7', v8', i, k, g2, g3, g4, g5, g6, g7, g8, g9⟩ := loop (rngP 0 m) _ ⟨s, [], v7, v8, 0, m, rfl, rfl, by omega, by omega, by simp, .nil, by simp, by simp⟩
  have hz := rngP_nil g3
  subst hz g2
  exact ⟨s', ed', v7', v8', g1, g6, g7, by omega⟩
theorem graph_ok (s : St) : ∃ (v : Int) (sc : List (List Int)) (ed : List (Int × Int)) (s' : St), s__law_graph [s.p, .int 4] = some (gP v sc ed, [s'.p, .int 4]) ∧ OkG v sc ed := by
  obtain ⟨d1, s1, h10, h1, e1⟩ := next_ok s 5 (by decide) (by decide)
  obtain ⟨d2, s2, h20, h2, e2⟩ := next_ok s1 4 (by decide) (by decide)
  have hv : ∃ v : Int, (v = 2 ∨ v = 3) ∧ 2 + (if d1 = 0 then (1 : Int) else 0) = v := ⟨_, by split <;> simp, rfl⟩
  obtain ⟨v, hv, ev⟩ := hv
  have hm : ∃ m : Nat, 1 + d2 = m ∧ 1 ≤ m ∧ m ≤ 4 := ⟨(1 + d2).toNat, by omega, by omega, by omega⟩
  obtain ⟨m, em, hm1, hm4⟩ := hm
  -- the scopes
  have hmost : ∃ k : Int, 2 ≤ k ∧ k ≤ 3 ∧ 2 + (if v = 2 then (1 : Int) else 0) = k := ⟨_, by split <;> simp, by split <;> simp, rfl⟩
  obtain ⟨k, hk2, hk3, ek⟩ := hmost
  have comp := lcF_each (t := .nm 5) (elt := (dCall s__law_some [.b 0, .d (dBin addF (dC (.int 2)) (dApp intTF [.d (dBin eqF (dVar 2) (dC (.int 2)))])), .d (dC (.int 4))])) (vs := [5]) (xs := rngP 0 m)
    (P := fun e => ∃ s : St, e = [.own s.p, .val (.int 4), .val (.int v), .val (.int m), .no, .no, .no, .no, .no]) (G := fun x y => ∃ l, y = tI l ∧ OkS l) (e := [.own s2.p, .val (.int 4), .val (.int v), .val (.int m), .no, .no, .no, .no, .no]) (fun x _ e ⟨s, he⟩ => by
      subst he
      obtain ⟨l, s', g1, g2, g3, g4⟩ := some_ok s k 4 (by omega) (by omega)
      refine ⟨_, tI l, [.own s'.p, .val (.int 4), .val (.int v), .val (.int m), .no, .val x, .no, .no, .no], by simp; rfl, ?_, ⟨l, rfl, g2, fun x hx => by have := g3 x hx; omega, by omega⟩, s', by simp⟩
      simp [ek, g1]) ⟨s2, rfl⟩
  obtain ⟨ys, e', c1, ⟨s3, c2⟩, c3⟩ := comp
  obtain ⟨sc, c4, c5, c6⟩ := each_map (f := tI) (Q := OkS) (fun x y h => h) c3
  subst c2 c4
  rw [rngP_len] at c6
  obtain ⟨s4, ed, v7, v8, g, a1, a2, a3⟩ := grA_ok (.int 4) (.int v) (.tup (sc.map tI)) .no .no .no m s3 hm4
  refine ⟨v, sc, ed, s4, ?_, hv, by omega, by omega, c5, by rw [c6]; exact a1, a2⟩
  unfold s__law_graph d__law_graph
  rw [runF_ev]
  have r1 : iRange [dVar 3] [.own s2.p, .val (.int 4), .val (.int v), .val (.int m), .no, .no, .no, .no, .no] = some (rngP 0 m, [.own s2.p, .val (.int 4), .val (.int v), .val (.int m), .no, .no, .no, .no, .no]) := iRange_1 (by simp) (by omega)
  have r2 : iRange [dVar 3] [.own s3.p, .val (.int 4), .val (.int v), .val (.int m), .val (.tup (sc.map tI)), .no, .own (.lst []), .no, .no] = some (rngP 0 m, [.own s3.p, .val (.int 4), .val (.int v), .val (.int m), .val (.tup (sc.map tI)), .no, .own (.lst []), .no, .no]) := iRange_1 (by simp) (by omega)
  simp [e1, e2, ev, em, r1, r2, c1, g, gP]
end QQ

namespace QQ
open PP WK
theorem made_map {α β : Type} {G : PV → PV → Prop} {f : α → PV} {g : β → PV} {R : α → β → Prop} (h : ∀ a y, G (f a) y → ∃ b, y = g b ∧ R a b) : ∀ {as : List α} {ys : List PV}, Made G (as.map f) ys → ∃ (zs : List α) (bs : List β), ys = bs.map g ∧ zs.Sublist as ∧ zs.length = bs.length ∧ ∀ p ∈ zs.zip bs, R p.1 p.2
  | [], _, .nil => ⟨[], [], rfl, List.Sublist.refl _, rfl, by simp⟩
  | a :: as, _, .skip t => by
    obtain ⟨zs, bs, h1, h2, h3, h4⟩ := made_map h t
    exact ⟨zs, bs, h1, h2.cons a, h3, h4⟩
  | a :: as, _, .take g0 t => by
    obtain ⟨zs, bs, h1, h2, h3, h4⟩ := made_map h t
    obtain ⟨b, e, r⟩ := h a _ g0
    subst e h1
    refine ⟨a :: zs, b :: bs, rfl, h2.cons₂ a, by simp [h3], fun p hp => ?_⟩
    rcases List.mem_cons.mp hp with e | hp
    · rw [e]; exact r
    · exact h4 p hp
/-- some of the items themselves -/
theorem made_same {α : Type} {G : PV → PV → Prop} {f : α → PV} (h : ∀ a y, G (f a) y → y = f a) {as : List α} {ys : List PV} (m : Made G (as.map f) ys) : ∃ zs : List α, ys = zs.map f ∧ zs.Sublist as := by
  obtain ⟨zs, bs, h1, h2, h3, h4⟩ := made_map (g := f) (R := fun a b => a = b) (fun a y g => ⟨a, h a y g, rfl⟩) m
  have : zs = bs := by
    apply List.ext_getElem h3
    intro i h5 h6
    exact h4 (zs[i], bs[i]) (List.mem_iff_getElem.mpr ⟨i, by rw [List.length_zip]; omega, by simp⟩)
  subst this
  exact ⟨zs, h1, h2⟩
/-- scopes below a fresh variable -/
def OkT (fr : Int) (l : List Int) : Prop := l.Pairwise (· < ·) ∧ (∀ x ∈ l, 0 ≤ x ∧ x < fr) ∧ l.length ≤ 2
theorem OkT.mono {a b : Int} {l : List Int} (h : OkT a l) (hb : a ≤ b) : OkT b l := ⟨h.1, fun x hx => by have := h.2.1 x hx; omega, h.2.2⟩
theorem getF_mid {f : α → PV} (l : List α) (i : Int) (h0 : 0 ≤ i) (h1 : i < l.length) : ∃ a, a ∈ l ∧ getF (.lst (l.map f)) (.int i) = some (f a) := by
  have hl : i.toNat < l.length := by omega
  refine ⟨l[i.toNat], List.getElem_mem hl, ?_⟩
  have := getF_seq (d := .lst (l.map f)) (xs := l.map f) (k := i.toNat) (x := f l[i.toNat]) rfl (by simp [hl])
  rwa [show ((i.toNat : Nat) : Int) = i by omega] at this
abbrev trB : DenS := (sSeq (sAsg (.nm 7) (dCall s__law_next [.b 0, .d (dVar 6)])) (sSeq (sOwn 8 (dLC (iSeq (dBinL getF 3 (dVar 7))) [9] (.nm 9) (dB (dBin gtF (dCall s__law_next [.b 0, .d (dC (.int 3))]) (dC (.int 0)))) (dVar 9))) (sSeq (sIf (dAnd (dB (dBin ltF (dVar 5) (dC (.int 6)))) (dAnd (dB (dBin eqF (dCall s__law_next [.b 0, .d (dC (.int 2))]) (dC (.int 0)))) (dB (dBin ltF (dApp lenF [.b 8]) (dC (.int 2)))))) (sSeq (sDrop (dMut appendF 8 [(dVar 5)])) (sSeq (sAsg (.nm 5) (dBin addF (dVar 5) (dC (.int 1)))) sNil)) sNil) (sSeq (sDrop (dMut appendF 3 [(dApp tupleF [.b 8])])) (sSeq (sDrop (dMut appendF 4 [(dTup [(dVar 7), (dVar 6)])])) sNil)))))
/-- one node more -/
theorem trB_ok (nd v : PV) (s : St) (sc : List (List Int)) (ed : List (Int × Int)) (fr i : Int) (v7 v8 v9 : SlP) (hi : 1 ≤ i) (hi4 : i ≤ 4) (hl : (sc.length : Int) = i) (he : (ed.length : Int) < i) (hf : 4 ≤ fr) (hf6 : fr ≤ 6) (hs : ∀ l ∈ sc, OkT fr l) :
    ∃ (s' : St) (k : List Int) (a fr' : Int) (v8' v9' : SlP), trB [.own s.p, .val nd, .val v, .own (.lst (sc.map tI)), .own (.lst (ed.map pE)), .val (.int fr), .val (.int i), v7, v8, v9] =
      some (.nx [.own s'.p, .val nd, .val v, .own (.lst ((sc ++ [k]).map tI)), .own (.lst ((ed ++ [(a, i)]).map pE)), .val (.int fr'), .val (.int i), .val (.int a), v8', v9']) ∧ OkT fr' k ∧ fr ≤ fr' ∧ fr' ≤ 6 ∧ 0 ≤ a ∧ a < i := by
  obtain ⟨a, s1, ha0, ha, e1⟩ := next_ok s i (by omega) (by omega)
  obtain ⟨l, hl1, hg⟩ := getF_mid (f := tI) sc a ha0 (by omega)
  -- the kept variables
  have comp := lcF_made (t := .nm 9) (tt := (dB (dBin gtF (dCall s__law_next [.b 0, .d (dC (.int 3))]) (dC (.int 0))))) (elt := dVar 9) (vs := [9]) (xs := l.map PV.int)
    (P := fun e => ∃ s : St, e = [.own s.p, .val nd, .val v, .own (.lst (sc.map tI)), .own (.lst (ed.map pE)), .val (.int fr), .val (.int i), .val (.int a), v8, .no]) (G := fun x y => y = x) (e := [.own s1.p, .val nd, .val v, .own (.lst (sc.map tI)), .own (.lst (ed.map pE)), .val (.int fr), .val (.int i), .val (.int a), v8, .no]) (fun x _ e ⟨s, he⟩ => by
      subst he
      obtain ⟨d, s', hd0, hd, e⟩ := next_ok s 3 (by decide) (by decide)
      refine ⟨_, decide (0 < d), [.own s'.p, .val nd, .val v, .own (.lst (sc.map tI)), .own (.lst (ed.map pE)), .val (.int fr), .val (.int i), .val (.int a), v8, .val x], by simp; rfl, by simp [e], fun _ => ⟨s', by simp⟩, fun _ => ⟨x, _, by simp; rfl, rfl, s', by simp⟩⟩) ⟨s1, rfl⟩
  obtain ⟨ys, e', c1, ⟨s2, c2⟩, c3⟩ := comp
  obtain ⟨k, c4, c5⟩ := made_same (f := PV.int) (fun a y g => g) c3
  subst c2 c4
  have hk : OkT fr k := ⟨(hs l hl1).1.sublist c5, fun x hx => (hs l hl1).2.1 x (c5.subset hx), Nat.le_trans c5.length_le (hs l hl1).2.2⟩
  have a1 := appendF_ok (sc.map tI)
  have hsl : (sc.map tI).length < 1000000 := by simp; omega
  have hel : (ed.map pE).length < 1000000 := by simp; omega
  have a3 := fun y => appendF_ok (sc.map tI) y hsl
  have a4 := fun y => appendF_ok (ed.map pE) y hel
  have a8 := appendF_ok (k.map PV.int) (.int fr) (by simp; have := hk.2.2; omega)
  have f1 : ∀ k, PV.tup (List.map PV.int k) = tI k := fun _ => rfl
  have f2 : ∀ a b : Int, PV.tup [.int a, .int b] = pE (a, b) := fun _ _ => rfl
  have f3 : ∀ k, seqOf (tI k) = some (k.map PV.int) := fun _ => rfl
  have hlen := hk.2.2
  have f4 : PV.tup (List.map PV.int k ++ [PV.int fr]) = tI (k ++ [fr]) := by simp [tI]
  by_cases h5 : fr < 6
  · obtain ⟨d, s3, hd0, hd, e2⟩ := next_ok s2 2 (by decide) (by decide)
    by_cases hz : d = 0
    · subst hz
      by_cases h8 : k.length < 2
      · have h8' : (k.length : Int) < 2 := by omega
        refine ⟨s3, k ++ [fr], a, fr + 1, _, _, by simp [trB, e1, hg, c1, f3, h5, e2, h8', a8, f4, f2, a3, a4]; exact ⟨rfl, rfl⟩, ?_, by omega, by omega, ha0, ha⟩
        refine ⟨?_, fun x hx => ?_, by rw [List.length_append]; simp; omega⟩
        · rw [List.pairwise_append]
          exact ⟨hk.1, by simp, fun x hx y hy => by simp at hy; subst hy; exact (hk.2.1 x hx).2⟩
        · rcases List.mem_append.mp hx with hx | hx
          · have := hk.2.1 x hx; omega
          · simp at hx; omega
      · have h8' : ¬ (k.length : Int) < 2 := by omega
        exact ⟨s3, k, a, fr, _, _, by simp [trB, e1, hg, c1, f3, h5, e2, h8', f1, f2, a3, a4]; exact ⟨rfl, rfl⟩, hk, by omega, by omega, ha0, ha⟩
    · exact ⟨s3, k, a, fr, _, _, by simp [trB, e1, hg, c1, f3, h5, e2, hz, f1, f2, a3, a4]; exact ⟨rfl, rfl⟩, hk, by omega, by omega, ha0, ha⟩
  · exact ⟨s2, k, a, fr, _, _, by simp [trB, e1, hg, c1, f3, h5, f1, f2, a3, a4]; exact ⟨rfl, rfl⟩, hk, by omega, by omega, ha0, ha⟩
/-- the loop over the nodes -/
theorem trL_ok (nd v : PV) (s : St) (l0 : List Int) (h0 : OkT 4 l0) (n : Nat) (hn : n ≤ 3) (v6 v7 v8 v9 : SlP) :
    ∃ (s' : St) (sc : List (List Int)) (ed : List (Int × Int)) (fr : Int) (v6' v7' v8' v9' : SlP), forF (.nm 6) trB (rngP 1 n) [.own s.p, .val nd, .val v, .own (.lst [tI l0]), .own (.lst []), .val (.int 4), v6, v7, v8, v9] =
      some (.nx [.own s'.p, .val nd, .val v, .own (.lst (sc.map tI)), .own (.lst (ed.map pE)), .val (.int fr), v6', v7', v8', v9']) ∧ sc.length = n + 1 ∧ fr ≤ 6 ∧ (∀ l ∈ sc, OkT fr l) ∧ (∀ p ∈ ed, 0 ≤ p.1 ∧ p.1 < p.2 ∧ p.2 ≤ n) ∧ ed.Pairwise (fun p q => p.2 < q.2) ∧ ed.length ≤ 3 := by
  have loop := forF_suf (t := .nm 6) (b := trB) (P := fun rem env => ∃ (s' : St) (sc : List (List Int)) (ed : List (Int × Int)) (fr : Int) (v6' v7' v8' v9' : SlP) (i : Int) (k : Nat), env = [.own s'.p, .val nd, .val v, .own (.lst (sc.map tI)), .own (.lst (ed.map pE)), .val (.int fr), v6', v7', v8', v9'] ∧ rem = rngP i k ∧ i + k = n + 1 ∧ 1 ≤ i ∧
    (sc.length : Int) = i ∧ 4 ≤ fr ∧ fr ≤ 6 ∧ (∀ l ∈ sc, OkT fr l) ∧ (∀ p ∈ ed, 0 ≤ p.1 ∧ p.1 < p.2 ∧ p.2 < i) ∧ ed.Pairwise (fun p q => p.2 < q.2) ∧ (ed.length : Int) + 1 = i) (fun x xs env ⟨s, sc, ed, fr, v6, v7, v8, v9, i, k, e, hr, hk, hi, q1, q2, q3, q4, q5, q6, q7⟩ => by
      subst e
      obtain ⟨k', rfl, rfl, rfl⟩ := rngP_cons hr
      obtain ⟨s', kk, a, fr', v8', v9', g1, g2, g3, g4, g5, g6⟩ := trB_ok nd v s sc ed fr i v7 v8 v9 hi (by omega) q1 (by omega) q2 q3 q4
      refine ⟨_, _, by simp, g1, s', sc ++ [kk], ed ++ [(a, i)], fr', _, _, _, _, i + 1, k', rfl, rfl, by omega, by omega, by rw [List.length_append]; simp; omega, by omega, by omega, fun l hl => ?_, fun p hp => ?_, ?_, by rw [List.length_append]; simp; omega⟩
      · rcases List.mem_append.mp hl with hl | hl
        · exact (q4 l hl).mono g3
        · simp at hl; subst hl; exact g2
      · rcases List.mem_append.mp hp with hp | hp
        · have := q5 p hp; omega
        · simp at hp; subst hp; exact ⟨g5, g6, by show i < i + 1; omega⟩
      · rw [List.pairwise_append]
        exact ⟨q6, by simp, fun p hp q hq => by simp at hq; subst hq; exact (q5 p hp).2.2⟩)
  obtain ⟨e', g1, s', sc, ed, fr, v6', v7', v8', v9', i, k, g2, g3, g4, g5, g6, g7, g8, g9, g10, g11, g12⟩ := loop (rngP 1 n) _ ⟨s, [l0], [], 4, v6, v7, v8, v9, 1, n, rfl, rfl, by omega, by omega, rfl, by omega, by omega, fun l hl => by simp at hl; subst hl; exact h0, by simp, .nil, rfl⟩
  have hz := rngP_nil g3
  subst hz g2
  exact ⟨s', sc, ed, fr, v6', v7', v8', v9', g1, by omega, g8, g9, fun p hp => by have := g10 p hp; omega, g11, by omega⟩
/-- sorted edges -/
def unE : PV → Int × Int
  | .tup [.int a, .int b] => (a, b)
  | _ => (0, 0)
theorem sorted_edges (ed : List (Int × Int)) (h : ed.Pairwise fun p q => p.2 < q.2) : ∃ ed' : List (Int × Int), sortedF [.lst (ed.map pE)] = some (.lst (ed'.map pE)) ∧ ed'.Perm ed ∧ ed'.Pairwise lt2 := by
  obtain ⟨h1, h2⟩ := perm_map (f := pE) (g := unE) (fun p => rfl) (sortL_perm (ed.map pE))
  have pw := sortL_pw (ed.map pE)
  have e1 : ed.map pE = (ed.map fun p => [p.1, p.2]).map fun a => .tup (a.map PV.int) := by
    rw [List.map_map]; rfl
  refine ⟨(sortL (ed.map pE)).map unE, ?_, h2, ?_⟩
  · simp only [sortedF]
    rw [show comparable (ed.map pE) = true by rw [e1]; exact comparable_tups _, show sortable (ed.map pE) = true by rw [e1]; exact sortable_tups _ (fun a ha => by obtain ⟨p, _, rfl⟩ := List.mem_map.mp ha; simp), ← h1]
    rfl
  · rw [h1, List.pairwise_map] at pw
    have nd : ((sortL (ed.map pE)).map unE).Pairwise fun p q => p.2 ≠ q.2 := (h2.pairwise_iff (fun {p q} z => fun e => z e.symm)).mpr (h.imp fun {p q} z => by omega)
    refine (pw.and nd).imp fun {p q} z => ?_
    have e2 : leP (pE p) (pE q) = !HT.lexLt [q.1, q.2] [p.1, p.2] := leP_tup [p.1, p.2] [q.1, q.2]
    have z1 := z.1
    rw [e2] at z1
    simp only [HT.lexLt, Bool.not_eq_true'] at z1
    by_cases h3 : q.1 = p.1
    · rw [if_pos h3] at z1
      by_cases h4 : q.2 = p.2
      · exact absurd h4.symm z.2
      · rw [if_neg h4] at z1
        have : ¬ q.2 < p.2 := by simpa using z1
        exact .inr ⟨h3.symm, by omega⟩
    · rw [if_neg h3] at z1
      have : ¬ q.1 < p.1 := by simpa using z1
      exact .inl (by omega)
theorem tree_ok (s : St) : ∃ (v : Int) (sc : List (List Int)) (ed : List (Int × Int)) (s' : St), s__law_tree [s.p, .int 4] = some (gP v sc ed, [s'.p, .int 4]) ∧ OkG v sc ed := by
  obtain ⟨d1, s1, h10, h1, e1⟩ := next_ok s 5 (by decide) (by decide)
  have hv : ∃ v : Int, (v = 2 ∨ v = 3) ∧ 2 + (if d1 = 0 then (1 : Int) else 0) = v := ⟨_, by split <;> simp, rfl⟩
  obtain ⟨v, hv, ev⟩ := hv
  obtain ⟨l0, s2, e2, a1, a2, a3⟩ := some_ok s1 2 4 (by decide) (by decide)
  obtain ⟨d3, s3, h30, h3, e3⟩ := next_ok s2 4 (by decide) (by decide)
  have hm : ∃ m : Nat, 1 + d3 = (m : Int) + 1 ∧ m ≤ 3 := ⟨d3.toNat, by omega, by omega⟩
  obtain ⟨m, em, hm3⟩ := hm
  obtain ⟨s4, sc, ed, fr, v6, v7, v8, v9, g, b1, b2, b3, b4, b5, b6⟩ := trL_ok (.int 4) (.int v) s3 l0 ⟨a1, a2, by omega⟩ m hm3 .no .no .no .no
  obtain ⟨ed', c1, c2, c3⟩ := sorted_edges ed b5
  refine ⟨v, sc, ed', s4, ?_, hv, by omega, by omega, fun l hl => ⟨(b3 l hl).1, fun x hx => by have := (b3 l hl).2.1 x hx; omega, by have := (b3 l hl).2.2; omega⟩, fun p hp => by have := b4 p (c2.mem_iff.mp hp); omega, c3⟩
  unfold s__law_tree d__law_tree
  rw [runF_ev]
  have r1 : iRange [dC (.int 1), dBin addF (dC (.int 1)) (dCall s__law_next [.b 0, .d (dVar 1)])] [.own s2.p, .val (.int 4), .val (.int v), .own (.lst [tI l0]), .own (.lst []), .val (.int 4), .no, .no, .no, .no] =
      some (rngP 1 m, [.own s3.p, .val (.int 4), .val (.int v), .own (.lst [tI l0]), .own (.lst []), .val (.int 4), .no, .no, .no, .no]) := by
    have := iRange_2 (a := dC (.int 1)) (b := dBin addF (dC (.int 1)) (dCall s__law_next [.b 0, .d (dVar 1)])) (e := [.own s2.p, .val (.int 4), .val (.int v), .own (.lst [tI l0]), .own (.lst []), .val (.int 4), .no, .no, .no, .no]) (i := 1) (j := 1 + d3) (e1 := [.own s2.p, .val (.int 4), .val (.int v), .own (.lst [tI l0]), .own (.lst []), .val (.int 4), .no, .no, .no, .no])
      (e2 := [.own s3.p, .val (.int 4), .val (.int v), .own (.lst [tI l0]), .own (.lst []), .val (.int 4), .no, .no, .no, .no]) (by simp) (by simp [e3]) (by omega) (by omega)
    rwa [show (1 + d3 - 1).toNat = m by omega] at this
  simp [e1, e2, ev, r1, g, c1, gP]
end QQ

namespace QQ
open PP WK
def extL (v : Nat) (r : List Int) : List (List Int) := (List.range v).map fun x : Nat => r ++ [(x : Int)]
def rowsL (v : Nat) : Nat → List (List Int)
  | 0 => [[]]
  | n + 1 => (rowsL v n).flatMap (extL v)
theorem extL_len (v : Nat) (r : List Int) : (extL v r).length = v := by simp [extL]
theorem flat_len (v : Nat) : ∀ rs : List (List Int), (rs.flatMap (extL v)).length = rs.length * v
  | [] => by simp
  | r :: rs => by rw [List.flatMap_cons, List.length_append, flat_len v rs, extL_len, List.length_cons, Nat.succ_mul, Nat.add_comm]
theorem rowsL_len (v : Nat) : ∀ n, (rowsL v n).length = v ^ n
  | 0 => rfl
  | n + 1 => by rw [rowsL, flat_len, rowsL_len v n, Nat.pow_succ]
theorem rowsL_mem {v : Nat} : ∀ {n : Nat} {r : List Int}, r ∈ rowsL v n → r.length = n ∧ ∀ x ∈ r, 0 ≤ x ∧ x < v
  | 0, r, h => by simp [rowsL] at h; subst h; simp
  | n + 1, r, h => by
    rw [rowsL, List.mem_flatMap] at h
    obtain ⟨q, hq, h⟩ := h
    obtain ⟨x, hx, rfl⟩ := List.mem_map.mp h
    obtain ⟨a, b⟩ := rowsL_mem hq
    refine ⟨by simp [a], fun y hy => ?_⟩
    rcases List.mem_append.mp hy with hy | hy
    · exact b y hy
    · simp at hy hx; subst hy; omega
theorem lex_app : ∀ {a b : List Int} {c d : List Int}, a.length = b.length → HT.lexLt a b = true → HT.lexLt (a ++ c) (b ++ d) = true
  | [], [], _, _, _, h => by simp [HT.lexLt] at h
  | x :: xs, y :: ys, _, _, hl, h => by
    rw [List.cons_append, List.cons_append]
    rw [HT.lexLt_cons] at h ⊢
    by_cases e : x = y
    · rw [if_pos e] at h ⊢
      exact lex_app (by simpa using hl) h
    · rw [if_neg e] at h ⊢
      exact h
  | [], _ :: _, _, _, hl, _ => by simp at hl
  | _ :: _, [], _, _, hl, _ => by simp at hl
theorem lex_last (r : List Int) {x y : Int} (h : x < y) : HT.lexLt (r ++ [x]) (r ++ [y]) = true := by
  induction r with
  | nil =>
    show HT.lexLt [x] [y] = true
    rw [HT.lexLt_cons, if_neg (by omega)]
    simpa using h
  | cons a r ih => rw [List.cons_append, List.cons_append, HT.lexLt_cons, if_pos rfl]; exact ih
theorem rowsL_asc (v : Nat) : ∀ n, (rowsL v n).Pairwise fun a b => HT.lexLt a b = true
  | 0 => by simp [rowsL]
  | n + 1 => by
    rw [rowsL, List.pairwise_flatMap]
    refine ⟨fun r hr => ?_, ?_⟩
    · unfold extL
      rw [List.pairwise_map]
      exact List.pairwise_lt_range.imp fun {a b} h => lex_last r (by omega)
    · refine (rowsL_asc v n).imp_of_mem fun {a b} ha hb h => ?_
      intro p hp q hq
      obtain ⟨x, _, rfl⟩ := List.mem_map.mp hp
      obtain ⟨y, _, rfl⟩ := List.mem_map.mp hq
      exact lex_app ((rowsL_mem ha).1.trans (rowsL_mem hb).1.symm) h
/-! _law_rows -/
theorem addL_ok (xs ys : List PV) (h : xs.length + ys.length ≤ 10000000) : addF (.lst xs) (.lst ys) = some (.lst (xs ++ ys)) := by
  simp only [addF]; rw [if_pos (by rw [PySem.sizeLine_eq]; omega)]
theorem addT_ok (xs ys : List PV) (h : xs.length + ys.length ≤ 10000000) : addF (.tup xs) (.tup ys) = some (.tup (xs ++ ys)) := by
  simp only [addF]; rw [if_pos (by rw [PySem.sizeLine_eq]; omega)]
abbrev rwB : DenS := (sSeq (sAsg (.nm 4) (dBin addF (dVar 4) (dLC (iRange [(dVar 0)]) [6] (.nm 6) dYes (dBin addF (dVar 5) (dTup [(dVar 6)]))))) sNil)
theorem rng_ext (v : Nat) (r : List Int) : (rngP 0 v).map (fun x => PV.tup (r.map PV.int ++ [x])) = (extL v r).map tI := by
  unfold rngP extL
  rw [List.map_map, List.map_map]
  apply List.map_congr_left
  intro i _
  simp [tI]
theorem rwB_ok (v : Nat) (hv : v ≤ 3) (n R : PV) (v3 v6 : SlP) : ∀ (rs acc : List (List Int)) (v5 : SlP), (∀ r ∈ rs, r.length ≤ 10) → acc.length + rs.length * v ≤ 5000 →
    ∃ v5' v6', forF (.nm 5) rwB (rs.map tI) [.val (.int v), .val n, .val R, v3, .val (.lst (acc.map tI)), v5, v6] = some (.nx [.val (.int v), .val n, .val R, v3, .val (.lst ((acc ++ rs.flatMap (extL v)).map tI)), v5', v6']) := by
  intro rs acc v5 hl hb
  have loop := forF_suf (t := .nm 5) (b := rwB) (P := fun rem env => ∃ (rs' acc' : List (List Int)) (v5' v6' : SlP), rem = rs'.map tI ∧ env = [.val (.int v), .val n, .val R, v3, .val (.lst (acc'.map tI)), v5', v6'] ∧ acc' ++ rs'.flatMap (extL v) = acc ++ rs.flatMap (extL v) ∧ (∀ r ∈ rs', r.length ≤ 10) ∧ acc'.length + rs'.length * v ≤ 5000) (fun x xs env ⟨rs', acc', v5, v6, hr, he, hq, hl, hb⟩ => by
      subst he
      cases rs' with
      | nil => cases hr
      | cons r rs' =>
        rw [List.map_cons] at hr
        cases hr
        have hrl := hl r List.mem_cons_self
        have c := lcF_pure (t := .nm 6) (tt := dYes) (elt := dBin addF (dVar 5) (dTup [(dVar 6)])) (vs := [6]) (e := [.val (.int v), .val n, .val R, v3, .val (.lst (acc'.map tI)), .val (tI r), .no]) (p := fun _ => true) (f := fun x => PV.tup (r.map PV.int ++ [x])) (xs := rngP 0 v) (fun x _ => by
          have ha := addT_ok (r.map PV.int) [x] (by simp; omega)
          exact ⟨_, _, by simp; rfl, by simp; rfl, by simp, fun _ => ⟨[.val (.int v), .val n, .val R, v3, .val (.lst (acc'.map tI)), .val (tI r), .val x], by simp [tI, ha], by simp⟩⟩)
        rw [List.filter_eq_self.mpr (by simp), rng_ext] at c
        have r1 : iRange [dVar 0] [.val (.int v), .val n, .val R, v3, .val (.lst (acc'.map tI)), .val (tI r), v6] = some (rngP 0 v, [.val (.int v), .val n, .val R, v3, .val (.lst (acc'.map tI)), .val (tI r), v6]) := iRange_1 (by simp) (by omega)
        have hb2 : acc'.length + v + rs'.length * v ≤ 5000 := by rw [List.length_cons, Nat.succ_mul] at hb; omega
        have ha := addL_ok (acc'.map tI) ((extL v r).map tI) (by simp [extL_len]; omega)
        refine ⟨_, _, by simp; rfl, by simp [r1, c, ha]; rfl, rs', acc' ++ extL v r, _, _, rfl, by rw [List.map_append], ?_, fun q hq => hl q (List.mem_cons_of_mem _ hq), by rw [List.length_append, extL_len]; exact hb2⟩
        rw [← hq, List.flatMap_cons, List.append_assoc])
  obtain ⟨e', g1, rs', acc', v5', v6', h1, h2, h3, _⟩ := loop (rs.map tI) _ ⟨rs, acc, v5, v6, rfl, rfl, rfl, hl, hb⟩
  cases rs' with
  | nil =>
    subst h2
    rw [List.flatMap_nil, List.append_nil] at h3
    rw [h3] at g1
    exact ⟨v5', v6', g1⟩
  | cons _ _ => cases h1
theorem pow3 {v n : Nat} (hv : v ≤ 3) (hn : n ≤ 6) : v ^ n ≤ 729 := Nat.le_trans (Nat.pow_le_pow_left hv n) (Nat.le_trans (Nat.pow_le_pow_right (by omega) hn) (by decide))
theorem rows_ok (v n : Nat) (hv : v ≤ 3) (hn : n ≤ 6) : s__law_rows [.int v, .int n] = some (.lst ((rowsL v n).map tI), [.int v, .int n]) := by
  have loop := forF_suf (t := .nm 3) (b := (sSeq (sAsg (.nm 4) (dLst [])) (sSeq (sFor (iSeq (dVar 2)) (.nm 5) rwB) (sSeq (sAsg (.nm 2) (dVar 4)) sNil)))) (P := fun rem env => ∃ (i k : Nat) (v3 v4 v5 v6 : SlP), rem = rngP i k ∧ i + k = n ∧ env = [.val (.int v), .val (.int n), .val (.lst ((rowsL v i).map tI)), v3, v4, v5, v6]) (fun x xs env ⟨i, k, v3, v4, v5, v6, hr, hk, he⟩ => by
      subst he
      obtain ⟨k', rfl, rfl, rfl⟩ := rngP_cons hr
      have hb := rowsL_len v i
      have h3 := pow3 (v := v) (n := i + 1) hv (by omega)
      rw [Nat.pow_succ] at h3
      obtain ⟨v5', v6', g⟩ := rwB_ok v hv (.int n) (.lst ((rowsL v i).map tI)) (.val (.int i)) v6 (rowsL v i) [] v5 (fun r hr => by have := (rowsL_mem hr).1; omega) (by rw [hb]; simp; omega)
      refine ⟨_, [.val (.int v), .val (.int n), .val (.lst ((rowsL v (i + 1)).map tI)), .val (.int i), .val (.lst ((rowsL v (i + 1)).map tI)), v5', v6'], by simp; rfl, ?_, i + 1, k', _, _, _, _, rfl, by omega, rfl⟩
      simp only [List.map_nil, List.nil_append] at g
      simp [g]
      rfl)
  obtain ⟨e', g1, i, k, v3, v4, v5, v6, h1, h2, h3⟩ := loop (rngP 0 n) _ ⟨0, n, .no, .no, .no, .no, rfl, by omega, rfl⟩
  have hz := rngP_nil h1
  subst hz h3
  have hi : i = n := by omega
  subst hi
  unfold s__law_rows d__law_rows
  rw [runF_ev]
  have r1 : iRange [dVar 1] [.val (.int v), .val (.int i), .val (.lst [.tup []]), .no, .no, .no, .no] = some (rngP 0 i, [.val (.int v), .val (.int i), .val (.lst [.tup []]), .no, .no, .no, .no]) := iRange_1 (by simp) (by omega)
  have g2 : forF (.nm 3) (sSeq (sAsg (.nm 4) (dLst [])) (sSeq (sFor (iSeq (dVar 2)) (.nm 5) rwB) (sSeq (sAsg (.nm 2) (dVar 4)) sNil))) (rngP 0 i) [.val (.int v), .val (.int i), .val (.lst [.tup []]), .no, .no, .no, .no] = _ := g1
  simp [r1, g2]
end QQ

namespace QQ
open PP WK
def rowP (p : List Int × Int) : PV := .tup [tI p.1, .int p.2]
def tabP (t : List (List Int × Int)) : PV := .tup (t.map rowP)
def OkTab (v : Nat) (l : List Int) (t : List (List Int × Int)) : Prop := (t.map (·.1)).Sublist (rowsL v l.length) ∧ ∀ p ∈ t, 0 ≤ p.2 ∧ p.2 < 12
theorem each_pairs {G : PV → PV → Prop} {Q : Int → Prop} (h : ∀ x y, G x y → ∃ c, y = .tup [x, .int c] ∧ Q c) : ∀ {rs : List (List Int)} {ys : List PV}, Each G (rs.map tI) ys → ∃ t : List (List Int × Int), ys = t.map rowP ∧ t.map (·.1) = rs ∧ ∀ p ∈ t, Q p.2
  | [], _, .nil => ⟨[], rfl, rfl, by simp⟩
  | r :: rs, _, .cons g t => by
    obtain ⟨c, e, q⟩ := h _ _ g
    obtain ⟨ts, e1, e2, q2⟩ := each_pairs h t
    subst e e1
    exact ⟨(r, c) :: ts, rfl, by simp [e2], fun p hp => (List.mem_cons.mp hp).elim (fun e => by rw [e]; exact q) (q2 p)⟩
abbrev tbE : Den := (dTup [(dVar 5), (dCall s__law_next [.b 0, .d (dBin getF (dLst [(dC (.int 4)), (dC (.int 12))]) (dCall s__law_next [.b 0, .d (dC (.int 2))]))])])
def tbT : DenS := (sSeq (sDrop (dMut appendF 2 [(dApp tupleF [.d (dLC (iSeq (dVar 4)) [5] (.nm 5) dYes tbE)])])) sNil)
theorem tbT_ok (s : St) (g : PV) (tabs : List (List (List Int × Int))) (l : PV) (rs : List (List Int)) (s4 v5 : SlP) (h4 : s4 = .own (.lst (rs.map tI)) ∨ s4 = .val (.lst (rs.map tI))) (ht : tabs.length < 100) :
    ∃ (s' : St) (t : List (List Int × Int)) (v5' : SlP), tbT [.own s.p, .val g, .own (.lst (tabs.map tabP)), .val l, s4, v5] = some (.nx [.own s'.p, .val g, .own (.lst ((tabs ++ [t]).map tabP)), .val l, .val (.lst (rs.map tI)), v5']) ∧ t.map (·.1) = rs ∧ ∀ p ∈ t, 0 ≤ p.2 ∧ p.2 < 12 := by
  have comp := lcF_each (t := .nm 5) (elt := tbE) (vs := [5]) (xs := rs.map tI)
    (P := fun e => ∃ s : St, e = [.own s.p, .val g, .own (.lst (tabs.map tabP)), .val l, .val (.lst (rs.map tI)), .no]) (G := fun x y => ∃ c : Int, y = .tup [x, .int c] ∧ (0 ≤ c ∧ c < 12)) (e := [.own s.p, .val g, .own (.lst (tabs.map tabP)), .val l, .val (.lst (rs.map tI)), .no]) (fun x _ e ⟨s, he⟩ => by
      subst he
      obtain ⟨d, s1, hd0, hd, e1⟩ := next_ok s 2 (by decide) (by decide)
      by_cases hz : d = 0
      · subst hz
        obtain ⟨c, s2, hc0, hc, e2⟩ := next_ok s1 4 (by decide) (by decide)
        exact ⟨_, .tup [x, .int c], [.own s2.p, .val g, .own (.lst (tabs.map tabP)), .val l, .val (.lst (rs.map tI)), .val x], by simp; rfl, by simp [e1, e2], ⟨c, rfl, hc0, by omega⟩, s2, by simp⟩
      · have h1 : d = 1 := by omega
        subst h1
        obtain ⟨c, s2, hc0, hc, e2⟩ := next_ok s1 12 (by decide) (by decide)
        exact ⟨_, .tup [x, .int c], [.own s2.p, .val g, .own (.lst (tabs.map tabP)), .val l, .val (.lst (rs.map tI)), .val x], by simp; rfl, by simp [e1, e2], ⟨c, rfl, hc0, hc⟩, s2, by simp⟩) ⟨s, rfl⟩
  obtain ⟨ys, e', c1, ⟨s2, c2⟩, c3⟩ := comp
  obtain ⟨t, c4, c5, c6⟩ := each_pairs (Q := fun c => 0 ≤ c ∧ c < 12) (fun x y h => h) c3
  subst c2 c4
  have ha := fun y => appendF_ok (tabs.map tabP) y (by simp; omega)
  have f1 : PV.tup (t.map rowP) = tabP t := rfl
  refine ⟨s2, t, keepV [v5] 0, ?_, c5, c6⟩
  rcases h4 with h4 | h4 <;> (subst h4; simp [tbT, c1, ha, f1])
abbrev tbB : DenS := (sSeq (sOwn 4 (dLC (iSeq (dCall s__law_rows [.d (dBin getF (dVar 1) (dC (.int 0))), .d (dApp lenF [.d (dVar 3)])])) [5] (.nm 5) (dB (dBin gtF (dCall s__law_next [.b 0, .d (dC (.int 4))]) (dC (.int 0)))) (dVar 5))) (sSeq (sIf (dB (dBin eqF (dCall s__law_next [.b 0, .d (dC (.int 9))]) (dC (.int 0)))) (sSeq (sAsg (.nm 4) (dLst [])) sNil) sNil) tbT))
theorem tbB_ok (s : St) (v : Nat) (hv : v ≤ 3) (sc : List (List Int)) (ed : List (Int × Int)) (tabs : List (List (List Int × Int))) (l : List Int) (hl : l.length ≤ 3) (v4 v5 : SlP) (ht : tabs.length < 100) :
    ∃ (s' : St) (t : List (List Int × Int)) (v4' v5' : SlP), tbB [.own s.p, .val (gP v sc ed), .own (.lst (tabs.map tabP)), .val (tI l), v4, v5] = some (.nx [.own s'.p, .val (gP v sc ed), .own (.lst ((tabs ++ [t]).map tabP)), .val (tI l), v4', v5']) ∧ OkTab v l t := by
  have comp := lcF_made (t := .nm 5) (tt := (dB (dBin gtF (dCall s__law_next [.b 0, .d (dC (.int 4))]) (dC (.int 0))))) (elt := dVar 5) (vs := [5]) (xs := (rowsL v l.length).map tI)
    (P := fun e => ∃ s : St, e = [.own s.p, .val (gP v sc ed), .own (.lst (tabs.map tabP)), .val (tI l), v4, .no]) (G := fun x y => y = x) (e := [.own s.p, .val (gP v sc ed), .own (.lst (tabs.map tabP)), .val (tI l), v4, .no]) (fun x _ e ⟨s, he⟩ => by
      subst he
      obtain ⟨d, s', hd0, hd, e⟩ := next_ok s 4 (by decide) (by decide)
      exact ⟨_, decide (0 < d), [.own s'.p, .val (gP v sc ed), .own (.lst (tabs.map tabP)), .val (tI l), v4, .val x], by simp; rfl, by simp [e], fun _ => ⟨s', by simp⟩, fun _ => ⟨x, _, by simp; rfl, rfl, s', by simp⟩⟩) ⟨s, rfl⟩
  obtain ⟨ys, e', c1, ⟨s2, c2⟩, c3⟩ := comp
  obtain ⟨rs, c4, c5⟩ := made_same (f := tI) (fun a y g => g) c3
  subst c2 c4
  have rk := rows_ok v l.length hv (by omega)
  have g0 : getF (gP v sc ed) (.int 0) = some (.int v) := by simp [gP]
  have l0 : lenF [tI l] = some (.int l.length) := by simp [tI]
  obtain ⟨d, s3, hd0, hd, e3⟩ := next_ok s2 9 (by decide) (by decide)
  by_cases hz : d = 0
  · subst hz
    obtain ⟨s', t, v5', g, a1, a2⟩ := tbT_ok s3 (gP v sc ed) tabs (tI l) [] (.val (.lst [])) (keepV [v5] 0) (.inr rfl) ht
    refine ⟨s', t, .val (.lst []), v5', ?_, by rw [a1]; exact List.nil_sublist _, a2⟩
    simp only [List.map_nil] at g
    simp [tbB, g0, l0, rk, c1, e3, g]
  · obtain ⟨s', t, v5', g, a1, a2⟩ := tbT_ok s3 (gP v sc ed) tabs (tI l) rs (.own (.lst (rs.map tI))) (keepV [v5] 0) (.inl rfl) ht
    refine ⟨s', t, .val (.lst (rs.map tI)), v5', ?_, by rw [a1]; exact c5, a2⟩
    simp [tbB, g0, l0, rk, c1, e3, hz, g]
/-- each scope with its table -/
inductive Tabs (v : Nat) : List (List Int) → List (List (List Int × Int)) → Prop
  | nil : Tabs v [] []
  | cons {l : List Int} {t : List (List Int × Int)} {ls : List (List Int)} {ts : List (List (List Int × Int))} : OkTab v l t → Tabs v ls ts → Tabs v (l :: ls) (t :: ts)
theorem Tabs.snoc {v : Nat} {l : List Int} {t : List (List Int × Int)} (h : OkTab v l t) : ∀ {ls : List (List Int)} {ts : List (List (List Int × Int))}, Tabs v ls ts → Tabs v (ls ++ [l]) (ts ++ [t])
  | _, _, .nil => .cons h .nil
  | _, _, .cons g r => .cons g (r.snoc h)
theorem Tabs.length {v : Nat} : ∀ {ls : List (List Int)} {ts : List (List (List Int × Int))}, Tabs v ls ts → ts.length = ls.length
  | _, _, .nil => rfl
  | _, _, .cons _ r => by simp [r.length]
theorem tables_eq : d__law_tables = (sSeq (sOwn 2 (dLst [])) (sSeq (sFor (iSeq (dBin getF (dVar 1) (dC (.int 1)))) (.nm 3) tbB) (sSeq (sRet (dApp tupleF [.b 2])) sNil))) := rfl
theorem tables_ok (s : St) (v : Nat) (sc : List (List Int)) (ed : List (Int × Int)) (h : OkG v sc ed) : ∃ (tabs : List (List (List Int × Int))) (s' : St), s__law_tables [s.p, gP v sc ed] = some (.tup (tabs.map tabP), [s'.p, gP v sc ed]) ∧ Tabs v sc tabs := by
  have hv : v ≤ 3 := by rcases h.v with h | h <;> omega
  have loop := forF_suf (t := .nm 3) (b := tbB) (P := fun rem env => ∃ (s : St) (a b : List (List Int)) (tabs : List (List (List Int × Int))) (v3 v4 v5 : SlP), a ++ b = sc ∧ rem = b.map tI ∧ Tabs v a tabs ∧ env = [.own s.p, .val (gP v sc ed), .own (.lst (tabs.map tabP)), v3, v4, v5]) (fun x xs env ⟨s, a, b, tabs, v3, v4, v5, hs, hr, ht, he⟩ => by
      subst he
      cases b with
      | nil => cases hr
      | cons l b =>
        rw [List.map_cons] at hr
        cases hr
        have hl := (h.ss l (by rw [← hs]; simp)).2.2
        have hlen : a.length ≤ 4 := by have := congrArg List.length hs; have := h.n1; simp at *; omega
        obtain ⟨s', t, v4', v5', g, ok⟩ := tbB_ok s v hv sc ed tabs l hl v4 v5 (by rw [ht.length]; omega)
        exact ⟨_, _, by simp, g, s', a ++ [l], b, tabs ++ [t], _, _, _, by rw [List.append_assoc]; exact hs, rfl, ht.snoc ok, rfl⟩)
  obtain ⟨e', g1, s', a, b, tabs, v3, v4, v5, h1, h2, h3, h4⟩ := loop (sc.map tI) _ ⟨s, [], sc, [], .no, .no, .no, rfl, rfl, .nil, rfl⟩
  cases b with
  | cons _ _ => cases h2
  | nil =>
    rw [List.append_nil] at h1
    subst h1 h4
    refine ⟨tabs, s', ?_, h3⟩
    unfold s__law_tables
    rw [tables_eq, runF_ev]
    have g0 : getF (gP v a ed) (.int 1) = some (.tup (a.map tI)) := by simp [gP]
    simp only [List.map_nil] at g1
    simp [g0, g1]
end QQ

namespace QQ
open PP WK
theorem eqv_int (a b : Int) : eqv (.int a) (.int b) = decide (a = b) := by
  simp only [eqv, toD, PySem.PyData.eqv]; rfl
theorem eqv_ints : ∀ a b : List Int, PySem.PyData.eqvAll (a.map PySem.PyData.int) (b.map PySem.PyData.int) = decide (a = b)
  | [], [] => by simp [PySem.PyData.eqvAll]
  | [], _ :: _ => by simp [PySem.PyData.eqvAll]
  | _ :: _, [] => by simp [PySem.PyData.eqvAll]
  | x :: xs, y :: ys => by
    simp only [List.map_cons, PySem.PyData.eqvAll, eqv_ints xs ys, PySem.PyData.eqv]
    by_cases h1 : x = y <;> by_cases h2 : xs = ys <;> simp [h1, h2]
theorem eqv_tI (a b : List Int) : eqv (tI a) (tI b) = decide (a = b) := by
  simp only [eqv, tI, toD, PySem.PyData.eqv, toDs_ints, eqv_ints]
theorem any_int (x : Int) (l : List Int) : (l.map PV.int).any (fun z => eqv z (.int x)) = decide (x ∈ l) := by
  rw [List.any_map]
  have e : ((fun z => eqv z (PV.int x)) ∘ PV.int) = fun z : Int => decide (z = x) := by
    funext z; exact eqv_int z x
  rw [e]
  by_cases h : x ∈ l
  · rw [decide_eq_true h, List.any_eq_true]
    exact ⟨x, h, by simp⟩
  · rw [decide_eq_false h, List.any_eq_false]
    intro z hz
    simp only [decide_eq_true_eq]
    rintro rfl
    exact h hz
theorem okD_lst {l : List PV} (h : l.all (okD 59) = true) : okD 60 (.lst l) = true := by simpa [okD] using h
theorem okD_tup {n : Nat} {l : List PV} (h : l.all (okD n) = true) : okD (n + 1) (.tup l) = true := by simpa [okD] using h
theorem okD_tI (n : Nat) (l : List Int) : okD (n + 1) (tI l) = true := okD_tup (okD_ints n l)
theorem notInF_int (x : Int) (l : List Int) : notInF (.int x) (.lst (l.map PV.int)) = some (.bl (!decide (x ∈ l))) := by
  simp only [notInF, seqOf_lst]
  rw [okD_int, okD_lst (okD_ints 59 l), any_int]
  rfl
theorem inF_int (x : Int) (l : List Int) : inF (.int x) (tI l) = some (.bl (decide (x ∈ l))) := by
  unfold tI
  simp only [inF, seqOf_tup]
  rw [okD_int, okD_tup (okD_ints 59 l), any_int]
  rfl
/-! the variables of nodes -/
def nd (ns : List Nat) : PV := .lst (ns.map fun i : Nat => .int (i : Int))
def scA (sc : List (List Int)) (i : Nat) : List Int := sc.getD i []
def nin (acc : List Int) (x : Int) : Bool := !decide (x ∈ acc)
theorem nin_iff {acc : List Int} {x : Int} : nin acc x = true ↔ x ∉ acc := by simp [nin]
def foundL (sc : List (List Int)) : List Nat → List Int → List Int
  | [], acc => acc
  | i :: r, acc => foundL sc r (acc ++ (scA sc i).filter (nin acc))
def varsL (sc : List (List Int)) (ns : List Nat) : List Int := sortI (foundL sc ns [])
theorem getF_sc (sc : List (List Int)) (v : Int) (ed : List (Int × Int)) (i : Nat) (h : i < sc.length) : getF (.tup (sc.map tI)) (.int i) = some (tI (scA sc i)) :=
  getF_seq rfl (by unfold scA; simp [List.getElem?_map, List.getElem?_eq_getElem h, List.getD_eq_getElem?_getD])
theorem filt_ints (p : Int → Bool) (f : PV → Bool) (hf : ∀ i, f (.int i) = p i) (l : List Int) : (l.map PV.int).filter f = (l.filter p).map PV.int := by
  rw [List.filter_map]
  congr 1
  apply List.filter_congr
  intro x _
  exact hf x
def unB (f : Int → Bool) (x : PV) : Bool := match x with | .int i => f i | _ => false
structure OkNs (sc : List (List Int)) (ns : List Nat) : Prop where
  b : ∀ i ∈ ns, i < sc.length
theorem found_sub (sc : List (List Int)) : ∀ (ns : List Nat) (acc : List Int), (∀ x ∈ acc, x ∈ foundL sc ns acc) ∧ ∀ i ∈ ns, ∀ x ∈ scA sc i, x ∈ foundL sc ns acc
  | [], acc => ⟨fun x h => h, by simp⟩
  | i :: r, acc => by
    obtain ⟨a, b⟩ := found_sub sc r (acc ++ (scA sc i).filter (nin acc))
    refine ⟨fun x h => a x (List.mem_append_left _ h), fun j hj x hx => ?_⟩
    rcases List.mem_cons.mp hj with e | hj
    · subst e
      refine a x ?_
      by_cases h : x ∈ acc
      · exact List.mem_append_left _ h
      · exact List.mem_append_right _ (List.mem_filter.mpr ⟨hx, nin_iff.mpr h⟩)
    · exact b j hj x hx
theorem found_nodup (sc : List (List Int)) (hs : ∀ l ∈ sc, OkS l) : ∀ (ns : List Nat) (acc : List Int), acc.Nodup → (∀ x ∈ acc, 0 ≤ x ∧ x < 6) → (foundL sc ns acc).Nodup ∧ ∀ x ∈ foundL sc ns acc, 0 ≤ x ∧ x < 6
  | [], acc, h, hb => ⟨h, hb⟩
  | i :: r, acc, h, hb => by
    have hok : OkS (scA sc i) := by
      unfold scA
      rw [List.getD_eq_getElem?_getD]
      cases e : sc[i]? with
      | none => exact ⟨.nil, by simp, by simp⟩
      | some l => exact hs l (List.mem_of_getElem? e)
    refine found_nodup sc hs r _ ?_ ?_
    · rw [List.nodup_append]
      refine ⟨h, (hok.1.imp fun {a b} h => by omega).sublist List.filter_sublist, fun a ha b hb e => ?_⟩
      subst e
      exact nin_iff.mp (List.mem_filter.mp hb).2 ha
    · intro x hx
      rcases List.mem_append.mp hx with hx | hx
      · exact hb x hx
      · exact hok.2.1 x (List.mem_filter.mp hx).1
theorem asc_len : ∀ {l : List Int} {a b : Int}, l.Pairwise (· < ·) → (∀ x ∈ l, a ≤ x ∧ x < b) → a ≤ b → (l.length : Int) ≤ b - a
  | [], _, _, _, _, h => by simp; omega
  | x :: r, a, b, h, hb, hab => by
    rw [List.pairwise_cons] at h
    have hx := hb x List.mem_cons_self
    have := asc_len (a := x + 1) (b := b) h.2 (fun y hy => ⟨by have := h.1 y hy; omega, (hb y (List.mem_cons_of_mem _ hy)).2⟩) (by omega)
    rw [List.length_cons]
    omega
theorem vars_asc (sc : List (List Int)) (hs : ∀ l ∈ sc, OkS l) (ns : List Nat) : (varsL sc ns).Pairwise (· < ·) ∧ (∀ x ∈ varsL sc ns, 0 ≤ x ∧ x < 6) ∧ (varsL sc ns).length ≤ 6 := by
  obtain ⟨h1, h2⟩ := found_nodup sc hs ns [] .nil (by simp)
  have p := sortI_perm (foundL sc ns [])
  have nd : (varsL sc ns).Nodup := (p.nodup_iff).mpr h1
  have pw : (varsL sc ns).Pairwise (· < ·) := ((sortI_sorted _).and nd).imp fun {a b} h => by have := h.1; have := h.2; omega
  have b : ∀ x ∈ varsL sc ns, 0 ≤ x ∧ x < 6 := fun x hx => h2 x (p.mem_iff.mp hx)
  refine ⟨pw, b, ?_⟩
  have := asc_len pw b (by decide)
  omega
theorem vars_mem (sc : List (List Int)) (ns : List Nat) (i : Nat) (hi : i ∈ ns) (x : Int) (hx : x ∈ scA sc i) : x ∈ varsL sc ns := (sortI_perm _).mem_iff.mpr ((found_sub sc ns []).2 i hi x hx)
theorem variables_ok (v : Int) (sc : List (List Int)) (ed : List (Int × Int)) (h : OkG v sc ed) (ns : List Nat) (hn : ∀ i ∈ ns, i < sc.length) (hl : ns.length ≤ 100) :
    s__law_variables [gP v sc ed, nd ns] = some (.fup ((varsL sc ns).map PV.int), [gP v sc ed, nd ns]) := by
  have loop := forF_suf (t := .nm 3) (b := (sSeq (sAsg (.nm 2) (dBin addF (dVar 2) (dLC (iSeq (dBin getF (dBin getF (dVar 0) (dC (.int 1))) (dVar 3))) [4] (.nm 4) (dB (dBin notInF (dVar 4) (dVar 2))) (dVar 4)))) sNil))
    (P := fun rem env => ∃ (b : List Nat) (acc : List Int) (v3 v4 : SlP), rem = b.map (fun i : Nat => PV.int (i : Int)) ∧ foundL sc b acc = foundL sc ns [] ∧ (∀ i ∈ b, i < sc.length) ∧ acc.length + 3 * b.length ≤ 300 ∧ env = [.val (gP v sc ed), .val (nd ns), .val (.lst (acc.map PV.int)), v3, v4]) (fun x xs env ⟨b, acc, v3, v4, hr, hf, hb, hal, he⟩ => by
      subst he
      cases b with
      | nil => cases hr
      | cons i b =>
        rw [List.map_cons] at hr
        cases hr
        have hi := hb i List.mem_cons_self
        have hok : OkS (scA sc i) := h.ss _ (by unfold scA; rw [List.getD_eq_getElem?_getD, List.getElem?_eq_getElem hi]; exact List.getElem_mem hi)
        have g0 : getF (gP v sc ed) (.int 1) = some (.tup (sc.map tI)) := by simp [gP]
        have g1 := getF_sc sc v ed i hi
        have g2 : seqOf (tI (scA sc i)) = some ((scA sc i).map PV.int) := rfl
        have c := lcF_pure (t := .nm 4) (tt := (dB (dBin notInF (dVar 4) (dVar 2)))) (elt := dVar 4) (vs := [4]) (e := [.val (gP v sc ed), .val (nd ns), .val (.lst (acc.map PV.int)), .val (.int i), .no]) (p := unB (nin acc)) (f := fun x => x) (xs := (scA sc i).map PV.int) (fun x hx => by
          obtain ⟨j, _, rfl⟩ := List.mem_map.mp hx
          have := notInF_int j acc
          exact ⟨_, [.val (gP v sc ed), .val (nd ns), .val (.lst (acc.map PV.int)), .val (.int i), .val (.int j)], by simp; rfl, by simp [this, unB, nin], fun _ => by simp, fun _ => ⟨_, by simp; rfl, by simp⟩⟩)
        rw [filt_ints (nin acc) _ (fun i => rfl), List.map_id'] at c
        have fl : ((scA sc i).filter (nin acc)).length ≤ 3 := Nat.le_trans (List.length_filter_le _ _) hok.2.2
        have ha := addL_ok (acc.map PV.int) (((scA sc i).filter (nin acc)).map PV.int) (by simp only [List.length_map]; rw [List.length_cons] at hal; omega)
        refine ⟨_, [.val (gP v sc ed), .val (nd ns), .val (.lst ((acc ++ (scA sc i).filter (nin acc)).map PV.int)), .val (.int i), keepV [v4] 0], by simp; rfl, by simp only [sSeq_ev, sAsg_ev, dBin_ev, dLC_ev, iSeq_ev]; simp [g0, g1, g2, c, ha], b, _, _, _, rfl, hf, fun j hj => hb j (List.mem_cons_of_mem _ hj), by rw [List.length_append]; rw [List.length_cons] at hal; omega, rfl⟩)
  obtain ⟨e', g1, b, acc, v3, v4, h1, h2, h3, _, h4⟩ := loop (ns.map fun i : Nat => PV.int (i : Int)) _ ⟨ns, [], .no, .no, rfl, rfl, hn, by simp; omega, rfl⟩
  cases b with
  | cons _ _ => cases h1
  | nil =>
    have e : acc = foundL sc ns [] := h2
    subst e h4
    unfold s__law_variables d__law_variables
    rw [runF_ev]
    have hs := sortedF_ints (foundL sc ns [])
    have hq : seqOf (nd ns) = some (ns.map fun i : Nat => PV.int (i : Int)) := rfl
    simp only [List.map_nil] at g1
    simp [hq, g1, hs, varsL]
end QQ

namespace QQ
open PP WK
/-! scope_of: the same, by a dict -/
def dkP (ks : List Int) : PV := .dk (ks.map fun k => (Sum.inl k, PV.bl true))
def insK (ks : List Int) (x : Int) : List Int := if x ∈ ks then ks else ks ++ [x]
theorem set_dk (ks : List Int) (x : Int) (h : ks.length < 1000) : setF (dkP ks) (.int x) (.bl true) = some (dkP (insK ks x)) := by
  unfold dkP
  simp only [setF, toKey, Option.map_some, List.length_map]
  rw [if_pos (by omega)]
  congr 2
  unfold putP insK
  have e : (ks.map fun k => ((Sum.inl k : L2.Key), PV.bl true)).any (fun kv => decide (kv.1 = Sum.inl x)) = decide (x ∈ ks) := by
    rw [List.any_map]
    by_cases h : x ∈ ks
    · rw [decide_eq_true h, List.any_eq_true]; exact ⟨x, h, by simp⟩
    · rw [decide_eq_false h, List.any_eq_false]
      intro z hz
      simp only [Function.comp, Sum.inl.injEq, decide_eq_true_eq]
      rintro rfl; exact h hz
  rw [e]
  by_cases h : x ∈ ks
  · rw [if_pos (by simpa using h), if_pos h, List.map_map]
    apply List.map_congr_left
    intro k _
    simp only [Function.comp]
    split <;> rfl
  · rw [if_neg (by simpa using h), if_neg h, List.map_append]
    rfl
theorem ins_all : ∀ {l ks : List Int}, l.Nodup → l.foldl insK ks = ks ++ l.filter (nin ks)
  | [], ks, _ => by simp
  | x :: l, ks, h => by
    rw [List.nodup_cons] at h
    rw [List.foldl_cons, ins_all h.2]
    unfold insK
    by_cases hx : x ∈ ks
    · rw [if_pos hx, List.filter_cons_of_neg (by rw [nin_iff]; simpa using hx)]
    · rw [if_neg hx, List.filter_cons_of_pos (nin_iff.mpr hx), List.append_assoc, List.singleton_append]
      congr 2
      apply List.filter_congr
      intro y hy
      have hne : y ≠ x := fun e => h.1 (e ▸ hy)
      unfold nin
      simp [hne]
theorem intKeys_dk : ∀ ks : List Int, intKeys (ks.map fun k => ((Sum.inl k : L2.Key), PV.bl true)) = some ks
  | [] => rfl
  | k :: ks => by simp [intKeys, intKeys_dk ks]
abbrev soB : DenS := (sSeq (sStore 2 (dVar 4) (dC (.bl true))) sNil)
theorem soB_ok (g n : PV) (v3 : SlP) : ∀ (l ks : List Int) (v4 : SlP), ks.length + l.length < 1000 →
    ∃ v4', forF (.nm 4) soB (l.map PV.int) [.val g, .val n, .own (dkP ks), v3, v4] = some (.nx [.val g, .val n, .own (dkP (l.foldl insK ks)), v3, v4'])
  | [], ks, v4, _ => ⟨v4, by unfold forF; rfl⟩
  | x :: l, ks, v4, h => by
    have hl : (insK ks x).length ≤ ks.length + 1 := by unfold insK; split <;> simp
    obtain ⟨v4', e⟩ := soB_ok g n v3 l (insK ks x) (.val (.int x)) (by rw [List.length_cons] at h; omega)
    refine ⟨v4', ?_⟩
    have s := set_dk ks x (by omega)
    rw [List.map_cons]
    unfold forF
    simp [s]
    exact e
theorem scope_of_ok (v : Int) (sc : List (List Int)) (ed : List (Int × Int)) (h : OkG v sc ed) (ns : List Nat) (hn : ∀ i ∈ ns, i < sc.length) (hl : ns.length ≤ 100) :
    s_scope_of [gP v sc ed, nd ns] = some (.tup ((varsL sc ns).map PV.int), [gP v sc ed, nd ns]) := by
  have loop := forF_suf (t := .nm 3) (b := (sSeq (sFor (iSeq (dBin getF (dBin getF (dVar 0) (dC (.int 1))) (dVar 3))) (.nm 4) soB) sNil))
    (P := fun rem env => ∃ (b : List Nat) (acc : List Int) (v3 v4 : SlP), rem = b.map (fun i : Nat => PV.int (i : Int)) ∧ foundL sc b acc = foundL sc ns [] ∧ (∀ i ∈ b, i < sc.length) ∧ acc.length + 3 * b.length ≤ 300 ∧ env = [.val (gP v sc ed), .val (nd ns), .own (dkP acc), v3, v4]) (fun x xs env ⟨b, acc, v3, v4, hr, hf, hb, hal, he⟩ => by
      subst he
      cases b with
      | nil => cases hr
      | cons i b =>
        rw [List.map_cons] at hr
        cases hr
        have hi := hb i List.mem_cons_self
        have hok : OkS (scA sc i) := h.ss _ (by unfold scA; rw [List.getD_eq_getElem?_getD, List.getElem?_eq_getElem hi]; exact List.getElem_mem hi)
        have g0 : getF (gP v sc ed) (.int 1) = some (.tup (sc.map tI)) := by simp [gP]
        have g1 := getF_sc sc v ed i hi
        have g2 : seqOf (tI (scA sc i)) = some ((scA sc i).map PV.int) := rfl
        obtain ⟨v4', e⟩ := soB_ok (gP v sc ed) (nd ns) (.val (.int i)) (scA sc i) acc v4 (by have := hok.2.2; rw [List.length_cons] at hal; omega)
        rw [ins_all (hok.1.imp fun {a b} h => by omega)] at e
        have fl : ((scA sc i).filter (nin acc)).length ≤ 3 := Nat.le_trans (List.length_filter_le _ _) hok.2.2
        exact ⟨_, [.val (gP v sc ed), .val (nd ns), .own (dkP (acc ++ (scA sc i).filter (nin acc))), .val (.int i), v4'], by simp; rfl, by simp [g0, g1, g2, e], b, _, _, _, rfl, hf, fun j hj => hb j (List.mem_cons_of_mem _ hj), by rw [List.length_append]; rw [List.length_cons] at hal; omega, rfl⟩)
  obtain ⟨e', g1, b, acc, v3, v4, h1, h2, h3, _, h4⟩ := loop (ns.map fun i : Nat => PV.int (i : Int)) _ ⟨ns, [], .no, .no, rfl, rfl, hn, by simp; omega, rfl⟩
  cases b with
  | cons _ _ => cases h1
  | nil =>
    have e : acc = foundL sc ns [] := h2
    subst e h4
    unfold s_scope_of d_scope_of
    rw [runF_ev]
    have hlen : (foundL sc ns []).length < 64 := by
      have := (sortI_perm (foundL sc ns [])).length_eq
      have h6 := (vars_asc sc h.ss ns).2.2
      unfold varsL at h6
      omega
    have hs : sortedDF [dkP (foundL sc ns [])] = some (.lst ((sortI (foundL sc ns [])).map PV.int)) := by
      simp only [sortedDF, dkP, intKeys_dk, Option.bind_some]
      rw [if_pos hlen]
    have hq : seqOf (nd ns) = some (ns.map fun i : Nat => PV.int (i : Int)) := rfl
    have hd : PV.dk [] = dkP [] := rfl
    simp [hq, hd, g1, hs, varsL]
/-! parts of rows -/
def rA (row : List Int) (i : Nat) : Int := row.getD i 0
def partL (row vars l : List Int) : List Int := l.map fun x => rA row (vars.idxOf x)
theorem index_ok (vars : List Int) (x : Int) (h : x ∈ vars) : indexF (.fup (vars.map PV.int)) [.int x] = some (.int (vars.idxOf x : Nat)) := by
  have e : toInts (vars.map PV.int) = some vars := by
    clear h
    induction vars with
    | nil => rfl
    | cons a r ih => simp [toInts, ih]
  simp only [indexF, e, Option.bind_some]
  rw [if_pos h]
theorem cut_ok (row vars l : List Int) (hl : row.length = vars.length) (hs : ∀ x ∈ l, x ∈ vars) :
    s__law_cut [tI row, .fup (vars.map PV.int), tI l] = some (tI (partL row vars l), [tI row, .fup (vars.map PV.int), tI l]) := by
  have c := lcF_pure (t := .nm 3) (tt := dYes) (elt := (dBin getF (dVar 0) (dRecv isSeqI (.d (dVar 1)) [(dVar 3)] indexF))) (vs := [3]) (e := [.val (tI row), .val (.fup (vars.map PV.int)), .val (tI l), .no]) (p := fun _ => true)
    (f := fun x => match x with | .int i => .int (rA row (vars.idxOf i)) | x => x) (xs := l.map PV.int) (fun x hx => by
      obtain ⟨j, hj, rfl⟩ := List.mem_map.mp hx
      have hi := index_ok vars j (hs j hj)
      have hlt : vars.idxOf j < row.length := by rw [hl]; exact List.idxOf_lt_length_of_mem (hs j hj)
      have hg : getF (tI row) (.int (vars.idxOf j : Nat)) = some (.int (rA row (vars.idxOf j))) := getF_seq rfl (by unfold rA; rw [List.getElem?_map, List.getElem?_eq_getElem hlt, List.getD_eq_getElem?_getD, List.getElem?_eq_getElem hlt]; rfl)
      exact ⟨_, _, by simp; rfl, by simp; rfl, by simp, fun _ => ⟨[.val (tI row), .val (.fup (vars.map PV.int)), .val (tI l), .val (.int j)], by simp [isSeqI, hi, hg], by simp⟩⟩)
  rw [List.filter_eq_self.mpr (by simp), List.map_map] at c
  unfold s__law_cut d__law_cut
  rw [runF_ev]
  have hq : seqOf (tI l) = some (l.map PV.int) := rfl
  have e : PV.tup (l.map ((fun x => match x with | .int i => PV.int (rA row (vars.idxOf i)) | x => x) ∘ PV.int)) = tI (partL row vars l) := by
    unfold tI partL
    rw [List.map_map]
    rfl
  simp [hq, c, e]
theorem zip_ints (vars row : List Int) : zipP (vars.map PV.int) (row.map PV.int) = (vars.zip row).map fun p => .tup [.int p.1, .int p.2] := by
  induction vars generalizing row with
  | nil => simp [zipP]
  | cons a r ih =>
    cases row with
    | nil => simp [zipP]
    | cons x xs => simp [zipP, ih]
/-- picking by the place is picking by the pairs -/
theorem pick_pairs : ∀ {vars row l : List Int}, vars.Pairwise (· < ·) → l.Pairwise (· < ·) → (∀ x ∈ l, x ∈ vars) → row.length = vars.length → ((vars.zip row).filter fun p => decide (p.1 ∈ l)).map (·.2) = partL row vars l
  | [], _, l, _, _, hs, _ => by
    have : l = [] := by
      cases l with
      | nil => rfl
      | cons x r => exact absurd (hs x List.mem_cons_self) (by simp)
    subst this
    rfl
  | a :: vars, [], _, _, _, _, h => by simp at h
  | a :: vars, x :: row, l, hv, hl, hs, h => by
    rw [List.pairwise_cons] at hv
    have step : ∀ l' : List Int, (∀ y ∈ l', y ∈ vars) → partL (x :: row) (a :: vars) l' = partL row vars l' := fun l' h' => by
      unfold partL
      apply List.map_congr_left
      intro y hy
      have hy' := h' y hy
      have hne : a ≠ y := fun e => by have := hv.1 y hy'; omega
      unfold rA
      have e : List.idxOf y (a :: vars) = List.idxOf y vars + 1 := by
        rw [List.idxOf_cons]
        have hb : (a == y) = false := by simpa using hne
        rw [hb]
        rfl
      rw [e]
      rfl
    by_cases ha : a ∈ l
    · -- it is the first of l
      cases l with
      | nil => cases ha
      | cons b r =>
        rw [List.pairwise_cons] at hl
        have e : a = b := by
          rcases List.mem_cons.mp ha with e | ha
          · exact e
          · have h1 := hl.1 a ha
            rcases List.mem_cons.mp (hs b List.mem_cons_self) with e | hb
            · exact e.symm
            · have := hv.1 b hb; omega
        subst e
        have hr : ∀ y ∈ r, y ∈ vars := fun y hy => by
          rcases List.mem_cons.mp (hs y (List.mem_cons_of_mem _ hy)) with e | h
          · have := hl.1 y hy; omega
          · exact h
        have ih := pick_pairs (l := r) hv.2 hl.2 hr (by simpa using h)
        rw [List.zip_cons_cons, List.filter_cons_of_pos (by simp), List.map_cons]
        have e2 : (vars.zip row).filter (fun p => decide (p.1 ∈ a :: r)) = (vars.zip row).filter fun p => decide (p.1 ∈ r) := by
          apply List.filter_congr
          intro p hp
          have := hv.1 p.1 (List.of_mem_zip hp).1
          have hne : p.1 ≠ a := by omega
          simp [hne]
        rw [e2, ih, ← step r hr]
        unfold partL rA
        simp
    · have hr : ∀ y ∈ l, y ∈ vars := fun y hy => by
        rcases List.mem_cons.mp (hs y hy) with e | h
        · exact absurd (e ▸ hy) ha
        · exact h
      have ih := pick_pairs (l := l) hv.2 hl hr (by simpa using h)
      rw [List.zip_cons_cons, List.filter_cons_of_neg (by simpa using ha), ih, step l hr]
theorem cut_to_ok (row vars l : List Int) (hv : vars.Pairwise (· < ·)) (hp : l.Pairwise (· < ·)) (hs : ∀ x ∈ l, x ∈ vars) (hl : row.length = vars.length) :
    s_cut_to [tI row, .tup (vars.map PV.int), tI l] = some (tI (partL row vars l), [tI row, .tup (vars.map PV.int), tI l]) := by
  have c := lcF_pure (t := (.tp [(.nm 3), (.nm 4)])) (tt := (dB (dBin inF (dVar 3) (dVar 2)))) (elt := dVar 4) (vs := [3, 4]) (e := [.val (tI row), .val (.tup (vars.map PV.int)), .val (tI l), .no, .no]) (p := fun x => match x with | .tup [.int a, _] => decide (a ∈ l) | _ => false)
    (f := fun x => match x with | .tup [_, b] => b | x => x) (xs := (vars.zip row).map fun p => .tup [.int p.1, .int p.2]) (fun x hx => by
      obtain ⟨⟨a, b⟩, _, rfl⟩ := List.mem_map.mp hx
      have hi := inF_int a l
      exact ⟨[.val (tI row), .val (.tup (vars.map PV.int)), .val (tI l), .val (.int a), .val (.int b)], [.val (tI row), .val (.tup (vars.map PV.int)), .val (tI l), .val (.int a), .val (.int b)], by simp, by simp [hi], fun _ => by simp, fun _ => ⟨[.val (tI row), .val (.tup (vars.map PV.int)), .val (tI l), .val (.int a), .val (.int b)], by simp, by simp⟩⟩)
  have e : ((((vars.zip row).map fun p => PV.tup [.int p.1, .int p.2]).filter fun x => match x with | .tup [.int a, _] => decide (a ∈ l) | _ => false).map fun x => match x with | .tup [_, b] => b | x => x) = (partL row vars l).map PV.int := by
    rw [List.filter_map, List.map_map, ← pick_pairs hv hp hs hl, List.map_map]
    rfl
  rw [e] at c
  have hz : zipF (.tup (vars.map PV.int)) (tI row) = some ((vars.zip row).map fun p => .tup [.int p.1, .int p.2]) := by
    unfold tI
    simp only [zipF, tupOf_tup, Option.bind_some, Option.map_some, zip_ints]
  have hi : iZip2 (dVar 1) (dVar 0) [.val (tI row), .val (.tup (vars.map PV.int)), .val (tI l), .no, .no] = some ((vars.zip row).map fun p => .tup [.int p.1, .int p.2], [.val (tI row), .val (.tup (vars.map PV.int)), .val (tI l), .no, .no]) := by
    unfold iZip2
    simp [hz]
  unfold s_cut_to d_cut_to
  rw [runF_ev]
  have f1 : PV.tup ((partL row vars l).map PV.int) = tI (partL row vars l) := rfl
  simp [hi, c, f1]
end QQ

namespace QQ
open PP WK
theorem iRange_i {a : Den} {e e1 : PEn} {j : Int} (h : a e = some (.int j, e1)) (h1 : -100 ≤ j) (hn : j ≤ 16777216) : iRange [a] e = some (rngP 0 j.toNat, e1) := by
  unfold iRange
  rw [dArgs_cons, h, kA1_s, dArgs_nil, kA2_s, Option.bind_some]
  show (if -(2 ^ 62) ≤ j ∧ j ≤ 16777216 then some (rngP 0 j.toNat, e1) else none) = _
  rw [if_pos (by omega)]
theorem toBools_true : ∀ xs : List PV, toBools (xs.map fun _ => PV.bl true) = some (xs.map fun _ => true)
  | [] => rfl
  | x :: xs => by simp [toBools, toBools_true xs]
theorem all_true (xs : List PV) : allF [.lst (xs.map fun _ => PV.bl true)] = some (.bl true) := by
  simp [allF, toBools_true]
/-- all([..]) where each is true -/
theorem lcF_true {t : Tgt} {elt : Den} {vs : List Nat} {e : PEn} {xs : List PV} (h : ∀ x ∈ xs, ∃ e1 e3, tgtF t x e = some e1 ∧ elt e1 = some (.bl true, e3) ∧ wipeE e3 vs = e) : lcF t dYes elt vs xs e = some (xs.map fun _ => PV.bl true, e) := by
  have := lcF_pure (t := t) (tt := dYes) (elt := elt) (vs := vs) (e := e) (p := fun _ => true) (f := fun _ => PV.bl true) (xs := xs) (fun x hx => by
    obtain ⟨e1, e3, h1, h2, h3⟩ := h x hx
    exact ⟨e1, e1, h1, rfl, by simp, fun _ => ⟨e3, h2, h3⟩⟩)
  rwa [List.filter_eq_self.mpr (by simp)] at this
@[simp] theorem isTy_ii (i : Int) : isTy .int (.int i) = true := id rfl
@[simp] theorem isTy_bi (i : Int) : isTy .bool (.int i) = false := id rfl
@[simp] theorem isTy_tt (xs : List PV) : isTy .tuple (.tup xs) = true := id rfl
theorem number_ok (i a b : Int) (h1 : a ≤ i) (h2 : i ≤ b) : s_is_number [.int i, .int a, .int b] = some (.bl true, [.int i, .int a, .int b]) := by
  unfold s_is_number d_is_number
  rw [runF_ev]
  simp [h1, h2]
theorem whole_ok (i a b : Int) (h1 : a ≤ i) (h2 : i ≤ b) : s_is_whole [.int i, .int a, .int b] = some (.bl true, [.int i, .int a, .int b]) := by
  unfold s_is_whole d_is_whole
  rw [runF_ev]
  simp [h1, h2]
theorem climb_ok (d : PV) (xs : List PV) (hs : seqOf d = some xs) (hl : xs.length ≤ 1000000) (h : ∀ (i : Nat) (x y : PV), xs[i]? = some x → xs[i + 1]? = some y → ltF x y = some (.bl true)) : s_is_climbing [d] = some (.bl true, [d]) := by
  have c := lcF_true (t := .nm 1) (elt := (dBin ltF (dBin getF (dVar 0) (dVar 1)) (dBin getF (dVar 0) (dBin addF (dVar 1) (dC (.int 1)))))) (vs := [1]) (e := [.val d, .no]) (xs := rngP 0 ((xs.length : Int) - 1).toNat) (fun x hx => by
    obtain ⟨i, hi, rfl⟩ := rngP_mem hx
    have l1 : i < xs.length := by omega
    have l2 : i + 1 < xs.length := by omega
    have g1 : getF d (.int i) = some xs[i] := getF_seq hs (List.getElem?_eq_getElem l1)
    have g2 : getF d (.int (i + 1)) = some xs[i + 1] := getF_seq (k := i + 1) hs (List.getElem?_eq_getElem l2)
    have g3 := h i _ _ (List.getElem?_eq_getElem l1) (List.getElem?_eq_getElem l2)
    exact ⟨_, [.val d, .val (.int i)], by simp; rfl, by simp [g1, g2, g3], by simp⟩)
  have hn : lenF [d] = some (.int xs.length) := by simp [lenF, hs]
  have hr := iRange_i (a := (dBin subF (dApp lenF [.d (dVar 0)]) (dC (.int 1)))) (e := [.val d, .no]) (e1 := [.val d, .no]) (j := (xs.length : Int) - 1) (by simp [hn]) (by omega) (by omega)
  have ha := all_true (rngP 0 ((xs.length : Int) - 1).toNat)
  generalize ((xs.length : Int) - 1).toNat = m at c hr ha
  unfold s_is_climbing d_is_climbing
  rw [runF_ev]
  simp [hr, c, ha]
theorem pw_at {α : Type} {R : α → α → Prop} {f : α → PV} {l : List α} (h : l.Pairwise R) (hf : ∀ a b, R a b → ltF (f a) (f b) = some (.bl true)) (i : Nat) (x y : PV) (hx : (l.map f)[i]? = some x) (hy : (l.map f)[i + 1]? = some y) : ltF x y = some (.bl true) := by
  rw [List.getElem?_map] at hx hy
  obtain ⟨a, ha, rfl⟩ := Option.map_eq_some_iff.mp hx
  obtain ⟨b, hb, rfl⟩ := Option.map_eq_some_iff.mp hy
  obtain ⟨h1, e1⟩ := List.getElem?_eq_some_iff.mp ha
  obtain ⟨h2, e2⟩ := List.getElem?_eq_some_iff.mp hb
  subst e1 e2
  exact hf _ _ (List.pairwise_iff_getElem.mp h i (i + 1) h1 h2 (by omega))
theorem toInts_ints : ∀ l : List Int, toInts (l.map PV.int) = some l
  | [] => rfl
  | x :: r => by simp [toInts, toInts_ints r]
theorem lt_tI (a b : List Int) : ltF (tI a) (tI b) = some (.bl (HT.lexLt a b)) := by
  unfold tI
  simp only [ltF, tupOf_tup, Option.bind_some, toInts_ints, Option.map_some]
theorem lt_pE (p q : Int × Int) (h : lt2 p q) : ltF (pE p) (pE q) = some (.bl true) := by
  have e := lt_tI [p.1, p.2] [q.1, q.2]
  have : HT.lexLt [p.1, p.2] [q.1, q.2] = true := by
    simp only [HT.lexLt]
    rcases h with h | ⟨h1, h2⟩
    · rw [if_neg (by omega)]; simpa using h
    · rw [if_pos h1, if_neg (by omega)]; simpa using h2
  rw [this] at e
  exact e
theorem variables_chk (l : List Int) (h : OkS l) : s_are_variables [tI l] = some (.bl true, [tI l]) := by
  have c := lcF_true (t := .nm 1) (elt := (dCall s_is_whole [.d (dVar 1), .d (dC (.int 0)), .d (dC (.int 5))])) (vs := [1]) (e := [.val (tI l), .no]) (xs := l.map PV.int) (fun x hx => by
    obtain ⟨i, hi, rfl⟩ := List.mem_map.mp hx
    have hb := h.2.1 i hi
    have w := whole_ok i 0 5 (by omega) (by omega)
    exact ⟨_, [.val (tI l), .val (.int i)], by simp; rfl, by simp [w], by simp⟩)
  have hq : seqOf (tI l) = some (l.map PV.int) := rfl
  have ht : isTy .tuple (tI l) = true := rfl
  have ha := all_true (l.map PV.int)
  have cl := climb_ok (tI l) (l.map PV.int) hq (by have := h.2.2; simp; omega) (pw_at h.1 fun a b hab => by simp [hab])
  unfold s_are_variables d_are_variables
  rw [runF_ev]
  simp only [List.map_map] at c ha
  simp [hq, ht, c, ha, cl]
theorem scope_chk (l : List Int) (h : OkS l) : s_is_scope [tI l] = some (.bl true, [tI l]) := by
  have v := variables_chk l h
  have hl := h.2.2
  have l0 : lenF [tI l] = some (.int l.length) := by simp [tI]
  have : (l.length : Int) ≤ 3 := by omega
  unfold s_is_scope d_is_scope
  rw [runF_ev]
  simp [v, l0, this]
theorem edge_chk (p : Int × Int) (m : Int) (h0 : 0 ≤ p.1) (h1 : p.1 < p.2) (h2 : p.2 < m) : s_is_edge [pE p, .int m] = some (.bl true, [pE p, .int m]) := by
  have w1 := number_ok p.1 0 (m - 1) h0 (by omega)
  have w2 := number_ok p.2 0 (m - 1) (by omega) (by omega)
  have c := lcF_true (t := .nm 2) (elt := (dCall s_is_number [.d (dVar 2), .d (dC (.int 0)), .d (dBin subF (dVar 1) (dC (.int 1)))])) (vs := [2]) (e := [.val (pE p), .val (.int m), .no]) (xs := [.int p.1, .int p.2]) (fun x hx => by
    simp only [List.mem_cons, List.not_mem_nil, or_false] at hx
    rcases hx with rfl | rfl
    · exact ⟨_, [.val (pE p), .val (.int m), .val (.int p.1)], by simp; rfl, by simp [w1], by simp⟩
    · exact ⟨_, [.val (pE p), .val (.int m), .val (.int p.2)], by simp; rfl, by simp [w2], by simp⟩)
  have hq : seqOf (pE p) = some [.int p.1, .int p.2] := rfl
  have ht : isTy .tuple (pE p) = true := rfl
  have ha := all_true [.int p.1, .int p.2]
  have l0 : lenF [pE p] = some (.int 2) := rfl
  have g0 : getF (pE p) (.int 0) = some (.int p.1) := getF_t0 _ _
  have g1 : getF (pE p) (.int 1) = some (.int p.2) := getF_t1 _ _ _
  unfold s_is_edge d_is_edge
  rw [runF_ev]
  simp only [List.map_cons, List.map_nil] at c ha
  simp [hq, ht, c, ha, l0, g0, g1, h1]
end QQ

namespace QQ
open PP WK
theorem graph_chk (v : Int) (sc : List (List Int)) (ed : List (Int × Int)) (h : OkG v sc ed) (he : ed.length ≤ 1000) : s_is_graph [gP v sc ed] = some (.bl true, [gP v sc ed]) := by
  have w := number_ok v 2 3 (by rcases h.v with h | h <;> omega) (by rcases h.v with h | h <;> omega)
  have n0 : (1 : Int) ≤ sc.length := by have := h.n0; omega
  have n1 : (sc.length : Int) ≤ 5 := by have := h.n1; omega
  -- the rest as slots
  generalize hS : PV.tup (sc.map tI) = S
  generalize hE : PV.tup (ed.map pE) = E
  generalize hG : gP v sc ed = G
  have c1 := lcF_true (t := .nm 4) (elt := (dCall s_is_scope [.d (dVar 4)])) (vs := [4]) (e := [.val G, .val (.int v), .val S, .val E, .no, .no, .no]) (xs := sc.map tI) (fun x hx => by
    obtain ⟨l, hl, rfl⟩ := List.mem_map.mp hx
    have := scope_chk l (h.ss l hl)
    exact ⟨_, [.val G, .val (.int v), .val S, .val E, .val (tI l), .no, .no], by simp; rfl, by simp [this], by simp⟩)
  have lS : lenF [S] = some (.int sc.length) := by rw [← hS]; simp
  have c2 := lcF_true (t := .nm 5) (elt := (dCall s_is_edge [.d (dVar 5), .d (dApp lenF [.d (dVar 2)])])) (vs := [5]) (e := [.val G, .val (.int v), .val S, .val E, .no, .no, .no]) (xs := ed.map pE) (fun x hx => by
    obtain ⟨p, hp, rfl⟩ := List.mem_map.mp hx
    obtain ⟨a1, a2, a3⟩ := h.es p hp
    have := edge_chk p sc.length a1 a2 a3
    exact ⟨_, [.val G, .val (.int v), .val S, .val E, .no, .val (pE p), .no], by simp; rfl, by simp [this, lS], by simp⟩)
  have qE : seqOf E = some (ed.map pE) := by rw [← hE]; rfl
  have qS : seqOf S = some (sc.map tI) := by rw [← hS]; rfl
  have c3 := lcF_true (t := .nm 6) (elt := (dBin ltF (dBin getF (dVar 3) (dVar 6)) (dBin getF (dVar 3) (dBin addF (dVar 6) (dC (.int 1)))))) (vs := [6]) (e := [.val G, .val (.int v), .val S, .val E, .no, .no, .no]) (xs := rngP 0 ((ed.length : Int) - 1).toNat) (fun x hx => by
    obtain ⟨i, hi, rfl⟩ := rngP_mem hx
    have l1 : i < (ed.map pE).length := by simp; omega
    have l2 : i + 1 < (ed.map pE).length := by simp; omega
    have g1 : getF E (.int i) = some (ed.map pE)[i] := getF_seq qE (List.getElem?_eq_getElem l1)
    have g2 : getF E (.int (i + 1)) = some (ed.map pE)[i + 1] := getF_seq (k := i + 1) qE (List.getElem?_eq_getElem l2)
    have g3 := pw_at h.eo (fun a b => lt_pE a b) i _ _ (List.getElem?_eq_getElem l1) (List.getElem?_eq_getElem l2)
    generalize (ed.map pE)[i] = x1 at g1 g3
    generalize (ed.map pE)[i + 1] = x2 at g2 g3
    exact ⟨_, [.val G, .val (.int v), .val S, .val E, .no, .no, .val (.int i)], by simp; rfl, by simp [g1, g2, g3], by simp⟩)
  have lE : lenF [E] = some (.int ed.length) := by rw [← hE]; simp
  have hr := iRange_i (a := (dBin subF (dApp lenF [.d (dVar 3)]) (dC (.int 1)))) (e := [.val G, .val (.int v), .val S, .val E, .no, .no, .no]) (e1 := [.val G, .val (.int v), .val S, .val E, .no, .no, .no]) (j := (ed.length : Int) - 1) (by simp [lE]) (by omega) (by omega)
  have a1 := all_true (sc.map tI)
  have a2 := all_true (ed.map pE)
  have a3 := all_true (rngP 0 ((ed.length : Int) - 1).toNat)
  generalize ((ed.length : Int) - 1).toNat = m at c3 hr a3
  have tG : isTy .tuple G = true := by rw [← hG]; rfl
  have tS : isTy .tuple S = true := by rw [← hS]; rfl
  have tE : isTy .tuple E = true := by rw [← hE]; rfl
  have lG : lenF [G] = some (.int 3) := by rw [← hG]; rfl
  have gG : getF G (.int 0) = some (.int v) := by rw [← hG]; exact getF_t0 _ _
  have uG : tupOf G = some [.int v, S, E] := by rw [← hG, ← hS, ← hE]; rfl
  unfold s_is_graph d_is_graph
  rw [runF_ev]
  generalize sc.map tI = xs at *
  generalize ed.map pE = ys at *
  simp [tG, lG, gG, w, uG, tS, lS, n0, n1, qS, c1, a1, tE, qE, c2, a2, hr, c3, a3]
theorem checkg_ok (v : Int) (sc : List (List Int)) (ed : List (Int × Int)) (h : OkG v sc ed) (he : ed.length ≤ 1000) : s_check_graph [gP v sc ed] = some (.non, [gP v sc ed]) := by
  have g := graph_chk v sc ed h he
  unfold s_check_graph d_check_graph
  rw [runF_ev]
  simp [g]
theorem row_chk (v : Nat) (l r : List Int) (hr : r ∈ rowsL v l.length) : s_is_row [.int v, tI l, tI r] = some (.bl true, [.int v, tI l, tI r]) := by
  obtain ⟨hl, hb⟩ := rowsL_mem hr
  have c := lcF_true (t := .nm 3) (elt := (dCall s_is_whole [.d (dVar 3), .d (dC (.int 0)), .d (dBin subF (dVar 0) (dC (.int 1)))])) (vs := [3]) (e := [.val (.int v), .val (tI l), .val (tI r), .no]) (xs := r.map PV.int) (fun x hx => by
    obtain ⟨i, hi, rfl⟩ := List.mem_map.mp hx
    have hb' := hb i hi
    have w := whole_ok i 0 (v - 1) (by omega) (by omega)
    exact ⟨_, [.val (.int v), .val (tI l), .val (tI r), .val (.int i)], by simp; rfl, by simp [w], by simp⟩)
  have hq : seqOf (tI r) = some (r.map PV.int) := rfl
  have ht : isTy .tuple (tI r) = true := rfl
  have l0 : lenF [tI l] = some (.int l.length) := by simp [tI]
  have l1 : lenF [tI r] = some (.int l.length) := by simp [tI, hl]
  have ha := all_true (r.map PV.int)
  unfold s_is_row d_is_row
  rw [runF_ev]
  generalize r.map PV.int = xs at *
  simp [hq, ht, c, ha, l0, l1]
theorem rowof_chk (v : Nat) (r : List Int) (n : Nat) (hr : r ∈ rowsL v n) : s_is_row_of [.int v, tI r, .int n] = some (.bl true, [.int v, tI r, .int n]) := by
  obtain ⟨hl, hb⟩ := rowsL_mem hr
  have c := lcF_true (t := .nm 3) (elt := (dCall s_is_number [.d (dVar 3), .d (dC (.int 0)), .d (dBin subF (dVar 0) (dC (.int 1)))])) (vs := [3]) (e := [.val (.int v), .val (tI r), .val (.int n), .no]) (xs := r.map PV.int) (fun x hx => by
    obtain ⟨i, hi, rfl⟩ := List.mem_map.mp hx
    have hb' := hb i hi
    have w := number_ok i 0 (v - 1) (by omega) (by omega)
    exact ⟨_, [.val (.int v), .val (tI r), .val (.int n), .val (.int i)], by simp; rfl, by simp [w], by simp⟩)
  have hq : seqOf (tI r) = some (r.map PV.int) := rfl
  have ht : isTy .tuple (tI r) = true := rfl
  have l1 : lenF [tI r] = some (.int n) := by simp [tI, hl]
  have ha := all_true (r.map PV.int)
  unfold s_is_row_of d_is_row_of
  rw [runF_ev]
  generalize r.map PV.int = xs at *
  simp [hq, ht, c, ha, l1]
theorem table_chk (v : Nat) (hv : v ≤ 3) (l : List Int) (hl : l.length ≤ 3) (t : List (List Int × Int)) (h : OkTab v l t) : s_is_table [.int v, tI l, tabP t] = some (.bl true, [.int v, tI l, tabP t]) := by
  have loop := forF_suf (t := .nm 3) (b := (sSeq (sIf (dOr (dNot (dTruth (.d (dIsI .tuple (.d (dVar 3)))))) (dOr (dB (dBin neF (dApp lenF [.d (dVar 3)]) (dC (.int 2)))) (dNot (dTruth (.d (dCall s_is_row [.d (dVar 0), .d (dVar 1), .d (dBin getF (dVar 3) (dC (.int 0)))])))))) (sSeq (sRet (dC (.bl false))) sNil) sNil) (sSeq (sIf (dNot (dTruth (.d (dCall s_is_whole [.d (dBin getF (dVar 3) (dC (.int 1))), .d (dC (.int 0)), .d (dC (.int 100))])))) (sSeq (sRet (dC (.bl false))) sNil) sNil) sNil)))
    (P := fun rem env => ∃ (b : List (List Int × Int)) (v3 : SlP), rem = b.map rowP ∧ (∀ p ∈ b, p ∈ t) ∧ env = [.val (.int v), .val (tI l), .val (tabP t), v3]) (fun x xs env ⟨b, v3, hr, hb, he⟩ => by
      subst he
      cases b with
      | nil => cases hr
      | cons p b =>
        rw [List.map_cons] at hr
        cases hr
        have hp := hb p List.mem_cons_self
        have hrow := row_chk v l p.1 (h.1.subset (List.mem_map_of_mem hp))
        obtain ⟨q0, q1⟩ := h.2 p hp
        have w := whole_ok p.2 0 100 (by omega) (by omega)
        have ht : isTy .tuple (rowP p) = true := rfl
        have l0 : lenF [rowP p] = some (.int 2) := rfl
        have g0 : getF (rowP p) (.int 0) = some (tI p.1) := getF_t0 _ _
        have g1 : getF (rowP p) (.int 1) = some (.int p.2) := getF_t1 _ _ _
        exact ⟨_, [.val (.int v), .val (tI l), .val (tabP t), .val (rowP p)], by simp; rfl, by simp [ht, l0, g0, hrow, g1, w], b, _, rfl, fun q hq => hb q (List.mem_cons_of_mem _ hq), rfl⟩)
  obtain ⟨e', g1, b, v3, h1, h2, h3⟩ := loop (t.map rowP) _ ⟨t, .no, rfl, fun p hp => hp, rfl⟩
  subst h3
  have c := lcF_pure (t := .nm 3) (tt := dYes) (elt := (dBin getF (dVar 3) (dC (.int 0)))) (vs := [3]) (e := [.val (.int v), .val (tI l), .val (tabP t), .no]) (p := fun _ => true) (f := fun x => match x with | .tup (a :: _) => a | x => x) (xs := t.map rowP) (fun x hx => by
    obtain ⟨p, hp, rfl⟩ := List.mem_map.mp hx
    have g0 : getF (rowP p) (.int 0) = some (tI p.1) := getF_t0 _ _
    exact ⟨_, [.val (.int v), .val (tI l), .val (tabP t), .val (rowP p)], by simp, rfl, by simp, fun _ => ⟨[.val (.int v), .val (tI l), .val (tabP t), .val (rowP p)], by simp [g0]; rfl, by simp⟩⟩)
  rw [List.filter_eq_self.mpr (by simp), List.map_map] at c
  have e : (t.map ((fun x => match x with | .tup (a :: _) => a | x => x) ∘ rowP)) = (t.map (·.1)).map tI := by rw [List.map_map]; rfl
  rw [e] at c
  have hasc : (t.map (·.1)).Pairwise fun a b => HT.lexLt a b = true := (rowsL_asc v l.length).sublist h.1
  have hlen : t.length ≤ 729 := by
    have := h.1.length_le
    rw [rowsL_len, List.length_map] at this
    exact Nat.le_trans this (pow3 hv (by omega))
  have cl := climb_ok (.lst ((t.map (·.1)).map tI)) ((t.map (·.1)).map tI) rfl (by simp; omega) (pw_at hasc fun a b hab => by rw [lt_tI, hab])
  have ht : isTy .tuple (tabP t) = true := rfl
  have hq : seqOf (tabP t) = some (t.map rowP) := rfl
  unfold s_is_table d_is_table
  rw [runF_ev]
  generalize (t.map (·.1)).map tI = zs at *
  generalize t.map rowP = ys at *
  have k3 : keepV [v3] 0 = keepV [v3] 0 := rfl
  simp [ht, hq, g1, c, cl]
end QQ

namespace QQ
open PP WK
theorem zip_tabs {v : Nat} : ∀ {sc : List (List Int)} {tabs : List (List (List Int × Int))}, Tabs v sc tabs → ∀ x ∈ zipP (sc.map tI) (tabs.map tabP), ∃ l t, x = .tup [tI l, tabP t] ∧ OkTab v l t ∧ l ∈ sc
  | _, _, .nil => by simp [zipP]
  | _, _, .cons (l := l) (t := t) h r => by
    intro x hx
    simp only [List.map_cons, zipP, List.mem_cons] at hx
    rcases hx with rfl | hx
    · exact ⟨l, t, rfl, h, by simp⟩
    · obtain ⟨l', t', a, b, c⟩ := zip_tabs r x hx
      exact ⟨l', t', a, b, List.mem_cons_of_mem _ c⟩
theorem tables_chk (v : Nat) (sc : List (List Int)) (ed : List (Int × Int)) (h : OkG v sc ed) (tabs : List (List (List Int × Int))) (ht : Tabs v sc tabs) : s_are_tables [gP v sc ed, .tup (tabs.map tabP)] = some (.bl true, [gP v sc ed, .tup (tabs.map tabP)]) := by
  have hv : v ≤ 3 := by rcases h.v with h | h <;> omega
  have g0 : getF (gP v sc ed) (.int 0) = some (.int v) := getF_t0 _ _
  have g1 : getF (gP v sc ed) (.int 1) = some (.tup (sc.map tI)) := getF_t1 _ _ _
  have l0 : lenF [.tup (sc.map tI)] = some (.int sc.length) := by simp
  have l1 : lenF [.tup (tabs.map tabP)] = some (.int sc.length) := by simp [ht.length]
  generalize hT : PV.tup (tabs.map tabP) = T at l1
  generalize hS : PV.tup (sc.map tI) = S at g1 l0
  generalize hG : gP v sc ed = G at g0 g1
  have c := lcF_true (t := (.tp [(.nm 2), (.nm 3)])) (elt := (dCall s_is_table [.d (dBin getF (dVar 0) (dC (.int 0))), .d (dVar 2), .d (dVar 3)])) (vs := [2, 3]) (e := [.val G, .val T, .no, .no]) (xs := zipP (sc.map tI) (tabs.map tabP)) (fun x hx => by
    obtain ⟨l, t, rfl, hok, hl⟩ := zip_tabs ht x hx
    have k := table_chk v hv l (h.ss l hl).2.2 t hok
    exact ⟨_, [.val G, .val T, .val (tI l), .val (tabP t)], by simp; rfl, by simp [g0, k], by simp⟩)
  have ha := all_true (zipP (sc.map tI) (tabs.map tabP))
  have hz : zipF S T = some (zipP (sc.map tI) (tabs.map tabP)) := by rw [← hS, ← hT]; rfl
  have hi : iZip2 (dBin getF (dVar 0) (dC (.int 1))) (dVar 1) [.val G, .val T, .no, .no] = some (zipP (sc.map tI) (tabs.map tabP), [.val G, .val T, .no, .no]) := by
    unfold iZip2
    simp [g1, hz]
  have tT : isTy .tuple T = true := by rw [← hT]; rfl
  generalize zipP (sc.map tI) (tabs.map tabP) = zs at *
  unfold s_are_tables d_are_tables
  rw [runF_ev]
  simp [tT, l0, l1, g1, hi, c, ha]
theorem checkt_ok (v : Nat) (sc : List (List Int)) (ed : List (Int × Int)) (h : OkG v sc ed) (he : ed.length ≤ 1000) (tabs : List (List (List Int × Int))) (ht : Tabs v sc tabs) : s_check_tables [gP v sc ed, .tup (tabs.map tabP)] = some (.non, [gP v sc ed, .tup (tabs.map tabP)]) := by
  have g := checkg_ok v sc ed h he
  have k := tables_chk v sc ed h tabs ht
  unfold s_check_tables d_check_tables
  rw [runF_ev]
  simp [g, k]
/-- all nodes -/
def allN (sc : List (List Int)) : List Nat := List.range sc.length
theorem nd_all (sc : List (List Int)) : PV.lst (rngP 0 sc.length) = nd (allN sc) := by
  unfold rngP nd allN
  simp
theorem rngArg_len (d : Den) (e e1 : PEn) (n : Nat) (h : d e = some (.int n, e1)) (hn : n ≤ 1000) : dListRg [d] e = some (.lst (rngP 0 n), e1) := by
  rw [dListRg_ev]
  unfold rngArg
  rw [dArgs_cons, h, kA1_s, dArgs_nil, kA2_s, Option.bind_some]
  show Option.map _ (if -(2 ^ 62) ≤ (n : Int) ∧ (n : Int) ≤ 16777216 then some (((0 : Int), (n : Int)), e1) else none) = _
  rw [if_pos (by omega)]
  show some (PV.lst (rngP 0 ((n : Int) - 0).toNat), e1) = _
  rw [show ((n : Int) - 0).toNat = n by omega]
theorem variables_of_ok (v : Int) (sc : List (List Int)) (ed : List (Int × Int)) (h : OkG v sc ed) : s_variables_of [gP v sc ed] = some (.tup ((varsL sc (allN sc)).map PV.int), [gP v sc ed]) := by
  have g1 : getF (gP v sc ed) (.int 1) = some (.tup (sc.map tI)) := getF_t1 _ _ _
  have n1 := h.n1
  have hr := rngArg_len (dApp lenF [.d (dBin getF (dVar 0) (dC (.int 1)))]) [.val (gP v sc ed)] [.val (gP v sc ed)] sc.length (by simp [g1]) (by omega)
  rw [nd_all] at hr
  have k := scope_of_ok v sc ed h (allN sc) (fun i hi => by simpa [allN] using hi) (by simp [allN]; omega)
  generalize nd (allN sc) = Nn at *
  unfold s_variables_of d_variables_of
  rw [runF_ev]
  simp [-dListRg_ev, hr, k]
theorem checkr_ok (v : Nat) (sc : List (List Int)) (ed : List (Int × Int)) (h : OkG v sc ed) (r : List Int) (hr : r ∈ rowsL v (varsL sc (allN sc)).length) : s_check_row [gP v sc ed, tI r] = some (.non, [gP v sc ed, tI r]) := by
  have g0 : getF (gP v sc ed) (.int 0) = some (.int v) := getF_t0 _ _
  have k := variables_of_ok v sc ed h
  have l0 : lenF [.tup ((varsL sc (allN sc)).map PV.int)] = some (.int (varsL sc (allN sc)).length) := by simp
  have c := rowof_chk v r _ hr
  generalize PV.tup ((varsL sc (allN sc)).map PV.int) = V at *
  unfold s_check_row d_check_row
  rw [runF_ev]
  simp [g0, k, l0, c]
/-! the first node whose table has not the part -/
def hasP (t : List (List Int × Int)) (part : List Int) : Bool := (t.map fun p => decide (p.1 = part)).any id
def firstR (vars row : List Int) : List Nat → List (List Int) → List (List (List Int × Int)) → Option Nat
  | i :: ns, l :: ls, t :: ts => if hasP t (partL row vars l) then firstR vars row ns ls ts else some i
  | _, _, _ => none
def optP : Option Nat → PV
  | none => .non
  | some i => .int (i : Int)
theorem toBools_map {α : Type} (f : α → Bool) : ∀ l : List α, toBools (l.map fun a => PV.bl (f a)) = some (l.map f)
  | [] => rfl
  | a :: l => by simp [toBools, toBools_map f l]
theorem eqF_tI (a b : List Int) : eqF (tI a) (tI b) = some (.bl (decide (a = b))) := by
  unfold eqF
  rw [okD_tI 59 a, okD_tI 59 b, eqv_tI]
  rfl
end QQ

namespace QQ
open PP WK
def tbA (tabs : List (List (List Int × Int))) (i : Nat) : List (List Int × Int) := tabs.getD i []
def badN (sc : List (List Int)) (tabs : List (List (List Int × Int))) (vars row : List Int) (i : Nat) : Bool := !hasP (tbA tabs i) (partL row vars (scA sc i))
theorem getF_tb (tabs : List (List (List Int × Int))) (i : Nat) (h : i < tabs.length) : getF (.tup (tabs.map tabP)) (.int i) = some (tabP (tbA tabs i)) :=
  getF_seq rfl (by unfold tbA; simp [List.getElem?_map, List.getElem?_eq_getElem h, List.getD_eq_getElem?_getD])
theorem scA_mem {sc : List (List Int)} {i : Nat} (h : i < sc.length) : scA sc i ∈ sc := by
  unfold scA; rw [List.getD_eq_getElem?_getD, List.getElem?_eq_getElem h]; exact List.getElem_mem h
/-- what both walks know -/
structure Sit (v : Nat) (sc : List (List Int)) (ed : List (Int × Int)) (tabs : List (List (List Int × Int))) (row : List Int) : Prop where
  g : OkG v sc ed
  e : ed.length ≤ 1000
  t : Tabs v sc tabs
  r : row ∈ rowsL v (varsL sc (allN sc)).length
section
variable {v : Nat} {sc : List (List Int)} {ed : List (Int × Int)} {tabs : List (List (List Int × Int))} {row : List Int}
theorem Sit.len (S : Sit v sc ed tabs row) : row.length = (varsL sc (allN sc)).length := (rowsL_mem S.r).1
theorem Sit.sub (S : Sit v sc ed tabs row) {i : Nat} (h : i < sc.length) : ∀ x ∈ scA sc i, x ∈ varsL sc (allN sc) := fun x hx => vars_mem sc _ i (by simpa [allN] using h) x hx
theorem any_part (t : List (List Int × Int)) (part : List Int) : anyF [.lst (t.map fun p => PV.bl (decide (p.1 = part)))] = some (.bl (hasP t part)) := by
  simp only [anyF, toBools_map (fun p : List Int × Int => decide (p.1 = part)), Option.map_some]
  rfl
theorem reject_loop (S : Sit v sc ed tabs row) (N : PV) : ∀ (ns : List Nat) (v5 v6 v7 v8 : SlP), (∀ i ∈ ns, i < sc.length) →
    ∃ e', forF (.nm 5) (sSeq (sAsg (.nm 6) (dCall s_cut_to [.d (dVar 3), .d (dVar 4), .d (dBin getF (dBin getF (dVar 0) (dC (.int 1))) (dVar 5))])) (sSeq (sIf (dNot (dTruth (.d (dApp anyF [.d (dLC (iSeq (dBin getF (dVar 1) (dVar 5))) [7, 8] (.tp [(.nm 7), (.nm 8)]) dYes (dBin eqF (dVar 7) (dVar 6)))])))) (sSeq (sRet (dVar 5)) sNil) sNil) sNil))
      (ns.map fun i : Nat => .int (i : Int)) [.val (gP v sc ed), .val (.tup (tabs.map tabP)), .val N, .val (tI row), .val (.tup ((varsL sc (allN sc)).map PV.int)), v5, v6, v7, v8] =
      some (match ns.find? (badN sc tabs (varsL sc (allN sc)) row) with | some i => .rt (.int (i : Int)) e' | none => .nx e')
  | [], v5, v6, v7, v8, _ => ⟨_, by unfold forF; rfl⟩
  | i :: ns, v5, v6, v7, v8, hn => by
    have hi := hn i List.mem_cons_self
    have g0 : getF (gP v sc ed) (.int 1) = some (.tup (sc.map tI)) := getF_t1 _ _ _
    have g1 := getF_sc sc v ed i hi
    have hok := S.g.ss _ (scA_mem hi)
    have cut := cut_to_ok row (varsL sc (allN sc)) (scA sc i) (vars_asc sc S.g.ss _).1 hok.1 (S.sub hi) S.len
    have g2 := getF_tb tabs i (by rw [S.t.length]; exact hi)
    have q2 : seqOf (tabP (tbA tabs i)) = some ((tbA tabs i).map rowP) := rfl
    generalize hp : partL row (varsL sc (allN sc)) (scA sc i) = part at cut
    generalize hV : PV.tup ((varsL sc (allN sc)).map PV.int) = V at *
    generalize hT : PV.tup (tabs.map tabP) = T at *
    generalize hG : gP v sc ed = G at *
    have c := lcF_pure (t := (.tp [(.nm 7), (.nm 8)])) (tt := dYes) (elt := (dBin eqF (dVar 7) (dVar 6))) (vs := [7, 8]) (e := [.val G, .val T, .val N, .val (tI row), .val V, .val (.int i), .val (tI part), .no, .no]) (p := fun _ => true) (f := fun x => match x with | .tup (a :: _) => .bl (eqv a (tI part)) | x => x) (xs := (tbA tabs i).map rowP) (fun x hx => by
      obtain ⟨p, _, rfl⟩ := List.mem_map.mp hx
      have h1 := eqF_tI p.1 part
      have h2 := eqv_tI p.1 part
      exact ⟨[.val G, .val T, .val N, .val (tI row), .val V, .val (.int i), .val (tI part), .val (tI p.1), .val (.int p.2)], _, by simp [rowP], rfl, by simp, fun _ => ⟨[.val G, .val T, .val N, .val (tI row), .val V, .val (.int i), .val (tI part), .val (tI p.1), .val (.int p.2)], by simp [h1, rowP, h2], by simp⟩⟩)
    rw [List.filter_eq_self.mpr (by simp), List.map_map] at c
    have e : ((tbA tabs i).map ((fun x => match x with | .tup (a :: _) => PV.bl (eqv a (tI part)) | x => x) ∘ rowP)) = (tbA tabs i).map fun p => PV.bl (decide (p.1 = part)) := by
      apply List.map_congr_left
      intro p _
      show PV.bl (eqv (tI p.1) (tI part)) = _
      rw [eqv_tI]
    rw [e] at c
    have ha := any_part (tbA tabs i) part
    generalize (tbA tabs i).map (fun p => PV.bl (decide (p.1 = part))) = bs at c ha
    have hb : badN sc tabs (varsL sc (allN sc)) row i = !hasP (tbA tabs i) part := by unfold badN; rw [hp]
    obtain ⟨e', ih⟩ := reject_loop S N ns (.val (.int i)) (.val (tI part)) (keepV [v7, v8] 0) (keepV [v8] 0) (fun j hj => hn j (List.mem_cons_of_mem _ hj))
    rw [hV, hT, hG] at ih
    rw [List.map_cons]
    by_cases hh : hasP (tbA tabs i) part = true
    · refine ⟨e', ?_⟩
      rw [List.find?_cons_of_neg (by rw [hb, hh]; simp)]
      unfold forF
      simp [g0, g1, cut, g2, q2, c, ha, hh]
      exact ih
    · have hh' : hasP (tbA tabs i) part = false := by simpa using hh
      refine ⟨[.val G, .val T, .val N, .val (tI row), .val V, .val (.int i), .val (tI part), keepV [v7, v8] 0, keepV [v8] 0], ?_⟩
      rw [List.find?_cons_of_pos (by rw [hb, hh']; rfl)]
      unfold forF
      simp [g0, g1, cut, g2, q2, c, ha, hh']
theorem first_ok (S : Sit v sc ed tabs row) : s_first_rejecting [gP v sc ed, .tup (tabs.map tabP), nd (allN sc), tI row] = some (optP ((allN sc).find? (badN sc tabs (varsL sc (allN sc)) row)), [gP v sc ed, .tup (tabs.map tabP), nd (allN sc), tI row]) := by
  have n1 := S.g.n1
  have k := scope_of_ok v sc ed S.g (allN sc) (fun i hi => by simpa [allN] using hi) (by simp [allN]; omega)
  obtain ⟨e', l⟩ := reject_loop S (nd (allN sc)) (allN sc) .no .no .no .no (fun i hi => by simpa [allN] using hi)
  have q : seqOf (nd (allN sc)) = some ((allN sc).map fun i : Nat => .int (i : Int)) := rfl
  unfold s_first_rejecting d_first_rejecting
  rw [runF_ev]
  cases hf : (allN sc).find? (badN sc tabs (varsL sc (allN sc)) row) with
  | none =>
    rw [hf] at l
    simp [k, q, l, optP]
  | some i =>
    rw [hf] at l
    simp [k, q, l, optP]
theorem rejecting_ok (S : Sit v sc ed tabs row) : s_rejecting [gP v sc ed, .tup (tabs.map tabP), tI row] = some (optP ((allN sc).find? (badN sc tabs (varsL sc (allN sc)) row)), [gP v sc ed, .tup (tabs.map tabP), tI row]) := by
  have k1 := checkt_ok v sc ed S.g S.e tabs S.t
  have k2 := checkr_ok v sc ed S.g row S.r
  have k3 := first_ok S
  have n1 := S.g.n1
  have g0 : getF (gP v sc ed) (.int 1) = some (.tup (sc.map tI)) := getF_t1 _ _ _
  have hr := rngArg_len (dApp lenF [.d (dBin getF (dVar 0) (dC (.int 1)))]) [.val (gP v sc ed), .val (.tup (tabs.map tabP)), .val (tI row)] [.val (gP v sc ed), .val (.tup (tabs.map tabP)), .val (tI row)] sc.length (by simp [g0]) (by omega)
  rw [nd_all] at hr
  generalize nd (allN sc) = Nn at *
  unfold s_rejecting d_rejecting
  rw [runF_ev]
  simp [-dListRg_ev, k1, k2, hr, k3]
end
end QQ

namespace QQ
open PP WK
section
variable {v : Nat} {sc : List (List Int)} {ed : List (Int × Int)} {tabs : List (List (List Int × Int))} {row : List Int}
theorem hasP_mem (t : List (List Int × Int)) (part : List Int) : ((t.map (·.1)).map tI).any (fun z => eqv z (tI part)) = hasP t part := by
  unfold hasP
  rw [List.any_map, List.any_map, List.any_map]
  congr 1
  funext p
  exact eqv_tI p.1 part
theorem notIn_part (t : List (List Int × Int)) (part : List Int) : notInF (tI part) (.lst ((t.map (·.1)).map tI)) = some (.bl (!hasP t part)) := by
  unfold notInF
  simp only [seqOf_lst]
  have h2 : ((t.map (·.1)).map tI).all (okD 59) = true := by
    rw [List.all_eq_true]
    intro x hx
    obtain ⟨a, _, rfl⟩ := List.mem_map.mp hx
    exact okD_tI 58 a
  rw [okD_tI 59 part, okD_lst h2, hasP_mem]
  rfl
abbrev dueB : DenS := (sSeq (sAsg (.nm 9) (dCall s__law_cut [.d (dVar 6), .d (dVar 5), .d (dBin getF (dBin getF (dVar 2) (dC (.int 1))) (dVar 8))])) (sSeq (sIf (dAnd (dB (dBin isNF (dVar 7) (dC .non))) (dB (dBin notInF (dVar 9) (dLC (iSeq (dBin getF (dVar 3) (dVar 8))) [10, 11] (.tp [(.nm 10), (.nm 11)]) dYes (dVar 10))))) (sSeq (sAsg (.nm 7) (dVar 8)) sNil) sNil) sNil))
theorem due_loop (S : Sit v sc ed tabs row) (a0 b1 : SlP) (N : PV) (v12 : SlP) : ∀ (ns : List Nat) (d : Option Nat) (v8 v9 v10 v11 : SlP), (∀ i ∈ ns, i < sc.length) →
    ∃ v8' v9' v10' v11', forF (.nm 8) dueB (ns.map fun i : Nat => .int (i : Int)) [a0, b1, .val (gP v sc ed), .val (.tup (tabs.map tabP)), .val N, .val (.fup ((varsL sc (allN sc)).map PV.int)), .val (tI row), .val (optP d), v8, v9, v10, v11, v12] =
      some (.nx [a0, b1, .val (gP v sc ed), .val (.tup (tabs.map tabP)), .val N, .val (.fup ((varsL sc (allN sc)).map PV.int)), .val (tI row), .val (optP (d <|> ns.find? (badN sc tabs (varsL sc (allN sc)) row))), v8', v9', v10', v11', v12])
  | [], d, v8, v9, v10, v11, _ => ⟨v8, v9, v10, v11, by unfold forF; cases d <;> rfl⟩
  | i :: ns, d, v8, v9, v10, v11, hn => by
    have hi := hn i List.mem_cons_self
    have g0 : getF (gP v sc ed) (.int 1) = some (.tup (sc.map tI)) := getF_t1 _ _ _
    have g1 := getF_sc sc v ed i hi
    have cut := cut_ok row (varsL sc (allN sc)) (scA sc i) S.len (S.sub hi)
    have g2 := getF_tb tabs i (by rw [S.t.length]; exact hi)
    have q2 : seqOf (tabP (tbA tabs i)) = some ((tbA tabs i).map rowP) := rfl
    have rest := fun d' v8 v9 v10 v11 => due_loop S a0 b1 N v12 ns d' v8 v9 v10 v11 (fun j hj => hn j (List.mem_cons_of_mem _ hj))
    generalize hp : partL row (varsL sc (allN sc)) (scA sc i) = part at cut
    have hb : badN sc tabs (varsL sc (allN sc)) row i = !hasP (tbA tabs i) part := by unfold badN; rw [hp]
    generalize badN sc tabs (varsL sc (allN sc)) row = B at *
    generalize PV.fup ((varsL sc (allN sc)).map PV.int) = V at *
    generalize PV.tup (tabs.map tabP) = T at *
    generalize gP v sc ed = G at *
    rw [List.map_cons]
    cases d with
    | some k =>
      obtain ⟨v8', v9', v10', v11', ih⟩ := rest (some k) (.val (.int i)) (.val (tI part)) v10 v11
      refine ⟨v8', v9', v10', v11', ?_⟩
      unfold forF
      simp only [dueB, optP] at ih ⊢
      simp [g0, g1, cut]
      exact ih
    | none =>
      have c := lcF_pure (t := (.tp [(.nm 10), (.nm 11)])) (tt := dYes) (elt := dVar 10) (vs := [10, 11]) (e := [a0, b1, .val G, .val T, .val N, .val V, .val (tI row), .val .non, .val (.int i), .val (tI part), .no, .no, v12]) (p := fun _ => true) (f := fun x => match x with | .tup (a :: _) => a | x => x) (xs := (tbA tabs i).map rowP) (fun x hx => by
        obtain ⟨p, _, rfl⟩ := List.mem_map.mp hx
        exact ⟨[a0, b1, .val G, .val T, .val N, .val V, .val (tI row), .val .non, .val (.int i), .val (tI part), .val (tI p.1), .val (.int p.2), v12], _, by simp [rowP], rfl, by simp, fun _ => ⟨[a0, b1, .val G, .val T, .val N, .val V, .val (tI row), .val .non, .val (.int i), .val (tI part), .val (tI p.1), .val (.int p.2), v12], by simp [rowP], by simp⟩⟩)
      rw [List.filter_eq_self.mpr (by simp), List.map_map] at c
      have e : (tbA tabs i).map ((fun x => match x with | .tup (a :: _) => a | x => x) ∘ rowP) = ((tbA tabs i).map (·.1)).map tI := by rw [List.map_map]; rfl
      rw [e] at c
      have hni := notIn_part (tbA tabs i) part
      generalize ((tbA tabs i).map (·.1)).map tI = os at c hni
      by_cases hh : hasP (tbA tabs i) part = true
      · obtain ⟨v8', v9', v10', v11', ih⟩ := rest none (.val (.int i)) (.val (tI part)) (keepV [v10, v11, v12] 0) (keepV [v11, v12] 0)
        refine ⟨v8', v9', v10', v11', ?_⟩
        rw [List.find?_cons_of_neg (by rw [hb, hh]; simp)]
        unfold forF
        simp only [dueB, optP] at ih ⊢
        simp [g0, g1, cut, g2, q2, c, hni, hh]
        exact ih
      · have hh' : hasP (tbA tabs i) part = false := by simpa using hh
        obtain ⟨v8', v9', v10', v11', ih⟩ := rest (some i) (.val (.int i)) (.val (tI part)) (keepV [v10, v11, v12] 0) (keepV [v11, v12] 0)
        refine ⟨v8', v9', v10', v11', ?_⟩
        rw [List.find?_cons_of_pos (by rw [hb, hh']; rfl)]
        unfold forF
        simp only [dueB, optP] at ih ⊢
        simp [g0, g1, cut, g2, q2, c, hni, hh']
        exact ih
end
end QQ

namespace QQ
open PP WK
theorem neF_opt (d : Option Nat) : neF (optP d) (optP d) = some (.bl false) := by
  cases d with
  | none => rfl
  | some i => simp [optP]
theorem isInt_ok (i : Int) : s__law_is_integer [.int i] = some (.bl true, [.int i]) := by
  unfold s__law_is_integer d__law_is_integer
  rw [runF_ev]
  simp
def rowB : DenS := (sSeq (sAsg (.nm 7) (dC .non)) (sSeq (sFor (iSeq (dVar 4)) (.nm 8) dueB) (sSeq (sAsg (.nm 12) (dCall s_rejecting [.d (dVar 2), .d (dVar 3), .d (dVar 6)])) (sSeq (sIf (dOr (dB (dBin neF (dVar 12) (dVar 7))) (dAnd (dB (dBin notNF (dVar 7) (dC .non))) (dNot (dTruth (.d (dCall s__law_is_integer [.d (dVar 12)])))))) (sSeq (sRet (dC (.bl false))) sNil) sNil) sNil))))
theorem rowB_ok {v : Nat} {sc : List (List Int)} {ed : List (Int × Int)} {tabs : List (List (List Int × Int))} {row : List Int} (S : Sit v sc ed tabs row) (a0 b1 v7 v8 v9 v10 v11 v12 : SlP) :
    ∃ v7' v8' v9' v10' v11' v12', rowB [a0, b1, .val (gP v sc ed), .val (.tup (tabs.map tabP)), .val (nd (allN sc)), .val (.fup ((varsL sc (allN sc)).map PV.int)), .val (tI row), v7, v8, v9, v10, v11, v12] =
      some (.nx [a0, b1, .val (gP v sc ed), .val (.tup (tabs.map tabP)), .val (nd (allN sc)), .val (.fup ((varsL sc (allN sc)).map PV.int)), .val (tI row), v7', v8', v9', v10', v11', v12']) := by
  obtain ⟨v8', v9', v10', v11', l⟩ := due_loop S a0 b1 (nd (allN sc)) v12 (allN sc) none v8 v9 v10 v11 (fun i hi => by simpa [allN] using hi)
  have k := rejecting_ok S
  have q : seqOf (nd (allN sc)) = some ((allN sc).map fun i : Nat => .int (i : Int)) := rfl
  generalize (allN sc).find? (badN sc tabs (varsL sc (allN sc)) row) = d at *
  rw [show ((none : Option Nat) <|> d) = d from rfl] at l
  have hn := neF_opt d
  refine ⟨.val (optP d), v8', v9', v10', v11', .val (optP d), ?_⟩
  unfold rowB
  generalize dueB = B at *
  generalize PV.fup ((varsL sc (allN sc)).map PV.int) = V at *
  generalize PV.tup (tabs.map tabP) = T at *
  generalize gP v sc ed = G at *
  generalize nd (allN sc) = N at *
  cases d with
  | none =>
    have o : optP none = .non := rfl
    rw [o] at l k hn ⊢
    simp [q, l, k, hn]
  | some i =>
    have hi := isInt_ok (i : Int)
    have o : optP (some i) = .int i := rfl
    have o2 : optP none = .non := rfl
    rw [o, o2] at l
    rw [o] at k hn ⊢
    simp [q, l, k, hn, hi]
theorem law_eq : d_law = (sSeq (sOwn 1 (dCallN s__law_stream [(dVar 0)])) (sSeq (sAsg (.nm 2) (dBin getF (dLst [(dCall s__law_graph [.b 1, .d (dC (.int 4))]), (dCall s__law_tree [.b 1, .d (dC (.int 4))])]) (dCall s__law_next [.b 1, .d (dC (.int 2))]))) (sSeq (sAsg (.nm 3) (dCall s__law_tables [.b 1, .d (dVar 2)])) (sSeq (sAsg (.nm 4) (dListRg [(dApp lenF [.d (dBin getF (dVar 2) (dC (.int 1)))])])) (sSeq (sAsg (.nm 5) (dCall s__law_variables [.d (dVar 2), .d (dVar 4)])) (sSeq (sFor (iSeq (dCall s__law_rows [.d (dBin getF (dVar 2) (dC (.int 0))), .d (dApp lenF [.d (dVar 5)])])) (.nm 6) rowB) (sSeq (sRet (dC (.bl true))) sNil))))))) := rfl
theorem ed_len {v : Int} {sc : List (List Int)} {ed : List (Int × Int)} (h : OkG v sc ed) : ed.length ≤ 1000 := by
  have key : ∀ (l : List (Int × Int)) (a : Int), l.Pairwise lt2 → (∀ p ∈ l, 0 ≤ p.1 ∧ p.1 < p.2 ∧ p.2 < 4 ∧ a ≤ p.1 * 4 + p.2) → (l.length : Int) ≤ 16 - a ∨ l = [] := by
    intro l
    induction l with
    | nil => intro a _ _; exact .inr rfl
    | cons p r ih =>
      intro a h1 h2
      rw [List.pairwise_cons] at h1
      have hp := h2 p List.mem_cons_self
      left
      rcases ih (p.1 * 4 + p.2 + 1) h1.2 (fun q hq => by
        have := h2 q (List.mem_cons_of_mem _ hq)
        rcases h1.1 q hq with z | ⟨z, z2⟩
        · omega
        · omega) with h | h
      · rw [List.length_cons]; omega
      · subst h; simp; omega
  have n1 := h.n1
  rcases key ed 0 h.eo (fun p hp => by have := h.es p hp; omega) with h | h
  · omega
  · subst h; simp
theorem plain (ns : List Int) (hns : ns.length ≤ 63) : ∃ ws, s_law [.lst (ns.map PV.int)] = some (.bl true, ws) := by
  have hst : s__law_stream [.lst (ns.map PV.int)] = some (St.p ⟨ns, 0, 0, by decide⟩) := by
    unfold s__law_stream d__law_stream runFN
    simp [St.p, stP]
  obtain ⟨v1, sc1, ed1, s1, e1, o1⟩ := graph_ok ⟨ns, 0, 0, by decide⟩
  obtain ⟨v2, sc2, ed2, s2, e2, o2⟩ := tree_ok s1
  obtain ⟨d, s3, hd0, hd, e3⟩ := next_ok s2 2 (by decide) (by decide)
  have hg : ∃ v sc ed, OkG v sc ed ∧ getF (.lst [gP v1 sc1 ed1, gP v2 sc2 ed2]) (.int d) = some (gP v sc ed) := by
    by_cases hz : d = 0
    · subst hz; exact ⟨v1, sc1, ed1, o1, by simp⟩
    · have h1 : d = 1 := by omega
      subst h1; exact ⟨v2, sc2, ed2, o2, by simp⟩
  obtain ⟨v, sc, ed, o, hg⟩ := hg
  have hvn : ∃ vn : Nat, v = vn ∧ vn ≤ 3 := by
    rcases o.v with h | h
    · exact ⟨2, h, by omega⟩
    · exact ⟨3, h, by omega⟩
  obtain ⟨vn, rfl, hv3⟩ := hvn
  obtain ⟨tabs, s4, e4, ht⟩ := tables_ok s3 vn sc ed o
  have n1 := o.n1
  have e5 := variables_ok vn sc ed o (allN sc) (fun i hi => by simpa [allN] using hi) (by simp [allN]; omega)
  have g0 : getF (gP vn sc ed) (.int 0) = some (.int vn) := getF_t0 _ _
  have g1 : getF (gP vn sc ed) (.int 1) = some (.tup (sc.map tI)) := getF_t1 _ _ _
  have l5 : lenF [.fup ((varsL sc (allN sc)).map PV.int)] = some (.int (varsL sc (allN sc)).length) := by simp
  have e6 := rows_ok vn (varsL sc (allN sc)).length hv3 (vars_asc sc o.ss _).2.2
  have loop := forF_suf (t := .nm 6) (b := rowB) (P := fun rem env => ∃ (b : List (List Int)) (v6 v7 v8 v9 v10 v11 v12 : SlP), rem = b.map tI ∧ (∀ r ∈ b, r ∈ rowsL vn (varsL sc (allN sc)).length) ∧
      env = [.val (.lst (ns.map PV.int)), .own s4.p, .val (gP vn sc ed), .val (.tup (tabs.map tabP)), .val (nd (allN sc)), .val (.fup ((varsL sc (allN sc)).map PV.int)), v6, v7, v8, v9, v10, v11, v12]) (fun x xs env ⟨b, v6, v7, v8, v9, v10, v11, v12, hr, hb, he⟩ => by
    subst he
    cases b with
    | nil => cases hr
    | cons r b =>
      rw [List.map_cons] at hr
      cases hr
      obtain ⟨v7', v8', v9', v10', v11', v12', k⟩ := rowB_ok ⟨o, ed_len o, ht, hb r List.mem_cons_self⟩ (.val (.lst (ns.map PV.int))) (.own s4.p) v7 v8 v9 v10 v11 v12
      exact ⟨_, _, by simp, k, b, _, _, _, _, _, _, _, rfl, fun q hq => hb q (List.mem_cons_of_mem _ hq), rfl⟩)
  obtain ⟨e', l, _⟩ := loop ((rowsL vn (varsL sc (allN sc)).length).map tI) _ ⟨_, .no, .no, .no, .no, .no, .no, .no, rfl, fun r hr => hr, rfl⟩
  have hr := rngArg_len (dApp lenF [.d (dBin getF (dVar 2) (dC (.int 1)))]) [.val (.lst (ns.map PV.int)), .own s4.p, .val (gP vn sc ed), .val (.tup (tabs.map tabP)), .no, .no, .no, .no, .no, .no, .no, .no, .no] [.val (.lst (ns.map PV.int)), .own s4.p, .val (gP vn sc ed), .val (.tup (tabs.map tabP)), .no, .no, .no, .no, .no, .no, .no, .no, .no] sc.length (by simp [g1]) (by omega)
  rw [nd_all] at hr
  generalize PV.fup ((varsL sc (allN sc)).map PV.int) = V at *
  generalize PV.tup (tabs.map tabP) = T at *
  generalize gP vn sc ed = G at *
  generalize nd (allN sc) = N at *
  generalize (rowsL vn (varsL sc (allN sc)).length).map tI = RR at *
  generalize gP v1 sc1 ed1 = G1 at *
  generalize gP v2 sc2 ed2 = G2 at *
  unfold s_law
  rw [law_eq, runF_ev]
  simp [-dListRg_ev, hst, e1, e2, e3, hg, e4, hr, e5, g0, l5, e6, l]
end QQ

open PySem PySem.W PySem.Calls PyProof.Rows
theorem PySem.Challenge.cw_tabletalk_k09_whole_rejecting_nodes_holds : PySem.Challenge.rw_tabletalk_k09_whole_rejecting_nodes.Holds := by
  w_on; o_law
  refine HandSHeadRun.head_any (r := OpenLaw.row PySem.Challenge.rw_tabletalk_k09_whole_rejecting_nodes) (q := view (OpenLaw.row PySem.Challenge.rw_tabletalk_k09_whole_rejecting_nodes).prog [42]) (H := WK.hk) (ob := WK.ob) (M := 2000) (loose := WK.loose) (d := HandSHeadRun.topDef (OpenLaw.row PySem.Challenge.rw_tabletalk_k09_whole_rejecting_nodes).prog 42) (kwd := []) WK.ob_eq
    (by kernel_rfl) (fun s => by kernel_rfl) WK.run (by kernel_rfl) (by kernel_rfl) (by kernel_rfl) (by rfl) (by first | assumption | decide +kernel) (by decide +kernel) ⟨rfl, rfl, rfl, rfl, rfl, by decide +kernel⟩ ?hw ?hc
  case hw => w_witness2
  case hc =>
    refine L2.walk_ofE (l := PySem.Challenge.rw_tabletalk_k09_whole_rejecting_nodes) (n := 63) (k := 8) (x := "_law_script") (CX := L2.CX0) rfl (by decide) (by kernel_rfl) ⟨rfl, by decide, by decide⟩ ?F (fun _ _ _ _ z => z)
    intro w mg fa h Y G hmg0
    obtain ⟨K, KX, c⟩ := Y
    have hmg : mg ("law" : PySem.Str) = some (.ref fa) := by
      have e : (HandSHeadRun.topDef (OpenLaw.row PySem.Challenge.rw_tabletalk_k09_whole_rejecting_nodes).prog 42).name = ("law" : PySem.Str) := by kernel_rfl
      rw [← e]
      exact hmg0
    obtain ⟨fd, hb, hF⟩ := WK.facts (P := (PySem.Challenge.rw_tabletalk_k09_whole_rejecting_nodes).prog) (w := w) KX G hmg c
    exact ⟨K, fd, PP.spZ K 1 [] WK.s_law, KX, hb, fun H a ns hl _ hS => PP.law_sp hS (QQ.plain ns hl), hF⟩

