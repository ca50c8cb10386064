import PyProof.Rows.All
import Wide.All
import OpenK.AllK
import Wide.FinOn
import HandS.ForMost
import HandS.DictComp
import HandS.Zip
import HandS.IsInst
import HandS.Deep
import HandS.Conv
import HandS.HeadHook2
import HandS.HeadEnd
import HandS.Head0
import HandS.Head1
import HandS.Head2
import KE.SortData
import KE.DataMinMax
import KE.DataFind
import PyProof.Rows.TupAdd
import KE.KIndexOf
import HandS.Small
import PyProof.Transfer
import PySem.Challenge.RW_tabletalk_k11_whole_two_parts
set_option Elab.async false
set_option linter.all false
set_option maxRecDepth 100000
/-! PP, part a: pure values behind abstract heaps: what a value tells (Rep), slots, states (Rel), moves (Mv). -/
namespace PP
open PySem PySem.Spec PyProof.Rows L2

/-- a value without its heap: plain tuples may be keys; fup: a tuple whose object is known (it may be asked for an index) -/
inductive PV where
  | non | bl (b : Bool) | int (i : Int) | str (s : Str)
  | tup (xs : List PV) | fup (xs : List PV) | lst (xs : List PV)
  | dk (kvs : List (Key × PV)) | dt (kvs : List (List Key × PV))
mutual
/-- as data -/
def toD : PV → PyData
  | .non => .none
  | .bl b => .bool b
  | .int i => .int i
  | .str s => .str s
  | .tup xs => .tuple (toDs xs)
  | .fup xs => .tuple (toDs xs)
  | .lst xs => .list (toDs xs)
  | .dk _ => .dict []
  | .dt _ => .dict []
def toDs : List PV → List PyData
  | [] => []
  | x :: xs => toD x :: toDs xs
end
theorem toDs_map : ∀ xs : List PV, toDs xs = xs.map toD
  | [] => rfl
  | x :: xs => by simp [toDs, toDs_map xs]
def keyP : Key → PV
  | .inl i => .int i
  | .inr s => .str s
abbrev tupObj (its : List Value) : Obj := { cls := .type "tuple", data := .seq its.toArray }

/-- a list that is read: frozen, or a part of the module -/
def FzL (K : PySem.W.Frag) (F : Addr → Prop) (H : Hp) (a : Addr) (vs : List V) : Prop := (F a ∧ SqL K H a vs) ∨ SqL K (fun _ => none) a vs

mutual
inductive Rep (K : PySem.W.Frag) (F : Addr → Prop) (H : Hp) : V → PV → Prop
  | non : Rep K F H .non .non
  | bl (b : Bool) : Rep K F H (.bl b) (.bl b)
  | int (i : Int) : Rep K F H (.int i) (.int i)
  | str (x : Str) : Rep K F H (.str x) (.str x)
  | tup {a : Addr} {vs : List V} {xs : List PV} : H a = some (.tup vs) → RepL K F H vs xs → Rep K F H (.ref a) (.tup xs)
  | fup {a : Addr} {its : List Value} {vs : List V} {xs : List PV} : H a = some (.frz (tupObj its) (.tup vs)) → RepL K F H vs xs → Rep K F H (.ref a) (.fup xs)
  | lst {a : Addr} {vs : List V} {xs : List PV} : FzL K F H a vs → RepL K F H vs xs → Rep K F H (.ref a) (.lst xs)
  | dk {a : Addr} {kvs : List (Key × V)} {xs : List (Key × PV)} : F a → H a = some (.dK kvs) → RepK K F H kvs xs → Rep K F H (.ref a) (.dk xs)
  | dt {a : Addr} {kvs : List (List Key × V)} {xs : List (List Key × PV)} : F a → H a = some (.dT kvs) → RepT K F H kvs xs → Rep K F H (.ref a) (.dt xs)
inductive RepL (K : PySem.W.Frag) (F : Addr → Prop) (H : Hp) : List V → List PV → Prop
  | nil : RepL K F H [] []
  | cons {v : V} {vs : List V} {x : PV} {xs : List PV} : Rep K F H v x → RepL K F H vs xs → RepL K F H (v :: vs) (x :: xs)
inductive RepK (K : PySem.W.Frag) (F : Addr → Prop) (H : Hp) : List (Key × V) → List (Key × PV) → Prop
  | nil : RepK K F H [] []
  | cons {k : Key} {v : V} {kvs : List (Key × V)} {x : PV} {xs : List (Key × PV)} : Rep K F H v x → RepK K F H kvs xs → RepK K F H ((k, v) :: kvs) ((k, x) :: xs)
inductive RepT (K : PySem.W.Frag) (F : Addr → Prop) (H : Hp) : List (List Key × V) → List (List Key × PV) → Prop
  | nil : RepT K F H [] []
  | cons {k : List Key} {v : V} {kvs : List (List Key × V)} {x : PV} {xs : List (List Key × PV)} : Rep K F H v x → RepT K F H kvs xs → RepT K F H ((k, v) :: kvs) ((k, x) :: xs)
end

/-- what is frozen stays, tuples stay -/
structure Ex (F : Addr → Prop) (H : Hp) (F' : Addr → Prop) (H' : Hp) : Prop where
  sub : ∀ a, F a → F' a
  keep : ∀ a o, F a → H a = some o → H' a = some o
  tups : ∀ a vs, H a = some (.tup vs) → H' a = some (.tup vs)
  frzs : ∀ a o u, H a = some (.frz o u) → H' a = some (.frz o u)
theorem Ex.refl {F : Addr → Prop} {H : Hp} : Ex F H F H := ⟨fun _ h => h, fun _ _ _ h => h, fun _ _ h => h, fun _ _ _ h => h⟩
theorem Ex.trans {F F1 F2 : Addr → Prop} {H H1 H2 : Hp} (a : Ex F H F1 H1) (b : Ex F1 H1 F2 H2) : Ex F H F2 H2 :=
  ⟨fun x h => b.sub x (a.sub x h), fun x o h e => b.keep x o (a.sub x h) (a.keep x o h e), fun x vs e => b.tups x vs (a.tups x vs e), fun x o u e => b.frzs x o u (a.frzs x o u e)⟩

variable {K : PySem.W.Frag} {F F' : Addr → Prop} {H H' : Hp}

theorem rd_keep {a : Addr} {u : HO} (k : ∀ o, H a = some o → H' a = some o) (r : Rd H a u) : Rd H' a u := by
  rcases r with r | ⟨o, r⟩
  · exact .inl (k _ r)
  · exact .inr ⟨o, k _ r⟩
theorem sql_keep {a : Addr} {vs : List V} (k : ∀ o, H a = some o → H' a = some o) (r : SqL K H a vs) : SqL K H' a vs := by
  rcases r with r | r
  · exact .inl (rd_keep k r)
  · exact .inr r
theorem FzL.seq {a : Addr} {vs : List V} (r : FzL K F H a vs) : SqL K H a vs := by
  rcases r with ⟨_, r⟩ | r
  · exact r
  · exact sql_keep (fun o e => by cases e) r
theorem FzL.ex {a : Addr} {vs : List V} (e : Ex F H F' H') (r : FzL K F H a vs) : FzL K F' H' a vs := by
  rcases r with ⟨f, r⟩ | r
  · exact .inl ⟨e.sub a f, sql_keep (fun o q => e.keep a o f q) r⟩
  · exact .inr r

mutual
theorem Rep.ex (e : Ex F H F' H') : ∀ {v : V} {x : PV}, Rep K F H v x → Rep K F' H' v x
  | _, _, .non => .non
  | _, _, .bl b => .bl b
  | _, _, .int i => .int i
  | _, _, .str s => .str s
  | _, _, .tup h r => .tup (e.tups _ _ h) (RepL.ex e r)
  | _, _, .fup h r => .fup (e.frzs _ _ _ h) (RepL.ex e r)
  | _, _, .lst h r => .lst (h.ex e) (RepL.ex e r)
  | _, _, .dk f h r => .dk (e.sub _ f) (e.keep _ _ f h) (RepK.ex e r)
  | _, _, .dt f h r => .dt (e.sub _ f) (e.keep _ _ f h) (RepT.ex e r)
theorem RepL.ex (e : Ex F H F' H') : ∀ {vs : List V} {xs : List PV}, RepL K F H vs xs → RepL K F' H' vs xs
  | _, _, .nil => .nil
  | _, _, .cons r t => .cons (Rep.ex e r) (RepL.ex e t)
theorem RepK.ex (e : Ex F H F' H') : ∀ {vs : List (Key × V)} {xs : List (Key × PV)}, RepK K F H vs xs → RepK K F' H' vs xs
  | _, _, .nil => .nil
  | _, _, .cons r t => .cons (Rep.ex e r) (RepK.ex e t)
theorem RepT.ex (e : Ex F H F' H') : ∀ {vs : List (List Key × V)} {xs : List (List Key × PV)}, RepT K F H vs xs → RepT K F' H' vs xs
  | _, _, .nil => .nil
  | _, _, .cons r t => .cons (Rep.ex e r) (RepT.ex e t)
end

theorem RepL.length : ∀ {vs : List V} {xs : List PV}, RepL K F H vs xs → vs.length = xs.length
  | _, _, .nil => rfl
  | _, _, .cons _ t => by simp [RepL.length t]
theorem RepL.get : ∀ {vs : List V} {xs : List PV} {i : Nat} {x : PV}, RepL K F H vs xs → xs[i]? = some x → ∃ v, vs[i]? = some v ∧ Rep K F H v x
  | _, _, _, _, .nil, e => by simp at e
  | _, _, 0, _, .cons r _, e => by simp at e; subst e; exact ⟨_, rfl, r⟩
  | _, _, i + 1, x, .cons _ t, e => by
    obtain ⟨u, h1, h2⟩ := RepL.get (i := i) (x := x) t (by simpa using e)
    exact ⟨u, by simpa using h1, h2⟩
theorem RepL.append : ∀ {vs ws : List V} {xs ys : List PV}, RepL K F H vs xs → RepL K F H ws ys → RepL K F H (vs ++ ws) (xs ++ ys)
  | _, _, _, _, .nil, s => s
  | _, _, _, _, .cons r t, s => .cons r (RepL.append t s)
theorem RepL.take : ∀ {vs : List V} {xs : List PV} (n : Nat), RepL K F H vs xs → RepL K F H (vs.take n) (xs.take n)
  | _, _, 0, _ => by simpa using RepL.nil
  | _, _, _ + 1, .nil => .nil
  | _, _, n + 1, .cons r t => .cons r (RepL.take n t)
theorem RepL.drop : ∀ {vs : List V} {xs : List PV} (n : Nat), RepL K F H vs xs → RepL K F H (vs.drop n) (xs.drop n)
  | _, _, 0, r => r
  | _, _, _ + 1, .nil => .nil
  | _, _, n + 1, .cons _ t => RepL.drop n t
theorem RepL.set {v : V} {x : PV} (r : Rep K F H v x) : ∀ {vs : List V} {xs : List PV} (n : Nat), RepL K F H vs xs → RepL K F H (vs.set n v) (xs.set n x)
  | _, _, _, .nil => .nil
  | _, _, 0, .cons _ t => .cons r t
  | _, _, n + 1, .cons q t => .cons q (RepL.set r n t)
theorem RepL.eraseIdx : ∀ {vs : List V} {xs : List PV} (n : Nat), RepL K F H vs xs → RepL K F H (vs.eraseIdx n) (xs.eraseIdx n)
  | _, _, _, .nil => .nil
  | _, _, 0, .cons _ t => t
  | _, _, n + 1, .cons q t => .cons q (RepL.eraseIdx n t)
theorem RepL.dropLast : ∀ {vs : List V} {xs : List PV}, RepL K F H vs xs → RepL K F H vs.dropLast xs.dropLast
  | _, _, .nil => .nil
  | _, _, .cons _ .nil => .nil
  | _, _, .cons r (.cons r2 t) => .cons r (RepL.dropLast (.cons r2 t))
theorem RepL.reverse : ∀ {vs : List V} {xs : List PV}, RepL K F H vs xs → RepL K F H vs.reverse xs.reverse
  | _, _, .nil => .nil
  | _, _, .cons r t => by
    rw [List.reverse_cons, List.reverse_cons]
    exact (RepL.reverse t).append (.cons r .nil)

/-! ### data as the layer reads them -/
mutual
/-- no dict in it -/
def nodic : PV → Bool
  | .dk _ => false
  | .dt _ => false
  | .lst xs => nodicL xs
  | .tup xs => nodicL xs
  | .fup xs => nodicL xs
  | _ => true
def nodicL : List PV → Bool
  | [] => true
  | x :: xs => nodic x && nodicL xs
end
mutual
theorem Rep.dp : ∀ {v : V} {x : PV}, nodic x = true → Rep K F H v x → Dp K H v (toD x)
  | _, _, _, .non => by unfold toD; exact .non
  | _, _, _, .bl b => by unfold toD; exact .bl b
  | _, _, _, .int i => by unfold toD; exact .int i
  | _, _, _, .str s => by unfold toD; exact .str s
  | _, _, e, .tup h r => by unfold toD; exact .tup (SqT.of h) (RepL.dp (by simpa [nodic] using e) r)
  | _, _, e, .fup h r => by unfold toD; exact .tup (.inl (.inr ⟨_, h⟩)) (RepL.dp (by simpa [nodic] using e) r)
  | _, _, e, .lst h r => by unfold toD; exact .lst h.seq (RepL.dp (by simpa [nodic] using e) r)
theorem RepL.dp : ∀ {vs : List V} {xs : List PV}, nodicL xs = true → RepL K F H vs xs → DpAll K H vs (toDs xs)
  | _, _, _, .nil => by unfold toDs; exact .nil
  | _, _, e, .cons r t => by
    simp only [nodicL, Bool.and_eq_true] at e
    unfold toDs
    exact .cons (Rep.dp e.1 r) (RepL.dp e.2 t)
end

/-! ### slots -/
inductive SlP where
  | no | val (v : PV) | own (v : PV)
abbrev PEn := List SlP

/-- a container of one's own at a -/
inductive OwnAt (K : PySem.W.Frag) (F : Addr → Prop) (H : Hp) (a : Addr) : PV → Prop
  | lst {vs : List V} {xs : List PV} : H a = some (.lst vs) → RepL K F H vs xs → OwnAt K F H a (.lst xs)
  | dk {kvs : List (Key × V)} {xs : List (Key × PV)} : H a = some (.dK kvs) → RepK K F H kvs xs → OwnAt K F H a (.dk xs)
  | dt {kvs : List (List Key × V)} {xs : List (List Key × PV)} : H a = some (.dT kvs) → RepT K F H kvs xs → OwnAt K F H a (.dt xs)
theorem OwnAt.some {a : Addr} {v : PV} (o : OwnAt K F H a v) : ∃ u, H a = some u ∧ (∀ vs, u ≠ .tup vs) ∧ ∀ o w, u ≠ .frz o w := by
  cases o with
  | lst h _ => exact ⟨_, h, (fun _ z => by cases z), (fun _ _ z => by cases z)⟩
  | dk h _ => exact ⟨_, h, (fun _ z => by cases z), (fun _ _ z => by cases z)⟩
  | dt h _ => exact ⟨_, h, (fun _ z => by cases z), (fun _ _ z => by cases z)⟩
theorem OwnAt.ex {a : Addr} {v : PV} (e : Ex F H F' H') (k : H' a = H a) (o : OwnAt K F H a v) : OwnAt K F' H' a v := by
  cases o with
  | lst h r => exact .lst (k.trans h) (r.ex e)
  | dk h r => exact .dk (k.trans h) (r.ex e)
  | dt h r => exact .dt (k.trans h) (r.ex e)
/-- frozen, it is a value -/
theorem OwnAt.rep {a : Addr} {v : PV} (o : OwnAt K F H a v) (e : Ex F H F' H) (f : F' a) : Rep K F' H (.ref a) v := by
  cases o with
  | lst h r => exact .lst (.inl ⟨f, SqL.of h⟩) (r.ex e)
  | dk h r => exact .dk f h (r.ex e)
  | dt h r => exact .dt f h (r.ex e)

/-- a value, or a container of one's own that is only read -/
inductive BRep (K : PySem.W.Frag) (F : Addr → Prop) (H : Hp) : V → PV → Prop
  | rep {v : V} {x : PV} : Rep K F H v x → BRep K F H v x
  | own {a : Addr} {x : PV} : OwnAt K F H a x → BRep K F H (.ref a) x
inductive BRepL (K : PySem.W.Frag) (F : Addr → Prop) (H : Hp) : List V → List PV → Prop
  | nil : BRepL K F H [] []
  | cons {v : V} {vs : List V} {x : PV} {xs : List PV} : BRep K F H v x → BRepL K F H vs xs → BRepL K F H (v :: vs) (x :: xs)
theorem RepL.b : ∀ {vs : List V} {xs : List PV}, RepL K F H vs xs → BRepL K F H vs xs
  | _, _, .nil => .nil
  | _, _, .cons r t => .cons (.rep r) (RepL.b t)
theorem BRepL.length : ∀ {vs : List V} {xs : List PV}, BRepL K F H vs xs → vs.length = xs.length
  | _, _, .nil => rfl
  | _, _, .cons _ t => by simp [BRepL.length t]
/-- the items of a list that is read -/
theorem BRep.lst {v : V} {xs : List PV} (r : BRep K F H v (.lst xs)) : ∃ a vs, v = .ref a ∧ SqL K H a vs ∧ RepL K F H vs xs := by
  cases r with
  | rep r => cases r with | lst h r => exact ⟨_, _, rfl, h.seq, r⟩
  | own o => cases o with | lst h r => exact ⟨_, _, rfl, SqL.of h, r⟩
theorem BRep.tup {v : V} {xs : List PV} (r : BRep K F H v (.tup xs)) : ∃ a vs, v = .ref a ∧ H a = some (.tup vs) ∧ RepL K F H vs xs := by
  cases r with
  | rep r => cases r with | tup h r => exact ⟨_, _, rfl, h, r⟩
  | own o => cases o
theorem BRep.fup {v : V} {xs : List PV} (r : BRep K F H v (.fup xs)) : ∃ a its vs, v = .ref a ∧ H a = some (.frz (tupObj its) (.tup vs)) ∧ RepL K F H vs xs := by
  cases r with
  | rep r => cases r with | fup h r => exact ⟨_, _, _, rfl, h, r⟩
  | own o => cases o
theorem BRep.int {v : V} {i : Int} (r : BRep K F H v (.int i)) : v = .int i := by
  cases r with
  | rep r => cases r; rfl
  | own o => cases o
theorem BRep.bl {v : V} {i : Bool} (r : BRep K F H v (.bl i)) : v = .bl i := by
  cases r with
  | rep r => cases r; rfl
  | own o => cases o
theorem BRep.str {v : V} {i : Str} (r : BRep K F H v (.str i)) : v = .str i := by
  cases r with
  | rep r => cases r; rfl
  | own o => cases o
theorem BRep.dp {v : V} {x : PV} (n : nodic x = true) (r : BRep K F H v x) : Dp K H v (toD x) := by
  cases r with
  | rep r => exact r.dp n
  | own o =>
    cases o with
    | lst h r => unfold toD; exact .lst (SqL.of h) (RepL.dp (by simpa [nodic] using n) r)
    | dk _ _ => simp [nodic] at n
    | dt _ _ => simp [nodic] at n

def Sized (H : Hp) : Prop := ∀ a, (∀ vs, (Rd H a (.lst vs) ∨ Rd H a (.tup vs)) → vs.length ≤ sizeLine) ∧ (∀ kvs, H a = some (.dK kvs) → kvs.length ≤ sizeLine) ∧ ∀ kvs, H a = some (.dT kvs) → kvs.length ≤ sizeLine
theorem sized_of {P : Program} {w : World} {h : Heap} (ok : HOk P w H h) : Sized H := fun a => by
  refine ⟨fun vs e => ?_, fun kvs e => ?_, fun kvs e => ?_⟩
  · rcases e with e | e
    · exact (e.ok ok).1
    · exact (e.ok ok).1
  · exact (ok a _ e).1
  · exact (ok a _ e).1
def HO.small : HO → Prop
  | .lst vs => vs.length ≤ sizeLine
  | .tup vs => vs.length ≤ sizeLine
  | .dK kvs => kvs.length ≤ sizeLine
  | .dT kvs => kvs.length ≤ sizeLine
  | .frz _ (.lst vs) => vs.length ≤ sizeLine
  | .frz _ (.tup vs) => vs.length ≤ sizeLine
  | _ => True
theorem Sized.upd {p : Addr} {o : HO} (s : Sized H) (h : PP.HO.small o) : Sized (L2.upd H p o) := fun a => by
  by_cases e : a = p
  · subst e
    unfold Rd
    rw [upd_same]
    refine ⟨fun vs q => ?_, fun kvs q => ?_, fun kvs q => ?_⟩
    · rcases q with (q | ⟨x, q⟩) | (q | ⟨x, q⟩) <;> cases q <;> exact h
    · cases q; exact h
    · cases q; exact h
  · unfold Rd
    rw [upd_ne e]
    exact s a

def Own (env : PEn) (σ : L2.St) (a : Addr) : Prop := ∃ (i : Nat) (v : PV), env[i]? = some (SlP.own v) ∧ σ[i]? = some (some (V.ref a))

structure Rel (K : PySem.W.Frag) (F : Addr → Prop) (H : Hp) (env : PEn) (σ : L2.St) : Prop where
  len : env.length = σ.length
  val : ∀ (i : Nat) (v : PV), env[i]? = some (SlP.val v) → ∃ x, σ[i]? = some (some x) ∧ Rep K F H x v
  own : ∀ (i : Nat) (v : PV), env[i]? = some (SlP.own v) → ∃ a, σ[i]? = some (some (V.ref a)) ∧ ¬ F a ∧ OwnAt K F H a v
  apart : ∀ (i j : Nat) (v w : PV) (a : Addr), env[i]? = some (SlP.own v) → env[j]? = some (SlP.own w) → σ[i]? = some (some (V.ref a)) → σ[j]? = some (some (V.ref a)) → i = j
  fz : ∀ a, F a → ∃ o, H a = some o
  sz : Sized H

structure Mv (F : Addr → Prop) (H : Hp) (env : PEn) (σ : L2.St) (F' : Addr → Prop) (H' : Hp) (env' : PEn) (σ' : L2.St) : Prop where
  sub : ∀ a, F a → F' a
  frame : ∀ b o, H b = some o → ¬ Own env σ b → H' b = some o
  fnew : ∀ a, F' a → F a ∨ Own env σ a ∨ H a = none
  onew : ∀ a, Own env' σ' a → Own env σ a ∨ H a = none
  there : ∀ b o, H b = some o → ∃ o', H' b = some o'

variable {env env1 env2 : PEn} {σ σ1 σ2 : L2.St} {F1 F2 : Addr → Prop} {H1 H2 : Hp}

theorem Mv.refl : Mv F H env σ F H env σ := ⟨fun _ h => h, fun _ _ h _ => h, fun _ h => .inl h, fun _ h => .inl h, fun _ o h => ⟨o, h⟩⟩
theorem Mv.back (a : Mv F H env σ F1 H1 env1 σ1) {b : Addr} (h : H1 b = none) : H b = none := by
  cases q : H b with
  | none => rfl
  | some o =>
    obtain ⟨o', e⟩ := a.there b o q
    rw [h] at e; cases e
theorem Mv.trans (a : Mv F H env σ F1 H1 env1 σ1) (b : Mv F1 H1 env1 σ1 F2 H2 env2 σ2) : Mv F H env σ F2 H2 env2 σ2 where
  sub := fun x h => b.sub x (a.sub x h)
  frame := fun x o h n => by
    refine b.frame x o (a.frame x o h n) fun z => ?_
    rcases a.onew x z with q | q
    · exact n q
    · rw [h] at q; cases q
  fnew := fun x h => by
    rcases b.fnew x h with q | q | q
    · exact a.fnew x q
    · exact .inr (a.onew x q)
    · exact .inr (.inr (a.back q))
  onew := fun x h => by
    rcases b.onew x h with q | q
    · exact a.onew x q
    · exact .inr (a.back q)
  there := fun x o h => let ⟨o', e⟩ := a.there x o h; b.there x o' e

theorem Rel.nof (R : Rel K F H env σ) {a : Addr} (o : Own env σ a) : ¬ F a := by
  obtain ⟨i, v, e, s⟩ := o
  obtain ⟨b, s', n, _⟩ := R.own i v e
  rw [s] at s'; cases s'; exact n
theorem Rel.ownAt (R : Rel K F H env σ) {a : Addr} (o : Own env σ a) : ∃ v, OwnAt K F H a v := by
  obtain ⟨i, v, e, s⟩ := o
  obtain ⟨b, s', _, n⟩ := R.own i v e
  rw [s] at s'; cases s'; exact ⟨v, n⟩
theorem Rel.ntup (R : Rel K F H env σ) {a : Addr} {vs : List V} (h : H a = some (.tup vs)) : ¬ Own env σ a := fun o => by
  obtain ⟨v, n⟩ := R.ownAt o
  obtain ⟨u, e, d, _⟩ := n.some
  rw [h] at e; cases e; exact d vs rfl
theorem Rel.nfrz (R : Rel K F H env σ) {a : Addr} {o : Obj} {w : HO} (h : H a = some (.frz o w)) : ¬ Own env σ a := fun z => by
  obtain ⟨v, n⟩ := R.ownAt z
  obtain ⟨u, e, _, d⟩ := n.some
  rw [h] at e; cases e; exact d _ _ rfl
theorem Mv.ex (m : Mv F H env σ F1 H1 env1 σ1) (R : Rel K F H env σ) : Ex F H F1 H1 :=
  ⟨m.sub, fun a o f e => m.frame a o e fun z => R.nof z f, fun a vs e => m.frame a _ e (R.ntup e), fun a o u e => m.frame a _ e (R.nfrz e)⟩

/-- the heap grew, some of the new is frozen -/
structure Nw (F : Addr → Prop) (H : Hp) (F' : Addr → Prop) (H' : Hp) : Prop where
  sub : ∀ a, F a → F' a
  same : Same H H'
  fnew : ∀ a, F' a → F a ∨ H a = none
  fz : ∀ a, F' a → ∃ o, H' a = some o
theorem Nw.refl (fz : ∀ a, F a → ∃ o, H a = some o) : Nw F H F H := ⟨fun _ h => h, Same.refl H, fun _ h => .inl h, fz⟩
theorem Nw.ex (n : Nw F H F' H') : Ex F H F' H' := ⟨n.sub, fun a o _ e => n.same a o e, fun a vs e => n.same a _ e, fun a o u e => n.same a _ e⟩
theorem Nw.trans (a : Nw F H F1 H1) (b : Nw F1 H1 F2 H2) : Nw F H F2 H2 :=
  ⟨fun x h => b.sub x (a.sub x h), Same.trans a.same b.same, fun x h => by
    rcases b.fnew x h with q | q
    · exact a.fnew x q
    · exact .inr (Same.free a.same q), b.fz⟩
theorem Nw.mv (n : Nw F H F' H') : Mv F H env σ F' H' env σ :=
  ⟨n.sub, fun b o e _ => n.same b o e, fun a h => (n.fnew a h).imp_right .inr, fun _ h => .inl h, fun b o e => ⟨o, n.same b o e⟩⟩
theorem Nw.rel (n : Nw F H F' H') (R : Rel K F H env σ) (sz : Sized H') : Rel K F' H' env σ where
  len := R.len
  val := fun i v e => let ⟨x, s, r⟩ := R.val i v e; ⟨x, s, r.ex n.ex⟩
  own := fun i v e => by
    obtain ⟨a, s, nf, o⟩ := R.own i v e
    obtain ⟨u, hu, _⟩ := o.some
    refine ⟨a, s, fun f => ?_, o.ex n.ex ((n.same a u hu).trans hu.symm)⟩
    rcases n.fnew a f with q | q
    · exact nf q
    · rw [hu] at q; cases q
  apart := R.apart
  fz := n.fz
  sz := sz
/-- a new object, not frozen -/
theorem Nw.upd {p : Addr} {o : HO} (h : H p = none) (fz : ∀ a, F a → ∃ o, H a = some o) : Nw F H F (L2.upd H p o) :=
  ⟨fun _ h => h, fun b x e => by rw [upd_ne (ne_of_none e h)]; exact e, fun _ h => .inl h, fun a f => by
    obtain ⟨u, e⟩ := fz a f
    exact ⟨u, by rw [upd_ne (ne_of_none e h)]; exact e⟩⟩
/-- a new object, frozen -/
theorem Nw.fix {p : Addr} {o : HO} (h : H p = none) (fz : ∀ a, F a → ∃ o, H a = some o) : Nw F H (fun a => F a ∨ a = p) (L2.upd H p o) :=
  ⟨fun _ h => .inl h, fun b x e => by rw [upd_ne (ne_of_none e h)]; exact e, fun a f => by
    rcases f with f | rfl
    · exact .inl f
    · exact .inr h, fun a f => by
    by_cases q : a = p
    · subst q; exact ⟨o, upd_same⟩
    · rcases f with f | f
      · obtain ⟨u, e⟩ := fz a f
        exact ⟨u, by rw [upd_ne q]; exact e⟩
      · exact absurd f q⟩
end PP

/-! PP, part b: denotations of expressions; constants, names, displays, operators. -/
namespace PP
open PySem PySem.Spec PyProof.Rows L2

abbrev Den := PEn → Option (PV × PEn)
abbrev DenT := PEn → Option (Bool × PEn)
abbrev DenA := PEn → Option (List PV × PEn)

def tE (K : PySem.W.Frag) (d : Den) : TE := fun σ H Q => ∃ F env r env', Rel K F H env σ ∧ d env = some (r, env') ∧ ∀ (x : V) (F' : Addr → Prop) (H' : Hp), Rel K F' H' env' σ → Mv F H env σ F' H' env' σ → Rep K F' H' x r → Q x H'
def tT (K : PySem.W.Frag) (d : DenT) : TT := fun σ H Q => ∃ F env r env', Rel K F H env σ ∧ d env = some (r, env') ∧ ∀ (F' : Addr → Prop) (H' : Hp), Rel K F' H' env' σ → Mv F H env σ F' H' env' σ → Q r H'
def tAB (K : PySem.W.Frag) (d : DenA) : TA := fun σ H Q => ∃ F env r env', Rel K F H env σ ∧ d env = some (r, env') ∧ ∀ (xs : List V) (F' : Addr → Prop) (H' : Hp), Rel K F' H' env' σ → Mv F H env σ F' H' env' σ → BRepL K F' H' xs r → Q xs H'
def tA (K : PySem.W.Frag) (d : DenA) : TA := fun σ H Q => ∃ F env r env', Rel K F H env σ ∧ d env = some (r, env') ∧ ∀ (xs : List V) (F' : Addr → Prop) (H' : Hp), Rel K F' H' env' σ → Mv F H env σ F' H' env' σ → RepL K F' H' xs r → Q xs H'

abbrev VE (X : Cx) (e : Expr) (d : Den) : Prop := PE X e (tE X.K d)
abbrev VT (X : Cx) (e : Expr) (d : DenT) : Prop := PT X e (tT X.K d)
abbrev VW (X : Cx) (e : Expr) (d : DenT) : Prop := PW X e (tT X.K d)
abbrev VAB (X : Cx) (e : List Expr) (d : DenA) : Prop := PA X e (tAB X.K d)
abbrev VA (X : Cx) (e : List Expr) (d : DenA) : Prop := PA X e (tA X.K d)

section
variable {X : Cx} {e : Expr} {es : List Expr}
theorem pe_imp {t t' : TE} (h : PE X e t) (i : ∀ σ H Q, Sized H → t' σ H Q → t σ H (fun v H' => Sized H' → Q v H')) : PE X e t' := ⟨fun pins s σ H Q I hw =>
  thn (h.run pins s σ H _ I (i σ H Q (sized_of I.hok) hw)) fun u s' ⟨v, H', I', r, q⟩ => ⟨v, H', I', r, q (sized_of I'.hok)⟩⟩
theorem pt_imp {t t' : TT} (h : PT X e t) (i : ∀ σ H Q, Sized H → t' σ H Q → t σ H (fun v H' => Sized H' → Q v H')) : PT X e t' := ⟨fun pins s σ H Q I hw =>
  thn (h.run pins s σ H _ I (i σ H Q (sized_of I.hok) hw)) fun u s' ⟨H', I', q⟩ => ⟨H', I', q (sized_of I'.hok)⟩⟩
theorem pw_imp {t t' : TT} (h : PW X e t) (i : ∀ σ H Q, Sized H → t' σ H Q → t σ H (fun v H' => Sized H' → Q v H')) : PW X e t' := ⟨fun wh pins s σ H Q I hw =>
  thn (h.run wh pins s σ H _ I (i σ H Q (sized_of I.hok) hw)) fun u s' ⟨H', I', q⟩ => ⟨H', I', q (sized_of I'.hok)⟩⟩
theorem pa_imp {t t' : TA} (h : PA X es t) (i : ∀ σ H Q, Sized H → t' σ H Q → t σ H (fun v H' => Sized H' → Q v H')) : PA X es t' := ⟨fun pos pins s σ H Q I hw =>
  thn (h.run pos pins s σ H _ I (i σ H Q (sized_of I.hok) hw)) fun u s' ⟨vs, H', I', r, q⟩ => ⟨vs, H', I', r, q (sized_of I'.hok)⟩⟩
end

/-! ### denotations -/
def dC (v : PV) : Den := fun e => some (v, e)
def dVar (i : Nat) : Den := fun e => match e[i]? with
  | some (.val v) => some (v, e)
  | some (.own v) => some (v, e.set i (.val v))
  | _ => none
def dUn (f : PV → Option PV) (a : Den) : Den := fun e => (a e).bind fun p => (f p.1).map fun z => (z, p.2)
def dBin (f : PV → PV → Option PV) (a b : Den) : Den := fun e => (a e).bind fun p => (b p.2).bind fun q => (f p.1 q.1).map fun z => (z, q.2)
def dArgs : List Den → DenA
  | [] => fun e => some ([], e)
  | a :: r => fun e => (a e).bind fun p => (dArgs r p.2).map fun q => (p.1 :: q.1, q.2)
/-- a slot that is only read -/
def slotv (e : PEn) (i : Nat) : Option PV := match e[i]? with
  | some (.val v) => some v
  | some (.own v) => some v
  | _ => none
/-- an argument: evaluated, or a slot that is only read -/
inductive Arg where
  | d (a : Den) | b (i : Nat)
def bArgs : List Arg → DenA
  | [] => fun e => some ([], e)
  | .d a :: r => fun e => (a e).bind fun p => (bArgs r p.2).map fun q => (p.1 :: q.1, q.2)
  | .b i :: r => fun e => (slotv e i).bind fun _ => (bArgs r e).bind fun q => (slotv q.2 i).map fun v => (v :: q.1, q.2)
def dApp (f : List PV → Option PV) (as : List Arg) : Den := fun e => (bArgs as e).bind fun p => (f p.1).map fun z => (z, p.2)
/-- the right one is only read -/
def dBinR (f : PV → PV → Option PV) (a : Den) (i : Nat) : Den := fun e => (a e).bind fun p => (slotv p.2 i).bind fun y => (f p.1 y).map fun z => (z, p.2)
/-- the left one is only read -/
def dBinL (f : PV → PV → Option PV) (i : Nat) (b : Den) : Den := fun e => (slotv e i).bind fun _ => (b e).bind fun q => (slotv q.2 i).bind fun x => (f x q.1).map fun z => (z, q.2)
def dIf (t : DenT) (a b : Den) : Den := fun e => (t e).bind fun p => if p.1 then a p.2 else b p.2
def dTest (f : PV → Option Bool) (a : Den) : DenT := fun e => (a e).bind fun p => (f p.1).map fun z => (z, p.2)
def dTest2 (f : PV → PV → Option Bool) (a b : Den) : DenT := fun e => (a e).bind fun p => (b p.2).bind fun q => (f p.1 q.1).map fun z => (z, q.2)
def dNot (t : DenT) : DenT := fun e => (t e).map fun p => (!p.1, p.2)
def dAnd (t u : DenT) : DenT := fun e => (t e).bind fun p => if p.1 then u p.2 else some (false, p.2)
def dOr (t u : DenT) : DenT := fun e => (t e).bind fun p => if p.1 then some (true, p.2) else u p.2
/-- a test as a value -/
def dBl (t : DenT) : Den := fun e => (t e).map fun p => (.bl p.1, p.2)

/-! ### values by rules -/
/-- a built-in's word over values: what it makes is new -/
def rB (K : PySem.W.Frag) (f : PV → PV → Option PV) : R2 := fun x y H Q => ∃ (F : Addr → Prop) (p q r : PV), (∀ a, F a → ∃ o, H a = some o) ∧ Sized H ∧ BRep K F H x p ∧ BRep K F H y q ∧ f p q = some r ∧ ∀ (z : V) (F' : Addr → Prop) (H' : Hp), Nw F H F' H' → Rep K F' H' z r → Q z H'
def rU1 (K : PySem.W.Frag) (f : PV → Option PV) : V → Hp → VK → Prop := fun x H Q => ∃ (F : Addr → Prop) (p r : PV), (∀ a, F a → ∃ o, H a = some o) ∧ Sized H ∧ BRep K F H x p ∧ f p = some r ∧ ∀ (z : V) (F' : Addr → Prop) (H' : Hp), Nw F H F' H' → Rep K F' H' z r → Q z H'
def rL (K : PySem.W.Frag) (f : List PV → Option PV) : List V → Hp → VK → Prop := fun xs H Q => ∃ (F : Addr → Prop) (ps : List PV) (r : PV), (∀ a, F a → ∃ o, H a = some o) ∧ Sized H ∧ BRepL K F H xs ps ∧ f ps = some r ∧ ∀ (z : V) (F' : Addr → Prop) (H' : Hp), Nw F H F' H' → Rep K F' H' z r → Q z H'

section
variable {X : Cx} {a b e : Expr} {es : List Expr} {da db : Den} {ds : List Den} {pos : Pos}

theorem ve_c {v : V} {p : PV} (h : PE X e (tC v)) (r : ∀ F H, Rep X.K F H v p) : VE X e (dC p) :=
  pe_imp h fun σ H Q sz ⟨F, env, r', env', R, hd, q⟩ => by
    cases hd
    exact fun _ => q v F H R .refl (r F H)

theorem set_len {α : Type} {l : List α} {i : Nat} {x y : α} (h : l[i]? = some x) : (l.set i y)[i]? = some y := by
  have : i < l.length := (List.getElem?_eq_some_iff.mp h).1
  simp [this]

/-- an own slot is frozen -/
theorem freeze {K : PySem.W.Frag} {F : Addr → Prop} {H : Hp} {env : PEn} {σ : L2.St} {i : Nat} {v : PV} {a : Addr} (R : Rel K F H env σ) (e : env[i]? = some (SlP.own v)) (s : σ[i]? = some (some (V.ref a))) :
    Rel K (fun b => F b ∨ b = a) H (env.set i (.val v)) σ ∧ Mv F H env σ (fun b => F b ∨ b = a) H (env.set i (.val v)) σ ∧ Rep K (fun b => F b ∨ b = a) H (.ref a) v := by
  obtain ⟨a', s', nf, o⟩ := R.own i v e
  rw [s] at s'; cases s'
  have ex : Ex F H (fun b => F b ∨ b = a) H := ⟨fun _ h => .inl h, fun _ _ _ h => h, fun _ _ h => h, fun _ _ _ h => h⟩
  have rp : Rep K (fun b => F b ∨ b = a) H (.ref a) v := o.rep ex (.inr rfl)
  refine ⟨⟨by simpa using R.len, fun j w ej => ?_, fun j w ej => ?_, fun j k w w' b ej ek sj sk => ?_, fun b f => ?_, R.sz⟩, ⟨fun _ h => .inl h, fun _ _ h _ => h, fun b f => ?_, fun b o' => ?_, fun _ o h => ⟨o, h⟩⟩, rp⟩
  · by_cases hj : i = j
    · subst hj
      rw [set_len e] at ej
      cases ej
      exact ⟨_, s, rp⟩
    · rw [List.getElem?_set_ne hj] at ej
      obtain ⟨x, sx, r⟩ := R.val j w ej
      exact ⟨x, sx, r.ex ex⟩
  · by_cases hj : i = j
    · subst hj
      rw [set_len e] at ej
      cases ej
    · rw [List.getElem?_set_ne hj] at ej
      obtain ⟨b, sb, nb, ob⟩ := R.own j w ej
      refine ⟨b, sb, fun f => ?_, ob.ex ex rfl⟩
      rcases f with f | rfl
      · exact nb f
      · exact hj (R.apart i j _ _ _ e ej s sb)
  · by_cases hj : i = j
    · subst hj; rw [set_len e] at ej; cases ej
    · by_cases hk : i = k
      · subst hk; rw [set_len e] at ek; cases ek
      · rw [List.getElem?_set_ne hj] at ej
        rw [List.getElem?_set_ne hk] at ek
        exact R.apart j k w w' b ej ek sj sk
  · rcases f with f | rfl
    · exact R.fz b f
    · obtain ⟨u, hu, _⟩ := o.some; exact ⟨u, hu⟩
  · rcases f with f | rfl
    · exact .inl f
    · exact .inr (.inl ⟨i, v, e, s⟩)
  · obtain ⟨j, w, ej, sj⟩ := o'
    by_cases hj : i = j
    · subst hj; rw [set_len e] at ej; cases ej
    · rw [List.getElem?_set_ne hj] at ej
      exact .inl ⟨j, w, ej, sj⟩

theorem ve_var {i : Nat} (h : PE X e (tVar i)) : VE X e (dVar i) :=
  pe_imp h fun σ H Q sz ⟨F, env, r, env', R, hd, q⟩ => by
    unfold dVar at hd
    split at hd
    · rename_i v ev
      cases hd
      obtain ⟨x, sx, rx⟩ := R.val i _ ev
      exact ⟨x, sx, fun _ => q x F H R .refl rx⟩
    · rename_i v ev
      cases hd
      obtain ⟨a, sa, _, _⟩ := R.own i _ ev
      obtain ⟨R', M', rp⟩ := freeze R ev sa
      exact ⟨.ref a, sa, fun _ => q _ _ H R' M' rp⟩
    · cases hd

theorem ve_bin {op : Operator} {f : PV → PV → Option PV} (ho : OpR X (binaryOp op) (rB X.K f)) (ha : VE X a da) (hb : VE X b db) : VE X (.BinOp a op b pos) (dBin f da db) :=
  pe_imp (pe_op ho ha hb) fun σ H Q sz ⟨F, env, r, env', R, hd, q⟩ => by
    unfold dBin at hd
    obtain ⟨⟨p, e1⟩, h1, hd⟩ := Option.bind_eq_some_iff.mp hd
    obtain ⟨⟨q', e2⟩, h2, hd⟩ := Option.bind_eq_some_iff.mp hd
    obtain ⟨z, h3, hz⟩ := Option.map_eq_some_iff.mp hd
    cases hz
    refine ⟨F, env, p, e1, R, h1, fun x F1 H1 R1 M1 r1 => ⟨F1, e1, q', e2, R1, h2, fun y F2 H2 R2 M2 r2 => ⟨F2, p, q', r, R2.fz, R2.sz, .rep (r1.ex (M2.ex R1)), .rep r2, h3, fun z F3 H3 N r3 s3 => ?_⟩⟩⟩
    exact q z F3 H3 (N.rel R2 s3) ((M1.trans M2).trans N.mv) r3

theorem ve_cmp {op : CmpOp} {f : PV → PV → Option PV} (ho : OpR X (compareOp op) (rB X.K f)) (hm : behindInMarks op b = false) (ha : VE X a da) (hb : VE X b db) : VE X (.Compare a [op] [b] pos) (dBin f da db) :=
  pe_imp (pe_cmpR ho ha hb hm) fun σ H Q sz ⟨F, env, r, env', R, hd, q⟩ => by
    unfold dBin at hd
    obtain ⟨⟨p, e1⟩, h1, hd⟩ := Option.bind_eq_some_iff.mp hd
    obtain ⟨⟨q', e2⟩, h2, hd⟩ := Option.bind_eq_some_iff.mp hd
    obtain ⟨z, h3, hz⟩ := Option.map_eq_some_iff.mp hd
    cases hz
    refine ⟨F, env, p, e1, R, h1, fun x F1 H1 R1 M1 r1 => ⟨F1, e1, q', e2, R1, h2, fun y F2 H2 R2 M2 r2 => ⟨F2, p, q', r, R2.fz, R2.sz, .rep (r1.ex (M2.ex R1)), .rep r2, h3, fun z F3 H3 N r3 s3 => ?_⟩⟩⟩
    exact q z F3 H3 (N.rel R2 s3) ((M1.trans M2).trans N.mv) r3

theorem ve_un {op : UnaryOp} {f : PV → Option PV} (ho : UnR X (unaryOp op) (rU1 X.K f)) (ha : VE X a da) : VE X (.UnaryOp op a pos) (dUn f da) :=
  pe_imp (pe_un ho ha) fun σ H Q sz ⟨F, env, r, env', R, hd, q⟩ => by
    unfold dUn at hd
    obtain ⟨⟨p, e1⟩, h1, hd⟩ := Option.bind_eq_some_iff.mp hd
    obtain ⟨z, h3, hz⟩ := Option.map_eq_some_iff.mp hd
    cases hz
    refine ⟨F, env, p, e1, R, h1, fun x F1 H1 R1 M1 r1 => ⟨F1, p, r, R1.fz, R1.sz, .rep r1, h3, fun z F3 H3 N r3 s3 => ?_⟩⟩
    exact q z F3 H3 (N.rel R1 s3) (M1.trans N.mv) r3

/-! arguments -/
theorem va_nil : VA X [] (dArgs []) := pa_imp pa_nil fun σ H Q sz ⟨F, env, r, env', R, hd, q⟩ => by
  cases hd
  exact fun _ => q [] F H R .refl .nil
def notStar : Expr → Bool
  | .Starred _ _ => false
  | _ => true
theorem starEach_cons {env : Env} (h : notStar e = true) : starEach (e :: es) env = (false, eval e env) :: starEach es env := by
  cases e <;> first | rfl | (cases h)
theorem star_plain {env : Env} : ∀ {es : List Expr}, es.all notStar = true → ∀ pos, (backTo pos (starEach es env)).any (·.1) = false
  | [], _, _ => by rfl
  | e :: es, h, pos => by
    simp only [List.all_cons, Bool.and_eq_true] at h
    have ih := star_plain (env := env) h.2 pos
    rw [starEach_cons h.1]
    show (backTo pos _).any _ = false
    simp only [backTo, List.map_cons, List.any_cons, Bool.false_or] at ih ⊢
    exact ih
theorem va_cons (hn : notStar e = true) (ha : VE X e da) (hr : VA X es (dArgs ds)) : VA X (e :: es) (dArgs (da :: ds)) :=
  pa_imp (pa_cons ha hr (starEach_cons hn)) fun σ H Q sz ⟨F, env, r, env', R, hd, q⟩ => by
    unfold dArgs at hd
    obtain ⟨⟨p, e1⟩, h1, hd⟩ := Option.bind_eq_some_iff.mp hd
    obtain ⟨⟨ps, e2⟩, h2, hz⟩ := Option.map_eq_some_iff.mp hd
    cases hz
    refine ⟨F, env, p, e1, R, h1, fun x F1 H1 R1 M1 r1 => ⟨F1, e1, ps, e2, R1, h2, fun xs F2 H2 R2 M2 r2 => ?_⟩⟩
    exact fun _ => q (x :: xs) F2 H2 R2 (M1.trans M2) (.cons (r1.ex (M2.ex R1)) r2)

theorem dArgs_len : ∀ {ds : List Den} {env env' : PEn} {r : List PV}, dArgs ds env = some (r, env') → r.length = ds.length
  | [], _, _, _, h => by cases h; rfl
  | d :: ds, _, _, _, h => by
    unfold dArgs at h
    obtain ⟨⟨p, e1⟩, h1, hd⟩ := Option.bind_eq_some_iff.mp h
    obtain ⟨⟨ps, e2⟩, h2, hz⟩ := Option.map_eq_some_iff.mp hd
    cases hz
    simp [dArgs_len h2]

def dTup (ds : List Den) : Den := fun e => (dArgs ds e).map fun p => (.tup p.1, p.2)
def dLst (ds : List Den) : Den := fun e => (dArgs ds e).map fun p => (.lst p.1, p.2)
theorem ve_tup {k : Nat} (hl : ds.length ≤ 1000) (h : VA X es (dArgs ds)) : VE X (.Tuple es k pos) (dTup ds) :=
  pe_imp (pe_tup h) fun σ H Q sz ⟨F, env, r, env', R, hd, q⟩ => by
    unfold dTup at hd
    obtain ⟨⟨ps, e1⟩, h1, hz⟩ := Option.map_eq_some_iff.mp hd
    cases hz
    refine ⟨F, env, ps, _, R, h1, fun xs F1 H1 R1 M1 r1 => ⟨?_, fun p np sz' => ?_⟩⟩
    · rw [r1.length, dArgs_len h1]; exact Nat.le_of_lt (small1000 hl)
    · have N : Nw F1 H1 F1 (upd H1 p (.tup xs)) := .upd np R1.fz
      exact q _ F1 _ (N.rel R1 sz') (M1.trans N.mv) (.tup upd_same (r1.ex N.ex))
theorem ve_lst (hl : ds.length ≤ 1000) (h : VA X es (dArgs ds)) : VE X (.List es pos) (dLst ds) :=
  pe_imp (pe_lst h) fun σ H Q sz ⟨F, env, r, env', R, hd, q⟩ => by
    unfold dLst at hd
    obtain ⟨⟨ps, e1⟩, h1, hz⟩ := Option.map_eq_some_iff.mp hd
    cases hz
    refine ⟨F, env, ps, _, R, h1, fun xs F1 H1 R1 M1 r1 => ⟨?_, fun p np sz' => ?_⟩⟩
    · rw [r1.length, dArgs_len h1]; exact Nat.le_of_lt (small1000 hl)
    · have N : Nw F1 H1 (fun b => F1 b ∨ b = p) (upd H1 p (.lst xs)) := .fix np R1.fz
      exact q _ _ _ (N.rel R1 sz') (M1.trans N.mv) (.lst (.inl ⟨.inr rfl, SqL.of upd_same⟩) (r1.ex N.ex))

theorem slotv_rep {K : PySem.W.Frag} {F : Addr → Prop} {H : Hp} {env : PEn} {σ : L2.St} {i : Nat} {v : PV} (R : Rel K F H env σ) (h : slotv env i = some v) : ∃ x, σ[i]? = some (some x) ∧ BRep K F H x v := by
  unfold slotv at h
  split at h
  · rename_i w e
    cases h
    obtain ⟨x, sx, r⟩ := R.val i _ e
    exact ⟨x, sx, .rep r⟩
  · rename_i w e
    cases h
    obtain ⟨a, sa, _, o⟩ := R.own i _ e
    exact ⟨_, sa, .own o⟩
  · cases h
theorem vab_nil : VAB X [] (bArgs []) := pa_imp pa_nil fun σ H Q sz ⟨F, env, r, env', R, hd, q⟩ => by
  cases hd
  exact fun _ => q [] F H R .refl .nil
theorem vab_d {as : List Arg} (hn : notStar e = true) (ha : VE X e da) (hr : VAB X es (bArgs as)) : VAB X (e :: es) (bArgs (.d da :: as)) :=
  pa_imp (pa_cons ha hr (starEach_cons hn)) fun σ H Q sz ⟨F, env, r, env', R, hd, q⟩ => by
    unfold bArgs at hd
    obtain ⟨⟨p, e1⟩, h1, hd⟩ := Option.bind_eq_some_iff.mp hd
    obtain ⟨⟨ps, e2⟩, h2, hz⟩ := Option.map_eq_some_iff.mp hd
    cases hz
    refine ⟨F, env, p, e1, R, h1, fun x F1 H1 R1 M1 r1 => ⟨F1, e1, ps, e2, R1, h2, fun xs F2 H2 R2 M2 r2 => ?_⟩⟩
    exact fun _ => q (x :: xs) F2 H2 R2 (M1.trans M2) (.cons (.rep (r1.ex (M2.ex R1))) r2)
theorem vab_b {as : List Arg} {i : Nat} (hn : notStar e = true) (ha : PE X e (tVar i)) (hr : VAB X es (bArgs as)) : VAB X (e :: es) (bArgs (.b i :: as)) :=
  pa_imp (pa_cons ha hr (starEach_cons hn)) fun σ H Q sz ⟨F, env, r, env', R, hd, q⟩ => by
    unfold bArgs at hd
    obtain ⟨_, h0, hd⟩ := Option.bind_eq_some_iff.mp hd
    obtain ⟨⟨ps, e1⟩, h1, hd⟩ := Option.bind_eq_some_iff.mp hd
    obtain ⟨v, h2, hz⟩ := Option.map_eq_some_iff.mp hd
    cases hz
    obtain ⟨x, sx, _⟩ := slotv_rep R h0
    refine ⟨x, sx, F, env, ps, e1, R, h1, fun xs F2 H2 R2 M2 r2 _ => ?_⟩
    obtain ⟨x', sx', r'⟩ := slotv_rep R2 h2
    rw [sx] at sx'; cases sx'
    exact q (x :: xs) F2 H2 R2 M2 (.cons r' r2)

/-- a built-in by its name -/
theorem ve_app {x : Str} {T : String} {f : List PV → Option PV} {as : List Arg} {p : Pos} (hc : CallR X (.builtin T) (rL X.K f)) (hg : Gl X x) (hm : X.mg x = none) (hv : bootBuiltins x = some (.builtin T)) (hn : x ≠ "__name__") (hdb : (x == ("__debug__" : Str)) = false)
    (hs : (e :: es).all notStar = true) (h : VAB X (e :: es) (bArgs as)) : VE X (.Call (.Name x p) (e :: es) [] pos) (dApp f as) :=
  pe_imp (pe_callB hc hg hm hv h hn hdb (starEach_cons (List.all_eq_true.mp hs _ List.mem_cons_self)) (star_plain (by simp only [List.all_cons, Bool.and_eq_true] at hs; exact hs.2) pos)) fun σ H Q sz ⟨F, env, r, env', R, hd, q⟩ => by
    unfold dApp at hd
    obtain ⟨⟨ps, e1⟩, h1, hd⟩ := Option.bind_eq_some_iff.mp hd
    obtain ⟨z, h3, hz⟩ := Option.map_eq_some_iff.mp hd
    cases hz
    refine ⟨F, env, ps, _, R, h1, fun xs F1 H1 R1 M1 r1 => ⟨F1, ps, r, R1.fz, R1.sz, r1, h3, fun z F3 H3 N r3 s3 => ?_⟩⟩
    exact q z F3 H3 (N.rel R1 s3) (M1.trans N.mv) r3
theorem ve_appTy {x : Str} {T : String} {f : List PV → Option PV} {as : List Arg} {p : Pos} (hc : CallR X (.type T) (rL X.K f)) (hg : Gl X x) (hm : X.mg x = none) (hv : bootBuiltins x = some (.type T)) (hn : x ≠ "__name__") (hdb : (x == ("__debug__" : Str)) = false)
    (hs : (e :: es).all notStar = true) (h : VAB X (e :: es) (bArgs as)) : VE X (.Call (.Name x p) (e :: es) [] pos) (dApp f as) :=
  pe_imp (pe_callTy hc hg hm hv h hn hdb (starEach_cons (List.all_eq_true.mp hs _ List.mem_cons_self)) (star_plain (by simp only [List.all_cons, Bool.and_eq_true] at hs; exact hs.2) pos)) fun σ H Q sz ⟨F, env, r, env', R, hd, q⟩ => by
    unfold dApp at hd
    obtain ⟨⟨ps, e1⟩, h1, hd⟩ := Option.bind_eq_some_iff.mp hd
    obtain ⟨z, h3, hz⟩ := Option.map_eq_some_iff.mp hd
    cases hz
    refine ⟨F, env, ps, _, R, h1, fun xs F1 H1 R1 M1 r1 => ⟨F1, ps, r, R1.fz, R1.sz, r1, h3, fun z F3 H3 N r3 s3 => ?_⟩⟩
    exact q z F3 H3 (N.rel R1 s3) (M1.trans N.mv) r3
theorem ve_cmpR {op : CmpOp} {f : PV → PV → Option PV} {i : Nat} (ho : OpR X (compareOp op) (rB X.K f)) (hm : behindInMarks op b = false) (ha : VE X a da) (hb : PE X b (tVar i)) : VE X (.Compare a [op] [b] pos) (dBinR f da i) :=
  pe_imp (pe_cmpR ho ha hb hm) fun σ H Q sz ⟨F, env, r, env', R, hd, q⟩ => by
    unfold dBinR at hd
    obtain ⟨⟨p, e1⟩, h1, hd⟩ := Option.bind_eq_some_iff.mp hd
    obtain ⟨y, h2, hd⟩ := Option.bind_eq_some_iff.mp hd
    obtain ⟨z, h3, hz⟩ := Option.map_eq_some_iff.mp hd
    cases hz
    refine ⟨F, env, p, _, R, h1, fun x F1 H1 R1 M1 r1 => ?_⟩
    obtain ⟨x', sx', r'⟩ := slotv_rep R1 h2
    exact ⟨x', sx', F1, p, y, r, R1.fz, R1.sz, .rep r1, r', h3, fun z F3 H3 N r3 s3 => q z F3 H3 (N.rel R1 s3) (M1.trans N.mv) r3⟩

/-! ### tests -/
variable {t u : DenT} {c : Expr} {rest : List Expr}
theorem vt_bl (he : ∀ whole, isTrue e X.env whole = (do let v ← whole; standAt e.pos; holding [v] (truthy v))) (h : VE X e da) : VT X e (dTest (fun v => match v with | .bl b => some b | _ => none) da) :=
  pt_imp (pt_val h he) fun σ H Q sz ⟨F, env, r, env', R, hd, q⟩ => by
    unfold dTest at hd
    obtain ⟨⟨p, e1⟩, h1, hd⟩ := Option.bind_eq_some_iff.mp hd
    obtain ⟨z, h3, hz⟩ := Option.map_eq_some_iff.mp hd
    cases hz
    refine ⟨F, env, p, _, R, h1, fun x F1 H1 R1 M1 r1 => ?_⟩
    dsimp only at h3
    split at h3
    · cases h3
      cases r1
      exact ⟨_, rfl, fun _ => q F1 H1 R1 M1⟩
    · cases h3
theorem vt_not (h : VT X e t) : VT X (.UnaryOp .Not e pos) (dNot t) :=
  pt_imp (pt_not h) fun σ H Q sz ⟨F, env, r, env', R, hd, q⟩ => by
    unfold dNot at hd
    obtain ⟨⟨p, e1⟩, h1, hz⟩ := Option.map_eq_some_iff.mp hd
    cases hz
    exact ⟨F, env, p, _, R, h1, fun F1 H1 R1 M1 _ => q F1 H1 R1 M1⟩
theorem vw_and1 (h : VT X e t) : VW X (.BoolOp .And [e] pos) t := pw_and1 h
theorem vw_or1 (h : VT X e t) : VW X (.BoolOp .Or [e] pos) t := pw_or1 h
theorem vw_and (h : VT X e t) (h2 : VW X (.BoolOp .And (c :: rest) pos) u) : VW X (.BoolOp .And (e :: c :: rest) pos) (dAnd t u) :=
  pw_imp (pw_and h h2) fun σ H Q sz ⟨F, env, r, env', R, hd, q⟩ => by
    unfold dAnd at hd
    obtain ⟨⟨p, e1⟩, h1, hd⟩ := Option.bind_eq_some_iff.mp hd
    refine ⟨F, env, p, e1, R, h1, fun F1 H1 R1 M1 => ?_⟩
    cases p with
    | true =>
      rw [if_pos rfl]
      exact ⟨F1, e1, r, env', R1, by simpa using hd, fun F2 H2 R2 M2 _ => q F2 H2 R2 (M1.trans M2)⟩
    | false =>
      rw [if_neg Bool.false_ne_true]
      simp at hd
      obtain ⟨rfl, rfl⟩ := hd
      exact fun _ => q F1 H1 R1 M1
theorem vw_or (h : VT X e t) (h2 : VW X (.BoolOp .Or (c :: rest) pos) u) : VW X (.BoolOp .Or (e :: c :: rest) pos) (dOr t u) :=
  pw_imp (pw_or h h2) fun σ H Q sz ⟨F, env, r, env', R, hd, q⟩ => by
    unfold dOr at hd
    obtain ⟨⟨p, e1⟩, h1, hd⟩ := Option.bind_eq_some_iff.mp hd
    refine ⟨F, env, p, e1, R, h1, fun F1 H1 R1 M1 => ?_⟩
    cases p with
    | false =>
      rw [if_neg Bool.false_ne_true]
      exact ⟨F1, e1, r, env', R1, by simpa using hd, fun F2 H2 R2 M2 _ => q F2 H2 R2 (M1.trans M2)⟩
    | true =>
      rw [if_pos rfl]
      simp at hd
      obtain ⟨rfl, rfl⟩ := hd
      exact fun _ => q F1 H1 R1 M1
theorem ve_if (ht : VT X c t) (ha : VE X a da) (hb : VE X b db) : VE X (.IfExp c a b pos) (dIf t da db) :=
  pe_imp (pe_ifExp ht ha hb) fun σ H Q sz ⟨F, env, r, env', R, hd, q⟩ => by
    unfold dIf at hd
    obtain ⟨⟨p, e1⟩, h1, hd⟩ := Option.bind_eq_some_iff.mp hd
    refine ⟨F, env, p, e1, R, h1, fun F1 H1 R1 M1 => ?_⟩
    cases p with
    | false =>
      rw [if_neg Bool.false_ne_true]
      exact ⟨F1, e1, r, env', R1, by simpa using hd, fun x F2 H2 R2 M2 r2 _ => q x F2 H2 R2 (M1.trans M2) r2⟩
    | true =>
      rw [if_pos rfl]
      exact ⟨F1, e1, r, env', R1, by simpa using hd, fun x F2 H2 R2 M2 r2 _ => q x F2 H2 R2 (M1.trans M2) r2⟩
end
end PP

/-! PP, part c: operators and built-ins by values. -/
namespace PP
open PySem PySem.Spec PyProof.Rows L2

/-! ### data of a small depth -/
def okD : Nat → PV → Bool
  | _, .non => true
  | _, .bl _ => true
  | _, .int _ => true
  | _, .str x => PyData.strOk x
  | n + 1, .lst xs => xs.all (okD n)
  | n + 1, .tup xs => xs.all (okD n)
  | n + 1, .fup xs => xs.all (okD n)
  | _, _ => false
theorem okD_all {n : Nat} (ih : ∀ x, okD n x = true → (toD x).canLay0 = true ∧ (toD x).depth ≤ n ∧ nodic x = true) : ∀ {xs : List PV}, xs.all (okD n) = true → PyData.canLayAll0 (toDs xs) = true ∧ PyData.depthAll (toDs xs) ≤ n ∧ nodicL xs = true
  | [], _ => ⟨rfl, Nat.zero_le _, rfl⟩
  | x :: xs, h => by
    simp only [List.all_cons, Bool.and_eq_true] at h
    obtain ⟨a, b, c⟩ := ih x h.1
    obtain ⟨a', b', c'⟩ := okD_all ih h.2
    exact ⟨by simp [toDs, PyData.canLayAll0, a, a'], by simp only [toDs, PyData.depthAll]; exact Nat.max_le.mpr ⟨b, b'⟩, by simp [nodicL, c, c']⟩
theorem okD_sound : ∀ (n : Nat) (x : PV), okD n x = true → (toD x).canLay0 = true ∧ (toD x).depth ≤ n ∧ nodic x = true
  | n, .non, _ => ⟨by simp [toD, PyData.canLay0], by simp [toD, PyData.depth], by simp [nodic]⟩
  | n, .bl _, _ => ⟨by simp [toD, PyData.canLay0], by simp [toD, PyData.depth], by simp [nodic]⟩
  | n, .int _, _ => ⟨by simp [toD, PyData.canLay0], by simp [toD, PyData.depth], by simp [nodic]⟩
  | n, .str x, h => ⟨by simpa [toD, PyData.canLay0, okD] using h, by simp [toD, PyData.depth], by simp [nodic]⟩
  | 0, .lst _, h => by simp [okD] at h
  | 0, .tup _, h => by simp [okD] at h
  | 0, .fup _, h => by simp [okD] at h
  | n + 1, .lst xs, h => by
    obtain ⟨a, b, c⟩ := okD_all (okD_sound n) (show xs.all (okD n) = true by simpa [okD] using h)
    exact ⟨by simpa [toD, PyData.canLay0] using a, by simp only [toD, PyData.depth]; omega, by simpa [nodic] using c⟩
  | n + 1, .tup xs, h => by
    obtain ⟨a, b, c⟩ := okD_all (okD_sound n) (show xs.all (okD n) = true by simpa [okD] using h)
    exact ⟨by simpa [toD, PyData.canLay0] using a, by simp only [toD, PyData.depth]; omega, by simpa [nodic] using c⟩
  | n + 1, .fup xs, h => by
    obtain ⟨a, b, c⟩ := okD_all (okD_sound n) (show xs.all (okD n) = true by simpa [okD] using h)
    exact ⟨by simpa [toD, PyData.canLay0] using a, by simp only [toD, PyData.depth]; omega, by simpa [nodic] using c⟩
  | n, .dk _, h => by cases n <;> simp [okD] at h
  | n, .dt _, h => by cases n <;> simp [okD] at h
theorem okD_shaped {x : PV} (h : okD 60 x = true) : SeqAt.shaped (toD x) = true ∧ nodic x = true := by
  obtain ⟨a, b, c⟩ := okD_sound 60 x h
  exact ⟨by simp only [SeqAt.shaped, a, Bool.true_and, decide_eq_true_eq]; omega, c⟩
/-- == of values -/
def eqv (p q : PV) : Bool := PyData.eqv (toD p) (toD q)

/-! ### the operators over values -/
/-- the items of a tuple of either sort -/
def tupOf : PV → Option (List PV)
  | .tup xs => some xs
  | .fup xs => some xs
  | _ => none
def addF (p q : PV) : Option PV := match p, q with
  | .int i, .int j => some (.int (i + j))
  | .lst xs, .lst ys => if xs.length + ys.length ≤ sizeLine then some (.lst (xs ++ ys)) else none
  | .tup xs, .tup ys => if xs.length + ys.length ≤ sizeLine then some (.tup (xs ++ ys)) else none
  | _, _ => none
def intF (C : Int → Int → Bool) (g : Int → Int → Int) : PV → PV → Option PV
  | .int i, .int j => if C i j then some (.int (g i j)) else none
  | _, _ => none
abbrev subF := intF (fun _ _ => true) (fun i j => i - j)
abbrev mulF := intF (fun i j => decide (-(2 ^ 64) < i ∧ i < 2 ^ 64) || decide (-(2 ^ 64) < j ∧ j < 2 ^ 64)) (fun i j => i * j)
abbrev modF := intF (fun _ j => decide (0 < j)) (fun i j => i % j)
abbrev divF := intF (fun _ j => decide (0 < j ∧ j < 1073741824)) (fun i j => i / j)
abbrev powF := intF (fun i j => decide (0 ≤ j ∧ j ≤ 1000000 ∧ i.natAbs < 2 ^ 64)) (fun i j => i ^ j.toNat)
def cmpF (g : Int → Int → Bool) : PV → PV → Option PV
  | .int i, .int j => some (.bl (g i j))
  | _, _ => none
abbrev leF := cmpF fun i j => decide (i ≤ j)
abbrev gtF := cmpF fun i j => decide (j < i)
abbrev geF := cmpF fun i j => decide (j ≤ i)
def toInts : List PV → Option (List Int)
  | [] => some []
  | .int i :: r => (toInts r).map (i :: ·)
  | _ :: _ => none
def ltF (p q : PV) : Option PV := match p, q with
  | .int i, .int j => some (.bl (decide (i < j)))
  | p, q => (tupOf p).bind fun xs => (tupOf q).bind fun ys => (toInts xs).bind fun is => (toInts ys).map fun js => .bl (HT.lexLt is js)
def eqF (p q : PV) : Option PV := if okD 60 p && okD 60 q then some (.bl (eqv p q)) else none
def neF (p q : PV) : Option PV := if okD 60 p && okD 60 q then some (.bl (!eqv p q)) else none
def isNone : PV → Bool
  | .non => true
  | _ => false
def isNF (p q : PV) : Option PV := if isNone q then some (.bl (isNone p)) else none
def notNF (p q : PV) : Option PV := if isNone q then some (.bl (!isNone p)) else none

/-! ### dicts over values -/
def toKey : PV → Option Key
  | .int i => some (.inl i)
  | .str s => some (.inr s)
  | _ => none
def toKeys : List PV → Option (List Key)
  | [] => some []
  | x :: r => (toKey x).bind fun k => (toKeys r).map (k :: ·)
def lookP {κ : Type} [DecidableEq κ] (kvs : List (κ × PV)) (k : κ) : Option PV := (kvs.find? fun kv => decide (kv.1 = k)).map (·.2)
/-- what the dict holds at the key; none: not a key that it can have -/
def dgetF (d k : PV) : Option (Option PV) := match d with
  | .dk kvs => (toKey k).map fun k => lookP kvs k
  | .dt kvs => match k with
    | .tup ks => (toKeys ks).map fun k => lookP kvs k
    | _ => none
  | _ => none
def seqOf : PV → Option (List PV)
  | .lst xs => some xs
  | .tup xs => some xs
  | .fup xs => some xs
  | _ => none
def inF (p q : PV) : Option PV := match seqOf q with
  | some ys => if okD 60 p && okD 60 q then some (.bl (ys.any fun z => eqv z p)) else none
  | none => (dgetF q p).map fun o => .bl o.isSome
def notInF (p q : PV) : Option PV := match seqOf q with
  | some ys => if okD 60 p && okD 60 q then some (.bl (!ys.any fun z => eqv z p)) else none
  | none => (dgetF q p).map fun o => .bl (!o.isSome)

theorem RepL.ints {K : PySem.W.Frag} {F : Addr → Prop} {H : Hp} : ∀ {xs : List PV} {is : List Int} {vs : List V}, RepL K F H vs xs → toInts xs = some is → vs = is.map V.int
  | [], _, _, .nil, h => by cases h; rfl
  | x :: xs, is, _, .cons r t, h => by
    cases x <;> simp only [toInts] at h <;> try cases h
    obtain ⟨js, hj, e⟩ := Option.map_eq_some_iff.mp h
    subst e
    rw [RepL.ints t hj]
    cases r
    rfl
theorem RepL.keys {K : PySem.W.Frag} {F : Addr → Prop} {H : Hp} : ∀ {xs : List PV} {ks : List Key} {vs : List V}, RepL K F H vs xs → toKeys xs = some ks → vs = ks.map kV
  | [], _, _, .nil, h => by cases h; rfl
  | x :: xs, ks, _, .cons r t, h => by
    simp only [toKeys] at h
    obtain ⟨k, hk, h⟩ := Option.bind_eq_some_iff.mp h
    obtain ⟨js, hj, e⟩ := Option.map_eq_some_iff.mp h
    subst e
    rw [RepL.keys t hj]
    cases r <;> simp only [toKey] at hk <;> cases hk <;> rfl

section
variable {K : PySem.W.Frag} {F : Addr → Prop} {H : Hp}
theorem RepK.get (k : Key) : ∀ {kvs : List (Key × V)} {xs : List (Key × PV)}, RepK K F H kvs xs → (∀ y, lookP xs k = some y → ∃ v, valV kvs k = some v ∧ Rep K F H v y) ∧ (lookP xs k = none → valV kvs k = none)
  | _, _, .nil => ⟨fun y h => by simp [lookP] at h, fun _ => rfl⟩
  | _, _, .cons (k := k') (v := v) (x := x) (xs := xs') r t => by
    have ih := RepK.get k t
    by_cases e : k' = k
    · subst e
      refine ⟨fun y h => ?_, fun h => ?_⟩
      · simp [lookP, List.find?_cons] at h
        subst h
        exact ⟨v, valV_pos rfl, r⟩
      · simp [lookP, List.find?_cons] at h
    · have e' : lookP ((k', x) :: xs') k = lookP xs' k := by simp [lookP, List.find?_cons, e]
      rw [e', valV_neg (p := (k', v)) e]
      exact ih
theorem RepT.get (k : List Key) : ∀ {kvs : List (List Key × V)} {xs : List (List Key × PV)}, RepT K F H kvs xs → (∀ y, lookP xs k = some y → ∃ v, valV kvs k = some v ∧ Rep K F H v y) ∧ (lookP xs k = none → valV kvs k = none)
  | _, _, .nil => ⟨fun y h => by simp [lookP] at h, fun _ => rfl⟩
  | _, _, .cons (k := k') (v := v) (x := x) (xs := xs') r t => by
    have ih := RepT.get k t
    by_cases e : k' = k
    · subst e
      refine ⟨fun y h => ?_, fun h => ?_⟩
      · simp [lookP, List.find?_cons] at h
        subst h
        exact ⟨v, valV_pos rfl, r⟩
      · simp [lookP, List.find?_cons] at h
    · have e' : lookP ((k', x) :: xs') k = lookP xs' k := by simp [lookP, List.find?_cons, e]
      rw [e', valV_neg (p := (k', v)) e]
      exact ih

/-- a dict that is read: a value or one's own -/
inductive DicAt (K : PySem.W.Frag) (F : Addr → Prop) (H : Hp) (a : Addr) : PV → Prop
  | dk {kvs : List (Key × V)} {xs : List (Key × PV)} : H a = some (.dK kvs) → RepK K F H kvs xs → DicAt K F H a (.dk xs)
  | dt {kvs : List (List Key × V)} {xs : List (List Key × PV)} : H a = some (.dT kvs) → RepT K F H kvs xs → DicAt K F H a (.dt xs)
/-- a look-up -/
theorem DicAt.dget {a : Addr} {d k : PV} {v : V} {o : Option PV} (D : DicAt K F H a d) (r : BRep K F H v k) (h : dgetF d k = some o) : ∃ w, DGet H a v w ∧ (∀ y, o = some y → ∃ u, w = some u ∧ Rep K F H u y) ∧ (o = none → w = none) := by
  cases D with
  | dk e rk =>
    simp only [dgetF] at h
    obtain ⟨kk, hk, e2⟩ := Option.map_eq_some_iff.mp h
    subst e2
    cases k <;> simp only [toKey] at hk <;> cases hk
    · cases r.int
      obtain ⟨h1, h2⟩ := rk.get (.inl _)
      exact ⟨_, .k (k := .inl _) e, h1, h2⟩
    · cases r.str
      obtain ⟨h1, h2⟩ := rk.get (.inr _)
      exact ⟨_, .k (k := .inr _) e, h1, h2⟩
  | dt e rt =>
    simp only [dgetF] at h
    split at h
    · rename_i ks
      obtain ⟨kk, hkk, e2⟩ := Option.map_eq_some_iff.mp h
      subst e2
      obtain ⟨_, _, rfl, hb, rl⟩ := r.tup
      have e1 := rl.keys hkk
      subst e1
      obtain ⟨h1, h2⟩ := rt.get kk
      exact ⟨_, .t (k := kk) e hb, h1, h2⟩
    · cases h
def isDic : PV → Bool
  | .dk _ => true
  | .dt _ => true
  | _ => false
theorem BRep.dic {v : V} {d : PV} (r : BRep K F H v d) (h : isDic d = true) : ∃ p, v = .ref p ∧ DicAt K F H p d := by
  cases r with
  | rep r =>
    cases r <;> simp [isDic] at h
    · rename_i f e r; exact ⟨_, rfl, .dk e r⟩
    · rename_i f e r; exact ⟨_, rfl, .dt e r⟩
  | own o =>
    cases o <;> simp [isDic] at h
    · rename_i e r; exact ⟨_, rfl, .dk e r⟩
    · rename_i e r; exact ⟨_, rfl, .dt e r⟩
theorem dgetF_dic {d k : PV} {o : Option PV} (h : dgetF d k = some o) : isDic d = true := by
  cases d <;> simp [dgetF, isDic] at h ⊢
/-- the items of a sequence -/
theorem BRep.seq {v : V} {p : PV} {xs : List PV} (r : BRep K F H v p) (h : seqOf p = some xs) : ∃ a vs, v = .ref a ∧ (SqL K H a vs ∨ SqT K H a vs) ∧ RepL K F H vs xs := by
  cases p <;> simp only [seqOf] at h <;> cases h
  · obtain ⟨a, vs, e, h, r⟩ := r.tup; exact ⟨a, vs, e, .inr (SqT.of h), r⟩
  · obtain ⟨a, its, vs, e, h, r⟩ := r.fup; exact ⟨a, vs, e, .inr (.inl (.inr ⟨_, h⟩)), r⟩
  · obtain ⟨a, vs, e, h, r⟩ := r.lst; exact ⟨a, vs, e, .inl h, r⟩
theorem BRep.tupOf {v : V} {p : PV} {xs : List PV} (r : BRep K F H v p) (h : tupOf p = some xs) : ∃ a vs, v = .ref a ∧ SqT K H a vs ∧ RepL K F H vs xs := by
  cases p <;> simp only [PP.tupOf] at h <;> cases h
  · obtain ⟨a, vs, e, h, r⟩ := r.tup; exact ⟨a, vs, e, SqT.of h, r⟩
  · obtain ⟨a, its, vs, e, h, r⟩ := r.fup; exact ⟨a, vs, e, .inl (.inr ⟨_, h⟩), r⟩
end

/-! ### they are the machine's -/
section
variable {X : Cx}
theorem opB_of {g : Value → Value → Sem Value} {f : PV → PV → Option PV}
    (h : ∀ (pins : List (Addr × Obj)) (s : Shared) (σ : L2.St) (H : Hp) (x y : V) (v u : Value) (Q : VK) (F : Addr → Prop) (p q r : PV), Inv X pins σ H s → RelV x v → RelV y u → (∀ a, F a → ∃ o, H a = some o) → Sized H → BRep X.K F H x p → BRep X.K F H y q → f p q = some r →
      (∀ (z : V) (F' : Addr → Prop) (H' : Hp), Nw F H F' H' → Rep X.K F' H' z r → Q z H') → wpAny (model X.prog X.w) X.A (g v u) (EP X pins σ Q) X.xe s) : OpR X g (rB X.K f) := by
  intro pins s σ H x y v u Q I rx ry ⟨F, p, q, r, fz, sz, r1, r2, e, k⟩
  exact h pins s σ H x y v u Q F p q r I rx ry fz sz r1 r2 e k
theorem op_intF {g : Value → Value → Sem Value} {C : Int → Int → Prop} {C' : Int → Int → Bool} {k : Int → Int → Int} (ho : OpR X g (rI C fun i j => .int (k i j))) (hC : ∀ i j, C' i j = true → C i j) : OpR X g (rB X.K (intF C' k)) := by
  refine opB_of fun pins s σ H x y v u Q F p q r I rx ry fz sz r1 r2 e kk => ?_
  unfold intF at e
  split at e
  · split at e
    · rename_i hc
      cases e
      cases r1.int; cases r2.int
      exact ho pins s σ H _ _ v u Q I rx ry ⟨_, _, rfl, rfl, hC _ _ hc, kk _ F H (.refl fz) (.int _)⟩
    · cases e
  · cases e
theorem op_subF : OpR X (binaryOp .Sub) (rB X.K subF) := op_intF (C := fun _ _ => True) (fun pins s σ H x y v u Q I rx ry ⟨i, j, a, b, _, q⟩ => op_sub pins s σ H x y v u Q I rx ry ⟨i, j, a, b, q⟩) fun _ _ _ => trivial
theorem op_mulF : OpR X (binaryOp .Mult) (rB X.K mulF) := op_intF op_mul fun i j h => by simpa [CMul] using h
theorem op_modF : OpR X (binaryOp .Mod) (rB X.K modF) := op_intF op_mod fun i j h => by simpa using h
theorem op_divF : OpR X (binaryOp .FloorDiv) (rB X.K divF) := op_intF op_fdiv fun i j h => by simpa [CDiv] using h
theorem op_powF : OpR X (binaryOp .Pow) (rB X.K powF) := op_intF op_pow fun i j h => by simpa [CPow] using h
theorem op_cmpF {g : Value → Value → Sem Value} {k : Int → Int → Bool} (ho : OpR X g (rI0 fun i j => .bl (k i j))) : OpR X g (rB X.K (cmpF k)) := by
  refine opB_of fun pins s σ H x y v u Q F p q r I rx ry fz sz r1 r2 e kk => ?_
  unfold cmpF at e
  split at e
  · cases e
    cases r1.int; cases r2.int
    exact ho pins s σ H _ _ v u Q I rx ry ⟨_, _, rfl, rfl, kk _ F H (.refl fz) (.bl _)⟩
  · cases e
theorem op_leF : OpR X (compareOp .LtE) (rB X.K leF) := op_cmpF op_le
theorem op_gtF : OpR X (compareOp .Gt) (rB X.K gtF) := op_cmpF op_gt
theorem op_geF : OpR X (compareOp .GtE) (rB X.K geF) := op_cmpF op_ge
theorem op_ltF (hu : X.A.units < cLine) : OpR X (compareOp .Lt) (rB X.K ltF) := by
  refine opB_of fun pins s σ H x y v u Q F p q r I rx ry fz sz r1 r2 e kk => ?_
  unfold ltF at e
  split at e
  · cases e
    cases r1.int; cases r2.int
    exact op_lt pins s σ H _ _ v u Q I rx ry ⟨_, _, rfl, rfl, kk _ F H (.refl fz) (.bl _)⟩
  · obtain ⟨xs, t1, e⟩ := Option.bind_eq_some_iff.mp e
    obtain ⟨ys, t2, e⟩ := Option.bind_eq_some_iff.mp e
    obtain ⟨is, h1, e⟩ := Option.bind_eq_some_iff.mp e
    obtain ⟨js, h2, e⟩ := Option.map_eq_some_iff.mp e
    subst e
    obtain ⟨_, _, rfl, ha, ra⟩ := r1.tupOf t1
    obtain ⟨_, _, rfl, hb, rb⟩ := r2.tupOf t2
    have e1 := ra.ints h1
    have e2 := rb.ints h2
    subst e1 e2
    exact op_ltT hu pins s σ H _ _ v u Q I rx ry ⟨_, _, is, js, rfl, rfl, ha, hb, kk _ F H (.refl fz) (.bl _)⟩
theorem op_eqF (hu : X.A.units + 64 < cLine) : OpR X (compareOp .Eq) (rB X.K eqF) := by
  refine opB_of fun pins s σ H x y v u Q F p q r I rx ry fz sz r1 r2 e kk => ?_
  unfold eqF at e
  split at e
  · rename_i h
    cases e
    rw [Bool.and_eq_true] at h
    obtain ⟨s1, n1⟩ := okD_shaped h.1
    obtain ⟨s2, n2⟩ := okD_shaped h.2
    exact op_eqD hu pins s σ H _ _ v u Q I rx ry ⟨_, _, r1.dp n1, r2.dp n2, s1, s2, kk _ F H (.refl fz) (.bl _)⟩
  · cases e
theorem op_neF (hu : X.A.units + 64 < cLine) : OpR X (compareOp .NotEq) (rB X.K neF) := by
  refine opB_of fun pins s σ H x y v u Q F p q r I rx ry fz sz r1 r2 e kk => ?_
  unfold neF at e
  split at e
  · rename_i h
    cases e
    rw [Bool.and_eq_true] at h
    obtain ⟨s1, n1⟩ := okD_shaped h.1
    obtain ⟨s2, n2⟩ := okD_shaped h.2
    exact op_neD hu pins s σ H _ _ v u Q I rx ry ⟨_, _, r1.dp n1, r2.dp n2, s1, s2, kk _ F H (.refl fz) (.bl _)⟩
  · cases e
theorem BRep.non_iff {K : PySem.W.Frag} {F : Addr → Prop} {H : Hp} {v : V} {p : PV} (r : BRep K F H v p) : decide (v = .non) = isNone p := by
  cases r with
  | rep r => cases r <;> simp [isNone]
  | own o => cases o <;> simp [isNone]
theorem BRep.of_non {K : PySem.W.Frag} {F : Addr → Prop} {H : Hp} {v : V} {p : PV} (r : BRep K F H v p) (h : isNone p = true) : v = .non := by
  cases r with
  | rep r => cases r <;> simp [isNone] at h ⊢
  | own o => cases o <;> simp [isNone] at h
theorem op_isNF : OpR X (compareOp .Is) (rB X.K isNF) := by
  refine opB_of fun pins s σ H x y v u Q F p q r I rx ry fz sz r1 r2 e kk => ?_
  unfold isNF at e
  split at e
  · rename_i h
    cases e
    have e2 := r2.of_non h
    subst e2
    refine op_isN pins s σ H _ _ v u Q I rx ry ⟨rfl, ?_⟩
    rw [r1.non_iff]
    exact kk _ F H (.refl fz) (.bl _)
  · cases e
theorem op_notNF : OpR X (compareOp .IsNot) (rB X.K notNF) := by
  refine opB_of fun pins s σ H x y v u Q F p q r I rx ry fz sz r1 r2 e kk => ?_
  unfold notNF at e
  split at e
  · rename_i h
    cases e
    have e2 := r2.of_non h
    subst e2
    refine op_notN pins s σ H _ _ v u Q I rx ry ⟨rfl, ?_⟩
    rw [r1.non_iff]
    exact kk _ F H (.refl fz) (.bl _)
  · cases e
theorem in_data (hu : X.A.units + 65 < cLine) {pins : List (Addr × Obj)} {s : Shared} {σ : L2.St} {H : Hp} {x y : V} {v u : Value} {F : Addr → Prop} {p q : PV} {ys : List PV} (neg : Bool) {Q : VK} (I : Inv X pins σ H s) (rx : RelV x v) (ry : RelV y u) (r1 : BRep X.K F H x p) (r2 : BRep X.K F H y q)
    (hs : seqOf q = some ys) (h : (okD 60 p && okD 60 q) = true) (k : Q (.bl (if neg then !ys.any fun z => eqv z p else ys.any fun z => eqv z p)) H) : wpAny (model X.prog X.w) X.A (compareOp (if neg then .NotIn else .In) v u) (EP X pins σ Q) X.xe s := by
  rw [Bool.and_eq_true] at h
  obtain ⟨s1, n1⟩ := okD_shaped h.1
  obtain ⟨s2, n2⟩ := okD_shaped h.2
  obtain ⟨as, q1⟩ := Dp.reads I _ x v (r1.dp n1) rx
  obtain ⟨bs, q2⟩ := Dp.reads I _ y u (r2.dp n2) ry
  have key : ∀ zs : List PV, (toDs zs).any (fun z => PyData.eqv z (toD p)) = zs.any fun z => eqv z p := fun zs => by
    rw [toDs_map, List.any_map]; rfl
  rw [← key] at k
  cases q <;> simp only [seqOf] at hs <;> cases hs
  all_goals
    simp only [toD] at q2 s2
    cases neg
    · first
        | exact SeqAt.in_tuple_reads q2 q1 (by simpa [PyData.canLay0] using SeqAt.canLay_of_shaped s2) (SeqAt.canLay_of_shaped s1) (room_in_shaped s1 hu) ⟨.bl _, H, I, rfl, k⟩
        | exact SeqAt.in_list_reads q2 q1 (by simpa [PyData.canLay0] using SeqAt.canLay_of_shaped s2) (SeqAt.canLay_of_shaped s1) (room_in_shaped s1 hu) ⟨.bl _, H, I, rfl, k⟩
    · first
        | exact SeqAt.notIn_tuple_reads q2 q1 (by simpa [PyData.canLay0] using SeqAt.canLay_of_shaped s2) (SeqAt.canLay_of_shaped s1) (room_in_shaped s1 hu) ⟨.bl _, H, I, rfl, k⟩
        | exact SeqAt.notIn_list_reads q2 q1 (by simpa [PyData.canLay0] using SeqAt.canLay_of_shaped s2) (SeqAt.canLay_of_shaped s1) (room_in_shaped s1 hu) ⟨.bl _, H, I, rfl, k⟩
theorem op_inF (hu : X.A.units + 65 < cLine) : OpR X (compareOp .In) (rB X.K inF) := by
  refine opB_of fun pins s σ H x y v u Q F p q r I rx ry fz sz r1 r2 e kk => ?_
  unfold inF at e
  split at e
  · rename_i ys hs
    split at e
    · rename_i h
      cases e
      exact in_data hu false I rx ry r1 r2 hs h (kk _ F H (.refl fz) (.bl _))
    · cases e
  · obtain ⟨o, h, e⟩ := Option.map_eq_some_iff.mp e
    subst e
    obtain ⟨a, rfl, D⟩ := r2.dic (dgetF_dic h)
    obtain ⟨w, g, w1, w2⟩ := D.dget r1 h
    cases ry
    refine d_in (o := w) (by omega) I g rx fun s' I' => ⟨.bl _, H, I', rfl, ?_⟩
    cases o with
    | none => rw [w2 rfl]; exact kk _ F H (.refl fz) (.bl _)
    | some y => obtain ⟨u', e, _⟩ := w1 y rfl; rw [e]; exact kk _ F H (.refl fz) (.bl _)
theorem op_notInF (hu : X.A.units + 65 < cLine) : OpR X (compareOp .NotIn) (rB X.K notInF) := by
  refine opB_of fun pins s σ H x y v u Q F p q r I rx ry fz sz r1 r2 e kk => ?_
  unfold notInF at e
  split at e
  · rename_i ys hs
    split at e
    · rename_i h
      cases e
      exact in_data hu true I rx ry r1 r2 hs h (kk _ F H (.refl fz) (.bl _))
    · cases e
  · obtain ⟨o, h, e⟩ := Option.map_eq_some_iff.mp e
    subst e
    obtain ⟨a, rfl, D⟩ := r2.dic (dgetF_dic h)
    obtain ⟨w, g, w1, w2⟩ := D.dget r1 h
    cases ry
    refine d_notIn (o := w) (by omega) I g rx fun s' I' => ⟨.bl _, H, I', rfl, ?_⟩
    cases o with
    | none => rw [w2 rfl]; exact kk _ F H (.refl fz) (.bl _)
    | some y => obtain ⟨u', e, _⟩ := w1 y rfl; rw [e]; exact kk _ F H (.refl fz) (.bl _)
end
end PP

/-! PP, part d: +, built-ins on sequences, subscripts. -/
namespace PP
open PySem PySem.Spec PyProof.Rows L2

section
variable {X : Cx}
theorem call_of {g : Value} {f : List PV → Option PV}
    (h : ∀ (pins : List (Addr × Obj)) (s : Shared) (σ : L2.St) (H : Hp) (xs : List V) (us : List Value) (Q : VK) (F : Addr → Prop) (ps : List PV) (r : PV), Inv X pins σ H s → Vals xs us → (∀ a, F a → ∃ o, H a = some o) → Sized H → BRepL X.K F H xs ps → f ps = some r →
      (∀ (z : V) (F' : Addr → Prop) (H' : Hp), Nw F H F' H' → Rep X.K F' H' z r → Q z H') → wpAny (model X.prog X.w) X.A (call g us) (EP X pins σ Q) X.xe s) : CallR X g (rL X.K f) := by
  intro pins s σ H xs us Q I rx ⟨F, ps, r, fz, sz, r1, e, k⟩
  exact h pins s σ H xs us Q F ps r I rx fz sz r1 e k

/-- a new list at p -/
theorem new_list {K : PySem.W.Frag} {F : Addr → Prop} {H : Hp} {p : Addr} {vs : List V} {xs : List PV} (fz : ∀ a, F a → ∃ o, H a = some o) (np : H p = none) (r : RepL K F H vs xs) :
    Nw F H (fun b => F b ∨ b = p) (upd H p (.lst vs)) ∧ Rep K (fun b => F b ∨ b = p) (upd H p (.lst vs)) (.ref p) (.lst xs) := by
  have N : Nw F H (fun b => F b ∨ b = p) (upd H p (.lst vs)) := .fix np fz
  exact ⟨N, .lst (.inl ⟨.inr rfl, SqL.of upd_same⟩) (r.ex N.ex)⟩
theorem new_tup {K : PySem.W.Frag} {F : Addr → Prop} {H : Hp} {p : Addr} {vs : List V} {xs : List PV} (fz : ∀ a, F a → ∃ o, H a = some o) (np : H p = none) (r : RepL K F H vs xs) :
    Nw F H F (upd H p (.tup vs)) ∧ Rep K F (upd H p (.tup vs)) (.ref p) (.tup xs) := by
  have N : Nw F H F (upd H p (.tup vs)) := .upd np fz
  exact ⟨N, .tup upd_same (r.ex N.ex)⟩

/-- t + u of tuples, also where one is empty -/
theorem cat_tups {pins : List (Addr × Obj)} {σ : L2.St} {H : Hp} {s : Shared} {Q : VK} {a b : Addr} {xs ys : List V} (I : Inv X pins σ H s) (ha : H a = some (.tup xs)) (hb : H b = some (.tup ys)) (hl : xs.length + ys.length ≤ sizeLine)
    (h0 : xs = [] → Q (.ref b) H) (h1 : xs ≠ [] → ys = [] → Q (.ref a) H) (h2 : ∀ p, H p = none → Q (.ref p) (upd H p (.tup (xs ++ ys)))) : wpAny (model X.prog X.w) X.A (binaryOp .Add (.ref a) (.ref b)) (EP X pins σ Q) X.xe s := by
  obtain ⟨its, ra, ⟨⟨cls, dd, data, sl⟩, ho, hc, n, hd⟩, _⟩ := I.tuple (SqT.of ha)
  obtain ⟨its2, rb, ⟨⟨cls2, dd2, data2, sl2⟩, ho2, hc2, n2, hd2⟩, _⟩ := I.tuple (SqT.of hb)
  simp only at hc hd hc2 hd2
  subst hc hd hc2 hd2
  have e : its.toArray ++ its2.toArray = (its ++ its2).toArray := by simp
  have l1 := ra.length
  have l2 := rb.length
  by_cases hv : its = []
  · refine concat_meets ⟨_, ho, rfl⟩ ⟨_, ho2, rfl⟩ noFill_tuple_add seq_tuple_add PySem.F.slot_tuple_add PySem.F.entry_tuple_add (PySem.F.args_tuple_add_2 _ _)
      (tuple_addW0 a b its.toArray its2.toArray n n2 dd dd2 sl sl2 (by simp [hv])) ⟨ho, ho2, .ref b, H, I, rfl, h0 ?_⟩
    subst hv; cases ra; rfl
  · by_cases hw : its2 = []
    · refine concat_meets ⟨_, ho, rfl⟩ ⟨_, ho2, rfl⟩ noFill_tuple_add seq_tuple_add PySem.F.slot_tuple_add PySem.F.entry_tuple_add (PySem.F.args_tuple_add_2 _ _)
        (tuple_addW1 a b its.toArray its2.toArray n n2 dd dd2 sl sl2 (by simpa using hv) (by simp [hw])) ⟨ho, ho2, .ref a, H, I, rfl, h1 (fun z => ?_) ?_⟩
      · subst z; cases ra; exact hv rfl
      · subst hw; cases rb; rfl
    · refine concat_meets ⟨_, ho, rfl⟩ ⟨_, ho2, rfl⟩ noFill_tuple_add seq_tuple_add PySem.F.slot_tuple_add PySem.F.entry_tuple_add (PySem.F.args_tuple_add_2 _ _)
        (tuple_addW2 a b its.toArray its2.toArray n n2 dd dd2 sl sl2 (by simpa using hv) (by simpa using hw) (by rw [List.size_toArray, List.size_toArray]; omega)) ⟨ho, ho2, ?_⟩
      rw [e]
      have hf : H s.heap.objs.size = none := I.hok.fresh (Nat.le_refl _)
      refine ⟨.ref s.heap.objs.size, upd H s.heap.objs.size (.tup (xs ++ ys)), I.laid (t' := s.toks) (fun c u e => Heap.get?_push_of_some _ e) (Nat.le_refl _) ?_, rfl, h2 _ hf⟩
      exact ⟨by rw [List.length_append]; exact hl, its ++ its2, ra.append rb, ⟨_, Heap.get?_push_size _ rfl, rfl, _, rfl⟩⟩

/-- a list that is read, tracked or not: + takes tracked ones -/
theorem op_addF : OpR X (binaryOp .Add) (rB X.K addF) := by
  refine opB_of fun pins s σ H x y v u Q F p q r I rx ry fz sz r1 r2 e kk => ?_
  unfold addF at e
  split at e
  · cases e
    cases r1.int; cases r2.int
    exact op_add pins s σ H _ _ v u Q I rx ry ⟨_, _, rfl, rfl, kk _ F H (.refl fz) (.int _)⟩
  · split at e
    · rename_i hl
      cases e
      obtain ⟨a, vs, rfl, ha, ra⟩ := r1.lst
      obtain ⟨b, ws, rfl, hb, rb⟩ := r2.lst
      cases rx; cases ry
      obtain ⟨its, va, pl, _⟩ := I.list ha
      obtain ⟨its2, vb, pl2, _⟩ := I.list hb
      obtain ⟨⟨cls, dd, data, sl⟩, ho, hc, n, hd⟩ := pl.isList
      obtain ⟨⟨cls2, dd2, data2, sl2⟩, ho2, hc2, n2, hd2⟩ := pl2.isList
      simp only at hc hd hc2 hd2
      subst hc hd hc2 hd2
      have l1 := va.length
      have l2 := vb.length
      have l3 := ra.length
      have l4 := rb.length
      have hf : H s.heap.objs.size = none := I.hok.fresh (Nat.le_refl _)
      have e : its.toArray ++ its2.toArray = (its ++ its2).toArray := by simp
      refine concat_meets ⟨_, ho, rfl⟩ ⟨_, ho2, rfl⟩ noFill_list_add seq_list_add PySem.F.slot_list_add PySem.F.entry_list_add (PySem.F.args_list_add_2 _ _) (list_addW a b its.toArray its2.toArray n n2 dd dd2 sl sl2 (by rw [List.size_toArray, List.size_toArray]; omega)) ⟨ho, ho2, ?_⟩
      rw [e]
      obtain ⟨N, R⟩ := new_list fz hf (ra.append rb)
      exact ⟨.ref _, _, I.lnew (t' := s.toks) (va.append vb) (by rw [List.length_append]; omega), rfl, kk _ _ _ N R⟩
    · cases e
  · split at e
    · rename_i hl
      cases e
      obtain ⟨a, vs, rfl, ha, ra⟩ := r1.tup
      obtain ⟨b, ws, rfl, hb, rb⟩ := r2.tup
      cases rx; cases ry
      have l3 := ra.length
      have l4 := rb.length
      refine cat_tups I ha hb (by omega) (fun z => ?_) (fun _ z => ?_) fun p np => ?_
      · subst z
        cases ra
        exact kk _ F H (.refl fz) (.tup hb rb)
      · subst z
        cases rb
        rw [List.append_nil] at kk
        exact kk _ F H (.refl fz) (.tup ha ra)
      · obtain ⟨N, R⟩ := new_tup fz np (ra.append rb)
        exact kk _ _ _ N R
    · cases e
  · cases e
end
end PP

/-! PP, part e: built-ins by values. -/
namespace PP
open PySem PySem.Spec PyProof.Rows L2

def lenF : List PV → Option PV
  | [x] => (seqOf x).map fun xs => .int xs.length
  | _ => none
/-- tuple(..): a plain one -/
def tupleF : List PV → Option PV
  | [.lst xs] => some (.tup xs)
  | [.tup xs] => some (.tup xs)
  | _ => none
def listF : List PV → Option PV
  | [x] => (seqOf x).map fun xs => .lst xs
  | _ => none
def toBools : List PV → Option (List Bool)
  | [] => some []
  | .bl b :: r => (toBools r).map (b :: ·)
  | _ :: _ => none
def allF : List PV → Option PV
  | [.lst xs] => (toBools xs).map fun bs => .bl (bs.all id)
  | _ => none
def anyF : List PV → Option PV
  | [.lst xs] => (toBools xs).map fun bs => .bl (bs.any id)
  | _ => none
def sumF : List PV → Option PV
  | [.lst xs] => (toInts xs).map fun is => .int is.sum
  | _ => none
def absF : List PV → Option PV
  | [.int i] => some (.int (if i < 0 then -i else i))
  | _ => none
def intTF : List PV → Option PV
  | [.int i] => some (.int i)
  | [.bl b] => some (.int (if b then 1 else 0))
  | _ => none
def alikeB (xs : List PV) : Bool := xs.all fun x => xs.all fun y => PySem.W.alike (toD x) (toD y)
mutual
/-- nothing in it but None, bools, ints, texts, plain tuples, lists: it is what its data is -/
def plainP : PV → Bool
  | .fup _ => false
  | .dk _ => false
  | .dt _ => false
  | .lst xs => plainPs xs
  | .tup xs => plainPs xs
  | _ => true
def plainPs : List PV → Bool
  | [] => true
  | x :: xs => plainP x && plainPs xs
end
mutual
theorem toD_inj : ∀ {x y : PV}, plainP x = true → plainP y = true → toD x = toD y → x = y
  | .non, y, _, hy, e => by cases y <;> simp [toD, plainP] at e hy ⊢
  | .bl _, y, _, hy, e => by cases y <;> simp [toD, plainP] at e hy ⊢; exact e
  | .int _, y, _, hy, e => by cases y <;> simp [toD, plainP] at e hy ⊢; exact e
  | .str _, y, _, hy, e => by cases y <;> simp [toD, plainP] at e hy ⊢; exact e
  | .tup xs, y, hx, hy, e => by
    cases y <;> simp [toD, plainP] at e hy ⊢
    exact toDs_inj (by simpa [plainP] using hx) hy e
  | .lst xs, y, hx, hy, e => by
    cases y <;> simp [toD, plainP] at e hy ⊢
    exact toDs_inj (by simpa [plainP] using hx) hy e
  | .fup _, _, hx, _, _ => by simp [plainP] at hx
  | .dk _, _, hx, _, _ => by simp [plainP] at hx
  | .dt _, _, hx, _, _ => by simp [plainP] at hx
theorem toDs_inj : ∀ {xs ys : List PV}, plainPs xs = true → plainPs ys = true → toDs xs = toDs ys → xs = ys
  | [], ys, _, _, e => by cases ys <;> simp [toDs] at e ⊢
  | x :: xs, ys, hx, hy, e => by
    cases ys with
    | nil => simp [toDs] at e
    | cons y ys =>
      simp only [toDs, List.cons.injEq] at e
      simp only [plainPs, Bool.and_eq_true] at hx hy
      rw [toD_inj hx.1 hy.1 e.1, toDs_inj hx.2 hy.2 e.2]
end
theorem plainPs_all : ∀ xs : List PV, plainPs xs = xs.all plainP
  | [] => rfl
  | x :: xs => by simp [plainPs, plainPs_all xs]
def minP (x : PV) (xs : List PV) : PV := xs.foldl (fun a y => if PySem.W.dataLt (toD y) (toD a) then y else a) x
def maxP (x : PV) (xs : List PV) : PV := xs.foldl (fun a y => if PySem.W.dataLt (toD a) (toD y) then y else a) x
/-- they can be compared with one another -/
def comparable (xs : List PV) : Bool := xs.all (okD 60) && alikeB xs && plainPs xs && xs.all fun x => !isNone x
/-- the least (greatest) item; two ints -/
def minF : List PV → Option PV
  | [.int i, .int j] => some (.int (if j < i then j else i))
  | [.lst (x :: xs)] => if comparable (x :: xs) then some (minP x xs) else none
  | _ => none
def maxF : List PV → Option PV
  | [.int i, .int j] => some (.int (if j > i then j else i))
  | [.lst (x :: xs)] => if comparable (x :: xs) then some (maxP x xs) else none
  | _ => none
/-- the items can be sorted: all tuples that are not empty, or none a tuple; or there is one at most -/
def sortable (xs : List PV) : Bool := xs.all (fun x => match tupOf x with | some (_ :: _) => true | _ => false) || xs.all (fun x => (tupOf x).isNone) || decide (xs.length ≤ 1)
def leP (x y : PV) : Bool := PySem.W.dataLe false toD x y
def sortL (xs : List PV) : List PV := xs.mergeSort leP
def sortedF : List PV → Option PV
  | [.lst xs] => if comparable xs && sortable xs then some (.lst (sortL xs)) else none
  | _ => none

theorem RepL.bools {K : PySem.W.Frag} {F : Addr → Prop} {H : Hp} : ∀ {xs : List PV} {is : List Bool} {vs : List V}, RepL K F H vs xs → toBools xs = some is → vs = is.map V.bl
  | [], _, _, .nil, h => by cases h; rfl
  | x :: xs, is, _, .cons r t, h => by
    cases x <;> simp only [toBools] at h <;> try cases h
    obtain ⟨js, hj, e⟩ := Option.map_eq_some_iff.mp h
    subst e
    rw [RepL.bools t hj]
    cases r
    rfl
theorem BRepL.one {K : PySem.W.Frag} {F : Addr → Prop} {H : Hp} {vs : List V} {x : PV} (r : BRepL K F H vs [x]) : ∃ v, vs = [v] ∧ BRep K F H v x := by
  cases r with | cons r t => cases t; exact ⟨_, rfl, r⟩
theorem BRepL.two {K : PySem.W.Frag} {F : Addr → Prop} {H : Hp} {vs : List V} {x y : PV} (r : BRepL K F H vs [x, y]) : ∃ v w, vs = [v, w] ∧ BRep K F H v x ∧ BRep K F H w y := by
  cases r with | cons r t => cases t with | cons r2 t => cases t; exact ⟨_, _, rfl, r, r2⟩

theorem each_vals {K : PySem.W.Frag} {F : Addr → Prop} {H : Hp} : ∀ {vs : List V} {us : List Value} {xs : List PV}, Vals vs us → RepL K F H vs xs → PySem.W.EachIs (fun u x => ∃ v, RelV v u ∧ Rep K F H v x) us xs
  | _, _, _, .nil, .nil => .nil
  | _, _, _, .cons r t, .cons q s => .cons ⟨_, r, q⟩ (each_vals t s)
theorem vals_each {K : PySem.W.Frag} {F : Addr → Prop} {H : Hp} : ∀ {us : List Value} {xs : List PV}, PySem.W.EachIs (fun u x => ∃ v, RelV v u ∧ Rep K F H v x) us xs → ∃ vs, Vals vs us ∧ RepL K F H vs xs
  | _, _, .nil => ⟨[], .nil, .nil⟩
  | _, _, .cons ⟨v, r, q⟩ t => let ⟨vs, a, b⟩ := vals_each t; ⟨v :: vs, .cons r a, .cons q b⟩
theorem mem_get {K : PySem.W.Frag} {F : Addr → Prop} {H : Hp} : ∀ {vs : List V} {us : List Value} {xs : List PV}, Vals vs us → RepL K F H vs xs → ∀ (i : Nat) (u : Value), us[i]? = some u → ∃ v x, RelV v u ∧ Rep K F H v x ∧ xs[i]? = some x
  | _, _, _, .nil, .nil, i, u, h => by simp at h
  | _, _, _, .cons r t, .cons q s, 0, u, h => by simp at h; subst h; exact ⟨_, _, r, q, rfl⟩
  | _, _, _, .cons r t, .cons q s, i + 1, u, h => by
    obtain ⟨v, x, a, b, c⟩ := mem_get t s i u (by simpa using h)
    exact ⟨v, x, a, b, by simpa using c⟩

theorem alikeB_all {xs : List PV} (h : alikeB xs = true) : PySem.W.AllAlike (xs.map toD) := fun d hd d' hd' => by
  obtain ⟨x, hx, rfl⟩ := List.mem_map.mp hd
  obtain ⟨y, hy, rfl⟩ := List.mem_map.mp hd'
  unfold alikeB at h
  rw [List.all_eq_true] at h
  have h1 := h x hx
  rw [List.all_eq_true] at h1
  exact h1 y hy

section
variable {X : Cx}
theorem cr_lenF : CallR X (.builtin "len") (rL X.K lenF) := by
  refine call_of fun pins s σ H xs us Q F ps r I rx fz sz r1 e k => ?_
  unfold lenF at e
  split at e
  · obtain ⟨ys, hs, e⟩ := Option.map_eq_some_iff.mp e
    subst e
    obtain ⟨v, rfl, q1⟩ := r1.one
    obtain ⟨a, vs, rfl, h, r⟩ := q1.seq hs
    refine call_len_seq pins s σ H _ us Q I rx ⟨a, vs, rfl, h, ?_⟩
    rw [r.length]
    exact k _ F H (.refl fz) (.int _)
  · cases e
theorem cr_tupleF : CallR X (.type "tuple") (rL X.K tupleF) := by
  refine call_of fun pins s σ H xs us Q F ps r I rx fz sz r1 e k => ?_
  unfold tupleF at e
  split at e
  · cases e
    obtain ⟨v, rfl, q1⟩ := r1.one
    obtain ⟨a, vs, rfl, h, r⟩ := q1.lst
    refine call_tuple_of pins s σ H _ us Q I rx ⟨a, vs, rfl, .inl ⟨h, fun p np => ?_⟩⟩
    obtain ⟨N, R⟩ := new_tup fz np r
    exact k _ _ _ N R
  · cases e
    obtain ⟨v, rfl, q1⟩ := r1.one
    obtain ⟨a, vs, rfl, h, r⟩ := q1.tup
    exact call_tuple_of pins s σ H _ us Q I rx ⟨a, vs, rfl, .inr ⟨SqT.of h, k _ F H (.refl fz) (.tup h r)⟩⟩
  · cases e
theorem cr_listF : CallR X (.type "list") (rL X.K listF) := by
  refine call_of fun pins s σ H xs us Q F ps r I rx fz sz r1 e k => ?_
  unfold listF at e
  split at e
  · obtain ⟨ys, hs, e⟩ := Option.map_eq_some_iff.mp e
    subst e
    obtain ⟨v, rfl, q1⟩ := r1.one
    obtain ⟨a, vs, rfl, h, r⟩ := q1.seq hs
    refine call_list_of pins s σ H _ us Q I rx ⟨a, vs, rfl, h, fun p np => ?_⟩
    obtain ⟨N, R⟩ := new_list fz np r
    exact k _ _ _ N R
  · cases e
theorem cr_allF (hc : X.calm = true) : CallR X (.builtin "all") (rL X.K allF) := by
  refine call_of fun pins s σ H xs us Q F ps r I rx fz sz r1 e k => ?_
  unfold allF at e
  split at e
  · obtain ⟨bs, h, e⟩ := Option.map_eq_some_iff.mp e
    subst e
    obtain ⟨v, rfl, q1⟩ := r1.one
    obtain ⟨a, vs, rfl, ha, r⟩ := q1.lst
    have := r.bools h
    subst this
    exact cr_all hc pins s σ H _ us Q I rx ⟨a, bs, rfl, ha, k _ F H (.refl fz) (.bl _)⟩
  · cases e
theorem cr_anyF (hc : X.calm = true) : CallR X (.builtin "any") (rL X.K anyF) := by
  refine call_of fun pins s σ H xs us Q F ps r I rx fz sz r1 e k => ?_
  unfold anyF at e
  split at e
  · obtain ⟨bs, h, e⟩ := Option.map_eq_some_iff.mp e
    subst e
    obtain ⟨v, rfl, q1⟩ := r1.one
    obtain ⟨a, vs, rfl, ha, r⟩ := q1.lst
    have := r.bools h
    subst this
    exact cr_any hc pins s σ H _ us Q I rx ⟨a, bs, rfl, ha, k _ F H (.refl fz) (.bl _)⟩
  · cases e
theorem cr_sumF (hc : X.calm = true) : CallR X (.builtin "sum") (rL X.K sumF) := by
  refine call_of fun pins s σ H xs us Q F ps r I rx fz sz r1 e k => ?_
  unfold sumF at e
  split at e
  · obtain ⟨bs, h, e⟩ := Option.map_eq_some_iff.mp e
    subst e
    obtain ⟨v, rfl, q1⟩ := r1.one
    obtain ⟨a, vs, rfl, ha, r⟩ := q1.lst
    have := r.ints h
    subst this
    exact cr_sum hc pins s σ H _ us Q I rx ⟨a, bs, rfl, ha, k _ F H (.refl fz) (.int _)⟩
  · cases e
theorem cr_absF : CallR X (.builtin "abs") (rL X.K absF) := by
  refine call_of fun pins s σ H xs us Q F ps r I rx fz sz r1 e k => ?_
  unfold absF at e
  split at e
  · cases e
    obtain ⟨v, rfl, q1⟩ := r1.one
    cases q1.int
    exact call_abs pins s σ H _ us Q I rx ⟨_, rfl, k _ F H (.refl fz) (.int _)⟩
  · cases e
theorem cr_intTF : CallR X (.type "int") (rL X.K intTF) := by
  refine call_of fun pins s σ H xs us Q F ps r I rx fz sz r1 e k => ?_
  unfold intTF at e
  split at e
  · cases e
    obtain ⟨v, rfl, q1⟩ := r1.one
    cases q1.int
    exact call_int1 pins s σ H _ us Q I rx (.inl ⟨_, rfl, k _ F H (.refl fz) (.int _)⟩)
  · cases e
    obtain ⟨v, rfl, q1⟩ := r1.one
    cases q1.bl
    exact call_int1 pins s σ H _ us Q I rx (.inr ⟨_, rfl, k _ F H (.refl fz) (.int _)⟩)
  · cases e

theorem all_shaped {xs : List PV} (h : xs.all (okD 60) = true) : PyData.canLayAll0 (toDs xs) = true ∧ PyData.depthAll (toDs xs) ≤ 60 ∧ nodicL xs = true := okD_all (okD_sound 60) h
theorem comparable_ok {xs : List PV} (h : comparable xs = true) : xs.all (okD 60) = true ∧ alikeB xs = true ∧ plainPs xs = true ∧ ∀ x ∈ xs, isNone x = false := by
  unfold comparable at h
  simp only [Bool.and_eq_true, List.all_eq_true (p := fun x => !isNone x), Bool.not_eq_true'] at h
  exact ⟨h.1.1.1, h.1.1.2, h.1.2, h.2⟩
theorem mm_alike {xs : List PV} (h : comparable xs = true) : PySem.W.AlikeAll (xs.map toD) := by
  obtain ⟨h1, h2, h3, h4⟩ := comparable_ok h
  have ha := alikeB_all h2
  refine ⟨fun y hy z hz => ha y hy z hz, fun y hy z => ?_⟩
  obtain ⟨x, hx, rfl⟩ := List.mem_map.mp hy
  have := h4 x hx
  cases x <;> simp [toD, isNone] at this z
theorem reads_at {h : Heap} : ∀ {us : List Value} {xs : List PV} {as : List Addr}, ReadsAll h us (toDs xs) as → ∀ (i : Nat) (u : Value) (x : PV), us[i]? = some u → xs[i]? = some x → ∃ bs, Reads h u (toD x) bs
  | _, [], _, r, i, u, x, _, f => by simp at f
  | _, y :: ys, _, r, i, u, x, e, f => by
    unfold toDs at r
    cases r with
    | cons r t =>
      cases i with
      | zero => simp at e f; subst e f; exact ⟨_, r⟩
      | succ i => exact reads_at t i u x (by simpa using e) (by simpa using f)
/-- the item that was found is one of the items -/
theorem pick_rep {K : PySem.W.Frag} {F : Addr → Prop} {H : Hp} {h' : Heap} {vs : List V} {us : List Value} {xs : List PV} {i : Nat} {u : Value} {d : PV} {bs : List Addr} (hv : Vals vs us) (hr : RepL K F H vs xs) (hi : us[i]? = some u) (rd : Reads h' u (toD d) bs)
    (hx : ∀ x, xs[i]? = some x → ∃ as, Reads h' u (toD x) as) (hd : d ∈ xs) (al : alikeB xs = true) (pl : plainPs xs = true) : ∃ v, RelV v u ∧ Rep K F H v d := by
  obtain ⟨v, x, a, b, c⟩ := mem_get hv hr i u hi
  obtain ⟨as, r2⟩ := hx x c
  have hm := List.mem_of_getElem? c
  rw [plainPs_all, List.all_eq_true] at pl
  have e := PySem.W.alike_unique (toD x) (toD d) u as bs (alikeB_all al _ (List.mem_map_of_mem hm) _ (List.mem_map_of_mem hd)) r2 rd
  rw [← toD_inj (pl x hm) (pl d hd) e]
  exact ⟨v, a, b⟩
theorem minP_mem (x : PV) : ∀ xs : List PV, minP x xs ∈ x :: xs := by
  suffices h : ∀ (xs : List PV) (a : PV), List.foldl (fun a y => if PySem.W.dataLt (toD y) (toD a) then y else a) a xs ∈ a :: xs from fun xs => h xs x
  intro xs
  induction xs with
  | nil => intro a; simp
  | cons y ys ih =>
    intro a
    rw [List.foldl_cons]
    rcases List.mem_cons.mp (ih (if PySem.W.dataLt (toD y) (toD a) = true then y else a)) with h | h
    · rw [h]; split <;> simp
    · exact List.mem_cons_of_mem _ (List.mem_cons_of_mem _ h)
theorem maxP_mem (x : PV) : ∀ xs : List PV, maxP x xs ∈ x :: xs := by
  suffices h : ∀ (xs : List PV) (a : PV), List.foldl (fun a y => if PySem.W.dataLt (toD a) (toD y) then y else a) a xs ∈ a :: xs from fun xs => h xs x
  intro xs
  induction xs with
  | nil => intro a; simp
  | cons y ys ih =>
    intro a
    rw [List.foldl_cons]
    rcases List.mem_cons.mp (ih (if PySem.W.dataLt (toD a) (toD y) = true then y else a)) with h | h
    · rw [h]; split <;> simp
    · exact List.mem_cons_of_mem _ (List.mem_cons_of_mem _ h)
theorem minP_D (x : PV) (xs : List PV) : toD (minP x xs) = PySem.W.minD (toD x) (xs.map toD) := by
  unfold minP PySem.W.minD
  induction xs generalizing x with
  | nil => rfl
  | cons y ys ih =>
    rw [List.map_cons, List.foldl_cons, List.foldl_cons, ih]
    congr 1
    split <;> rfl
theorem maxP_D (x : PV) (xs : List PV) : toD (maxP x xs) = PySem.W.maxD (toD x) (xs.map toD) := by
  unfold maxP PySem.W.maxD
  induction xs generalizing x with
  | nil => rfl
  | cons y ys ih =>
    rw [List.map_cons, List.foldl_cons, List.foldl_cons, ih]
    congr 1
    split <;> rfl
theorem cr_minF (hc : X.calm = true) (hu : X.A.units + 100 < cLine) : CallR X (.builtin "min") (rL X.K minF) := by
  refine call_of fun pins s σ H xs us Q F ps r I rx fz sz r1 e k => ?_
  unfold minF at e
  split at e
  · cases e
    obtain ⟨v, w, rfl, q1, q2⟩ := r1.two
    cases q1.int; cases q2.int
    exact call_min2 hc pins s σ H _ us Q I rx ⟨_, _, rfl, k _ F H (.refl fz) (.int _)⟩
  · split at e
    · rename_i x xs h
      cases e
      obtain ⟨h1, h2, h3, h4⟩ := comparable_ok h
      obtain ⟨c1, c2, c3⟩ := all_shaped h1
      obtain ⟨v, rfl, q1⟩ := r1.one
      obtain ⟨a, vs, rfl, ha, ra⟩ := q1.lst
      obtain ⟨u, rfl, ru⟩ := rx.one
      cases ru
      obtain ⟨its, rv, pl, hz⟩ := I.list ha
      obtain ⟨as, rd⟩ := Dp.readsAll I _ _ its (RepL.dp c3 ra) rv
      have rd0 := rd
      rw [toDs_map] at rd c2
      refine PySem.W.min_list_data (I.ok.hd hc) pl.isList (x := toD x) (xs := xs.map toD) (by simpa using rd) (mm_alike h) (by have := c2; rw [List.map_cons] at this; omega) fun i v h' tk bs hv rd' keep => ?_
      rw [← minP_D] at rd'
      obtain ⟨z, rz, pz⟩ := pick_rep (h' := h') rv ra (by simpa using hv) rd' (fun y hy => by
        obtain ⟨bs, q⟩ := reads_at rd0 i v y (by simpa using hv) hy
        exact ⟨bs, Reads.keeps keep q⟩) (minP_mem x xs) h2 h3
      exact ⟨z, H, I.kept (t' := tk) keep, rz, k z F H (.refl fz) pz⟩
    · cases e
  · cases e
theorem cr_maxF (hc : X.calm = true) (hu : X.A.units + 100 < cLine) : CallR X (.builtin "max") (rL X.K maxF) := by
  refine call_of fun pins s σ H xs us Q F ps r I rx fz sz r1 e k => ?_
  unfold maxF at e
  split at e
  · cases e
    obtain ⟨v, w, rfl, q1, q2⟩ := r1.two
    cases q1.int; cases q2.int
    exact call_max2 hc pins s σ H _ us Q I rx ⟨_, _, rfl, k _ F H (.refl fz) (.int _)⟩
  · split at e
    · rename_i x xs h
      cases e
      obtain ⟨h1, h2, h3, h4⟩ := comparable_ok h
      obtain ⟨c1, c2, c3⟩ := all_shaped h1
      obtain ⟨v, rfl, q1⟩ := r1.one
      obtain ⟨a, vs, rfl, ha, ra⟩ := q1.lst
      obtain ⟨u, rfl, ru⟩ := rx.one
      cases ru
      obtain ⟨its, rv, pl, hz⟩ := I.list ha
      obtain ⟨as, rd⟩ := Dp.readsAll I _ _ its (RepL.dp c3 ra) rv
      have rd0 := rd
      rw [toDs_map] at rd c2
      refine PySem.W.max_list_data (I.ok.hd hc) pl.isList (x := toD x) (xs := xs.map toD) (by simpa using rd) (mm_alike h) (by have := c2; rw [List.map_cons] at this; omega) fun i v h' tk bs hv rd' keep => ?_
      rw [← maxP_D] at rd'
      obtain ⟨z, rz, pz⟩ := pick_rep (h' := h') rv ra (by simpa using hv) rd' (fun y hy => by
        obtain ⟨bs, q⟩ := reads_at rd0 i v y (by simpa using hv) hy
        exact ⟨bs, Reads.keeps keep q⟩) (maxP_mem x xs) h2 h3
      exact ⟨z, H, I.kept (t' := tk) keep, rz, k z F H (.refl fz) pz⟩
    · cases e
  · cases e
end
end PP

/-! PP, part f: sorted. -/
namespace PP
open PySem PySem.Spec PyProof.Rows L2
section
variable {prog : Program} {w : World} {A : Around} {s : Shared}
/-- one item, of whatever kind -/
theorem sortsAt_one {v : Value} {d : PyData} {as : List Addr} (rd : Reads s.heap v d as) (al : PySem.W.alike d d = true) (hn : d ≠ .none) (hu : A.units + d.depth < cLine) : PySem.W.SortsAt prog w A s (PySem.W.dataKind s.heap [d]) [v] := by
  have hal : PySem.W.AllAlike [d] := fun x hx y hy => by
    rw [List.mem_singleton] at hx hy
    subst hx hy
    exact al
  refine ⟨fun v' hv => ?_, ⟨general', fun E x y a b Q ha hb hq => ?_, fun h2 => absurd h2 (by simp)⟩⟩
  · rw [List.mem_singleton] at hv
    subst hv
    exact ⟨_, PySem.W.dataKind_some hal (List.mem_singleton.mpr rfl) rd⟩
  · obtain ⟨d1, as1, h1, r1, rfl⟩ := PySem.W.dataKind_inv ha
    obtain ⟨d2, as2, h2, r2, rfl⟩ := PySem.W.dataKind_inv hb
    rw [List.mem_singleton] at h1 h2
    subst h1 h2
    show wpAny (model prog w) A (oneLt' false x y) Q E s
    exact PySem.W.oneLt_alike (fun z => by cases z) r1 r2 al hn (Nat.lt_of_le_of_lt (Nat.add_le_add_left (Nat.min_le_left _ _) _) hu) hq
end
section
variable {X : Cx}
/-- the end of sorted: the new list stands -/
theorem sorted_end {pins : List (Addr × Obj)} {σ : L2.St} {H : Hp} {s : Shared} {Q : VK} {F : Addr → Prop} {us out : List Value} {xs : List PV} (I : Inv X pins σ H s) (fz : ∀ a, F a → ∃ o, H a = some o) (hl : out.length ≤ sizeLine)
    (e : PySem.W.EachIs (fun u x => ∃ v, RelV v u ∧ Rep X.K F H v x) out xs) (k : ∀ (z : V) (F' : Addr → Prop) (H' : Hp), Nw F H F' H' → Rep X.K F' H' z (.lst xs) → Q z H') :
    EP X pins σ Q (.ref (s.heap.objs.size + 1)) { s with heap := sortedAll s.heap us (List.toArray out) } := by
  obtain ⟨vs, va, ra⟩ := vals_each e
  obtain ⟨c, hc⟩ := sortedAll_at s.heap us out.toArray
  have np : H (s.heap.objs.size + 1) = none := I.hok.fresh (Nat.le_succ _)
  obtain ⟨N, R⟩ := new_list fz np ra
  refine ⟨.ref (s.heap.objs.size + 1), _, I.laid (t' := s.toks) (fun b u q => sortedAll_old q) (Nat.le_succ _) ?_, rfl, k _ _ _ N R⟩
  exact ⟨by rw [va.length]; exact hl, out, c, va, hc⟩
theorem sortable_ok {xs : List PV} (h : sortable xs = true) (hn : ∀ x ∈ xs, isNone x = false) : PySem.W.Sortable (xs.map toD) ∨ ∃ d, xs = [d] := by
  unfold sortable at h
  simp only [Bool.or_eq_true, List.all_eq_true, decide_eq_true_eq] at h
  rcases h with (h | h) | h
  · refine .inl (.inl fun d hd => ?_)
    obtain ⟨x, hx, rfl⟩ := List.mem_map.mp hd
    have := h x hx
    cases x <;> simp only [tupOf] at this <;> first | (cases this; done) | skip
    all_goals
      split at this
      · rename_i e
        cases e
        exact ⟨_, _, by simp only [toD, toDs]; rfl⟩
      · cases this
  · refine .inl (.inr fun d hd => ?_)
    obtain ⟨x, hx, rfl⟩ := List.mem_map.mp hd
    have := h x hx
    have h2 := hn x hx
    cases x <;> simp [tupOf, toD, isNone] at this h2 ⊢
  · match xs, h with
    | [], _ => exact .inl (.inl fun d hd => absurd hd (by simp))
    | [d], h => exact .inr ⟨d, rfl⟩
    | _ :: _ :: _, h => exact absurd h (by simp)
theorem depth_le {xs : List PyData} {n : Nat} (h : PyData.depthAll xs ≤ n) : ∀ x ∈ xs, x.depth ≤ n := by
  induction xs with
  | nil => intro x hx; simp at hx
  | cons y ys ih =>
    simp only [PyData.depthAll] at h
    intro x hx
    rcases List.mem_cons.mp hx with rfl | hx
    · omega
    · exact ih (by omega) x hx
theorem reads_each {h : Heap} : ∀ {us : List Value} {xs : List PV} {as : List Addr}, ReadsAll h us (toDs xs) as → PySem.W.EachIs (fun v b => ∃ as, Reads h v (toD b) as) us xs
  | _, [], _, r => by unfold toDs at r; cases r; exact .nil
  | _, x :: xs, _, r => by
    unfold toDs at r
    cases r with | cons r t => exact .cons ⟨_, r⟩ (reads_each t)
theorem cr_sortedF (hu : X.A.units + 100 < cLine) : CallR X (.builtin "sorted") (rL X.K sortedF) := by
  refine call_of fun pins s σ H xs us Q F ps r I rx fz sz r1 e k => ?_
  unfold sortedF at e
  split at e
  · split at e
    · rename_i xs h
      cases e
      rw [Bool.and_eq_true] at h
      obtain ⟨hc, h3⟩ := h
      obtain ⟨h1, h2, _, h4⟩ := comparable_ok hc
      obtain ⟨c1, c2, c3⟩ := all_shaped h1
      obtain ⟨v, rfl, q1⟩ := r1.one
      obtain ⟨u, rfl, ru⟩ := rx.one
      obtain ⟨a, vs, rfl, ha, ra⟩ := q1.lst
      cases ru
      obtain ⟨its, rv, pl, hz⟩ := I.list ha
      obtain ⟨as, rd⟩ := Dp.readsAll I _ _ its (RepL.dp c3 ra) rv
      have l1 := rv.length
      have l2 := ra.length
      have el := each_vals rv ra
      have er := reads_each rd
      have lm : (sortL xs).length = xs.length := List.length_mergeSort ..
      have dd : ∀ x ∈ xs, (toD x).depth ≤ 60 := fun x hx => depth_le (by rw [toDs_map] at c2; exact c2) _ (List.mem_map_of_mem hx)
      rcases sortable_ok h3 h4 with hs | ⟨d, rfl⟩
      · refine PySem.W.sorted_data (R := fun u x => ∃ v, RelV v u ∧ Rep X.K F H v x) (enc := toD) pl.isList el er (alikeB_all h2) hs (by omega) (fun b hb => by have := dd b hb; omega) fun out hl ho => ?_
        exact sorted_end I fz (by omega) ho k
      · have al : PySem.W.AllAlike ([d].map toD) := alikeB_all h2
        match its, rv, rd, el, er with
        | [u], rv, rd, el, er =>
          obtain ⟨bs, rdu⟩ : ∃ bs, Reads s.heap u (toD d) bs := by
            cases er with | cons r _ => exact r
          have rk : Reads (PySem.W.sortingHeap (PySem.W.copyHeap s.heap [u]) (s.heap.objs.size + 1) [u]) u (toD d) bs := Reads.keeps (fun _ _ => PySem.W.sorting_copy_old) rdu
          have dd := dd d (by simp)
          have hd : toD d ≠ .none := fun z => by
            have := h4 d (by simp)
            cases d <;> simp [toD, isNone] at z this
          refine PySem.W.sorted_vals pl.isList (sortsAt_one (s := { s with heap := PySem.W.sortingHeap (PySem.W.copyHeap s.heap [u]) (s.heap.objs.size + 1) [u] }) rk (al _ (by simp) _ (by simp)) hd (by show X.A.units + 1 + 1 + _ < _; omega)) (by simp; rw [sizeLine_eq]; omega) ?_
          have ek : PySem.W.EachIs (fun v b => ∃ as, Reads (PySem.W.sortingHeap (PySem.W.copyHeap s.heap [u]) (s.heap.objs.size + 1) [u]) v (toD b) as) [u] [d] := .cons ⟨bs, rk⟩ .nil
          have q := PySem.W.sortVals_data (R := fun u x => ∃ v, RelV v u ∧ Rep X.K F H v x) (enc := toD) false el ek al
          refine sorted_end I fz ?_ q k
          rw [PySem.W.sortVals_length false rfl]
          simp; rw [sizeLine_eq]; omega
        | [], rv, _, _, er => cases er
        | _ :: _ :: _, rv, _, _, er => cases er with | cons _ t => cases t
    · cases e
  · cases e
end
end PP

/-! PP, part g: subscripts, slices, get, index, isinstance, truth. -/
namespace PP
open PySem PySem.Spec PyProof.Rows L2

def getF (d k : PV) : Option PV := match seqOf d with
  | some xs => match k with
    | .int i => atI xs i
    | _ => none
  | none => (dgetF d k).bind id
theorem RepL.atI {K : PySem.W.Frag} {F : Addr → Prop} {H : Hp} {vs : List V} {xs : List PV} {i : Int} {x : PV} (r : RepL K F H vs xs) (h : L2.atI xs i = some x) : ∃ v, L2.atI vs i = some v ∧ Rep K F H v x := by
  unfold L2.atI at h ⊢
  rw [r.length]
  obtain ⟨j, hj, e⟩ := Option.bind_eq_some_iff.mp h
  obtain ⟨v, hv, rv⟩ := r.get e
  exact ⟨v, by rw [hj]; exact hv, rv⟩

section
variable {X : Cx} {a b e o : Expr} {da db : Den} {pos apos cpos : Pos}
theorem ix_getF (hu : X.A.units + 1 < cLine) : IxR X (rB X.K getF) := by
  intro value slice pins s σ H x y v u Q I rx ry ⟨F, p, q, r, fz, sz, r1, r2, e, k⟩ hs
  unfold getF at e
  split at e
  · rename_i xs hseq
    split at e
    · obtain ⟨a, vs, rfl, h, rl⟩ := r1.seq hseq
      cases r2.int
      obtain ⟨w, hw, rw'⟩ := rl.atI e
      rcases h with h | h
      · exact ix_list value slice pins s σ H _ _ v u Q I rx ry ⟨a, vs, _, w, rfl, rfl, h, hw, k w F H (.refl fz) rw'⟩ hs
      · exact ix_tup value slice pins s σ H _ _ v u Q I rx ry ⟨a, vs, _, w, rfl, rfl, h, hw, k w F H (.refl fz) rw'⟩ hs
    · cases e
  · obtain ⟨w, hg, e⟩ := Option.bind_eq_some_iff.mp e
    obtain rfl : w = some r := e
    obtain ⟨a, rfl, D⟩ := r1.dic (dgetF_dic hg)
    obtain ⟨w, g, w1, _⟩ := D.dget r2 hg
    obtain ⟨z, rfl, rz⟩ := w1 r rfl
    cases rx
    exact tail_any (dict_typeIs I g) PySem.F.slot_dict_getitem.lookup (d_getItem hu I g ry fun w' s' I' rw' => ⟨z, H, I', rw', k z F H (.refl fz) rz⟩) hs
theorem plainIx {b : Expr} (h : match b with | .Slice _ _ _ _ => False | _ => True) : PlainIx b := by
  intro o i
  cases b <;> first | rfl | exact h.elim
theorem ve_sub (hu : X.A.units + 1 < cLine) (hs : PlainIx b) (ha : VE X a da) (hb : VE X b db) : VE X (.Subscript a b pos) (dBin getF da db) :=
  pe_imp (pe_ix (ix_getF hu) ha hb hs) fun σ H Q sz ⟨F, env, r, env', R, hd, q⟩ => by
    unfold dBin at hd
    obtain ⟨⟨p, e1⟩, h1, hd⟩ := Option.bind_eq_some_iff.mp hd
    obtain ⟨⟨q', e2⟩, h2, hd⟩ := Option.bind_eq_some_iff.mp hd
    obtain ⟨z, h3, hz⟩ := Option.map_eq_some_iff.mp hd
    cases hz
    refine ⟨F, env, p, e1, R, h1, fun x F1 H1 R1 M1 r1 => ⟨F1, e1, q', e2, R1, h2, fun y F2 H2 R2 M2 r2 => ⟨F2, p, q', r, R2.fz, R2.sz, .rep (r1.ex (M2.ex R1)), .rep r2, h3, fun z F3 H3 N r3 s3 => ?_⟩⟩⟩
    exact q z F3 H3 (N.rel R2 s3) ((M1.trans M2).trans N.mv) r3
theorem ve_subL {i : Nat} (hu : X.A.units + 1 < cLine) (hs : PlainIx b) (ha : PE X a (tVar i)) (hb : VE X b db) : VE X (.Subscript a b pos) (dBinL getF i db) :=
  pe_imp (pe_ix (ix_getF hu) ha hb hs) fun σ H Q sz ⟨F, env, r, env', R, hd, q⟩ => by
    unfold dBinL at hd
    obtain ⟨_, h0, hd⟩ := Option.bind_eq_some_iff.mp hd
    obtain ⟨⟨p, e1⟩, h1, hd⟩ := Option.bind_eq_some_iff.mp hd
    obtain ⟨y, h2, hd⟩ := Option.bind_eq_some_iff.mp hd
    obtain ⟨z, h3, hz⟩ := Option.map_eq_some_iff.mp hd
    cases hz
    obtain ⟨x, sx, _⟩ := slotv_rep R h0
    refine ⟨x, sx, F, env, p, _, R, h1, fun x2 F1 H1 R1 M1 r1 => ?_⟩
    obtain ⟨x', sx', r'⟩ := slotv_rep R1 h2
    rw [sx] at sx'; cases sx'
    exact ⟨F1, y, p, r, R1.fz, R1.sz, r', .rep r1, h3, fun z F3 H3 N r3 s3 => q z F3 H3 (N.rel R1 s3) (M1.trans N.mv) r3⟩

/-! ### the receiver of a method: evaluated, or a slot that is only read -/
def dHead (o : Arg) : Den := fun e => match o with
  | .d a => a e
  | .b i => (slotv e i).map fun x => (x, e)
/-- the receiver as it stands when its method runs -/
def dBack (o : Arg) (p : PV) (e : PEn) : Option PV := match o with
  | .d _ => some p
  | .b i => slotv e i
/-- the sort of a value -/
def kind : PV → Nat
  | .lst _ => 1
  | .fup _ => 2
  | .dk _ => 3
  | .dt _ => 3
  | _ => 0
/-- a method: what the receiver is at first must pass the test g -/
def dRecv (g : PV → Bool) (o : Arg) (as : List Den) (f : PV → List PV → Option PV) : Den := fun e =>
  (dHead o e).bind fun p => if g p.1 then (dArgs as p.2).bind fun q => (dBack o p.1 q.2).bind fun y => if kind y = kind p.1 then (f y q.1).map fun z => (z, q.2) else none else none
/-- an argument as an expression -/
inductive VArg (X : Cx) : Expr → Arg → Prop
  | d {e : Expr} {da : Den} : VE X e da → VArg X e (.d da)
  | b {e : Expr} {i : Nat} : PE X e (tVar i) → VArg X e (.b i)
theorem head_run {ar : Arg} (h : VArg X o ar) {pins : List (Addr × Obj)} {s : Shared} {σ : L2.St} {H : Hp} {F : Addr → Prop} {env e1 : PEn} {p : PV} (I : Inv X pins σ H s) (R : Rel X.K F H env σ) (hd : dHead ar env = some (p, e1)) :
    wpAny (model X.prog X.w) X.A (eval o X.env) (fun u s1 => ∃ (x : V) (F1 : Addr → Prop) (H1 : Hp), Inv X pins σ H1 s1 ∧ RelV x u ∧ Rel X.K F1 H1 e1 σ ∧ Mv F H env σ F1 H1 e1 σ ∧ BRep X.K F1 H1 x p ∧
      ∀ (F2 : Addr → Prop) (H2 : Hp) (e2 : PEn) (y : PV), Rel X.K F2 H2 e2 σ → Mv F1 H1 e1 σ F2 H2 e2 σ → dBack ar p e2 = some y → BRep X.K F2 H2 x y) X.xe s := by
  cases h with
  | d h =>
    refine thn (h.run pins s σ H (fun x H1 => ∃ F1, Rel X.K F1 H1 e1 σ ∧ Mv F H env σ F1 H1 e1 σ ∧ Rep X.K F1 H1 x p) I ⟨F, env, p, e1, R, hd, fun x F1 H1 R1 M1 r1 => ⟨F1, R1, M1, r1⟩⟩) fun u s1 ⟨x, H1, I1, rx, F1, R1, M1, r1⟩ => ?_
    exact ⟨x, F1, H1, I1, rx, R1, M1, .rep r1, fun F2 H2 e2 y R2 M2 e => by cases e; exact .rep (r1.ex (M2.ex R1))⟩
  | b h =>
    obtain ⟨x0, hx, e⟩ := Option.map_eq_some_iff.mp hd
    cases e
    obtain ⟨x, sx, r⟩ := slotv_rep R hx
    refine thn (h.run pins s σ H (fun y H1 => y = x ∧ H1 = H) I ⟨x, sx, rfl, rfl⟩) fun u s1 ⟨y, H1, I1, rx, e1, e2⟩ => ?_
    subst e1 e2
    refine ⟨y, F, H1, I1, rx, R, .refl, r, fun F2 H2 e2 z R2 M2 e => ?_⟩
    obtain ⟨x', sx', r'⟩ := slotv_rep R2 e
    rw [sx] at sx'; cases sx'; exact r'
theorem args_run {es : List Expr} {ds : List Den} (h : VA X es (dArgs ds)) {pins : List (Addr × Obj)} {s : Shared} {σ : L2.St} {H : Hp} {F : Addr → Prop} {env e1 : PEn} {ps : List PV} (pos : Pos) (I : Inv X pins σ H s) (R : Rel X.K F H env σ) (hd : dArgs ds env = some (ps, e1)) :
    wpAny (model X.prog X.w) X.A (spliced (backTo pos (starEach es X.env))) (fun us s1 => ∃ (xs : List V) (F1 : Addr → Prop) (H1 : Hp), Inv X pins σ H1 s1 ∧ Vals xs us ∧ Rel X.K F1 H1 e1 σ ∧ Mv F H env σ F1 H1 e1 σ ∧ RepL X.K F1 H1 xs ps) X.xe s := by
  refine thn (h.run pos pins s σ H (fun xs H1 => ∃ F1, Rel X.K F1 H1 e1 σ ∧ Mv F H env σ F1 H1 e1 σ ∧ RepL X.K F1 H1 xs ps) I ⟨F, env, ps, e1, R, hd, fun x F1 H1 R1 M1 r1 => ⟨F1, R1, M1, r1⟩⟩) fun u s1 ⟨x, H1, I1, rx, F1, R1, M1, r1⟩ => ?_
  exact ⟨x, F1, H1, I1, rx, R1, M1, r1⟩

/-- what is seen of a method call's text -/
structure MCall (X : Cx) (o : Expr) (m : Str) (apos : Pos) (es : List Expr) (cpos : Pos) : Prop where
  base : attributeBase o m X.env (eval o X.env) = eval o X.env
  few : ((backTo cpos (starEach es X.env)).all (fun x => !x.1) && (backToKw cpos (keywordEach [] X.env)).all (fun x => x.1.isSome)
    && decide (es.length + ([] : List Keyword).length + (if ([] : List Keyword).isEmpty then 0 else 1) < 30)) = true
  line : (apos.endLine == cpos.line) = true
  star : es.all notStar = true
theorem starFew {env : Env} {pos : Pos} : ∀ {es : List Expr}, es.all notStar = true → (backTo pos (starEach es env)).all (fun x => !x.1) = true
  | [], _ => rfl
  | e :: es, h => by
    simp only [List.all_cons, Bool.and_eq_true] at h
    have ih := starFew (env := env) (pos := pos) h.2
    rw [starEach_cons h.1]
    simp only [backTo, List.map_cons, List.all_cons, Bool.not_false, Bool.true_and] at ih ⊢
    exact ih
def baseOk : Expr → Bool
  | .Call _ as _ _ => !as.isEmpty
  | _ => true
theorem mcall {m : Str} {es : List Expr} (hb : baseOk o = true) (hs : es.all notStar = true) (hl : es.length < 20) (line : (apos.endLine == cpos.line) = true) : MCall X o m apos es cpos where
  base := by
    cases o <;> first
      | rfl
      | (rename_i f as kw p
         cases as with
         | nil => simp [baseOk] at hb
         | cons a r => cases f <;> rfl)
  few := by
    rw [starFew hs]
    show (true && true && decide (es.length + 0 + 0 < 30)) = true
    simp; omega
  line := line
  star := hs

/-- a method of a built-in type, over values: what must be known of it -/
structure MFn (X : Cx) (m : Str) (g : PV → Bool) (f : PV → List PV → Option PV) : Prop where
  run : ∀ (pins : List (Addr × Obj)) (s : Shared) (σ : L2.St) (H : Hp) (x : V) (u : Value) (p : PV) (F : Addr → Prop), Inv X pins σ H s → RelV x u → BRep X.K F H x p → g p = true →
    ∃ T id, PlainAttrs T ∧ PySem.Slot T m id ∧ typeOf (.builtin id) = pure (.type "method_descriptor") ∧ s.TypeIs u T ∧ (∀ a, u = .ref a → ∃ ob, s.heap.get? a = some ob ∧ ob.dict = none) ∧
      ∀ (s2 : Shared) (H2 : Hp) (xs : List V) (us : List Value) (F2 : Addr → Prop) (y : PV) (ps : List PV) (r : PV) (Q : VK), Inv X pins σ H2 s2 → Vals xs us → (∀ a, F2 a → ∃ o, H2 a = some o) → Sized H2 → BRep X.K F2 H2 x y → kind y = kind p → RepL X.K F2 H2 xs ps → f y ps = some r →
        (∀ (z : V) (F' : Addr → Prop) (H' : Hp), Nw F2 H2 F' H' → Rep X.K F' H' z r → Q z H') → wpAny (model X.prog X.w) X.A (call (.builtin id) (u :: us)) (EP X pins σ Q) X.xe s2
theorem ve_meth {m : Str} {g : PV → Bool} {f : PV → List PV → Option PV} {ar : Arg} {es : List Expr} {ds : List Den} (hm : MFn X m g f) (mc : MCall X o m apos (e :: es) cpos) (ho : VArg X o ar) (ha : VA X (e :: es) (dArgs ds)) :
    VE X (.Call (.Attribute o m apos) (e :: es) [] cpos) (dRecv g ar ds f) := by
  refine ⟨fun pins s σ H Q I ⟨F, env, r, env', R, hd, q⟩ => ?_⟩
  unfold dRecv at hd
  obtain ⟨⟨p, e1⟩, h1, hd⟩ := Option.bind_eq_some_iff.mp hd
  split at hd
  · rename_i hg
    obtain ⟨⟨ps, e2⟩, h2, hd⟩ := Option.bind_eq_some_iff.mp hd
    obtain ⟨y, h3, hd⟩ := Option.bind_eq_some_iff.mp hd
    split at hd
    · rename_i hk
      obtain ⟨z, h4, hz⟩ := Option.map_eq_some_iff.mp hd
      cases hz
      refine wpAny_Call_method_late mc.base mc.few mc.line rfl (thn (head_run ho I R h1) fun u s1 ⟨x, F1, H1, I1, rx, R1, M1, r1, back⟩ => ?_)
      obtain ⟨T, id, pa, slot, hty, hT, hn, hc⟩ := hm.run pins s1 σ H1 x u p F1 I1 rx r1 hg
      refine ⟨T, id, pa, slot, hty, hT, hn, ?_⟩
      have hA := args_run ha cpos I1 R1 h2
      have hs := mc.star
      have h5 : es.all notStar = true := by simp only [List.all_cons, Bool.and_eq_true] at hs; exact hs.2
      have h6 : notStar e = true := List.all_eq_true.mp hs _ List.mem_cons_self
      rw [starEach_cons h6] at hA ⊢
      refine Calls.callWith_builtin (by show (false || (backTo cpos (starEach es X.env)).any (·.1)) = false; rw [star_plain h5 cpos]; rfl) (Calls.evalArgs_plain ?_)
      refine thn hA fun us s2 ⟨xs, F2, H2, I2, rxs, R2, M2, r2⟩ => ?_
      have rb := back F2 H2 e2 y R2 M2 h3
      refine thn (hc s2 H2 xs us F2 y ps _ (fun v H' => Sized H' → Q v H') I2 rxs R2.fz R2.sz rb hk r2 h4 fun v F3 H3 N r3 s3 => q v F3 H3 (N.rel R2 s3) ((M1.trans M2).trans N.mv) r3) fun u' s' ⟨v, H', I', rv, qv⟩ => ⟨v, H', I', rv, qv (sized_of I'.hok)⟩
    · cases hd
  · cases hd

/-! ### get, index -/
def mgetF (d : PV) (ks : List PV) : Option PV := match ks with
  | [k] => (dgetF d k).map fun o => o.getD .non
  | [k, x] => (dgetF d k).map fun o => o.getD x
  | _ => none
theorem RepL.one {K : PySem.W.Frag} {F : Addr → Prop} {H : Hp} {vs : List V} {x : PV} (r : RepL K F H vs [x]) : ∃ v, vs = [v] ∧ Rep K F H v x := by
  cases r with | cons r t => cases t; exact ⟨_, rfl, r⟩
theorem RepL.two {K : PySem.W.Frag} {F : Addr → Prop} {H : Hp} {vs : List V} {x y : PV} (r : RepL K F H vs [x, y]) : ∃ v w, vs = [v, w] ∧ Rep K F H v x ∧ Rep K F H w y := by
  cases r with | cons r t => cases t with | cons r2 t => cases t; exact ⟨_, _, rfl, r, r2⟩
theorem getD_rep {K : PySem.W.Frag} {F : Addr → Prop} {H : Hp} {o : Option PV} {w : Option V} {d : V} {x : PV} (h1 : ∀ y, o = some y → ∃ u, w = some u ∧ Rep K F H u y) (h2 : o = none → w = none) (rd : Rep K F H d x) : Rep K F H (w.getD d) (o.getD x) := by
  cases o with
  | none => rw [h2 rfl]; exact rd
  | some y => obtain ⟨u, e, r⟩ := h1 y rfl; rw [e]; exact r
theorem isD_of {K : PySem.W.Frag} {F : Addr → Prop} {H : Hp} {a : Addr} {d : PV} (D : DicAt K F H a d) : IsD H a := by
  cases D with
  | dk e _ => exact .inl ⟨_, .inl e⟩
  | dt e _ => exact .inr ⟨_, .inl e⟩
theorem m_get (hu : X.A.units + 1 < cLine) : MFn X "get" isDic mgetF := ⟨fun pins s σ H x u p F I rx r1 hg => by
  obtain ⟨a, rfl, D⟩ := r1.dic hg
  cases rx
  obtain ⟨t1, t2, _⟩ := isD_at I (isD_of D)
  refine ⟨"dict", _, PySem.F.plainAttrs_dict, PySem.F.slot_dict_get, PySem.F.type_dict_get, t1, t2, fun s2 H2 xs us F2 y ps r Q I2 rxs fz sz rb hk rl e k => ?_⟩
  unfold mgetF at e
  split at e
  · obtain ⟨o, h, e⟩ := Option.map_eq_some_iff.mp e
    subst e
    obtain ⟨v, rfl, q1⟩ := rl.one
    obtain ⟨a', e', D'⟩ := rb.dic (dgetF_dic h)
    cases e'
    obtain ⟨w, g, w1, w2⟩ := D'.dget (.rep q1) h
    obtain ⟨u1, rfl, ru⟩ := rxs.one
    exact d_get1 hu I2 g ru fun w' s' I' rw' => ⟨_, H2, I', rw', k _ F2 H2 (.refl fz) (getD_rep w1 w2 .non)⟩
  · obtain ⟨o, h, e⟩ := Option.map_eq_some_iff.mp e
    subst e
    obtain ⟨v, v2, rfl, q1, q2⟩ := rl.two
    obtain ⟨a', e', D'⟩ := rb.dic (dgetF_dic h)
    cases e'
    obtain ⟨w, g, w1, w2⟩ := D'.dget (.rep q1) h
    obtain ⟨u1, u2, rfl, ru, ru2⟩ := rxs.two
    exact d_get2 hu I2 g ru ru2 fun w' s' I' rw' => ⟨_, H2, I', rw', k _ F2 H2 (.refl fz) (getD_rep w1 w2 q2)⟩
  · cases e⟩
def isSeqI : PV → Bool
  | .lst _ => true
  | .fup _ => true
  | _ => false
/-- the first place of an equal item -/
def indexF (d : PV) (ks : List PV) : Option PV := match d, ks with
  | .lst xs, [k] => if okD 60 (.lst xs) && okD 60 k then (xs.findIdx? fun y => eqv y k).map fun j => .int (j : Nat) else none
  | .fup xs, [.int i] => (toInts xs).bind fun is => if i ∈ is then some (.int (is.idxOf i : Nat)) else none
  | _, _ => none
theorem m_index (hu : X.A.units + 65 < cLine) : MFn X "index" isSeqI indexF := ⟨fun pins s σ H x u p F I rx r1 hg => by
  cases p <;> simp [isSeqI] at hg
  · rename_i zs
    obtain ⟨a, its, vs, rfl, ha, ra⟩ := r1.fup
    cases rx
    obtain ⟨e1, _⟩ := I.hok a _ ha
    refine ⟨"tuple", _, PySem.F.plainAttrs_tuple, PySem.F.slot_tuple_index, PySem.F.type_tuple_index, ⟨_, e1, rfl⟩, fun b e => by cases e; exact ⟨_, e1, rfl⟩, fun s2 H2 xs us F2 y ps r Q I2 rxs fz sz rb hk rl e k => ?_⟩
    cases y <;> simp [kind] at hk
    unfold indexF at e
    split at e
    · rename_i h; cases h
    · rename_i ys i h
      cases h
      obtain ⟨is, h1, e⟩ := Option.bind_eq_some_iff.mp e
      split at e
      · rename_i hi
        cases e
        obtain ⟨a', its', vs', e', hb, rb'⟩ := rb.fup
        cases e'
        obtain ⟨v, rfl, q1⟩ := rl.one
        obtain ⟨u1, rfl, ru⟩ := rxs.one
        cases q1
        obtain ⟨t, rfl⟩ := ru
        obtain ⟨us2, rv, pl, _⟩ := I2.tuple (.inl (.inr ⟨_, hb⟩))
        have ei := rb'.ints h1
        subst ei
        exact PySem.SeqAt.tuple_index_ints (show s2.heap.IsTuple a us2.toArray from pl) (Vals.ints rv) hi ⟨.int _, H2, I2.tok _, ⟨_, rfl⟩, k _ F2 H2 (.refl fz) (.int _)⟩
      · cases e
    · cases e
  · rename_i zs
    obtain ⟨a, vs, rfl, ha, ra⟩ := r1.lst
    cases rx
    obtain ⟨_, _, pl, _⟩ := I.list ha
    refine ⟨"list", _, PySem.F.plainAttrs_list, PySem.F.slot_list_index, PySem.F.type_list_index, pl.isList.typeIs, fun b e => by cases e; obtain ⟨o, n, e, c, hd, _⟩ := pl; exact ⟨o, e, hd⟩, fun s2 H2 xs us F2 y ps r Q I2 rxs fz sz rb hk rl e k => ?_⟩
    cases y <;> simp [kind] at hk
    rename_i ys
    match ps, rl, e with
    | [], _, e => simp [indexF] at e
    | _ :: _ :: _, _, e => simp [indexF] at e
    | [i], rl, e =>
      simp only [indexF] at e
      split at e
      · rename_i h
        obtain ⟨j, hj, e⟩ := Option.map_eq_some_iff.mp e
        subst e
        rw [Bool.and_eq_true] at h
        obtain ⟨s1, n1⟩ := okD_shaped h.1
        obtain ⟨s2', n2⟩ := okD_shaped h.2
        obtain ⟨v, rfl, q1⟩ := rl.one
        have dl := rb.dp n1
        simp only [toD] at dl s1
        rw [List.findIdx?_eq_some_iff_getElem] at hj
        obtain ⟨hlt, he, hno⟩ := hj
        refine mt_indexD hu pins s2 σ H2 (.ref a) [v] _ us Q I2 rfl rxs ⟨a, v, toD i, toDs ys, j, toD ys[j], rfl, rfl, dl, q1.dp n2, s1, s2', ?_, he, fun m z' hm hz => ?_, k _ F2 H2 (.refl fz) (.int _)⟩
        · rw [toDs_map, List.getElem?_map, List.getElem?_eq_getElem hlt]; rfl
        · rw [toDs_map, List.getElem?_map] at hz
          obtain ⟨w, hw, ew⟩ := Option.map_eq_some_iff.mp hz
          subst ew
          obtain ⟨hm', ew⟩ := List.getElem?_eq_some_iff.mp hw
          subst ew
          have := hno m hm
          simpa [eqv] using this
      · cases e⟩

/-! ### isinstance -/
inductive TyN where
  | int | bool | str | tuple | list
  deriving DecidableEq
def TyN.name : TyN → String
  | .int => "int"
  | .bool => "bool"
  | .str => "str"
  | .tuple => "tuple"
  | .list => "list"
def tyName : PV → String
  | .non => "NoneType"
  | .bl _ => "bool"
  | .int _ => "int"
  | .str _ => "str"
  | .tup _ => "tuple"
  | .fup _ => "tuple"
  | .lst _ => "list"
  | .dk _ => "dict"
  | .dt _ => "dict"
def isTy (t : TyN) (p : PV) : Bool := match t, p with
  | .int, .int _ => true
  | .int, .bl _ => true
  | .bool, .bl _ => true
  | .str, .str _ => true
  | .tuple, .tup _ => true
  | .tuple, .fup _ => true
  | .list, .lst _ => true
  | _, _ => false
theorem isTy_kit (t : TyN) (p : PV) : kitB (tyName p) t.name = some (isTy t p) := by
  cases t <;> cases p <;> simp only [tyName, TyN.name, isTy] <;> decide +kernel
theorem tyX_of {F : Addr → Prop} {H : Hp} {x : V} {p : PV} (r : BRep X.K F H x p) : TyX X.K H x (.type (tyName p)) := by
  cases r with
  | rep r =>
    cases r with
    | non => exact .base .non
    | bl b => exact .base (.bl b)
    | int b => exact .base (.int b)
    | str b => exact .base (.str b)
    | tup h _ => exact .base (.tup h)
    | fup h _ => exact .fTuple h
    | lst h _ =>
      rcases h.seq with (h | ⟨o, h⟩) | ⟨o, its, n, h, c, _⟩
      · exact .base (.lst h)
      · exact .base (.frz h)
      · exact .kList h c
    | dk _ h _ => exact .base (.dK h)
    | dt _ h _ => exact .base (.dT h)
  | own o =>
    cases o with
    | lst h _ => exact .base (.lst h)
    | dk h _ => exact .base (.dK h)
    | dt h _ => exact .base (.dT h)
/-- isinstance(e, T) -/
def dIsI (t : TyN) (o : Arg) : Den := fun e => (dHead o e).map fun p => (.bl (isTy t p.1), p.2)
theorem ve_isi {ar : Arg} {x : Str} {t : TyN} {p pos' : Pos} (hg : Gl X "isinstance") (hm : X.mg "isinstance" = none) (hx : Gl X x) (hmx : X.mg x = none) (hv : bootBuiltins x = some (.type t.name)) (hn : x ≠ "__name__") (hdb : (x == ("__debug__" : Str)) = false)
    (hs : notStar e = true) (ho : VArg X e ar) : VE X (.Call (.Name "isinstance" p) [e, .Name x pos'] [] pos) (dIsI t ar) := by
  have hb : PE X (.Name x pos') (tC (.ty t.name)) := pe_bltn hx hmx hv rfl hn hdb
  have hb' : bootBuiltins "isinstance" = some (.builtin "isinstance") := by decide +kernel
  cases ho with
  | d h =>
    refine pe_imp (pe_callB call_isi hg hm hb' (pa_cons h (pa_cons hb pa_nil (starEach_cons rfl)) (starEach_cons hs)) (by decide) (by decide) (starEach_cons hs) (star_plain rfl pos)) fun σ H Q sz ⟨F, env, r, env', R, hd, q⟩ => ?_
    unfold dIsI dHead at hd
    obtain ⟨⟨y, e1⟩, h1, hz⟩ := Option.map_eq_some_iff.mp hd
    cases hz
    exact ⟨F, env, y, _, R, h1, fun x' F1 H1 R1 M1 r1 => ⟨x', _, _, _, _, rfl, .ty _, tyX_of (.rep r1), kit_ty (isTy_kit t y), fun _ => q _ F1 H1 R1 M1 (.bl _)⟩⟩
  | b h =>
    refine pe_imp (pe_callB call_isi hg hm hb' (pa_cons h (pa_cons hb pa_nil (starEach_cons rfl)) (starEach_cons hs)) (by decide) (by decide) (starEach_cons hs) (star_plain rfl pos)) fun σ H Q sz ⟨F, env, r, env', R, hd, q⟩ => ?_
    unfold dIsI dHead at hd
    obtain ⟨⟨y, e1⟩, h1, hz⟩ := Option.map_eq_some_iff.mp hd
    obtain ⟨y', h2, h3⟩ := Option.map_eq_some_iff.mp h1
    cases h3
    cases hz
    obtain ⟨x', sx, rx⟩ := slotv_rep R h2
    exact ⟨x', sx, x', _, _, _, _, rfl, .ty _, tyX_of rx, kit_ty (isTy_kit t y), fun _ => q _ F H R .refl (.bl _)⟩

/-! ### truth -/
def truthF : PV → Option Bool
  | .bl b => some b
  | .lst xs => some (!xs.isEmpty)
  | .tup xs => some (!xs.isEmpty)
  | .fup xs => some (!xs.isEmpty)
  | _ => none
theorem RepL.empty {K : PySem.W.Frag} {F : Addr → Prop} {H : Hp} {vs : List V} {xs : List PV} (r : RepL K F H vs xs) : vs.isEmpty = xs.isEmpty := by
  cases r <;> rfl
theorem truth_of {F : Addr → Prop} {H : Hp} {x : V} {p : PV} {b : Bool} (r : BRep X.K F H x p) (h : truthF p = some b) : TruV X.K x H b := by
  cases p <;> simp only [truthF] at h <;> cases h
  · cases r.bl; rfl
  · obtain ⟨a, vs, rfl, h, r⟩ := r.tup
    exact .inr (.inl ⟨vs, SqT.of h, by rw [r.empty]⟩)
  · obtain ⟨a, its, vs, rfl, h, r⟩ := r.fup
    exact .inr (.inl ⟨vs, .inl (.inr ⟨_, h⟩), by rw [r.empty]⟩)
  · obtain ⟨a, vs, rfl, h, r⟩ := r.lst
    exact .inl ⟨vs, h, by rw [r.empty]⟩
def dTruth (o : Arg) : DenT := fun e => (dHead o e).bind fun p => (truthF p.1).map fun b => (b, p.2)
theorem vt_truth {ar : Arg} (he : ∀ whole, isTrue e X.env whole = (do let v ← whole; standAt e.pos; holding [v] (truthy v))) (h : VArg X e ar) : VT X e (dTruth ar) := by
  cases h with
  | d h =>
    refine pt_imp (pt_truth h he) fun σ H Q sz ⟨F, env, r, env', R, hd, q⟩ => ?_
    unfold dTruth dHead at hd
    obtain ⟨⟨p, e1⟩, h1, hd⟩ := Option.bind_eq_some_iff.mp hd
    obtain ⟨b, h2, hz⟩ := Option.map_eq_some_iff.mp hd
    cases hz
    exact ⟨F, env, p, _, R, h1, fun x F1 H1 R1 M1 r1 => ⟨_, truth_of (.rep r1) h2, fun _ => q F1 H1 R1 M1⟩⟩
  | b h =>
    refine pt_imp (pt_truth h he) fun σ H Q sz ⟨F, env, r, env', R, hd, q⟩ => ?_
    unfold dTruth dHead at hd
    obtain ⟨⟨p, e1⟩, h1, hd⟩ := Option.bind_eq_some_iff.mp hd
    obtain ⟨y', h3, h4⟩ := Option.map_eq_some_iff.mp h1
    cases h4
    obtain ⟨b, h2, hz⟩ := Option.map_eq_some_iff.mp hd
    cases hz
    obtain ⟨x', sx, rx⟩ := slotv_rep R h3
    exact ⟨x', sx, _, truth_of rx h2, fun _ => q F H R .refl⟩
end
end PP

/-! PP, part h: and, or, not as values; chains; slices. -/
namespace PP
open PySem PySem.Spec PyProof.Rows L2
section
variable {X : Cx} {a b c e o : Expr} {da db dc : Den} {rest : List Expr} {pos p2 : Pos}
def dAndV (a b : Den) : Den := fun e => (a e).bind fun p => match p.1 with
  | .bl true => b p.2
  | .bl false => some (.bl false, p.2)
  | _ => none
def dOrV (a b : Den) : Den := fun e => (a e).bind fun p => match p.1 with
  | .bl false => b p.2
  | .bl true => some (.bl true, p.2)
  | _ => none
def notF : PV → Option PV
  | .bl b => some (.bl (!b))
  | _ => none
theorem ve_one {op : BoolOp} (h : VE X a da) : VE X (.BoolOp op [a] pos) da := pe_one h
theorem ve_and (ha : VE X a da) (hb : VE X (.BoolOp .And (b :: rest) pos) db) : VE X (.BoolOp .And (a :: b :: rest) pos) (dAndV da db) :=
  pe_imp (pe_and ha hb) fun σ H Q sz ⟨F, env, r, env', R, hd, q⟩ => by
    unfold dAndV at hd
    obtain ⟨⟨p, e1⟩, h1, hd⟩ := Option.bind_eq_some_iff.mp hd
    refine ⟨F, env, p, e1, R, h1, fun x F1 H1 R1 M1 r1 => ?_⟩
    cases p <;> simp only at hd <;> try cases hd
    rename_i k
    cases r1
    cases k with
    | true => exact ⟨true, rfl, by rw [if_pos rfl]; exact ⟨F1, e1, r, env', R1, hd, fun x F2 H2 R2 M2 r2 _ => q x F2 H2 R2 (M1.trans M2) r2⟩⟩
    | false =>
      cases hd
      exact ⟨false, rfl, by rw [if_neg Bool.false_ne_true]; exact fun _ => q _ F1 H1 R1 M1 (.bl _)⟩
theorem ve_or (ha : VE X a da) (hb : VE X (.BoolOp .Or (b :: rest) pos) db) : VE X (.BoolOp .Or (a :: b :: rest) pos) (dOrV da db) :=
  pe_imp (pe_or ha hb) fun σ H Q sz ⟨F, env, r, env', R, hd, q⟩ => by
    unfold dOrV at hd
    obtain ⟨⟨p, e1⟩, h1, hd⟩ := Option.bind_eq_some_iff.mp hd
    refine ⟨F, env, p, e1, R, h1, fun x F1 H1 R1 M1 r1 => ?_⟩
    cases p <;> simp only at hd <;> try cases hd
    rename_i k
    cases r1
    cases k with
    | false => exact ⟨false, rfl, by rw [if_neg Bool.false_ne_true]; exact ⟨F1, e1, r, env', R1, hd, fun x F2 H2 R2 M2 r2 _ => q x F2 H2 R2 (M1.trans M2) r2⟩⟩
    | true =>
      cases hd
      exact ⟨true, rfl, by rw [if_pos rfl]; exact fun _ => q _ F1 H1 R1 M1 (.bl _)⟩
theorem ve_not (ha : VE X a da) : VE X (.UnaryOp .Not a pos) (dUn notF da) :=
  pe_imp (pe_not ha) fun σ H Q sz ⟨F, env, r, env', R, hd, q⟩ => by
    unfold dUn at hd
    obtain ⟨⟨p, e1⟩, h1, hd⟩ := Option.bind_eq_some_iff.mp hd
    obtain ⟨z, h2, hz⟩ := Option.map_eq_some_iff.mp hd
    cases hz
    refine ⟨F, env, p, _, R, h1, fun x F1 H1 R1 M1 r1 => ?_⟩
    cases p <;> simp only [notF] at h2 <;> cases h2
    cases r1
    exact ⟨_, rfl, fun _ => q _ F1 H1 R1 M1 (.bl _)⟩
def negF : PV → Option PV
  | .int i => some (.int (-i))
  | _ => none
theorem un_negF : UnR X (unaryOp .USub) (rU1 X.K negF) := by
  intro pins s σ H x v Q I rx ⟨F, p, r, fz, sz, r1, e, k⟩
  cases p <;> simp only [negF] at e <;> cases e
  cases r1.int
  exact un_neg pins s σ H _ v Q I rx ⟨_, rfl, k _ F H (.refl fz) (.int _)⟩
theorem opr_sz {g : Value → Value → Sem Value} {r : R2} (h : OpR X g r) : OpR X g (fun x y H Q => r x y H fun v H' => Sized H' → Q v H') := fun pins s σ H x y v u Q I rx ry q =>
  thn (h pins s σ H x y v u _ I rx ry q) fun w s' ⟨z, H', I', r, k⟩ => ⟨z, H', I', r, k (sized_of I'.hok)⟩
/-- a op b op' c -/
def dChain (f g : PV → PV → Option PV) (a b c : Den) : Den := fun e => (a e).bind fun p => (b p.2).bind fun q => (f p.1 q.1).bind fun z => match z with
  | .bl true => (c q.2).bind fun r => (g q.1 r.1).map fun y => (y, r.2)
  | .bl false => some (.bl false, q.2)
  | _ => none
theorem ve_chain {op op' : CmpOp} {f g : PV → PV → Option PV} (ho : OpR X (compareOp op) (rB X.K f)) (ho' : OpR X (compareOp op') (rB X.K g)) (ha : VE X a da) (hb : VE X b db) (hc : VE X c dc) (hm : lastMarks [op, op'] [b, c] = false) :
    VE X (.Compare a [op, op'] [b, c] pos) (dChain f g da db dc) :=
  pe_imp (pe_chain (opr_sz ho) ho' ha hb hc hm) fun σ H Q sz ⟨F, env, r, env', R, hd, q⟩ => by
    unfold dChain at hd
    obtain ⟨⟨p, e1⟩, h1, hd⟩ := Option.bind_eq_some_iff.mp hd
    obtain ⟨⟨p2, e2⟩, h2, hd⟩ := Option.bind_eq_some_iff.mp hd
    obtain ⟨z, h3, hd⟩ := Option.bind_eq_some_iff.mp hd
    refine ⟨F, env, p, e1, R, h1, fun x F1 H1 R1 M1 r1 => ⟨F1, e1, p2, e2, R1, h2, fun y F2 H2 R2 M2 r2 => ⟨F2, p, p2, z, R2.fz, R2.sz, .rep (r1.ex (M2.ex R1)), .rep r2, h3, fun v F3 H3 N r3 s3 => ?_⟩⟩⟩
    cases z <;> simp only at hd <;> try cases hd
    rename_i k
    cases r3
    cases k with
    | false =>
      cases hd
      exact ⟨false, rfl, by
        rw [if_neg Bool.false_ne_true]
        exact fun _ => q _ F3 H3 (N.rel R2 s3) ((M1.trans M2).trans N.mv) (.bl _)⟩
    | true =>
      refine ⟨true, rfl, ?_⟩
      rw [if_pos rfl]
      obtain ⟨⟨p3, e3⟩, h4, hd⟩ := Option.bind_eq_some_iff.mp hd
      obtain ⟨y', h5, hz⟩ := Option.map_eq_some_iff.mp hd
      cases hz
      have R3 := N.rel R2 s3
      refine ⟨F3, e2, p3, e3, R3, h4, fun w F4 H4 R4 M4 r4 => ⟨F4, p2, p3, r, R4.fz, R4.sz, .rep (r2.ex (Ex.trans N.ex (M4.ex R3))), .rep r4, h5, fun v F5 H5 N5 r5 s5 => ?_⟩⟩
      exact q v F5 H5 (N5.rel R4 s5) (((M1.trans M2).trans N.mv).trans (M4.trans N5.mv)) r5

/-! ### slices -/
/-- the items xs[lo:hi] -/
def cutP (xs : List PV) (lo hi : Option Int) : List PV := (xs.drop (HT.sIx xs.length 0 lo)).take (HT.sIx xs.length xs.length hi - HT.sIx xs.length 0 lo)
/-- a slice of a list, of a tuple (not the whole of it) -/
def sliceF (p : PV) (lo hi : Option Int) : Option PV := match p with
  | .lst xs => some (.lst (cutP xs lo hi))
  | p => (tupOf p).bind fun xs => if HT.sIx xs.length 0 lo = 0 ∧ HT.sIx xs.length xs.length hi = xs.length then none else some (.tup (cutP xs lo hi))
abbrev DenO := PEn → Option (Option Int × PEn)
def dNoPart : DenO := fun e => some (none, e)
def dPart (a : Den) : DenO := fun e => (a e).bind fun p => match p.1 with
  | .int i => some (some i, p.2)
  | _ => none
def tO (K : PySem.W.Frag) (d : DenO) : TO := fun σ H Q => ∃ F env r env', Rel K F H env σ ∧ d env = some (r, env') ∧ ∀ (F' : Addr → Prop) (H' : Hp), Rel K F' H' env' σ → Mv F H env σ F' H' env' σ → Q r H'
theorem po_imp {lo : Option Expr} {t t' : TO} (h : PO X lo t) (i : ∀ σ H Q, Sized H → t' σ H Q → t σ H (fun v H' => Sized H' → Q v H')) : PO X lo t' := ⟨fun pins s σ H Q I hw =>
  thn (h.run pins s σ H _ I (i σ H Q (sized_of I.hok) hw)) fun u s' ⟨v, H', I', r, q⟩ => ⟨v, H', I', r, q (sized_of I'.hok)⟩⟩
theorem vo_none : PO X none (tO X.K dNoPart) := po_imp po_none fun σ H Q sz ⟨F, env, r, env', R, hd, q⟩ => by
  cases hd
  exact fun _ => q F H R .refl
theorem vo_some (h : VE X a da) : PO X (some a) (tO X.K (dPart da)) := po_imp (po_some h) fun σ H Q sz ⟨F, env, r, env', R, hd, q⟩ => by
  unfold dPart at hd
  obtain ⟨⟨p, e1⟩, h1, hd⟩ := Option.bind_eq_some_iff.mp hd
  refine ⟨F, env, p, e1, R, h1, fun x F1 H1 R1 M1 r1 => ?_⟩
  cases p <;> simp only at hd <;> cases hd
  cases r1
  exact ⟨_, rfl, fun _ => q F1 H1 R1 M1⟩
def dSlice (o : Arg) (lo hi : DenO) : Den := fun e => (dHead o e).bind fun p => (lo p.2).bind fun l => (hi l.2).bind fun h => (dBack o p.1 h.2).bind fun y => (sliceF y l.1 h.1).map fun z => (z, h.2)
/-- slices by values -/
theorem sl_any : SlR X (fun x lo hi H Q => ∃ (F : Addr → Prop) (p r : PV), (∀ a, F a → ∃ o, H a = some o) ∧ BRep X.K F H x p ∧ sliceF p lo hi = some r ∧ ∀ (z : V) (F' : Addr → Prop) (H' : Hp), Nw F H F' H' → Rep X.K F' H' z r → Q z H') := by
  intro pins s σ H x v vl vu lo hi sl Q I rx hs pl pu ⟨F, p, r, fz, r1, e, k⟩
  unfold sliceF at e
  split at e
  · rename_i xs
    cases e
    obtain ⟨a, vs, rfl, h, rl⟩ := r1.lst
    refine sl_list pins s σ H _ v vl vu lo hi sl Q I rx hs pl pu ⟨a, vs, rfl, h, fun p np => ?_⟩
    have e : RepL X.K F H (cutV vs lo hi) (cutP xs lo hi) := by
      unfold cutV cutP
      rw [rl.length]
      exact (rl.drop _).take _
    obtain ⟨N, R⟩ := new_list fz np e
    exact k _ _ _ N R
  · obtain ⟨xs, ht, e⟩ := Option.bind_eq_some_iff.mp e
    split at e
    · cases e
    · rename_i hw
      cases e
      obtain ⟨a, vs, rfl, h, rl⟩ := r1.tupOf ht
      refine sl_tup pins s σ H _ v vl vu lo hi sl Q I rx hs pl pu ⟨a, vs, rfl, h, by rw [rl.length]; exact hw, fun p np => ?_⟩
      have e : RepL X.K F H (cutV vs lo hi) (cutP xs lo hi) := by
        unfold cutV cutP
        rw [rl.length]
        exact (rl.drop _).take _
      obtain ⟨N, R⟩ := new_tup fz np e
      exact k _ _ _ N R
theorem ve_slice {lo hi : Option Expr} {dl dh : DenO} {ar : Arg} (ho : VArg X o ar) (hl : PO X lo (tO X.K dl)) (hh : PO X hi (tO X.K dh)) : VE X (.Subscript o (.Slice lo hi none p2) pos) (dSlice ar dl dh) := by
  have fin : ∀ {F F1 F2 F3 : Addr → Prop} {H H1 H2 H3 : Hp} {env e1 e2 e3 : PEn} {σ : L2.St} {Q : VK} {r : PV}, Mv F H env σ F1 H1 e1 σ → Mv F1 H1 e1 σ F2 H2 e2 σ → Mv F2 H2 e2 σ F3 H3 e3 σ → Rel X.K F3 H3 e3 σ →
      (∀ (x : V) (F' : Addr → Prop) (H' : Hp), Rel X.K F' H' e3 σ → Mv F H env σ F' H' e3 σ → Rep X.K F' H' x r → Q x H') → ∀ (z : V) (F' : Addr → Prop) (H' : Hp), Nw F3 H3 F' H' → Rep X.K F' H' z r → Sized H' → Q z H' :=
    fun m1 m2 m3 R3 q z F' H' N r s => q z F' H' (N.rel R3 s) ((m1.trans m2).trans (m3.trans N.mv)) r
  cases ho with
  | d h =>
    refine pe_imp (pe_slice sl_any h hl hh) fun σ H Q sz ⟨F, env, r, env', R, hd, q⟩ => ?_
    unfold dSlice at hd
    obtain ⟨⟨p, e1⟩, h1, hd⟩ := Option.bind_eq_some_iff.mp hd
    obtain ⟨⟨l, e2⟩, h2, hd⟩ := Option.bind_eq_some_iff.mp hd
    obtain ⟨⟨h', e3⟩, h3, hd⟩ := Option.bind_eq_some_iff.mp hd
    obtain ⟨y, h4, hd⟩ := Option.bind_eq_some_iff.mp hd
    obtain ⟨z, h5, hz⟩ := Option.map_eq_some_iff.mp hd
    cases hz
    cases h4
    exact ⟨F, env, p, e1, R, h1, fun x F1 H1 R1 M1 r1 => ⟨F1, e1, l, e2, R1, h2, fun F2 H2 R2 M2 => ⟨F2, e2, h', _, R2, h3, fun F3 H3 R3 M3 =>
      ⟨F3, p, r, R3.fz, .rep ((r1.ex (M2.ex R1)).ex (M3.ex R2)), h5, fun z F' H' N r s => fin M1 M2 M3 R3 q z F' H' N r s⟩⟩⟩⟩
  | b h =>
    refine pe_imp (pe_slice sl_any h hl hh) fun σ H Q sz ⟨F, env, r, env', R, hd, q⟩ => ?_
    unfold dSlice at hd
    obtain ⟨⟨p, e1⟩, h1, hd⟩ := Option.bind_eq_some_iff.mp hd
    obtain ⟨⟨l, e2⟩, h2, hd⟩ := Option.bind_eq_some_iff.mp hd
    obtain ⟨⟨h', e3⟩, h3, hd⟩ := Option.bind_eq_some_iff.mp hd
    obtain ⟨y, h4, hd⟩ := Option.bind_eq_some_iff.mp hd
    obtain ⟨z, h5, hz⟩ := Option.map_eq_some_iff.mp hd
    cases hz
    obtain ⟨y', hy, e⟩ := Option.map_eq_some_iff.mp h1
    cases e
    obtain ⟨x', sx, _⟩ := slotv_rep R hy
    refine ⟨x', sx, F, _, l, e2, R, h2, fun F2 H2 R2 M2 => ⟨F2, e2, h', _, R2, h3, fun F3 H3 R3 M3 => ?_⟩⟩
    obtain ⟨x2, sx2, r2⟩ := slotv_rep R3 h4
    rw [sx] at sx2; cases sx2
    exact ⟨F3, y, r, R3.fz, r2, h5, fun z F' H' N r s => fin .refl M2 M3 R3 q z F' H' N r s⟩
end
end PP

/-! PP, part i: targets, what is walked, comprehensions. -/
namespace PP
open PySem PySem.Spec PyProof.Rows L2

/-! ### targets -/
inductive Tgt where
  | nm (i : Nat) | tp (ts : List Tgt)
mutual
def tgtF : Tgt → PV → PEn → Option PEn
  | .nm i, x, e => if i < e.length then some (e.set i (.val x)) else none
  | .tp ts, x, e => match tupOf x with
    | some xs => tgtsF ts xs e
    | none => none
def tgtsF : List Tgt → List PV → PEn → Option PEn
  | [], [], e => some e
  | t :: ts, x :: xs, e => (tgtF t x e).bind fun e1 => tgtsF ts xs e1
  | _, _, _ => none
end
mutual
def Tgt.slots : Tgt → List Nat
  | .nm i => [i]
  | .tp ts => Tgt.slotss ts
def Tgt.slotss : List Tgt → List Nat
  | [] => []
  | t :: ts => t.slots ++ Tgt.slotss ts
end

section
variable {K : PySem.W.Frag} {F F' : Addr → Prop} {H H' : Hp} {env env' : PEn} {σ σ' : L2.St}
/-- a slot gets a value -/
theorem Rel.set (R : Rel K F H env σ) {i : Nat} {x : V} {p : PV} (hi : i < env.length) (r : Rep K F H x p) : Rel K F H (env.set i (.val p)) (σ.set i (some x)) := by
  have hs : i < σ.length := by rw [← R.len]; exact hi
  have ov : ∀ j v, (env.set i (.val p))[j]? = some (SlP.own v) → j ≠ i ∧ env[j]? = some (SlP.own v) := fun j v e => by
    by_cases hj : i = j
    · subst hj; rw [List.getElem?_set_self hi] at e; cases e
    · rw [List.getElem?_set_ne hj] at e; exact ⟨fun z => hj z.symm, e⟩
  refine ⟨by simpa using R.len, fun j v e => ?_, fun j v e => ?_, fun j k v w a e1 e2 s1 s2 => ?_, R.fz, R.sz⟩
  · by_cases hj : i = j
    · subst hj
      rw [List.getElem?_set_self hi] at e
      cases e
      exact ⟨x, List.getElem?_set_self hs, r⟩
    · rw [List.getElem?_set_ne hj] at e
      rw [List.getElem?_set_ne hj]
      exact R.val j v e
  · obtain ⟨hj, e⟩ := ov j v e
    rw [List.getElem?_set_ne (Ne.symm hj)]
    exact R.own j v e
  · obtain ⟨h1, e1⟩ := ov j v e1
    obtain ⟨h2, e2⟩ := ov k w e2
    rw [List.getElem?_set_ne (Ne.symm h1)] at s1
    rw [List.getElem?_set_ne (Ne.symm h2)] at s2
    exact R.apart j k v w a e1 e2 s1 s2
theorem Mv.set {i : Nat} {x : V} {p : PV} (hi : i < env.length) : Mv F H env σ F H (env.set i (.val p)) (σ.set i (some x)) :=
  ⟨fun _ h => h, fun _ _ h _ => h, fun _ h => .inl h, fun a ⟨j, v, e, s⟩ => by
    by_cases hj : i = j
    · subst hj; rw [List.getElem?_set_self hi] at e; cases e
    · rw [List.getElem?_set_ne hj] at e s; exact .inl ⟨j, v, e, s⟩, fun _ o h => ⟨o, h⟩⟩
end

/-- a target's reading -/
def tG (K : PySem.W.Frag) (t : Tgt) : TG := fun x σ H Q => ∃ F env p env', Rel K F H env σ ∧ Rep K F H x p ∧ tgtF t p env = some env' ∧
  ∀ (σ' : L2.St), Rel K F H env' σ' → Mv F H env σ F H env' σ' → (∀ i, i ∉ t.slots → σ'[i]? = σ[i]? ∧ env'[i]? = env[i]?) → Q σ' H
def tGs (K : PySem.W.Frag) (ts : List Tgt) : TGs := fun xs σ H Q => ∃ F env ps env', Rel K F H env σ ∧ RepL K F H xs ps ∧ tgtsF ts ps env = some env' ∧
  ∀ (σ' : L2.St), Rel K F H env' σ' → Mv F H env σ F H env' σ' → (∀ i, i ∉ Tgt.slotss ts → σ'[i]? = σ[i]? ∧ env'[i]? = env[i]?) → Q σ' H
section
variable {X : Cx} {e : Expr} {es : List Expr} {pos : Pos}
theorem pg_imp {t t' : TG} (h : PG X e t) (i : ∀ x σ H Q, t' x σ H Q → t x σ H Q) : PG X e t' := ⟨fun pins s σ H v u Q I r hw => h.run pins s σ H v u Q I r (i v σ H Q hw)⟩
theorem pgs_imp {t t' : TGs} (h : PGs X es t) (i : ∀ x σ H Q, t' x σ H Q → t x σ H Q) : PGs X es t' := ⟨fun pins s σ H v u Q I r hw => h.run pins s σ H v u Q I r (i v σ H Q hw)⟩
theorem vg_nm {i : Nat} (h : PG X e (gName i)) : PG X e (tG X.K (.nm i)) := pg_imp h fun x σ H Q ⟨F, env, p, env', R, r, hd, q⟩ => by
  unfold tgtF at hd
  split at hd
  · rename_i hi
    cases hd
    refine q _ (R.set hi r) (Mv.set hi) fun j hj => ?_
    simp only [Tgt.slots, List.mem_singleton] at hj
    rw [List.getElem?_set_ne (Ne.symm hj), List.getElem?_set_ne (Ne.symm hj)]
    exact ⟨rfl, rfl⟩
  · cases hd
theorem vgs_nil : PGs X [] (tGs X.K []) := pgs_imp pgs_nil fun xs σ H Q ⟨F, env, ps, env', R, r, hd, q⟩ => by
  cases ps with
  | nil =>
    cases r
    simp only [tgtsF] at hd
    cases hd
    exact ⟨rfl, q σ R .refl fun _ _ => ⟨rfl, rfl⟩⟩
  | cons _ _ => simp [tgtsF] at hd
theorem assignEach_len {env : Env} : ∀ es : List Expr, (assignEach es env).length = es.length
  | [] => rfl
  | e :: es => by
    have ih := assignEach_len (env := env) es
    cases e <;> simp [assignEach, ih]
theorem assignEach_cons {env : Env} (h : notStar e = true) : (assignEach (e :: es) env).map (·.2) = assign e env :: (assignEach es env).map (·.2) := by
  cases e <;> first | rfl | (cases h)
theorem assignEach_star {env : Env} : ∀ {es : List Expr}, es.all notStar = true → (assignEach es env).findIdx? (·.1) = none
  | [], _ => rfl
  | e :: es, h => by
    simp only [List.all_cons, Bool.and_eq_true] at h
    have ih := assignEach_star (env := env) h.2
    have e1 : assignEach (e :: es) env = (false, assign e env) :: assignEach es env := by
      cases e <;> first | rfl | (cases h.1)
    rw [e1, List.findIdx?_cons]
    simp [ih]
theorem vgs_cons {t : Tgt} {ts : List Tgt} (hn : notStar e = true) (h1 : PG X e (tG X.K t)) (h2 : PGs X es (tGs X.K ts)) : PGs X (e :: es) (tGs X.K (t :: ts)) :=
  pgs_imp (pgs_cons h1 h2 (assignEach_cons hn)) fun xs σ H Q ⟨F, env, ps, env', R, r, hd, q⟩ => by
    cases ps with
    | nil => simp [tgtsF] at hd
    | cons p ps =>
      cases r with
      | cons r rr =>
        simp only [tgtsF] at hd
        obtain ⟨e1, h1, h2⟩ := Option.bind_eq_some_iff.mp hd
        refine ⟨_, _, rfl, F, env, p, e1, R, r, h1, fun σ1 R1 M1 k1 => ⟨F, e1, ps, env', R1, rr, h2, fun σ2 R2 M2 k2 => ?_⟩⟩
        refine q σ2 R2 (M1.trans M2) fun i hi => ?_
        simp only [Tgt.slotss, List.mem_append, not_or] at hi
        obtain ⟨a, b⟩ := k1 i hi.1
        obtain ⟨c, d⟩ := k2 i hi.2
        exact ⟨c.trans a, d.trans b⟩
theorem tgts_len : ∀ {ts : List Tgt} {xs : List PV} {e e' : PEn}, tgtsF ts xs e = some e' → xs.length = ts.length
  | [], [], _, _, _ => rfl
  | [], _ :: _, _, _, h => by simp [tgtsF] at h
  | _ :: _, [], _, _, h => by simp [tgtsF] at h
  | t :: ts, x :: xs, _, _, h => by
    simp only [tgtsF] at h
    obtain ⟨e1, h1, h2⟩ := Option.bind_eq_some_iff.mp h
    simp [tgts_len h2]
theorem vg_tp {k : Nat} {ts : List Tgt} (hc : X.calm = true) (hn : es.all notStar = true) (hl : es.length = ts.length) (h : PGs X es (tGs X.K ts)) : PG X (.Tuple es k pos) (tG X.K (.tp ts)) :=
  pg_imp (pg_tup (n := es.length) hc h (assignEach_len es) (assignEach_star hn)) fun x σ H Q ⟨F, env, p, env', R, r, hd, q⟩ => by
    unfold tgtF at hd
    split at hd
    · rename_i xs hx
      obtain ⟨a, vs, rfl, hs, rl⟩ := (BRep.rep r).tupOf hx
      refine ⟨a, vs, rfl, hs, ?_, F, env, xs, env', R, rl, hd, fun σ' R' M' k' => q σ' R' M' ?_⟩
      · rw [rl.length, tgts_len hd, hl]
      · simpa [Tgt.slots] using k'
    · cases hd

/-! ### what is walked -/
abbrev DenI := PEn → Option (List PV × PEn)
/-- J walks the items, from H on -/
def Yld (K : PySem.W.Frag) (F : Addr → Prop) (H : Hp) (J : It) (items : List PV) : Prop :=
  ∀ (F2 : Addr → Prop) (H2 : Hp), Ex F H F2 H2 → (∀ a, F2 a → ∃ o, H2 a = some o) → ∀ i, (∀ p, items[i]? = some p → J.go i H2 ∧ ∀ x H3, J.yld i H2 x H3 → ∃ F3, Nw F2 H2 F3 H3 ∧ Rep K F3 H3 x p ∧ (Sized H2 → Sized H3)) ∧ (items.length ≤ i → J.stop i H2)
theorem Yld.ex {K : PySem.W.Frag} {F F' : Addr → Prop} {H H' : Hp} {J : It} {items : List PV} (y : Yld K F H J items) (e : Ex F H F' H') : Yld K F' H' J items := fun F2 H2 e2 fz => y F2 H2 (e.trans e2) fz
def tI (K : PySem.W.Frag) (d : DenI) : TI := fun σ H R => ∃ F env items env', Rel K F H env σ ∧ d env = some (items, env') ∧
  ∀ (J : It) (F' : Addr → Prop) (H' : Hp), Rel K F' H' env' σ → Mv F H env σ F' H' env' σ → Yld K F' H' J items → items.length ≤ sizeLine → R J H'
abbrev VI (X : Cx) (tg : Expr) (e : Expr) (d : DenI) : Prop := PI X tg e (tI X.K d)
variable {tg : Expr}
theorem pi_imp {t t' : TI} (h : PI X tg e t) (i : ∀ σ H R, Sized H → t' σ H R → t σ H (fun J H' => Sized H' → R J H')) : PI X tg e t' := ⟨fun pins s σ H R I hw =>
  thn (h.run pins s σ H _ I (i σ H R (sized_of I.hok) hw)) fun u s' h2 => thn h2 fun itv s2 ⟨it, fp, tn, J, H', e1, I', T, st, f, q⟩ => ⟨it, fp, tn, J, H', e1, I', T, st, f, q (sized_of I'.hok)⟩⟩
/-- over a list or a tuple -/
def iSq (K : PySem.W.Frag) (tl : TE) : TI := fun σ H R => tl σ H fun x H1 => ∃ a, x = .ref a ∧ ((∃ xs, SqL K H1 a xs ∧ R (Itl K a) H1) ∨ ∃ xs, SqT K H1 a xs ∧ R (Itt K a) H1)
theorem pi_sq {tl : TE} (hl : PE X e tl) : PI X tg e (iSq X.K tl) := by
  have h1 := pi_list (tg := tg) hl
  have h2 := pi_tup (tg := tg) hl
  refine ⟨fun pins s σ H R I h => ?_⟩
  refine thn (hl.run pins s σ H _ I h) fun v s1 ⟨x, H1, I1, r1, a, ea, q1⟩ => ?_
  subst ea
  cases r1
  rcases q1 with ⟨xs, hq, q⟩ | ⟨xs, hq, q⟩
  · obtain ⟨its, rv, p, hz⟩ := I1.list hq
    refine wpAny_pyIter_list p.isList ⟨s1.heap.objs.size, [s1.heap.objs.size], _, _, H1, rfl, I1.kept (t' := s1.toks) fun b o e => Heap.get?_push_of_some _ e, turn_list a _, ⟨_, Heap.get?_push_size _ rfl, rfl, rfl⟩, fun b hb => ?_, q⟩
    rw [List.mem_singleton] at hb
    rw [hb]
    exact I1.fpOk (Nat.le_refl _) (I1.hok.fresh (Nat.le_refl _))
  · obtain ⟨its, rv, p, hz⟩ := I1.tuple hq
    refine wpAny_pyIter_tuple (show s1.heap.IsTuple a its.toArray from p) ⟨s1.heap.objs.size, [s1.heap.objs.size], _, _, H1, rfl, I1.kept (t' := s1.toks) fun b o e => Heap.get?_push_of_some _ e, turn_tuple a _, ⟨_, Heap.get?_push_size _ rfl, rfl, rfl⟩, fun b hb => ?_, q⟩
    rw [List.mem_singleton] at hb
    rw [hb]
    exact I1.fpOk (Nat.le_refl _) (I1.hok.fresh (Nat.le_refl _))
def iSeq (a : Den) : DenI := fun e => (a e).bind fun p => (seqOf p.1).map fun xs => (xs, p.2)
theorem FzL.sql_ex {K : PySem.W.Frag} {F F' : Addr → Prop} {H H' : Hp} {a : Addr} {vs : List V} (h : FzL K F H a vs) (e : Ex F H F' H') : SqL K H' a vs := (h.ex e).seq
theorem yld_lst {K : PySem.W.Frag} {F : Addr → Prop} {H : Hp} {a : Addr} {vs : List V} {xs : List PV} (h : FzL K F H a vs) (r : RepL K F H vs xs) : Yld K F H (Itl K a) xs := fun F2 H2 e fz i => by
  have h2 := h.sql_ex e
  refine ⟨fun p hp => ?_, fun hi => ⟨vs, h2, by rw [r.length]; exact hi⟩⟩
  obtain ⟨v, hv, rv⟩ := r.get hp
  refine ⟨⟨vs, v, h2, hv⟩, fun x H3 ⟨e3, y⟩ => ?_⟩
  subst e3
  have := y vs h2
  rw [hv] at this; cases this
  exact ⟨F2, .refl fz, rv.ex e, fun s => s⟩
theorem yld_tup {K : PySem.W.Frag} {F : Addr → Prop} {H : Hp} {a : Addr} {vs : List V} {xs : List PV} (h : H a = some (.tup vs) ∨ ∃ o, H a = some (.frz o (.tup vs))) (r : RepL K F H vs xs) : Yld K F H (Itt K a) xs := fun F2 H2 e fz i => by
  have h2 : SqT K H2 a vs := by
    rcases h with h | ⟨o, h⟩
    · exact SqT.of (e.tups _ _ h)
    · exact .inl (.inr ⟨_, e.frzs _ _ _ h⟩)
  refine ⟨fun p hp => ?_, fun hi => ⟨vs, h2, by rw [r.length]; exact hi⟩⟩
  obtain ⟨v, hv, rv⟩ := r.get hp
  refine ⟨⟨vs, v, h2, hv⟩, fun x H3 ⟨e3, y⟩ => ?_⟩
  subst e3
  have := y vs h2
  rw [hv] at this; cases this
  exact ⟨F2, .refl fz, rv.ex e, fun s => s⟩
theorem sql_small {K : PySem.W.Frag} {H : Hp} {a : Addr} {vs : List V} (s : Sized H) (h : SqL K H a vs) : vs.length ≤ sizeLine := by
  rcases h with h | ⟨o, its, n, _, _, _, _, hz, r⟩
  · exact (s a).1 vs (.inl h)
  · have := r.length
    simp only [Array.length_toList] at this
    omega
theorem vi_seq {da : Den} (h : VE X e da) : VI X tg e (iSeq da) := pi_imp (pi_sq h) fun σ H R sz ⟨F, env, items, env', Rl, hd, q⟩ => by
  unfold iSeq at hd
  obtain ⟨⟨p, e1⟩, h1, hd⟩ := Option.bind_eq_some_iff.mp hd
  obtain ⟨xs, h2, hz⟩ := Option.map_eq_some_iff.mp hd
  cases hz
  refine ⟨F, env, p, _, Rl, h1, fun x F1 H1 R1 M1 r1 => ?_⟩
  cases p <;> simp only [seqOf] at h2 <;> cases h2
  · obtain ⟨a, vs, rfl, h, r⟩ := (BRep.rep r1).tup
    exact ⟨a, rfl, .inr ⟨vs, SqT.of h, fun _ => q _ F1 H1 R1 M1 (yld_tup (.inl h) r) (by rw [← r.length]; exact (R1.sz a).1 vs (.inr (.inl h)))⟩⟩
  · obtain ⟨a, its, vs, rfl, h, r⟩ := (BRep.rep r1).fup
    exact ⟨a, rfl, .inr ⟨vs, .inl (.inr ⟨_, h⟩), fun _ => q _ F1 H1 R1 M1 (yld_tup (.inr ⟨_, h⟩) r) (by rw [← r.length]; exact (R1.sz a).1 vs (.inr (.inr ⟨_, h⟩)))⟩⟩
  · cases r1 with
    | @lst a vs _ h r => exact ⟨a, rfl, .inl ⟨vs, h.seq, fun _ => q _ F1 H1 R1 M1 (yld_lst h r) (by rw [← r.length]; exact sql_small R1.sz h.seq)⟩⟩
/-- lo, lo + 1, .., n of them -/
def rngP (lo : Int) (n : Nat) : List PV := (List.range n).map fun i => .int (lo + (i : Nat))
theorem rngP_len (lo : Int) (n : Nat) : (rngP lo n).length = n := by simp [rngP]
def iRange (as : List Den) : DenI := fun e => (dArgs as e).bind fun p => match p.1 with
  | [.int j] => if -(2 ^ 62) ≤ j ∧ j ≤ 16777216 then some (rngP 0 j.toNat, p.2) else none
  | [.int i, .int j] => if -(2 ^ 62) ≤ i ∧ i < 2 ^ 62 ∧ -(2 ^ 62) ≤ j ∧ j < 2 ^ 62 ∧ j - i ≤ 16777216 then some (rngP i (j - i).toNat, p.2) else none
  | _ => none
theorem yld_rng {K : PySem.W.Frag} {F : Addr → Prop} {H : Hp} {lo : Int} {n : Nat} : Yld K F H (Itr lo n) (rngP lo n) := fun F2 H2 e fz i => by
  refine ⟨fun p hp => ?_, fun hi => by
    have : n ≤ i := by simpa [rngP] using hi
    exact this⟩
  unfold rngP at hp
  rw [List.getElem?_map] at hp
  obtain ⟨j, hj, e1⟩ := Option.map_eq_some_iff.mp hp
  have hlt : i < n := by
    have := (List.getElem?_eq_some_iff.mp hj).1
    simpa using this
  rw [List.getElem?_range hlt] at hj
  cases hj
  subst e1
  refine ⟨hlt, fun x H3 ⟨e3, e4⟩ => ?_⟩
  subst e3 e4
  exact ⟨F2, .refl fz, .int _, fun s => s⟩
theorem vi_range1 {a : Expr} {da : Den} {p : Pos} (hg : Gl X "range") (hm : X.mg "range" = none) (hs : notStar a = true) (ha : VE X a da) : VI X tg (.Call (.Name "range" p) [a] [] pos) (iRange [da]) :=
  pi_imp (pi_range1 hg hm (va_cons hs ha va_nil) (starEach_cons hs)) fun σ H R sz ⟨F, env, items, env', Rl, hd, q⟩ => by
    unfold iRange at hd
    obtain ⟨⟨ps, e1⟩, h1, hd⟩ := Option.bind_eq_some_iff.mp hd
    have hl := dArgs_len h1
    refine ⟨F, env, ps, e1, Rl, h1, fun xs F1 H1 R1 M1 r1 => ?_⟩
    simp only at hd
    split at hd
    · split at hd
      · rename_i h
        cases hd
        obtain ⟨v, rfl, rv⟩ := r1.one
        cases rv
        exact ⟨_, rfl, h.1, by omega, fun _ => q _ F1 H1 R1 M1 yld_rng (by rw [rngP_len, sizeLine_eq]; omega)⟩
      · cases hd
    · simp at hl
    · cases hd
theorem vi_range2 {a b : Expr} {da db : Den} {p : Pos} (hg : Gl X "range") (hm : X.mg "range" = none) (hs : notStar a = true) (hs2 : notStar b = true) (ha : VE X a da) (hb : VE X b db) : VI X tg (.Call (.Name "range" p) [a, b] [] pos) (iRange [da, db]) :=
  pi_imp (pi_range2 hg hm (va_cons hs ha (va_cons hs2 hb va_nil)) ((starEach_cons hs).trans (by rw [starEach_cons hs2]; rfl)) (starEach_cons hs2)) fun σ H R sz ⟨F, env, items, env', Rl, hd, q⟩ => by
    unfold iRange at hd
    obtain ⟨⟨ps, e1⟩, h1, hd⟩ := Option.bind_eq_some_iff.mp hd
    have hl := dArgs_len h1
    refine ⟨F, env, ps, e1, Rl, h1, fun xs F1 H1 R1 M1 r1 => ?_⟩
    simp only at hd
    split at hd
    · simp at hl
    · split at hd
      · rename_i h
        cases hd
        obtain ⟨v, w, rfl, rv, rw'⟩ := r1.two
        cases rv; cases rw'
        exact ⟨_, _, rfl, ⟨h.1, h.2.1, h.2.2.1, h.2.2.2.1⟩, fun _ => q _ F1 H1 R1 M1 yld_rng (by rw [rngP_len, sizeLine_eq]; omega)⟩
      · cases hd
    · cases hd
end
end PP

/-! PP, part j: list comprehensions of one clause. -/
namespace PP
open PySem PySem.Spec PyProof.Rows L2

def wipeE (e : PEn) : List Nat → PEn
  | [] => e
  | v :: vs => (wipeE e vs).set v .no
/-- what a slot keeps over a comprehension that uses its name -/
def keepV (orig : PEn) (v : Nat) : SlP := match orig[v]? with
  | some (.val x) => .val x
  | _ => .no
def restoreE (e orig : PEn) : List Nat → PEn
  | [] => e
  | v :: vs => (restoreE e orig vs).set v (keepV orig v)
def lcF (t : Tgt) (tt : DenT) (elt : Den) (vs : List Nat) : List PV → PEn → Option (List PV × PEn)
  | [], e => some ([], e)
  | x :: xs, e => (tgtF t x e).bind fun e1 => (tt e1).bind fun b => if b.1 then (elt b.2).bind fun y => (lcF t tt elt vs xs (wipeE y.2 vs)).map fun r => (y.1 :: r.1, r.2) else lcF t tt elt vs xs (wipeE b.2 vs)
def dLC (src : DenI) (vs : List Nat) (t : Tgt) (tt : DenT) (elt : Den) : Den := fun e => (src e).bind fun p => (lcF t tt elt vs p.1 (wipeE p.2 vs)).map fun q => (.lst q.1, restoreE q.2 p.2 vs)

theorem wipe_get (σ : L2.St) (i : Nat) : ∀ vs : List Nat, (wipe σ vs)[i]? = if i ∈ vs then (σ[i]?).map fun _ => none else σ[i]?
  | [] => by simp [wipe]
  | v :: vs => by
    unfold wipe
    have ih := wipe_get σ i vs
    by_cases hv : v = i
    · subst hv
      rw [List.getElem?_set]
      simp only [if_true, List.mem_cons, true_or, wipe_length]
      by_cases h : v < σ.length
      · simp [h]
      · simp [h]
    · rw [List.getElem?_set_ne hv, ih]
      have : i ≠ v := fun e => hv e.symm
      simp [this]
theorem wipe_congr {σ σ' : L2.St} {vs : List Nat} (h : ∀ i, i ∉ vs → σ'[i]? = σ[i]?) (l : σ'.length = σ.length) : wipe σ' vs = wipe σ vs := by
  apply List.ext_getElem?
  intro i
  rw [wipe_get, wipe_get]
  by_cases hi : i ∈ vs
  · rw [if_pos hi, if_pos hi]
    by_cases hl : i < σ.length
    · rw [List.getElem?_eq_getElem hl, List.getElem?_eq_getElem (by omega)]; rfl
    · rw [List.getElem?_eq_none (by omega), List.getElem?_eq_none (by omega)]
  · rw [if_neg hi, if_neg hi, h i hi]
theorem wipeE_len (e : PEn) : ∀ vs : List Nat, (wipeE e vs).length = e.length
  | [] => rfl
  | v :: vs => by simp [wipeE, wipeE_len e vs]
theorem wipeE_get (e : PEn) (i : Nat) : ∀ vs : List Nat, (wipeE e vs)[i]? = if i ∈ vs then (e[i]?).map fun _ => SlP.no else e[i]?
  | [] => by simp [wipeE]
  | v :: vs => by
    unfold wipeE
    have ih := wipeE_get e i vs
    by_cases hv : v = i
    · subst hv
      rw [List.getElem?_set]
      simp only [if_true, List.mem_cons, true_or, wipeE_len]
      by_cases h : v < e.length
      · simp [h]
      · simp [h]
    · rw [List.getElem?_set_ne hv, ih]
      have : i ≠ v := fun e => hv e.symm
      simp [this]
theorem restoreE_len (e o : PEn) : ∀ vs : List Nat, (restoreE e o vs).length = e.length
  | [] => rfl
  | v :: vs => by simp [restoreE, restoreE_len e o vs]
theorem restoreE_get (e o : PEn) (i : Nat) : ∀ vs : List Nat, (restoreE e o vs)[i]? = if i ∈ vs then (e[i]?).map fun _ => keepV o i else e[i]?
  | [] => by simp [restoreE]
  | v :: vs => by
    unfold restoreE
    have ih := restoreE_get e o i vs
    by_cases hv : v = i
    · subst hv
      rw [List.getElem?_set]
      simp only [if_true, List.mem_cons, true_or, restoreE_len]
      by_cases h : v < e.length
      · simp [h]
      · simp [h]
    · rw [List.getElem?_set_ne hv, ih]
      have : i ≠ v := fun e => hv e.symm
      simp [this]

section
variable {K : PySem.W.Frag} {F F' : Addr → Prop} {H H' : Hp} {env env' : PEn} {σ σ' : L2.St} {vs : List Nat}
theorem own_wipe {j : Nat} {v : PV} (e : (wipeE env vs)[j]? = some (SlP.own v)) : j ∉ vs ∧ env[j]? = some (SlP.own v) := by
  rw [wipeE_get] at e
  split at e
  · obtain ⟨_, _, e⟩ := Option.map_eq_some_iff.mp e
    cases e
  · rename_i h; exact ⟨h, e⟩
theorem val_wipe {j : Nat} {v : PV} (e : (wipeE env vs)[j]? = some (SlP.val v)) : j ∉ vs ∧ env[j]? = some (SlP.val v) := by
  rw [wipeE_get] at e
  split at e
  · obtain ⟨_, _, e⟩ := Option.map_eq_some_iff.mp e
    cases e
  · rename_i h; exact ⟨h, e⟩
theorem wipe_off {j : Nat} (h : j ∉ vs) : (wipe σ vs)[j]? = σ[j]? := by rw [wipe_get, if_neg h]
theorem Rel.wipe (R : Rel K F H env σ) (vs : List Nat) : Rel K F H (wipeE env vs) (L2.wipe σ vs) where
  len := by rw [wipeE_len, wipe_length]; exact R.len
  val := fun j v e => by obtain ⟨h, e⟩ := val_wipe e; rw [wipe_off h]; exact R.val j v e
  own := fun j v e => by obtain ⟨h, e⟩ := own_wipe e; rw [wipe_off h]; exact R.own j v e
  apart := fun j k v w a e1 e2 s1 s2 => by
    obtain ⟨h1, e1⟩ := own_wipe e1
    obtain ⟨h2, e2⟩ := own_wipe e2
    rw [wipe_off h1] at s1
    rw [wipe_off h2] at s2
    exact R.apart j k v w a e1 e2 s1 s2
  fz := R.fz
  sz := R.sz
theorem own_unwipe {a : Addr} (o : Own (wipeE env vs) (L2.wipe σ vs) a) : Own env σ a := by
  obtain ⟨j, v, e, s⟩ := o
  obtain ⟨h, e⟩ := own_wipe e
  rw [wipe_off h] at s
  exact ⟨j, v, e, s⟩
theorem Mv.wipe (vs : List Nat) : Mv F H env σ F H (wipeE env vs) (L2.wipe σ vs) :=
  ⟨fun _ h => h, fun _ _ h _ => h, fun _ h => .inl h, fun a o => .inl (own_unwipe o), fun _ o h => ⟨o, h⟩⟩
/-- behind a comprehension: the names as they were -/
theorem Rel.restore {F1 : Addr → Prop} {H1 : Hp} {orig : PEn} (R0 : Rel K F H orig σ) (R : Rel K F1 H1 env (L2.wipe σ vs)) (ex : Ex F H F1 H1) (hw : ∀ i, i ∈ vs → ∀ v, env[i]? ≠ some (SlP.own v)) : Rel K F1 H1 (restoreE env orig vs) σ where
  len := by rw [restoreE_len, R.len, wipe_length]
  val := fun j v e => by
    rw [restoreE_get] at e
    split at e
    · rename_i hj
      obtain ⟨_, _, e⟩ := Option.map_eq_some_iff.mp e
      unfold keepV at e
      split at e
      · rename_i w ew
        cases e
        obtain ⟨x, sx, r⟩ := R0.val j _ ew
        exact ⟨x, sx, r.ex ex⟩
      · cases e
    · rename_i hj
      obtain ⟨x, sx, r⟩ := R.val j v e
      rw [wipe_off hj] at sx
      exact ⟨x, sx, r⟩
  own := fun j v e => by
    rw [restoreE_get] at e
    split at e
    · obtain ⟨_, _, e⟩ := Option.map_eq_some_iff.mp e
      unfold keepV at e
      split at e <;> cases e
    · rename_i hj
      obtain ⟨x, sx, r⟩ := R.own j v e
      rw [wipe_off hj] at sx
      exact ⟨x, sx, r⟩
  apart := fun j k v w a e1 e2 s1 s2 => by
    rw [restoreE_get] at e1 e2
    split at e1
    · obtain ⟨_, _, e⟩ := Option.map_eq_some_iff.mp e1
      unfold keepV at e
      split at e <;> cases e
    · rename_i h1
      split at e2
      · obtain ⟨_, _, e⟩ := Option.map_eq_some_iff.mp e2
        unfold keepV at e
        split at e <;> cases e
      · rename_i h2
        exact R.apart j k v w a e1 e2 (by rw [wipe_off h1]; exact s1) (by rw [wipe_off h2]; exact s2)
  fz := R.fz
  sz := R.sz
theorem own_restore {orig : PEn} {a : Addr} (o : Own (restoreE env orig vs) σ a) : Own env (L2.wipe σ vs) a := by
  obtain ⟨j, v, e, s⟩ := o
  rw [restoreE_get] at e
  split at e
  · obtain ⟨_, _, e⟩ := Option.map_eq_some_iff.mp e
    unfold keepV at e
    split at e <;> cases e
  · rename_i hj
    exact ⟨j, v, e, by rw [wipe_off hj]; exact s⟩
theorem wipeE_noown (e : PEn) (vs : List Nat) : ∀ i, i ∈ vs → ∀ v, (wipeE e vs)[i]? ≠ some (SlP.own v) := fun i hi v q => (own_wipe q).1 hi
end

mutual
theorem tgt_len : ∀ {t : Tgt} {x : PV} {e e' : PEn}, tgtF t x e = some e' → e'.length = e.length
  | .nm i, x, e, e', h => by
    unfold tgtF at h
    split at h
    · cases h; simp
    · cases h
  | .tp ts, x, e, e', h => by
    unfold tgtF at h
    split at h
    · exact tgts_elen h
    · cases h
theorem tgts_elen : ∀ {ts : List Tgt} {xs : List PV} {e e' : PEn}, tgtsF ts xs e = some e' → e'.length = e.length
  | [], [], _, _, h => by simp only [tgtsF] at h; cases h; rfl
  | [], _ :: _, _, _, h => by simp [tgtsF] at h
  | _ :: _, [], _, _, h => by simp [tgtsF] at h
  | t :: ts, x :: xs, _, _, h => by
    simp only [tgtsF] at h
    obtain ⟨e1, h1, h2⟩ := Option.bind_eq_some_iff.mp h
    rw [tgts_elen h2, tgt_len h1]
end
theorem ex_off {F : Addr → Prop} {H : Hp} {D : Addr} {acc : List V} {o : HO} (nF : ¬ F D) (hD : H D = some (.lst acc)) : Ex F H F (upd H D o) :=
  ⟨fun _ h => h, fun a u f e => by rw [upd_ne (fun z => nF (by rw [← z]; exact f))]; exact e, fun a vs e => by rw [upd_ne (ne_of e hD (by intro z; cases z))]; exact e, fun a u w e => by rw [upd_ne (ne_of e hD (by intro z; cases z))]; exact e⟩
/-- an expression that makes a new container, not yet frozen -/
def tF (K : PySem.W.Frag) (d : Den) : TE := fun σ H Q => ∃ F env r env', Rel K F H env σ ∧ d env = some (r, env') ∧ ∀ (a : Addr) (F' : Addr → Prop) (H' : Hp), Rel K F' H' env' σ → Mv F H env σ F' H' env' σ → ¬ F' a → ¬ Own env' σ a → H a = none → OwnAt K F' H' a r → Q (.ref a) H'
abbrev VF (X : Cx) (e : Expr) (d : Den) : Prop := PE X e (tF X.K d)
/-- frozen, what is nobody's own is a value -/
theorem freeze_new {K : PySem.W.Frag} {F : Addr → Prop} {H : Hp} {env : PEn} {σ : L2.St} {a : Addr} {r : PV} (R : Rel K F H env σ) (nF : ¬ F a) (nO : ¬ Own env σ a) (o : OwnAt K F H a r) :
    Rel K (fun b => F b ∨ b = a) H env σ ∧ Rep K (fun b => F b ∨ b = a) H (.ref a) r := by
  have ex : Ex F H (fun b => F b ∨ b = a) H := ⟨fun _ h => .inl h, fun _ _ _ h => h, fun _ _ h => h, fun _ _ _ h => h⟩
  refine ⟨⟨R.len, fun j w e => ?_, fun j w e => ?_, R.apart, fun b f => ?_, R.sz⟩, o.rep ex (.inr rfl)⟩
  · obtain ⟨z, sz, rz⟩ := R.val j w e; exact ⟨z, sz, rz.ex ex⟩
  · obtain ⟨b, sb, nb, ob⟩ := R.own j w e
    refine ⟨b, sb, fun f => ?_, ob.ex ex rfl⟩
    rcases f with f | f
    · exact nb f
    · exact nO ⟨j, w, e, by rw [← f]; exact sb⟩
  · rcases f with f | f
    · exact R.fz b f
    · subst f; obtain ⟨u, hu, _⟩ := o.some; exact ⟨u, hu⟩
theorem vf_ve {X : Cx} {e : Expr} {d : Den} (h : VF X e d) : VE X e d := pe_imp h fun σ H Q sz ⟨F, env, r, env', R, hd, q⟩ =>
  ⟨F, env, r, env', R, hd, fun a F' H' R' M' nF nO hn o _ => by
    obtain ⟨R2, rp⟩ := freeze_new R' nF nO o
    exact q _ _ H' R2 ⟨fun b f => .inl (M'.sub b f), M'.frame, fun b f => by
      rcases f with f | f
      · exact M'.fnew b f
      · subst f; exact .inr (.inr hn), M'.onew, M'.there⟩ rp⟩
/-- lcF keeps own slots of the names out -/
theorem lcF_noown {t : Tgt} {tt : DenT} {elt : Den} {vs : List Nat} : ∀ {xs : List PV} {e e' : PEn} {ys : List PV}, lcF t tt elt vs xs e = some (ys, e') → (∀ i, i ∈ vs → ∀ v, e[i]? ≠ some (SlP.own v)) → ∀ i, i ∈ vs → ∀ v, e'[i]? ≠ some (SlP.own v)
  | [], _, _, _, h, q => by cases h; exact q
  | x :: xs, e, e', ys, h, q => by
    unfold lcF at h
    obtain ⟨e1, _, h⟩ := Option.bind_eq_some_iff.mp h
    obtain ⟨b, _, h⟩ := Option.bind_eq_some_iff.mp h
    split at h
    · obtain ⟨y, _, h⟩ := Option.bind_eq_some_iff.mp h
      obtain ⟨r, h', e⟩ := Option.map_eq_some_iff.mp h
      cases e
      exact lcF_noown h' (wipeE_noown _ _)
    · exact lcF_noown h (wipeE_noown _ _)

section
variable {X : Cx} {elt tg iter : Expr} {ifs : List Expr} {scope : Scope} {own : List (Str × Nat)} {pos : Pos} {src : DenI} {t : Tgt} {tt : DenT} {de : Den}
/-- the reading of a comprehension gives its word -/
theorem lc_imp (hsub : ∀ i, i ∈ t.slots → i ∈ own.map (·.2)) {σ : L2.St} {H : Hp} {Q : VK} (h : tF X.K (dLC src (own.map (·.2)) t tt de) σ H Q) :
    tLc (tI X.K src) (tG X.K t) (tT X.K tt) (tE X.K de) (own.map (·.2)) σ H (fun v H' => Sized H' → Q v H') := by
  obtain ⟨F, env, r, env', R, hd, q⟩ := h
  generalize own.map (·.2) = vs at *
  unfold dLC at hd
  obtain ⟨⟨items, e1⟩, h1, hd⟩ := Option.bind_eq_some_iff.mp hd
  obtain ⟨⟨ys, e2⟩, h2, hz⟩ := Option.map_eq_some_iff.mp hd
  cases hz
  refine ⟨F, env, items, e1, R, h1, fun J F1 H1 R1 M1 Y hlen => fun D hD => ?_⟩
  have R1w := R1.wipe vs
  refine ⟨fun i m H2 => m = items.length - i ∧ i ≤ items.length ∧ ∃ F2 ei acc done rest, Rel X.K F2 H2 ei (wipe σ vs) ∧ lcF t tt de vs (items.drop i) ei = some (rest, e2) ∧ done ++ rest = ys ∧ H2 D = some (.lst acc) ∧ RepL X.K F2 H2 acc done ∧ done.length ≤ i ∧
    ¬ F2 D ∧ ¬ Own ei (wipe σ vs) D ∧ Mv F1 H1 (wipeE e1 vs) (wipe σ vs) F2 H2 ei (wipe σ vs), ⟨items.length, by simp, Nat.zero_le _, F1, wipeE e1 vs, [], [], ys, ?_, by simpa using h2, rfl, upd_same, .nil, Nat.le_refl _, ?_, ?_, ?_⟩, ?_⟩
  · have N : Nw F1 H1 F1 (upd H1 D (.lst [])) := .upd hD R1.fz
    exact N.rel R1w (R1.sz.upd (Nat.zero_le _))
  · intro f
    obtain ⟨o, e⟩ := R1.fz D f
    rw [hD] at e; cases e
  · intro o
    obtain ⟨v, ov⟩ := R1w.ownAt o
    obtain ⟨u, e, _⟩ := ov.some
    rw [hD] at e; cases e
  · exact (Nw.upd (o := .lst []) hD R1.fz).mv
  · rintro i m H2 ⟨rfl, hi, F2, ei, acc, done, rest, R2, hl, hdone, hDa, ra, hdl, nF, nO, M2⟩
    have ex2 : Ex F1 H1 F2 H2 := M2.ex R1w
    obtain ⟨go, stop⟩ := Y F2 H2 ex2 R2.fz i
    by_cases hlt : i < items.length
    · have hx : items[i]? = some items[i] := List.getElem?_eq_getElem hlt
      obtain ⟨g, yl⟩ := go _ hx
      refine .inr ⟨g, fun H' => i + 1 ≤ items.length ∧ ∃ F2 ei acc done rest, Rel X.K F2 H' ei (wipe σ vs) ∧ lcF t tt de vs (items.drop (i + 1)) ei = some (rest, e2) ∧ done ++ rest = ys ∧ H' D = some (.lst acc) ∧ RepL X.K F2 H' acc done ∧ done.length ≤ i + 1 ∧
        ¬ F2 D ∧ ¬ Own ei (wipe σ vs) D ∧ Mv F1 H1 (wipeE e1 vs) (wipe σ vs) F2 H' ei (wipe σ vs), fun H' n => ⟨items.length - (i + 1), by omega, rfl, n⟩, fun x H3 hy => ?_⟩
      obtain ⟨F3, N3, rx, s3⟩ := yl x H3 hy
      have R3 := N3.rel R2 (s3 R2.sz)
      have hD3 : H3 D = some (.lst acc) := N3.same D _ hDa
      have nF3 : ¬ F3 D := fun f => (N3.fnew D f).elim nF fun z => by rw [hDa] at z; cases z
      rw [List.drop_eq_getElem_cons hlt] at hl
      unfold lcF at hl
      obtain ⟨et, ht, hl⟩ := Option.bind_eq_some_iff.mp hl
      obtain ⟨⟨b, eb⟩, hb, hl⟩ := Option.bind_eq_some_iff.mp hl
      refine ⟨F3, ei, _, et, R3, rx, ht, fun σ4 R4 M4 k4 => ⟨?_, ?_⟩⟩
      · refine (wipe_congr (fun j hj => (k4 j fun z => hj (hsub j z)).1) (by rw [← R4.len, ← R3.len]; exact tgt_len ht)).trans ?_
        apply List.ext_getElem?
        intro j
        rw [wipe_get, wipe_get]
        by_cases hj : j ∈ vs
        · rw [if_pos hj, if_pos hj]
          cases σ[j]? <;> rfl
        · rw [if_neg hj, if_neg hj]
      · refine ⟨F3, et, b, eb, R4, hb, fun F5 H5 R5 M5 => ?_⟩
        have noO4 : ¬ Own et σ4 D := fun o => (M4.onew D o).elim nO fun z => by rw [hD3] at z; cases z
        have hD5 : H5 D = some (.lst acc) := M5.frame D _ hD3 noO4
        have nF5 : ¬ F5 D := fun f => by
          rcases M5.fnew D f with z | z | z
          · exact nF3 z
          · exact noO4 z
          · rw [hD3] at z; cases z
        have noO5 : ¬ Own eb σ4 D := fun o => (M5.onew D o).elim noO4 fun z => by rw [hD3] at z; cases z
        have back : ∀ {Fk : Addr → Prop} {Hk : Hp} {ek : PEn}, Rel X.K Fk Hk ek σ4 → Rel X.K Fk Hk (wipeE ek vs) (wipe σ vs) := fun {Fk Hk ek} Rk => by
          have q := Rk.wipe vs
          have e : wipe σ4 vs = wipe σ vs := by
            refine (wipe_congr (fun j hj => (k4 j fun z => hj (hsub j z)).1) (by rw [← R4.len, ← R3.len]; exact tgt_len ht)).trans ?_
            apply List.ext_getElem?
            intro j
            rw [wipe_get, wipe_get]
            by_cases hj : j ∈ vs
            · rw [if_pos hj, if_pos hj]
              cases σ[j]? <;> rfl
            · rw [if_neg hj, if_neg hj]
          rw [e] at q
          exact q
        have ew : wipe σ4 vs = wipe σ vs := by
          refine (wipe_congr (fun j hj => (k4 j fun z => hj (hsub j z)).1) (by rw [← R4.len, ← R3.len]; exact tgt_len ht)).trans ?_
          apply List.ext_getElem?
          intro j
          rw [wipe_get, wipe_get]
          by_cases hj : j ∈ vs
          · rw [if_pos hj, if_pos hj]
            cases σ[j]? <;> rfl
          · rw [if_neg hj, if_neg hj]
        have M05 : Mv F1 H1 (wipeE e1 vs) (wipe σ vs) F5 H5 eb σ4 := (M2.trans N3.mv).trans (M4.trans M5)
        cases b with
        | false =>
          simp only [Bool.false_eq_true, if_false] at hl
          refine iteF ⟨by omega, F5, wipeE eb vs, acc, done, rest, back R5, hl, hdone, hD5, ?_, by omega, nF5, ?_, ?_⟩
          · exact (ra.ex N3.ex).ex ((M4.trans M5).ex R3)
          · intro o; rw [← ew] at o; exact noO5 (own_unwipe o)
          · have := M05.trans (Mv.wipe vs); rw [ew] at this; exact this
        | true =>
          simp only [if_true] at hl
          refine iteT ?_
          obtain ⟨⟨y, ey⟩, hy2, hl⟩ := Option.bind_eq_some_iff.mp hl
          obtain ⟨⟨r1, r2⟩, hl', e⟩ := Option.map_eq_some_iff.mp hl
          cases e
          refine ⟨F5, eb, y, ey, R5, hy2, fun v F6 H6 R6 M6 r6 => ?_⟩
          have hD6 : H6 D = some (.lst acc) := M6.frame D _ hD5 noO5
          have nF6 : ¬ F6 D := fun f => by
            rcases M6.fnew D f with z | z | z
            · exact nF5 z
            · exact noO5 z
            · rw [hD5] at z; cases z
          have noO6 : ¬ Own ey σ4 D := fun o => (M6.onew D o).elim noO5 fun z => by rw [hD5] at z; cases z
          have la : acc.length = done.length := ra.length
          have hsz : acc.length < sizeLine := by omega
          refine ⟨acc, hD6, hsz, by omega, F6, wipeE ey vs, acc ++ [v], done ++ [y], r1, ?_, hl', by rw [List.append_assoc]; exact hdone, upd_same, ?_, by rw [List.length_append]; simp; omega, nF6, ?_, ?_⟩
          · -- D is nobody's
            have RD : Rel X.K F6 (upd H6 D (.lst (acc ++ [v]))) ey σ4 := by
              refine ⟨R6.len, fun j w e => ?_, fun j w e => ?_, R6.apart, fun a f => ?_, R6.sz.upd (by show (acc ++ [v]).length ≤ _; rw [List.length_append]; exact hsz)⟩
              · obtain ⟨z, sz, rz⟩ := R6.val j w e
                exact ⟨z, sz, rz.ex (ex_off nF6 hD6)⟩
              · obtain ⟨a, sa, na, oa⟩ := R6.own j w e
                have hne : a ≠ D := fun z => noO6 ⟨j, w, e, by rw [← z]; exact sa⟩
                exact ⟨a, sa, na, oa.ex (ex_off nF6 hD6) (upd_ne hne)⟩
              · have hne : a ≠ D := fun z => nF6 (by rw [← z]; exact f)
                rw [upd_ne hne]; exact R6.fz a f
            exact back RD
          · have r := ((ra.ex N3.ex).ex ((M4.trans M5).ex R3)).ex (M6.ex R5)
            exact (r.append (.cons r6 .nil)).ex (ex_off nF6 hD6)
          · intro o; rw [← ew] at o; exact noO6 (own_unwipe o)
          · have m6 := M05.trans M6
            have m7 : Mv F1 H1 (wipeE e1 vs) (wipe σ vs) F6 (upd H6 D (.lst (acc ++ [v]))) ey σ4 :=
              ⟨m6.sub, fun c o hc n => by rw [upd_ne (ne_of_none hc hD)]; exact m6.frame c o hc n, m6.fnew, m6.onew, fun c o hc => by rw [upd_ne (ne_of_none hc hD)]; exact m6.there c o hc⟩
            have := m7.trans (Mv.wipe vs); rw [ew] at this; exact this
    · have hie : i = items.length := by omega
      subst hie
      simp only [List.drop_length, lcF] at hl
      cases hl
      refine .inl ⟨stop (Nat.le_refl _), fun sz => ?_⟩
      rw [List.append_nil] at hdone
      subst hdone
      have noown := lcF_noown h2 (wipeE_noown _ _)
      refine q D F2 H2 (R1.restore R2 ex2 noown) (M1.trans ?_) nF (fun o => nO (own_restore o)) (M1.back hD) (.lst hDa ra)
      refine ⟨M2.sub, fun c o hc n => M2.frame c o hc fun z => n (own_unwipe z), fun a f => ?_, fun a o => ?_, M2.there⟩
      · rcases M2.fnew a f with z | z | z
        · exact .inl z
        · exact .inr (.inl (own_unwipe z))
        · exact .inr (.inr z)
      · rcases M2.onew a (own_restore o) with z | z
        · exact .inl (own_unwipe z)
        · exact .inr z
end
end PP

/-! PP, part k: statements. -/
namespace PP
open PySem PySem.Spec PyProof.Rows L2

inductive Fl where
  | nx (e : PEn) | rt (v : PV) (e : PEn) | bk (e : PEn) | ct (e : PEn)
abbrev DenS := PEn → Option Fl
/-- the slots that stay (what is handed in by reference) -/
def Keep (refs : List Nat) (σ σ' : L2.St) : Prop := ∀ i ∈ refs, σ'[i]? = σ[i]?
theorem Keep.refl {refs : List Nat} {σ : L2.St} : Keep refs σ σ := fun _ _ => rfl
theorem Keep.trans {refs : List Nat} {σ σ1 σ2 : L2.St} (a : Keep refs σ σ1) (b : Keep refs σ1 σ2) : Keep refs σ σ2 := fun i h => (b i h).trans (a i h)
/-- what is wanted behind a flow -/
def FlOk (K : PySem.W.Frag) (refs : List Nat) (F : Addr → Prop) (H : Hp) (env : PEn) (σ : L2.St) (D : Ends) : Fl → Prop
  | .nx e' => ∀ (σ' : L2.St) (F' : Addr → Prop) (H' : Hp), Rel K F' H' e' σ' → Mv F H env σ F' H' e' σ' → Keep refs σ σ' → D.nx σ' H'
  | .bk e' => ∀ (σ' : L2.St) (F' : Addr → Prop) (H' : Hp), Rel K F' H' e' σ' → Mv F H env σ F' H' e' σ' → Keep refs σ σ' → D.bk σ' H'
  | .ct e' => ∀ (σ' : L2.St) (F' : Addr → Prop) (H' : Hp), Rel K F' H' e' σ' → Mv F H env σ F' H' e' σ' → Keep refs σ σ' → D.ct σ' H'
  | .rt v e' => ∀ (x : V) (σ' : L2.St) (F' : Addr → Prop) (H' : Hp), Rel K F' H' e' σ' → Mv F H env σ F' H' e' σ' → Keep refs σ σ' → Rep K F' H' x v → D.rt x H'
def tS (K : PySem.W.Frag) (refs : List Nat) (d : DenS) : TS := fun D σ H => ∃ F env fl, Rel K F H env σ ∧ d env = some fl ∧ FlOk K refs F H env σ D fl
abbrev VS (X : Cx) (refs : List Nat) (st : Stmt) (d : DenS) : Prop := PS X st (tS X.K refs d)
abbrev VSs (X : Cx) (refs : List Nat) (sts : List Stmt) (d : DenS) : Prop := PSs X sts (tS X.K refs d)
def szD (D : Ends) : Ends := { nx := fun σ H => Sized H → D.nx σ H, rt := fun v H => Sized H → D.rt v H, bk := fun σ H => Sized H → D.bk σ H, ct := fun σ H => Sized H → D.ct σ H }
/-- a flow's end carried over a move ahead of it -/
theorem FlOk.after {K : PySem.W.Frag} {refs : List Nat} {F F1 : Addr → Prop} {H H1 : Hp} {env e1 : PEn} {σ σ1 : L2.St} {D : Ends} {fl : Fl} (q : FlOk K refs F H env σ D fl) (m : Mv F H env σ F1 H1 e1 σ1) (k : Keep refs σ σ1) : FlOk K refs F1 H1 e1 σ1 D fl := by
  cases fl with
  | nx e' => exact fun σ' F' H' R M k' => q σ' F' H' R (m.trans M) (k.trans k')
  | bk e' => exact fun σ' F' H' R M k' => q σ' F' H' R (m.trans M) (k.trans k')
  | ct e' => exact fun σ' F' H' R M k' => q σ' F' H' R (m.trans M) (k.trans k')
  | rt v e' => exact fun x σ' F' H' R M k' r => q x σ' F' H' R (m.trans M) (k.trans k') r
theorem FlOk.sz {K : PySem.W.Frag} {refs : List Nat} {F : Addr → Prop} {H : Hp} {env : PEn} {σ : L2.St} {D : Ends} {fl : Fl} (q : FlOk K refs F H env σ D fl) : FlOk K refs F H env σ (szD D) fl := by
  cases fl with
  | nx e' => exact fun σ' F' H' R M k' _ => q σ' F' H' R M k'
  | bk e' => exact fun σ' F' H' R M k' _ => q σ' F' H' R M k'
  | ct e' => exact fun σ' F' H' R M k' _ => q σ' F' H' R M k'
  | rt v e' => exact fun x σ' F' H' R M k' r _ => q x σ' F' H' R M k' r

section
variable {X : Cx} {refs : List Nat} {st : Stmt} {sts rest : List Stmt} {e c : Expr} {de : Den} {dt : DenT} {d d1 d2 : DenS} {pos : Pos}
theorem ps_imp {t t' : TS} (h : PS X st t) (i : ∀ D σ H, Sized H → t' D σ H → t (szD D) σ H) : PS X st t' := ⟨fun pins s σ H D I hw =>
  thn (h.run pins s σ H _ I (i D σ H (sized_of I.hok) hw)) fun f s' q => by
    cases f with
    | next => obtain ⟨σ', H', I', q⟩ := q; exact ⟨σ', H', I', q (sized_of I'.hok)⟩
    | brk => obtain ⟨σ', H', I', q⟩ := q; exact ⟨σ', H', I', q (sized_of I'.hok)⟩
    | cont => obtain ⟨σ', H', I', q⟩ := q; exact ⟨σ', H', I', q (sized_of I'.hok)⟩
    | ret u => obtain ⟨v, σ', H', I', r, q⟩ := q; exact ⟨v, σ', H', I', r, q (sized_of I'.hok)⟩⟩
theorem pss_imp {t t' : TS} (h : PSs X sts t) (i : ∀ D σ H, Sized H → t' D σ H → t (szD D) σ H) : PSs X sts t' := ⟨fun pins s σ H D I hw =>
  thn (h.run pins s σ H _ I (i D σ H (sized_of I.hok) hw)) fun f s' q => by
    cases f with
    | next => obtain ⟨σ', H', I', q⟩ := q; exact ⟨σ', H', I', q (sized_of I'.hok)⟩
    | brk => obtain ⟨σ', H', I', q⟩ := q; exact ⟨σ', H', I', q (sized_of I'.hok)⟩
    | cont => obtain ⟨σ', H', I', q⟩ := q; exact ⟨σ', H', I', q (sized_of I'.hok)⟩
    | ret u => obtain ⟨v, σ', H', I', r, q⟩ := q; exact ⟨v, σ', H', I', r, q (sized_of I'.hok)⟩⟩

/-! ### blocks -/
def sNil : DenS := fun e => some (.nx e)
def sSeq (a b : DenS) : DenS := fun e => (a e).bind fun f => match f with
  | .nx e1 => b e1
  | f => some f
theorem vss_nil : VSs X refs [] sNil := pss_imp pss_nil fun D σ H sz ⟨F, env, fl, R, hd, q⟩ => by
  cases hd
  exact fun _ => q σ F H R .refl .refl
theorem vss_cons (h1 : VS X refs st d1) (h2 : VSs X refs rest d2) : VSs X refs (st :: rest) (sSeq d1 d2) := pss_imp (pss_cons h1 h2) fun D σ H sz ⟨F, env, fl, R, hd, q⟩ => by
  unfold sSeq at hd
  obtain ⟨f, h1, hd⟩ := Option.bind_eq_some_iff.mp hd
  refine ⟨F, env, f, R, h1, ?_⟩
  cases f with
  | nx e1 => exact fun σ' F' H' R' M' k' => ⟨F', e1, fl, R', hd, (q.after M' k').sz⟩
  | bk e1 => cases hd; exact q.sz
  | ct e1 => cases hd; exact q.sz
  | rt v e1 => cases hd; exact q.sz
theorem vs_pass : VS X refs (.Pass pos) sNil := ps_imp ps_pass fun D σ H sz ⟨F, env, fl, R, hd, q⟩ => by
  cases hd
  exact fun _ => q σ F H R .refl .refl
def sBreak : DenS := fun e => some (.bk e)
theorem vs_break : VS X refs (.Break pos) sBreak := ps_imp ps_break fun D σ H sz ⟨F, env, fl, R, hd, q⟩ => by
  cases hd
  exact fun _ => q σ F H R .refl .refl
/-- what is never reached -/
def sNever : DenS := fun _ => none
theorem vs_never : VS X refs st sNever := ps_imp ps_never fun D σ H sz ⟨F, env, fl, R, hd, q⟩ => by cases hd
def sDrop (a : Den) : DenS := fun e => (a e).map fun p => .nx p.2
theorem vs_drop (hs : swapsWith e none pos.line X.env = pure false) (h : VE X e de) : VS X refs (.Expr e pos) (sDrop de) := ps_imp (ps_expr h hs) fun D σ H sz ⟨F, env, fl, R, hd, q⟩ => by
  unfold sDrop at hd
  obtain ⟨p, h1, hz⟩ := Option.map_eq_some_iff.mp hd
  subst hz
  exact ⟨F, env, p.1, p.2, R, h1, fun x F1 H1 R1 M1 r1 _ => q σ F1 H1 R1 M1 .refl⟩
def sRet (a : Den) : DenS := fun e => (a e).map fun p => .rt p.1 p.2
theorem vs_ret (h : VE X e de) : VS X refs (.Return (some e) pos) (sRet de) := ps_imp (ps_ret h) fun D σ H sz ⟨F, env, fl, R, hd, q⟩ => by
  unfold sRet at hd
  obtain ⟨p, h1, hz⟩ := Option.map_eq_some_iff.mp hd
  subst hz
  exact ⟨F, env, p.1, p.2, R, h1, fun x F1 H1 R1 M1 r1 _ => q x σ F1 H1 R1 M1 .refl r1⟩
def sRetN : DenS := fun e => some (.rt .non e)
theorem vs_retN : VS X refs (.Return none pos) sRetN := ps_imp ps_retN fun D σ H sz ⟨F, env, fl, R, hd, q⟩ => by
  cases hd
  exact fun _ => q .non σ F H R .refl .refl .non
def sIf (t : DenT) (a b : DenS) : DenS := fun e => (t e).bind fun p => if p.1 then a p.2 else b p.2
theorem vs_if {a b : List Stmt} (hc : VT X c dt) (ha : VSs X refs a d1) (hb : VSs X refs b d2) : VS X refs (.If c a b pos) (sIf dt d1 d2) := ps_imp (ps_if hc ha hb) fun D σ H sz ⟨F, env, fl, R, hd, q⟩ => by
  unfold sIf at hd
  obtain ⟨⟨p, e1⟩, h1, hd⟩ := Option.bind_eq_some_iff.mp hd
  refine ⟨F, env, p, e1, R, h1, fun F1 H1 R1 M1 => ?_⟩
  cases p with
  | true => exact iteT ⟨F1, e1, fl, R1, by simpa using hd, (q.after M1 .refl).sz⟩
  | false => exact iteF ⟨F1, e1, fl, R1, by simpa using hd, (q.after M1 .refl).sz⟩

/-! ### assignments -/
theorem keep_set {σ σ' : L2.St} {t : Tgt} (h : ∀ i, i ∉ t.slots → σ'[i]? = σ[i]?) (hr : ∀ i ∈ refs, i ∉ t.slots) : Keep refs σ σ' := fun i hi => h i (hr i hi)
def sAsg (t : Tgt) (a : Den) : DenS := fun e => (a e).bind fun p => (tgtF t p.1 p.2).map fun e' => .nx e'
theorem asg_imp {t : Tgt} (hr : ∀ i ∈ refs, i ∉ t.slots) {D : Ends} {σ : L2.St} {H : Hp} (h : tS X.K refs (sAsg t de) D σ H) : tAsg (tE X.K de) (tG X.K t) (szD D) σ H := by
  obtain ⟨F, env, fl, R, hd, q⟩ := h
  unfold sAsg at hd
  obtain ⟨⟨p, e1⟩, h1, hd⟩ := Option.bind_eq_some_iff.mp hd
  obtain ⟨e', h2, hz⟩ := Option.map_eq_some_iff.mp hd
  subst hz
  exact ⟨F, env, p, e1, R, h1, fun x F1 H1 R1 M1 r1 => ⟨F1, e1, p, e', R1, r1, h2, fun σ' R' M' k' _ => q σ' F1 H1 R' (M1.trans M') (keep_set (fun i hi => (k' i hi).1) hr)⟩⟩
theorem vs_asg {tg : Expr} {t : Tgt} (hr : ∀ i ∈ refs, i ∉ t.slots) (he : VE X e de) (hg : PG X tg (tG X.K t)) (hs : swapsWithSole [tg] e pos.line X.env = pure false) (hw : swappedStores [tg] e X.env = pure none) (h1 : (assignEach [tg] X.env).map (·.2) = [assign tg X.env]) :
    VS X refs (.Assign [tg] e pos) (sAsg t de) := ps_imp (ps_asg he hg hs hw h1) fun D σ H sz h => asg_imp hr h
theorem vs_set {i : Nat} {x : Str} {pos' : Pos} (hr : i ∉ refs) (hN : X.N.Nodup) (hi : X.N[i]? = some x) (hx : Loc X.env.scope x) (he : VE X e de) (hs : swapsWith e (some (.Name x pos')) pos.line X.env = pure false) (hf : X.fn x = true ∨ X.env.scope.names.lookup x = some .local) :
    VS X refs (.Assign [.Name x pos'] e pos) (sAsg (.nm i) de) := ps_imp (ps_set (pos' := pos') hN hi hx he hs hf) fun D σ H sz h => by
  have := asg_imp (t := .nm i) (fun j hj z => by simp only [Tgt.slots, List.mem_singleton] at z; subst z; exact hr hj) h
  obtain ⟨F, env, p, e1, R, h1, k⟩ := this
  refine ⟨F, env, p, e1, R, h1, fun x' F1 H1 R1 M1 r1 => ?_⟩
  obtain ⟨F2, env2, p2, e2, R2, r2, h2, k2⟩ := k x' F1 H1 R1 M1 r1
  unfold tgtF at h2
  split at h2
  · rename_i hi'
    cases h2
    refine k2 _ (R2.set hi' r2) (Mv.set hi') fun j hj => ?_
    simp only [Tgt.slots, List.mem_singleton] at hj
    rw [List.getElem?_set_ne (Ne.symm hj), List.getElem?_set_ne (Ne.symm hj)]
    exact ⟨rfl, rfl⟩
  · cases h2
/-- a slot gets a new container of its own -/
def sOwn (i : Nat) (a : Den) : DenS := fun e => (a e).bind fun p => if i < p.2.length then some (.nx (p.2.set i (.own p.1))) else none
theorem Rel.setOwn {K : PySem.W.Frag} {F : Addr → Prop} {H : Hp} {env : PEn} {σ : L2.St} (R : Rel K F H env σ) {i : Nat} {a : Addr} {p : PV} (hi : i < env.length) (nF : ¬ F a) (nO : ¬ Own env σ a) (o : OwnAt K F H a p) : Rel K F H (env.set i (.own p)) (σ.set i (some (.ref a))) := by
  have hs : i < σ.length := by rw [← R.len]; exact hi
  refine ⟨by simpa using R.len, fun j v e => ?_, fun j v e => ?_, fun j k v w b e1 e2 s1 s2 => ?_, R.fz, R.sz⟩
  · by_cases hj : i = j
    · subst hj; rw [List.getElem?_set_self hi] at e; cases e
    · rw [List.getElem?_set_ne hj] at e
      rw [List.getElem?_set_ne hj]
      exact R.val j v e
  · by_cases hj : i = j
    · subst hj
      rw [List.getElem?_set_self hi] at e
      cases e
      exact ⟨a, List.getElem?_set_self hs, nF, o⟩
    · rw [List.getElem?_set_ne hj] at e
      rw [List.getElem?_set_ne hj]
      exact R.own j v e
  · by_cases hj : i = j
    · subst hj
      by_cases hk : i = k
      · exact hk
      · rw [List.getElem?_set_self hs] at s1
        cases s1
        rw [List.getElem?_set_ne hk] at e2 s2
        exact absurd ⟨k, w, e2, s2⟩ nO
    · rw [List.getElem?_set_ne hj] at e1 s1
      by_cases hk : i = k
      · subst hk
        rw [List.getElem?_set_self hs] at s2
        cases s2
        exact absurd ⟨j, v, e1, s1⟩ nO
      · rw [List.getElem?_set_ne hk] at e2 s2
        exact R.apart j k v w b e1 e2 s1 s2
theorem own_imp {i : Nat} (hr : i ∉ refs) {D : Ends} {σ : L2.St} {H : Hp} (h : tS X.K refs (sOwn i de) D σ H) : tAsg (tF X.K de) (gName i) (szD D) σ H := by
  obtain ⟨F, env, fl, R, hd, q⟩ := h
  unfold sOwn at hd
  obtain ⟨⟨p, e1⟩, h1, hd⟩ := Option.bind_eq_some_iff.mp hd
  split at hd
  · rename_i hi
    cases hd
    refine ⟨F, env, p, e1, R, h1, fun a F1 H1 R1 M1 nF nO hn o _ => q _ F1 H1 (R1.setOwn hi nF nO o) ⟨M1.sub, M1.frame, M1.fnew, fun b ⟨j, v, e, s⟩ => ?_, M1.there⟩ fun j hj => ?_⟩
    · by_cases hj : i = j
      · subst hj
        rw [List.getElem?_set_self (by rw [← R1.len]; exact hi)] at s
        cases s
        exact .inr hn
      · rw [List.getElem?_set_ne hj] at e s
        exact M1.onew b ⟨j, v, e, s⟩
    · have hne : i ≠ j := fun z => hr (by rw [z]; exact hj)
      rw [List.getElem?_set_ne hne]
  · cases hd
theorem vs_own {i : Nat} {x : Str} {pos' : Pos} (hr : i ∉ refs) (hN : X.N.Nodup) (hi : X.N[i]? = some x) (hx : Loc X.env.scope x) (he : VF X e de) (hs : swapsWith e (some (.Name x pos')) pos.line X.env = pure false) (hf : X.fn x = true ∨ X.env.scope.names.lookup x = some .local) :
    VS X refs (.Assign [.Name x pos'] e pos) (sOwn i de) := ps_imp (ps_set (pos' := pos') hN hi hx he hs hf) fun D σ H sz h => own_imp hr h
/-! ### loops -/
def whF (t : DenT) (b : DenS) : Nat → DenS
  | 0 => fun _ => none
  | n + 1 => fun e => (t e).bind fun p => if p.1 then (b p.2).bind fun f => match f with
      | .nx e1 => whF t b n e1
      | .ct e1 => whF t b n e1
      | .bk e1 => some (.nx e1)
      | .rt v e1 => some (.rt v e1)
    else some (.nx p.2)
def sWhile (n : Nat) (t : DenT) (b : DenS) : DenS := whF t b n
theorem vs_while {n : Nat} {body : List Stmt} (hp : PassesOwn (model X.prog X.w) X.A X.env X.xe) (hc : VT X c dt) (hb : VSs X refs body d1) : VS X refs (.While c body [] pos) (sWhile n dt d1) := ps_imp (ps_while hp hc hb) fun D σ H sz ⟨F, env, fl, R, hd, q⟩ => by
  refine ⟨fun m σ1 H1 => ∃ F1 e1, Rel X.K F1 H1 e1 σ1 ∧ whF dt d1 m e1 = some fl ∧ Mv F H env σ F1 H1 e1 σ1 ∧ Keep refs σ σ1, ⟨n, F, env, R, hd, .refl, .refl⟩, ?_⟩
  rintro m σ1 H1 ⟨F1, e1, R1, hw, M1, k1⟩
  cases m with
  | zero => cases hw
  | succ m =>
    unfold whF at hw
    obtain ⟨⟨b, e2⟩, h2, hw⟩ := Option.bind_eq_some_iff.mp hw
    refine ⟨F1, e1, b, e2, R1, h2, fun F2 H2 R2 M2 => ?_⟩
    cases b with
    | false =>
      simp only [Bool.false_eq_true, if_false] at hw
      cases hw
      exact iteF (fun _ => q σ1 F2 H2 R2 (M1.trans M2) k1)
    | true =>
      simp only [if_true] at hw
      refine iteT ?_
      obtain ⟨f, h3, hw⟩ := Option.bind_eq_some_iff.mp hw
      refine ⟨fun σ' H' => ∃ F1 e1, Rel X.K F1 H' e1 σ' ∧ whF dt d1 m e1 = some fl ∧ Mv F H env σ F1 H' e1 σ' ∧ Keep refs σ σ', fun σ' H' h => ⟨m, Nat.lt_succ_self m, h⟩, F2, e2, f, R2, h3, ?_⟩
      cases f with
      | nx e3 => exact fun σ' F' H' R' M' k' => ⟨F', e3, R', hw, (M1.trans M2).trans M', k1.trans k'⟩
      | ct e3 => exact fun σ' F' H' R' M' k' => ⟨F', e3, R', hw, (M1.trans M2).trans M', k1.trans k'⟩
      | bk e3 => cases hw; exact fun σ' F' H' R' M' k' _ => q σ' F' H' R' ((M1.trans M2).trans M') (k1.trans k')
      | rt v e3 => cases hw; exact fun x σ' F' H' R' M' k' r _ => q x σ' F' H' R' ((M1.trans M2).trans M') (k1.trans k') r
def forF (t : Tgt) (b : DenS) : List PV → DenS
  | [] => fun e => some (.nx e)
  | x :: xs => fun e => (tgtF t x e).bind fun e1 => (b e1).bind fun f => match f with
      | .nx e2 => forF t b xs e2
      | .ct e2 => forF t b xs e2
      | .bk e2 => some (.nx e2)
      | .rt v e2 => some (.rt v e2)
def sFor (src : DenI) (t : Tgt) (b : DenS) : DenS := fun e => (src e).bind fun p => forF t b p.1 p.2
theorem vs_for {iter tg : Expr} {body : List Stmt} {src : DenI} {t : Tgt} (hp : PassesOwn (model X.prog X.w) X.A X.env X.xe) (hc : X.calm = true) (hr : ∀ i ∈ refs, i ∉ t.slots) (hi : VI X tg iter src) (hg : PG X tg (tG X.K t)) (hb : VSs X refs body d1)
    (hs : ∀ x, foldedSetIterable iter X.env x = pure x) : VS X refs (.For tg iter body [] pos) (sFor src t d1) := ps_imp (ps_for hp hc hi hg hb hs) fun D σ H sz ⟨F, env, fl, R, hd, q⟩ => by
  unfold sFor at hd
  obtain ⟨⟨items, e0⟩, h0, hd⟩ := Option.bind_eq_some_iff.mp hd
  refine ⟨F, env, items, e0, R, h0, fun J F0 H0 R0 M0 Y hlen => ?_⟩
  refine ⟨fun i m σ1 H1 => m = items.length - i ∧ i ≤ items.length ∧ ∃ F1 e1, Rel X.K F1 H1 e1 σ1 ∧ forF t d1 (items.drop i) e1 = some fl ∧ Mv F0 H0 e0 σ F1 H1 e1 σ1 ∧ Keep refs σ σ1, ⟨items.length, by simp, Nat.zero_le _, F0, e0, R0, by simpa using hd, .refl, .refl⟩, ?_⟩
  rintro i m σ1 H1 ⟨rfl, hi, F1, e1, R1, hf, M1, k1⟩
  obtain ⟨go, stop⟩ := Y F1 H1 (M1.ex R0) R1.fz i
  by_cases hlt : i < items.length
  · obtain ⟨g, yl⟩ := go _ (List.getElem?_eq_getElem hlt)
    rw [List.drop_eq_getElem_cons hlt] at hf
    unfold forF at hf
    obtain ⟨et, ht, hf⟩ := Option.bind_eq_some_iff.mp hf
    obtain ⟨f, h3, hf⟩ := Option.bind_eq_some_iff.mp hf
    refine .inr ⟨g, fun σ' H' => i + 1 ≤ items.length ∧ ∃ F1 e1, Rel X.K F1 H' e1 σ' ∧ forF t d1 (items.drop (i + 1)) e1 = some fl ∧ Mv F0 H0 e0 σ F1 H' e1 σ' ∧ Keep refs σ σ', fun σ' H' n => ⟨items.length - (i + 1), by omega, rfl, n⟩, fun x H2 hy => ?_⟩
    obtain ⟨F2, N2, rx, s2⟩ := yl x H2 hy
    have R2 := N2.rel R1 (s2 R1.sz)
    refine ⟨F2, e1, _, et, R2, rx, ht, fun σ3 R3 M3 k3 => ?_⟩
    have kk : Keep refs σ σ3 := k1.trans (keep_set (fun j hj => (k3 j hj).1) hr)
    have MM : Mv F0 H0 e0 σ F2 H2 et σ3 := (M1.trans N2.mv).trans M3
    refine ⟨F2, et, f, R3, h3, ?_⟩
    cases f with
    | nx e3 => exact fun σ' F' H' R' M' k' => ⟨hlt, F', e3, R', hf, MM.trans M', kk.trans k'⟩
    | ct e3 => exact fun σ' F' H' R' M' k' => ⟨hlt, F', e3, R', hf, MM.trans M', kk.trans k'⟩
    | bk e3 => cases hf; exact fun σ' F' H' R' M' k' _ => q σ' F' H' R' ((M0.trans MM).trans M') (kk.trans k')
    | rt v e3 => cases hf; exact fun x σ' F' H' R' M' k' r _ => q x σ' F' H' R' ((M0.trans MM).trans M') (kk.trans k') r
  · have e : i = items.length := by omega
    subst e
    simp only [List.drop_length, forF] at hf
    cases hf
    exact .inl ⟨stop (Nat.le_refl _), fun _ => q σ1 F1 H1 R1 (M0.trans M1) k1⟩
end
end PP

/-! PP, part l: what is done to containers of one's own; new containers. -/
namespace PP
open PySem PySem.Spec PyProof.Rows L2

section
variable {K : PySem.W.Frag} {F : Addr → Prop} {H : Hp} {env : PEn} {σ : L2.St}
theorem ex_own {a : Addr} {o : HO} {v : PV} (nF : ¬ F a) (O : OwnAt K F H a v) : Ex F H F (upd H a o) := by
  obtain ⟨u, hu, n1, n2⟩ := O.some
  exact ⟨fun _ h => h, fun b w f e => by rw [upd_ne (fun z => nF (by rw [← z]; exact f))]; exact e,
    fun b vs e => by rw [upd_ne (fun z => by rw [z, hu] at e; cases e; exact n1 _ rfl)]; exact e,
    fun b w x e => by rw [upd_ne (fun z => by rw [z, hu] at e; cases e; exact n2 _ _ rfl)]; exact e⟩
theorem Rel.mutate (R : Rel K F H env σ) {i : Nat} {a : Addr} {v w : PV} {o : HO} (e : env[i]? = some (SlP.own v)) (s : σ[i]? = some (some (V.ref a))) (sm : PP.HO.small o) (O : OwnAt K F (upd H a o) a w) :
    Rel K F (upd H a o) (env.set i (.own w)) σ ∧ Mv F H env σ F (upd H a o) (env.set i (.own w)) σ := by
  obtain ⟨a', s', nF, Ov⟩ := R.own i v e
  rw [s] at s'; cases s'
  have ex : Ex F H F (upd H a o) := ex_own nF Ov
  refine ⟨⟨by simpa using R.len, fun j u ej => ?_, fun j u ej => ?_, fun j k u u' b ej ek sj sk => ?_, fun b f => ?_, R.sz.upd sm⟩, ⟨fun _ h => h, fun b u hb n => ?_, fun b f => .inl f, fun b ⟨j, u, ej, sj⟩ => ?_, fun b u hb => ?_⟩⟩
  · by_cases hj : i = j
    · subst hj; rw [set_len e] at ej; cases ej
    · rw [List.getElem?_set_ne hj] at ej
      obtain ⟨x, sx, r⟩ := R.val j u ej
      exact ⟨x, sx, r.ex ex⟩
  · by_cases hj : i = j
    · subst hj; rw [set_len e] at ej; cases ej; exact ⟨a, s, nF, O⟩
    · rw [List.getElem?_set_ne hj] at ej
      obtain ⟨b, sb, nb, ob⟩ := R.own j u ej
      have hne : b ≠ a := fun z => hj (R.apart i j _ _ _ e ej s (by rw [← z]; exact sb))
      exact ⟨b, sb, nb, ob.ex ex (upd_ne hne)⟩
  · have back : ∀ (j : Nat) (u : PV), (env.set i (SlP.own w))[j]? = some (SlP.own u) → ∃ u', env[j]? = some (SlP.own u') := fun j u ej => by
      by_cases hj : i = j
      · subst hj; exact ⟨v, e⟩
      · rw [List.getElem?_set_ne hj] at ej; exact ⟨u, ej⟩
    obtain ⟨u1, e1⟩ := back j u ej
    obtain ⟨u2, e2⟩ := back k u' ek
    exact R.apart j k u1 u2 b e1 e2 sj sk
  · obtain ⟨u, hu⟩ := R.fz b f
    exact ⟨u, by rw [upd_ne (fun z => nF (by rw [← z]; exact f))]; exact hu⟩
  · rw [upd_ne (fun z => n ⟨i, v, e, by rw [z]; exact s⟩)]; exact hb
  · by_cases hj : i = j
    · subst hj; exact .inl ⟨i, v, e, sj⟩
    · rw [List.getElem?_set_ne hj] at ej; exact .inl ⟨j, u, ej, sj⟩
  · by_cases hb' : b = a
    · subst hb'; exact ⟨o, upd_same⟩
    · exact ⟨u, by rw [upd_ne hb']; exact hb⟩
end

/-! ### methods that change a list of one's own -/
structure MMut (X : Cx) (m : Str) (f : List PV → List PV → Option (PV × List PV)) : Prop where
  run : ∃ id, PySem.Slot "list" m id ∧ typeOf (.builtin id) = pure (.type "method_descriptor") ∧
    ∀ (pins : List (Addr × Obj)) (s : Shared) (σ : L2.St) (H : Hp) (a : Addr) (vs args : List V) (us : List Value) (xs ps ws : List PV) (r : PV) (F : Addr → Prop) (Q : VK), Inv X pins σ H s → H a = some (.lst vs) → RepL X.K F H vs xs → Vals args us → RepL X.K F H args ps → f xs ps = some (r, ws) → Sized H →
      (∀ (z : V) (vs' : List V), Rep X.K F H z r → RepL X.K F H vs' ws → vs'.length ≤ sizeLine → Q z (upd H a (.lst vs'))) → wpAny (model X.prog X.w) X.A (call (.builtin id) (.ref a :: us)) (EP X pins σ Q) X.xe s
def dMut (f : List PV → List PV → Option (PV × List PV)) (i : Nat) (ds : List Den) : Den := fun e => match e[i]? with
  | some (.own (.lst _)) => (dArgs ds e).bind fun q => match q.2[i]? with
    | some (.own (.lst xs)) => (f xs q.1).map fun z => (z.1, q.2.set i (.own (.lst z.2)))
    | _ => none
  | _ => none
section
variable {X : Cx} {o : Expr} {m : Str} {apos cpos : Pos} {es : List Expr} {ds : List Den}
/-- the end of such a call -/
theorem mut_fin {f : List PV → List PV → Option (PV × List PV)} {id : String} {i : Nat} {a : Addr} {pins : List (Addr × Obj)} {s2 : Shared} {σ : L2.St} {H1 H2 : Hp} {F1 F2 : Addr → Prop} {e1 e2 : PEn} {as : List V} {us : List Value} {xs ps ws : List PV} {z : PV} {Q : VK}
    (hrun : ∀ (pins : List (Addr × Obj)) (s : Shared) (σ : L2.St) (H : Hp) (a : Addr) (vs args : List V) (us : List Value) (xs ps ws : List PV) (r : PV) (F : Addr → Prop) (Q : VK), Inv X pins σ H s → H a = some (.lst vs) → RepL X.K F H vs xs → Vals args us → RepL X.K F H args ps → f xs ps = some (r, ws) → Sized H →
      (∀ (z : V) (vs' : List V), Rep X.K F H z r → RepL X.K F H vs' ws → vs'.length ≤ sizeLine → Q z (upd H a (.lst vs'))) → wpAny (model X.prog X.w) X.A (call (.builtin id) (.ref a :: us)) (EP X pins σ Q) X.xe s)
    (I2 : Inv X pins σ H2 s2) (sa : σ[i]? = some (some (V.ref a))) (rxs : Vals as us) (R2 : Rel X.K F2 H2 e2 σ) (M : Mv F1 H1 e1 σ F2 H2 e2 σ) (r2 : RepL X.K F2 H2 as ps) (eo : e2[i]? = some (SlP.own (.lst xs))) (h2 : f xs ps = some (z, ws))
    (q : ∀ (x : V) (F' : Addr → Prop) (H' : Hp), Rel X.K F' H' (e2.set i (.own (.lst ws))) σ → Mv F1 H1 e1 σ F' H' (e2.set i (.own (.lst ws))) σ → Rep X.K F' H' x z → Q x H') :
    wpAny (model X.prog X.w) X.A (call (.builtin id) (.ref a :: us)) (EP X pins σ Q) X.xe s2 := by
  obtain ⟨a', sa', nF2, O2⟩ := R2.own i _ eo
  rw [sa] at sa'; cases sa'
  cases O2 with
  | @lst vs _ hH r1 =>
    refine hrun pins s2 σ H2 a vs as us xs ps ws z F2 Q I2 hH r1 rxs r2 h2 R2.sz fun zv vs' rz rws hl => ?_
    have ex2 : Ex F2 H2 F2 (upd H2 a (.lst vs')) := ex_own nF2 (OwnAt.lst hH r1)
    obtain ⟨R3, M3⟩ := R2.mutate (w := .lst ws) (o := .lst vs') eo sa hl (.lst upd_same (rws.ex ex2))
    exact q zv F2 _ R3 (M.trans M3) (rz.ex ex2)
theorem ve_mut {f : List PV → List PV → Option (PV × List PV)} {i : Nat} {e : Expr} (hm : MMut X m f) (mc : MCall X o m apos (e :: es) cpos) (ho : PE X o (tVar i)) (ha : VA X (e :: es) (dArgs ds)) : VE X (.Call (.Attribute o m apos) (e :: es) [] cpos) (dMut f i ds) := by
  refine ⟨fun pins s σ H Q I ⟨F, env, r, env', R, hd, q⟩ => ?_⟩
  unfold dMut at hd
  split at hd
  · rename_i xs0 e0
    obtain ⟨⟨ps, e1⟩, h1, hd⟩ := Option.bind_eq_some_iff.mp hd
    split at hd
    · rename_i xs e2
      obtain ⟨⟨z, ws⟩, h2, hz⟩ := Option.map_eq_some_iff.mp hd
      cases hz
      obtain ⟨a, sa, nF, O⟩ := R.own i _ e0
      refine wpAny_Call_method_late mc.base mc.few mc.line rfl (thn (ho.run pins s σ H (fun y H1 => y = .ref a ∧ H1 = H) I ⟨.ref a, sa, rfl, rfl⟩) fun u s1 ⟨y, H1, I1, rx, ey, eH⟩ => ?_)
      subst ey eH
      cases rx
      obtain ⟨id, slot, hty, hrun⟩ := hm.run
      cases O with
      | @lst vs0 _ hH0 r0 =>
        obtain ⟨t1, t2⟩ := tyV_is (x := .ref a) (T := "list") I1 rfl (.inl ⟨rfl, vs0, SqL.of hH0⟩)
        refine ⟨"list", id, PySem.F.plainAttrs_list, slot, hty, t1, t2, ?_⟩
        have hs := mc.star
        have h5 : es.all notStar = true := by simp only [List.all_cons, Bool.and_eq_true] at hs; exact hs.2
        have h6 : notStar e = true := List.all_eq_true.mp hs _ List.mem_cons_self
        have hA := args_run ha cpos I1 R h1
        rw [starEach_cons h6] at hA ⊢
        refine Calls.callWith_builtin (by show (false || (backTo cpos (starEach es X.env)).any (·.1)) = false; rw [star_plain h5 cpos]; rfl) (Calls.evalArgs_plain ?_)
        exact thn hA fun us s2 ⟨as, F2, H2, I2, rxs, R2, M2, r2⟩ => mut_fin hrun I2 sa rxs R2 M2 r2 e2 h2 q
    · cases hd
  · cases hd
theorem ve_mut0 {f : List PV → List PV → Option (PV × List PV)} {i : Nat} (hm : MMut X m f) (mc : MCall X o m apos [] cpos) (ho : PE X o (tVar i)) : VE X (.Call (.Attribute o m apos) [] [] cpos) (dMut f i []) := by
  refine ⟨fun pins s σ H Q I ⟨F, env, r, env', R, hd, q⟩ => ?_⟩
  unfold dMut at hd
  split at hd
  · rename_i xs0 e0
    obtain ⟨⟨ps, e1⟩, h1, hd⟩ := Option.bind_eq_some_iff.mp hd
    cases h1
    split at hd
    · rename_i xs e2
      obtain ⟨⟨z, ws⟩, h2, hz⟩ := Option.map_eq_some_iff.mp hd
      cases hz
      obtain ⟨a, sa, nF, O⟩ := R.own i _ e0
      refine wpAny_Call_method_late mc.base mc.few mc.line rfl (thn (ho.run pins s σ H (fun y H1 => y = .ref a ∧ H1 = H) I ⟨.ref a, sa, rfl, rfl⟩) fun u s1 ⟨y, H1, I1, rx, ey, eH⟩ => ?_)
      subst ey eH
      cases rx
      obtain ⟨id, slot, hty, hrun⟩ := hm.run
      cases O with
      | @lst vs0 _ hH0 r0 =>
        obtain ⟨t1, t2⟩ := tyV_is (x := .ref a) (T := "list") I1 rfl (.inl ⟨rfl, vs0, SqL.of hH0⟩)
        refine ⟨"list", id, PySem.F.plainAttrs_list, slot, hty, t1, t2, ?_⟩
        exact Calls.callWith_builtin rfl (PyProof.Rows.evalArgs_nil3 (mut_fin hrun I1 sa .nil R .refl .nil e2 h2 q))
    · cases hd
  · cases hd
def appendF : List PV → List PV → Option (PV × List PV) := fun xs ps => match ps with
  | [y] => if xs.length < 1000000 then some (.non, xs ++ [y]) else none
  | _ => none
def popF : List PV → List PV → Option (PV × List PV) := fun xs ps => match ps with
  | [] => xs.getLast?.map fun y => (y, xs.dropLast)
  | [.int i] => (ixN xs.length i).bind fun k => (xs[k]?).map fun y => (y, xs.eraseIdx k)
  | _ => none
def removeF : List PV → List PV → Option (PV × List PV) := fun xs ps => match ps with
  | [.int k] => (toInts xs).bind fun is => if k ∈ is then some (.non, (is.erase k).map PV.int) else none
  | _ => none
theorem mm_append : MMut X "append" appendF := ⟨⟨_, PySem.F.slot_list_append, PySem.F.type_list_append, fun pins s σ H a vs args us xs ps ws r F Q I hH rv rx rp hf sz k => by
  unfold appendF at hf
  split at hf
  · split at hf
    · rename_i hl
      cases hf
      obtain ⟨v, rfl, q1⟩ := rp.one
      have l := rv.length
      refine mt_append pins s σ H (.ref a) [v] _ us Q I rfl rx ⟨a, vs, v, rfl, rfl, hH, by rw [sizeLine_eq]; omega, k _ _ .non (rv.append (.cons q1 .nil)) ?_⟩
      rw [List.length_append, sizeLine_eq]; simp; omega
    · cases hf
  · cases hf⟩⟩
theorem mm_pop : MMut X "pop" popF := ⟨⟨_, PySem.F.slot_list_pop, PySem.F.type_list_pop, fun pins s σ H a vs args us xs ps ws r F Q I hH rv rx rp hf sz k => by
  unfold popF at hf
  have l := rv.length
  have hz := (sz a).1 vs (.inl (.inl hH))
  split at hf
  · obtain ⟨y, hy, e⟩ := Option.map_eq_some_iff.mp hf
    cases e
    cases rp
    rw [List.getLast?_eq_getElem?] at hy
    obtain ⟨v, hv, r1⟩ := rv.get hy
    refine mt_pop pins s σ H (.ref a) [] _ us Q I rfl rx ⟨a, vs, v, rfl, rfl, hH, by rw [l]; exact hv, k _ _ r1 rv.dropLast ?_⟩
    rw [List.length_dropLast]; omega
  · rename_i i
    obtain ⟨j, hj, hf⟩ := Option.bind_eq_some_iff.mp hf
    obtain ⟨y, hy, e⟩ := Option.map_eq_some_iff.mp hf
    cases e
    obtain ⟨v, rfl, q1⟩ := rp.one
    cases q1
    obtain ⟨w, hw, r1⟩ := rv.get hy
    obtain ⟨h1, h2, h3, h4⟩ := ixN_seq hj
    have hn := line63
    refine mt_popAt pins s σ H (.ref a) _ _ us Q I rfl rx ⟨a, vs, i, j, w, rfl, rfl, hH, by omega, by omega, by rw [l]; exact h1, hw, k _ _ r1 (rv.eraseIdx j) ?_⟩
    have := len_erase vs j
    omega
  · cases hf⟩⟩

/-! ### x[i] = v -/
def putP {κ : Type} [DecidableEq κ] (kvs : List (κ × PV)) (k : κ) (v : PV) : List (κ × PV) :=
  if (kvs.any fun kv => decide (kv.1 = k)) = true then kvs.map (fun kv => if kv.1 = k then (kv.1, v) else kv) else kvs ++ [(k, v)]
def setF (d k v : PV) : Option PV := match d with
  | .lst xs => match k with
    | .int i => (ixN xs.length i).map fun j => .lst (xs.set j v)
    | _ => none
  | .dk kvs => if kvs.length < 1000000 then (toKey k).map fun q => .dk (putP kvs q v) else none
  | .dt kvs => match k with
    | .tup ks => if kvs.length < 1000000 then (toKeys ks).map fun q => .dt (putP kvs q v) else none
    | _ => none
  | _ => none
end
section
variable {K : PySem.W.Frag} {F : Addr → Prop} {H : Hp}
theorem RepK.length : ∀ {kvs : List (Key × V)} {xs : List (Key × PV)}, RepK K F H kvs xs → kvs.length = xs.length
  | _, _, .nil => rfl
  | _, _, .cons _ t => by simp [RepK.length t]
theorem RepT.length : ∀ {kvs : List (List Key × V)} {xs : List (List Key × PV)}, RepT K F H kvs xs → kvs.length = xs.length
  | _, _, .nil => rfl
  | _, _, .cons _ t => by simp [RepT.length t]
theorem RepK.any {p : Key → Bool} : ∀ {kvs : List (Key × V)} {xs : List (Key × PV)}, RepK K F H kvs xs → kvs.any (fun kv => p kv.1) = xs.any (fun kv => p kv.1)
  | _, _, .nil => rfl
  | _, _, .cons _ t => by simp only [List.any_cons, RepK.any t]
theorem RepT.any {p : List Key → Bool} : ∀ {kvs : List (List Key × V)} {xs : List (List Key × PV)}, RepT K F H kvs xs → kvs.any (fun kv => p kv.1) = xs.any (fun kv => p kv.1)
  | _, _, .nil => rfl
  | _, _, .cons _ t => by simp only [List.any_cons, RepT.any t]
theorem RepK.over {k : Key} {v : V} {x : PV} (r : Rep K F H v x) : ∀ {kvs : List (Key × V)} {xs : List (Key × PV)}, RepK K F H kvs xs → RepK K F H (kvs.map fun kv => if kv.1 = k then (kv.1, v) else kv) (xs.map fun kv => if kv.1 = k then (kv.1, x) else kv)
  | _, _, .nil => .nil
  | _, _, @RepK.cons _ _ _ k' _ _ _ _ q t => by
    simp only [List.map_cons]
    by_cases h : k' = k
    · rw [if_pos h, if_pos h]; exact .cons r (RepK.over r t)
    · rw [if_neg h, if_neg h]; exact .cons q (RepK.over r t)
theorem RepT.over {k : List Key} {v : V} {x : PV} (r : Rep K F H v x) : ∀ {kvs : List (List Key × V)} {xs : List (List Key × PV)}, RepT K F H kvs xs → RepT K F H (kvs.map fun kv => if kv.1 = k then (kv.1, v) else kv) (xs.map fun kv => if kv.1 = k then (kv.1, x) else kv)
  | _, _, .nil => .nil
  | _, _, @RepT.cons _ _ _ k' _ _ _ _ q t => by
    simp only [List.map_cons]
    by_cases h : k' = k
    · rw [if_pos h, if_pos h]; exact .cons r (RepT.over r t)
    · rw [if_neg h, if_neg h]; exact .cons q (RepT.over r t)
theorem RepK.append : ∀ {kvs ws : List (Key × V)} {xs ys : List (Key × PV)}, RepK K F H kvs xs → RepK K F H ws ys → RepK K F H (kvs ++ ws) (xs ++ ys)
  | _, _, _, _, .nil, s => s
  | _, _, _, _, .cons r t, s => .cons r (RepK.append t s)
theorem RepT.append : ∀ {kvs ws : List (List Key × V)} {xs ys : List (List Key × PV)}, RepT K F H kvs xs → RepT K F H ws ys → RepT K F H (kvs ++ ws) (xs ++ ys)
  | _, _, _, _, .nil, s => s
  | _, _, _, _, .cons r t, s => .cons r (RepT.append t s)
theorem RepK.put {k : Key} {v : V} {x : PV} {kvs : List (Key × V)} {xs : List (Key × PV)} (R : RepK K F H kvs xs) (r : Rep K F H v x) : RepK K F H (putK kvs k v) (putP xs k x) := by
  unfold putK putP
  rw [R.any (p := fun q => decide (q = k))]
  split
  · exact R.over r
  · exact R.append (.cons r .nil)
theorem RepT.put {k : List Key} {v : V} {x : PV} {kvs : List (List Key × V)} {xs : List (List Key × PV)} (R : RepT K F H kvs xs) (r : Rep K F H v x) : RepT K F H (putK kvs k v) (putP xs k x) := by
  unfold putK putP
  rw [R.any (p := fun q => decide (q = k))]
  split
  · exact R.over r
  · exact R.append (.cons r .nil)
theorem toKey_rep {v : V} {x : PV} {k : Key} (r : Rep K F H v x) (h : toKey x = some k) : v = kV k := by
  cases r <;> simp only [toKey] at h <;> cases h <;> rfl
end
/-- what a store does to a container of one's own -/
theorem set_own {X : Cx} (hu : X.A.units + 1 < cLine) {pins : List (Addr × Obj)} {s : Shared} {σ : L2.St} {H : Hp} {F : Addr → Prop} {a : Addr} {d k v d' : PV} {y x : V} {iv u : Value} {Q : Hp → Prop} (I : Inv X pins σ H s) (nF : ¬ F a) (O : OwnAt X.K F H a d) (sz : Sized H)
    (rk : Rep X.K F H y k) (rv : Rep X.K F H x v) (ry : RelV y iv) (rx : RelV x u) (h : setF d k v = some d') (q : ∀ o, PP.HO.small o → OwnAt X.K F (upd H a o) a d' → Q (upd H a o)) :
    wpAny (model X.prog X.w) X.A (setItem (.ref a) iv u) (fun _ s' => ∃ H', Inv X pins σ H' s' ∧ Q H') X.xe s := by
  cases O with
  | @lst vs xs hH r =>
    simp only [setF] at h
    split at h
    · rename_i i
      obtain ⟨j, hj, e⟩ := Option.map_eq_some_iff.mp h
      subst e
      cases rk
      have hz := (sz a).1 vs (.inl (.inl hH))
      refine set_list pins s σ H (.ref a) _ x _ iv u _ I rfl ry rx ⟨a, vs, i, j, rfl, rfl, hH, by rw [r.length]; exact hj, ?_⟩
      refine q _ (by show (vs.set j x).length ≤ _; rw [List.length_set]; exact hz) (.lst upd_same ?_)
      exact (r.set rv j).ex (ex_own nF (OwnAt.lst hH r))
    · cases h
  | @dk kvs xs hH r =>
    simp only [setF] at h
    split at h
    · rename_i hl
      obtain ⟨kk, hk, e⟩ := Option.map_eq_some_iff.mp h
      subst e
      have l := r.length
      have e1 := toKey_rep rk hk
      have l2 := length_putK kvs kk x
      refine d_setItem hu I (.inl ⟨kvs, kk, hH, e1, by rw [sizeLine_eq]; omega, rfl⟩) ry rx fun s' I' => ⟨_, I', q _ (by show (putK kvs kk x).length ≤ _; rw [sizeLine_eq]; omega) (.dk upd_same ?_)⟩
      exact (r.put rv).ex (ex_own nF (OwnAt.dk hH r))
    · cases h
  | @dt kvs xs hH r =>
    simp only [setF] at h
    split at h
    · split at h
      · rename_i hl
        obtain ⟨kk, hk, e⟩ := Option.map_eq_some_iff.mp h
        subst e
        have l := r.length
        have l2 := length_putK kvs kk x
        cases rk with
        | @tup b ks _ hb rb =>
          have e1 := rb.keys hk
          subst e1
          refine d_setItem hu I (.inr ⟨kvs, kk, b, hH, rfl, hb, by rw [sizeLine_eq]; omega, rfl⟩) ry rx fun s' I' => ⟨_, I', q _ (by show (putK kvs kk x).length ≤ _; rw [sizeLine_eq]; omega) (.dt upd_same ?_)⟩
          exact (r.put rv).ex (ex_own nF (OwnAt.dt hH r))
      · cases h
    · cases h
/-- x[i] = e, x a container of one's own -/
def sStore (i : Nat) (ix : Den) (a : Den) : DenS := fun e => (a e).bind fun p => match p.2[i]? with
  | some (.own _) => (ix p.2).bind fun k => match k.2[i]? with
    | some (.own d) => (setF d k.1 p.1).map fun d' => .nx (k.2.set i (.own d'))
    | _ => none
  | _ => none
section
variable {X : Cx} {refs : List Nat} {o ie e : Expr} {de dix : Den} {i : Nat} {pos pos' : Pos}
def rStore (K : PySem.W.Frag) (d k v d' : PV) (i : Nat) (σ : L2.St) : TSet := fun o y x H Q => ∃ F a, o = .ref a ∧ ¬ F a ∧ OwnAt K F H a d ∧ Sized H ∧ Rep K F H y k ∧ Rep K F H x v ∧ setF d k v = some d' ∧ ∀ o, PP.HO.small o → OwnAt K F (upd H a o) a d' → Q (upd H a o)
theorem vs_store (hu : X.A.units + 1 < cLine) (ho : PE X o (tVar i)) (hi : VE X ie dix) (he : VE X e de) (hs : swapsWithSole [.Subscript o ie pos'] e pos.line X.env = pure false) (hw : swappedStores [.Subscript o ie pos'] e X.env = pure none)
    (h1 : (assignEach [.Subscript o ie pos'] X.env).map (·.2) = [assign (.Subscript o ie pos') X.env])
    (ha : ∀ v, assign (.Subscript o ie pos') X.env v = (do
      let ov ← holding [v] (eval o X.env)
      let iv ← holding [v, ov] (eval ie X.env)
      standAt pos'
      holding [v, ov, iv] (setItem ov iv v)
      release [v, ov, iv] [])) : VS X refs (.Assign [.Subscript o ie pos'] e pos) (sStore i dix de) := by
  have hset : PSet X (fun o y x H Q => ∃ F a d k v d', o = .ref a ∧ ¬ F a ∧ OwnAt X.K F H a d ∧ Sized H ∧ Rep X.K F H y k ∧ Rep X.K F H x v ∧ setF d k v = some d' ∧ ∀ o, PP.HO.small o → OwnAt X.K F (upd H a o) a d' → Q (upd H a o)) := by
    intro pins s σ H o y x ov iv u Q I ro ry rx ⟨F, a, d, k, v, d', eo, nF, O, sz, rk, rv, h, q⟩
    subst eo
    cases ro
    exact set_own hu I nF O sz rk rv ry rx h q
  refine ps_imp (ps_asg he (pg_sub ho hi hset ha) hs hw h1) fun D σ H sz ⟨F, env, fl, R, hd, q⟩ => ?_
  unfold sStore at hd
  obtain ⟨⟨p, e1⟩, h1, hd⟩ := Option.bind_eq_some_iff.mp hd
  split at hd
  · rename_i v0 eo0
    obtain ⟨⟨k, e2⟩, h2, hd⟩ := Option.bind_eq_some_iff.mp hd
    split at hd
    · rename_i d eo
      obtain ⟨d', h3, hz⟩ := Option.map_eq_some_iff.mp hd
      subst hz
      refine ⟨F, env, p, e1, R, h1, fun x F1 H1 R1 M1 r1 => ?_⟩
      obtain ⟨a, sa, nF, O⟩ := R1.own i _ eo0
      refine ⟨.ref a, sa, F1, e1, k, e2, R1, h2, fun y F2 H2 R2 M2 r2 => ?_⟩
      obtain ⟨a', sa', nF2, O2⟩ := R2.own i _ eo
      rw [sa] at sa'; cases sa'
      refine ⟨F2, a, d, k, p, d', rfl, nF2, O2, R2.sz, r2, r1.ex (M2.ex R1), h3, fun w sm O3 _ => ?_⟩
      obtain ⟨R3, M3⟩ := R2.mutate eo sa sm O3
      exact q σ F2 _ R3 ((M1.trans M2).trans M3) .refl
    · cases hd
  · cases hd
end

/-! ### new containers -/
section
variable {X : Cx} {e elt tg iter : Expr} {es ifs : List Expr} {pos : Pos} {ds : List Den}
theorem own_new {K : PySem.W.Frag} {F : Addr → Prop} {H : Hp} {env : PEn} {σ : L2.St} {p : Addr} (R : Rel K F H env σ) (np : H p = none) : ¬ F p ∧ ¬ Own env σ p := by
  refine ⟨fun f => ?_, fun o => ?_⟩
  · obtain ⟨u, hu⟩ := R.fz p f; rw [np] at hu; cases hu
  · obtain ⟨v, O⟩ := R.ownAt o
    obtain ⟨u, hu, _⟩ := O.some
    rw [np] at hu; cases hu
theorem vf_lst (hl : ds.length ≤ 1000) (h : VA X es (dArgs ds)) : VF X (.List es pos) (dLst ds) :=
  pe_imp (pe_lst h) fun σ H Q sz ⟨F, env, r, env', R, hd, q⟩ => by
    unfold dLst at hd
    obtain ⟨⟨ps, e1⟩, h1, hz⟩ := Option.map_eq_some_iff.mp hd
    cases hz
    refine ⟨F, env, ps, _, R, h1, fun xs F1 H1 R1 M1 r1 => ⟨?_, fun p np sz' => ?_⟩⟩
    · rw [r1.length, dArgs_len h1]; exact Nat.le_of_lt (small1000 hl)
    · have N : Nw F1 H1 F1 (upd H1 p (.lst xs)) := .upd np R1.fz
      obtain ⟨a1, a2⟩ := own_new R1 np
      exact q p F1 _ (N.rel R1 sz') (M1.trans N.mv) a1 a2 (M1.back np) (.lst upd_same (r1.ex N.ex))
theorem vf_dk : VF X (.Dict [] [] pos) (dC (.dk [])) :=
  pe_imp pe_dnewK fun σ H Q sz ⟨F, env, r, env', R, hd, q⟩ => by
    cases hd
    intro p np sz'
    have N : Nw F H F (upd H p (.dK [])) := .upd np R.fz
    obtain ⟨a1, a2⟩ := own_new R np
    exact q p F _ (N.rel R sz') N.mv a1 a2 np (.dk upd_same .nil)
theorem vf_dt : VF X (.Dict [] [] pos) (dC (.dt [])) :=
  pe_imp pe_dnewT fun σ H Q sz ⟨F, env, r, env', R, hd, q⟩ => by
    cases hd
    intro p np sz'
    have N : Nw F H F (upd H p (.dT [])) := .upd np R.fz
    obtain ⟨a1, a2⟩ := own_new R np
    exact q p F _ (N.rel R sz') N.mv a1 a2 np (.dt upd_same .nil)
/-- list(range(..)) -/
def rngArg (as : List Den) : PEn → Option ((Int × Int) × PEn) := fun e => (dArgs as e).bind fun p => match p.1 with
  | [.int j] => if -(2 ^ 62) ≤ j ∧ j ≤ 16777216 then some ((0, j), p.2) else none
  | [.int i, .int j] => if -(2 ^ 62) ≤ i ∧ i < 2 ^ 62 ∧ -(2 ^ 62) ≤ j ∧ j < 2 ^ 62 ∧ j - i ≤ 16777216 then some ((i, j), p.2) else none
  | _ => none
def dListRg (as : List Den) : Den := fun e => (rngArg as e).map fun p => (.lst (rngP p.1.1 (p.1.2 - p.1.1).toNat), p.2)
def dTupRg (as : List Den) : Den := fun e => (rngArg as e).map fun p => (.tup (rngP p.1.1 (p.1.2 - p.1.1).toNat), p.2)
theorem rgV_rep {K : PySem.W.Frag} {F : Addr → Prop} {H : Hp} (i j : Int) : RepL K F H (rgV i j) (rngP i (j - i).toNat) := by
  unfold rgV rngP
  generalize List.range (j - i).toNat = l
  induction l with
  | nil => exact .nil
  | cons a l ih => exact .cons (.int _) ih
def tRgE (K : PySem.W.Frag) (as : List Den) : L2.St → Hp → (Int → Int → Hp → Prop) → Prop := fun σ H Q => ∃ F env r env', Rel K F H env σ ∧ rngArg as env = some (r, env') ∧ ∀ (F' : Addr → Prop) (H' : Hp), Rel K F' H' env' σ → Mv F H env σ F' H' env' σ → Q r.1 r.2 H'
theorem prg_imp {e : Expr} {t t' : L2.St → Hp → (Int → Int → Hp → Prop) → Prop} (h : PRg X e t) (i : ∀ σ H Q, Sized H → t' σ H Q → t σ H (fun a b H' => Q a b H')) : PRg X e t' := fun pins s σ H Q I hw => h pins s σ H Q I (i σ H Q (sized_of I.hok) hw)
theorem prg_one {a : Expr} {da : Den} {p : Pos} (hg : Gl X "range") (hm : X.mg "range" = none) (hs : notStar a = true) (ha : VE X a da) : PRg X (.Call (.Name "range" p) [a] [] pos) (tRgE X.K [da]) :=
  prg_imp (prg_1 hg hm ha (starEach_cons hs)) fun σ H Q sz ⟨F, env, r, env', R, hd, q⟩ => by
    unfold rngArg at hd
    obtain ⟨⟨ps, e1⟩, h1, hd⟩ := Option.bind_eq_some_iff.mp hd
    unfold dArgs at h1
    obtain ⟨⟨p0, e2⟩, h2, h1⟩ := Option.bind_eq_some_iff.mp h1
    obtain ⟨⟨p1, e3⟩, h3, h1⟩ := Option.map_eq_some_iff.mp h1
    cases h3
    cases h1
    simp only at hd
    refine ⟨F, env, p0, e2, R, h2, fun x F1 H1 R1 M1 r1 => ?_⟩
    split at hd
    · rename_i j ej
      cases ej
      split at hd
      · cases hd
        cases r1
        exact ⟨j, rfl, q F1 H1 R1 M1⟩
      · cases hd
    · rename_i ej; cases ej
    · cases hd
theorem prg_two {a b : Expr} {da db : Den} {p : Pos} (hg : Gl X "range") (hm : X.mg "range" = none) (hs : notStar a = true) (hs2 : notStar b = true) (ha : VE X a da) (hb : VE X b db) : PRg X (.Call (.Name "range" p) [a, b] [] pos) (tRgE X.K [da, db]) :=
  prg_imp (prg_2 hg hm ha hb (starEach_cons hs) (starEach_cons hs2) (by rw [starEach_cons hs2]; rfl)) fun σ H Q sz ⟨F, env, r, env', R, hd, q⟩ => by
    unfold rngArg at hd
    obtain ⟨⟨ps, e1⟩, h1, hd⟩ := Option.bind_eq_some_iff.mp hd
    unfold dArgs at h1
    obtain ⟨⟨p0, e2⟩, h2, h1⟩ := Option.bind_eq_some_iff.mp h1
    obtain ⟨⟨p1, e3⟩, h3, h1⟩ := Option.map_eq_some_iff.mp h1
    cases h1
    unfold dArgs at h3
    obtain ⟨⟨p4, e4⟩, h4, h3⟩ := Option.bind_eq_some_iff.mp h3
    obtain ⟨⟨p5, e5⟩, h5, h3⟩ := Option.map_eq_some_iff.mp h3
    cases h5
    cases h3
    simp only at hd
    refine ⟨F, env, p0, e2, R, h2, fun x F1 H1 R1 M1 r1 => ⟨F1, e2, p4, _, R1, h4, fun y F2 H2 R2 M2 r2 => ?_⟩⟩
    split at hd
    · rename_i ej; cases ej
    · rename_i i j ej
      cases ej
      split at hd
      · cases hd
        cases r1
        cases r2
        exact ⟨i, j, rfl, rfl, q F2 H2 R2 (M1.trans M2)⟩
      · cases hd
    · cases hd
theorem rngArg_ok {as : List Den} {env env' : PEn} {r : Int × Int} (h : rngArg as env = some (r, env')) : RgOk r.1 r.2 := by
  unfold rngArg at h
  obtain ⟨⟨ps, e1⟩, h1, hd⟩ := Option.bind_eq_some_iff.mp h
  simp only at hd
  split at hd
  · split at hd
    · cases hd; exact ⟨by show -(2 ^ 62) ≤ (0 : Int); decide, by show (0 : Int) < 2 ^ 62; decide, by show -(2 ^ 62) ≤ _; omega, by omega, by show (_ - (0 : Int)).toNat ≤ 2 ^ 24; omega⟩
    · cases hd
  · split at hd
    · cases hd
      rename_i hh
      exact ⟨hh.1, hh.2.1, hh.2.2.1, hh.2.2.2.1, by omega⟩
    · cases hd
  · cases hd
theorem vf_listRg {as : List Den} {p : Pos} (hc : X.calm = true) (hg : Gl X "list") (hm : X.mg "list" = none) (hs : notStar e = true) (h : PRg X e (tRgE X.K as)) : VF X (.Call (.Name "list" p) [e] [] pos) (dListRg as) :=
  pe_imp (pe_listRg hc hg hm h (starEach_cons hs)) fun σ H Q sz ⟨F, env, r, env', R, hd, q⟩ => by
    unfold dListRg at hd
    obtain ⟨⟨⟨a, b⟩, e1⟩, h1, hz⟩ := Option.map_eq_some_iff.mp hd
    cases hz
    refine ⟨F, env, (a, b), _, R, h1, fun F1 H1 R1 M1 => ⟨rngArg_ok h1, fun p np sz' => ?_⟩⟩
    have N : Nw F1 H1 F1 (upd H1 p (.lst (rgV a b))) := .upd np R1.fz
    obtain ⟨a1, a2⟩ := own_new R1 np
    exact q p F1 _ (N.rel R1 sz') (M1.trans N.mv) a1 a2 (M1.back np) (.lst upd_same (rgV_rep a b))
theorem ve_tupRg {as : List Den} {p : Pos} (hc : X.calm = true) (hg : Gl X "tuple") (hm : X.mg "tuple" = none) (hs : notStar e = true) (h : PRg X e (tRgE X.K as)) : VE X (.Call (.Name "tuple" p) [e] [] pos) (dTupRg as) :=
  pe_imp (pe_tupRg hc hg hm h (starEach_cons hs)) fun σ H Q sz ⟨F, env, r, env', R, hd, q⟩ => by
    unfold dTupRg at hd
    obtain ⟨⟨⟨a, b⟩, e1⟩, h1, hz⟩ := Option.map_eq_some_iff.mp hd
    cases hz
    refine ⟨F, env, (a, b), _, R, h1, fun F1 H1 R1 M1 => ⟨rngArg_ok h1, fun p np sz' => ?_⟩⟩
    have N : Nw F1 H1 F1 (upd H1 p (.tup (rgV a b))) := .upd np R1.fz
    exact q _ F1 _ (N.rel R1 sz') (M1.trans N.mv) (.tup upd_same (rgV_rep a b))
end
end PP

/-! PP, part m: comprehensions, zip, sorted(dict), tuples that are known. -/
namespace PP
open PySem PySem.Spec PyProof.Rows L2

section
variable {X : Cx} {refs : List Nat} {elt tg iter : Expr} {ifs : List Expr} {scope : Scope} {own : List (Str × Nat)} {pos spos py : Pos} {src : DenI} {t : Tgt} {tt : DenT} {de : Den}
abbrev VTs (X : Cx) (ifs : List Expr) (d : DenT) : Prop := PTs X ifs (tT X.K d)
def dYes : DenT := fun e => some (true, e)
theorem pts_imp {t t' : TT} (h : PTs X ifs t) (i : ∀ σ H Q, Sized H → t' σ H Q → t σ H (fun v H' => Sized H' → Q v H')) : PTs X ifs t' := ⟨fun pins s σ H Q I hw =>
  thn (h.run pins s σ H _ I (i σ H Q (sized_of I.hok) hw)) fun u s' ⟨H', I', q⟩ => ⟨H', I', q (sized_of I'.hok)⟩⟩
theorem vts_nil : VTs X [] dYes := pts_imp pts_nil fun σ H Q sz ⟨F, env, r, env', R, hd, q⟩ => by
  cases hd
  exact fun _ => q F H R .refl
theorem vts_one {c : Expr} (h : VT X c tt) : VTs X [c] tt := pts_one h
theorem tF_sz {K : PySem.W.Frag} {d : Den} {σ : L2.St} {H : Hp} {Q : VK} (h : tF K d σ H (fun v H' => Sized H' → Q v H')) : tF K d σ H Q := by
  obtain ⟨F, env, r, env', R, hd, q⟩ := h
  exact ⟨F, env, r, env', R, hd, fun a F' H' R' M n1 n2 hn O => q a F' H' R' M n1 n2 hn O R'.sz⟩
/-- the block of a comprehension is told -/
structure LcOk (X : Cx) (elt tg iter : Expr) (ifs : List Expr) (scope : Scope) (own : List (Str × Nat)) (src : DenI) (t : Tgt) (tt : DenT) (de : Den) : Prop where
  it : VI X tg iter src
  ok : BlkOk X.N X.env.scope scope own
  tg : ∀ (s : Shared) (H : Hp) (C : Addr) (cl : List (Str × Addr)) (fp : List Addr), PG (X.blk s H scope (compEnvC scope cl C X.env) fp) tg (tG X.K t)
  ts : ∀ (s : Shared) (H : Hp) (C : Addr) (cl : List (Str × Addr)) (fp : List Addr), PTs (X.blk s H scope (compEnvC scope cl C X.env) fp) ifs (tT X.K tt)
  el : ∀ (s : Shared) (H : Hp) (C : Addr) (cl : List (Str × Addr)) (fp : List Addr), PE (X.blk s H scope (compEnvC scope cl C X.env) fp) elt (tE X.K de)
  sub : ∀ i, i ∈ t.slots → i ∈ own.map (·.2)
  fs : ∀ x, foldedSetIterable iter X.env x = pure x
theorem vf_lc (hc : X.calm = true) (hN : X.N.Nodup) (l : LcOk X elt tg iter ifs scope own src t tt de) : VF X (.ListComp elt [⟨tg, iter, ifs, 0⟩] scope pos) (dLC src (own.map (·.2)) t tt de) :=
  pe_imp (pe_lc hc hN l.it l.ok l.tg l.ts l.el l.fs) fun σ H Q sz h => lc_imp l.sub h
theorem vs_ownLc {i : Nat} {y : Str} (hr : i ∉ refs) (hc : X.calm = true) (hN : X.N.Nodup) (hy : X.N[i]? = some y) (hyl : X.env.scope.names.lookup y = some .local)
    (hsw : swapsWith (.ListComp elt [⟨tg, iter, ifs, 0⟩] scope pos) (some (.Name y py)) spos.line X.env = pure true) (l : LcOk X elt tg iter ifs scope own src t tt de) :
    VS X refs (.Assign [.Name y py] (.ListComp elt [⟨tg, iter, ifs, 0⟩] scope pos) spos) (sOwn i (dLC src (own.map (·.2)) t tt de)) :=
  ps_imp (ps_setLc hc hN hy hyl hsw l.it l.ok l.tg l.ts l.el l.fs) fun D σ H sz h => by
    have h1 := own_imp hr h
    have h2 := tF_sz (Q := fun x H1 => D.nx (σ.set i (some x)) H1) h1
    exact lc_imp l.sub h2
end

/-! ### zip -/
section
variable {X : Cx} {e e2 : Expr} {pos p tpos : Pos} {da db : Den}
def zipP : List PV → List PV → List PV
  | x :: xs, y :: ys => .tup [x, y] :: zipP xs ys
  | _, _ => []
theorem zipP_len : ∀ xs ys : List PV, (zipP xs ys).length = min xs.length ys.length
  | x :: xs, y :: ys => by simp only [zipP, List.length_cons, zipP_len xs ys]; omega
  | [], ys => by simp [zipP]
  | x :: xs, [] => by simp [zipP]
theorem zipP_get : ∀ (xs ys : List PV) (i : Nat) (q : PV), (zipP xs ys)[i]? = some q → ∃ x y, xs[i]? = some x ∧ ys[i]? = some y ∧ q = .tup [x, y]
  | x :: xs, y :: ys, 0, q, h => by simp [zipP] at h; exact ⟨x, y, rfl, rfl, h.symm⟩
  | x :: xs, y :: ys, i + 1, q, h => by
    obtain ⟨a, b, h1, h2, h3⟩ := zipP_get xs ys i q (by simpa [zipP] using h)
    exact ⟨a, b, by simpa using h1, by simpa using h2, h3⟩
  | [], ys, i, q, h => by simp [zipP] at h
  | x :: xs, [], i, q, h => by simp [zipP] at h
def zipF (a b : PV) : Option (List PV) := match a, b with
  | .lst xs, .lst ys => some (zipP xs ys)
  | a, b => (tupOf a).bind fun xs => (tupOf b).map fun ys => zipP xs ys
def iZip2 (a b : Den) : DenI := fun e => (dArgs [a, b] e).bind fun p => match p.1 with
  | [x, y] => (zipF x y).map fun l => (l, p.2)
  | _ => none
theorem Rep.tupAt {K : PySem.W.Frag} {F : Addr → Prop} {H : Hp} {v : V} {p : PV} {xs : List PV} (r : Rep K F H v p) (h : tupOf p = some xs) : ∃ a vs, v = .ref a ∧ (H a = some (.tup vs) ∨ ∃ o, H a = some (.frz o (.tup vs))) ∧ RepL K F H vs xs := by
  cases p <;> simp only [PP.tupOf] at h <;> cases h
  · obtain ⟨a, vs, e, h, r⟩ := (BRep.rep r).tup; exact ⟨a, vs, e, .inl h, r⟩
  · obtain ⟨a, its, vs, e, h, r⟩ := (BRep.rep r).fup; exact ⟨a, vs, e, .inr ⟨_, h⟩, r⟩
theorem tupAt_sq {K : PySem.W.Frag} {F F2 : Addr → Prop} {H H2 : Hp} {a : Addr} {vs : List V} (h : H a = some (.tup vs) ∨ ∃ o, H a = some (.frz o (.tup vs))) (e : Ex F H F2 H2) : SqT K H2 a vs := by
  rcases h with h | ⟨o, h⟩
  · exact SqT.of (e.tups _ _ h)
  · exact .inl (.inr ⟨_, e.frzs _ _ _ h⟩)
theorem yld_zip {K : PySem.W.Frag} {F : Addr → Prop} {H : Hp} {J : It} {vs ws : List V} {xs ys : List PV} (r1 : RepL K F H vs xs) (r2 : RepL K F H ws ys)
    (go : ∀ (F2 : Addr → Prop) (H2 : Hp) (i : Nat) (x y : V), Ex F H F2 H2 → vs[i]? = some x → ws[i]? = some y → J.go i H2 ∧ ∀ v H3, J.yld i H2 v H3 → ∃ T, v = .ref T ∧ H2 T = none ∧ H3 = upd H2 T (.tup [x, y]))
    (stop : ∀ (F2 : Addr → Prop) (H2 : Hp) (i : Nat), Ex F H F2 H2 → (vs.length ≤ i ∨ ws.length ≤ i) → J.stop i H2) : Yld K F H J (zipP xs ys) := fun F2 H2 ex fz i => by
  refine ⟨fun q hq => ?_, fun hi => stop F2 H2 i ex ?_⟩
  · obtain ⟨x, y, h1, h2, rfl⟩ := zipP_get xs ys i q hq
    obtain ⟨v, hv, rv⟩ := r1.get h1
    obtain ⟨w, hw, rw'⟩ := r2.get h2
    obtain ⟨g, yl⟩ := go F2 H2 i v w ex hv hw
    refine ⟨g, fun z H3 hy => ?_⟩
    obtain ⟨T, rfl, hT, rfl⟩ := yl z H3 hy
    have N : Nw F2 H2 F2 (upd H2 T (.tup [v, w])) := .upd hT fz
    refine ⟨F2, N, .tup upd_same (.cons ((rv.ex ex).ex N.ex) (.cons ((rw'.ex ex).ex N.ex) .nil)), fun s => s.upd ?_⟩
    show 2 ≤ sizeLine
    rw [sizeLine_eq]; omega
  · rw [zipP_len] at hi
    rw [r1.length, r2.length]; omega
theorem vi_zip {elts : List Expr} {kk : Nat} (hg : Gl X "zip") (hm : X.mg "zip" = none) (hs : notStar e = true) (hs2 : notStar e2 = true) (ha : VE X e da) (hb : VE X e2 db) :
    VI X (.Tuple elts kk tpos) (.Call (.Name "zip" p) [e, e2] [] pos) (iZip2 da db) :=
  pi_imp (RZ.pi_zipA hg hm (va_cons hs ha (va_cons hs2 hb va_nil)) (starEach_cons hs) (by rw [starEach_cons hs2]; rfl)) fun σ H R sz ⟨F, env, items, env', Rl, hd, q⟩ => by
    unfold iZip2 at hd
    obtain ⟨⟨ps, e1⟩, h1, hd⟩ := Option.bind_eq_some_iff.mp hd
    refine ⟨F, env, ps, e1, Rl, h1, fun vs F1 H1 R1 M1 r1 => ?_⟩
    simp only at hd
    split at hd
    · rename_i x y
      obtain ⟨l, h2, hz⟩ := Option.map_eq_some_iff.mp hd
      cases hz
      obtain ⟨v, w, rfl, rx, ry⟩ := r1.two
      unfold zipF at h2
      split at h2
      · rename_i xs ys
        cases h2
        obtain ⟨a, vs, rfl, ha, r1⟩ := (BRep.rep rx).lst
        obtain ⟨b, ws, rfl, hb, r2⟩ := (BRep.rep ry).lst
        cases rx with
        | @lst _ vs _ fa r1 =>
          cases ry with
          | @lst _ ws _ fb r2 =>
            refine ⟨a, b, vs, ws, rfl, .inl ⟨fa.seq, fb.seq, fun _ => q _ F1 H1 R1 M1 (yld_zip r1 r2 (fun F2 H2 i x y ex hx hy => ⟨⟨vs, ws, x, y, fa.sql_ex ex, fb.sql_ex ex, hx, hy⟩, fun v H3 hv => ?_⟩) (fun F2 H2 i ex h => ⟨vs, ws, fa.sql_ex ex, fb.sql_ex ex, h⟩)) ?_⟩⟩
            · obtain ⟨T, x', y', e1, e2, e3, f1, f2⟩ := hv
              have g1 := f1 vs (fa.sql_ex ex)
              have g2 := f2 ws (fb.sql_ex ex)
              rw [hx] at g1; rw [hy] at g2
              cases g1; cases g2
              exact ⟨T, e1, e2, e3⟩
            · rw [zipP_len, ← r1.length]
              have := sql_small R1.sz fa.seq
              omega
      · rename_i hno
        obtain ⟨xs, hx, h2⟩ := Option.bind_eq_some_iff.mp h2
        obtain ⟨ys, hy, e⟩ := Option.map_eq_some_iff.mp h2
        subst e
        obtain ⟨a, vs, rfl, fa, ra⟩ := rx.tupAt hx
        obtain ⟨b, ws, rfl, fb, rb⟩ := ry.tupAt hy
        refine ⟨a, b, vs, ws, rfl, .inr ⟨tupAt_sq fa (.refl (F := F1)), tupAt_sq fb (.refl (F := F1)), fun _ => q _ F1 H1 R1 M1 (yld_zip ra rb (fun F2 H2 i x y ex hx hy => ⟨⟨vs, ws, x, y, tupAt_sq fa ex, tupAt_sq fb ex, hx, hy⟩, fun v H3 hv => ?_⟩) (fun F2 H2 i ex h => ⟨vs, ws, tupAt_sq fa ex, tupAt_sq fb ex, h⟩)) ?_⟩⟩
        · obtain ⟨T, x', y', e1, e2, e3, f1, f2⟩ := hv
          have g1 := f1 vs (tupAt_sq fa ex)
          have g2 := f2 ws (tupAt_sq fb ex)
          rw [hx] at g1; rw [hy] at g2
          cases g1; cases g2
          exact ⟨T, e1, e2, e3⟩
        · rw [zipP_len, ← ra.length]
          have : vs.length ≤ sizeLine := by
            rcases fa with h | ⟨o, h⟩
            · exact (R1.sz a).1 vs (.inr (.inl h))
            · exact (R1.sz a).1 vs (.inr (.inr ⟨_, h⟩))
          omega
    · cases hd
end

/-! ### a new tuple, its object known -/
section
variable {X : Cx}
def tupleZF (ps : List PV) : Option PV := match ps with
  | [.lst xs] => some (.fup xs)
  | [.fup xs] => some (.fup xs)
  | _ => none
theorem cr_tupleZF : CallR X (.type "tuple") (rL X.K tupleZF) := by
  refine call_of fun pins s σ H xs us Q F ps r I rx fz sz r1 e k => ?_
  unfold tupleZF at e
  split at e
  · cases e
    obtain ⟨v, rfl, q1⟩ := r1.one
    obtain ⟨a, vs, rfl, h, r⟩ := q1.lst
    obtain ⟨u, rfl, rv⟩ := rx.one
    cases rv
    obtain ⟨its, r', pl, hz⟩ := I.list h
    have hlen := r'.length
    refine call_tuple_list pl.isList (fun h' kp => ?_) (by simp only [List.size_toArray] <;> omega)
    have I1 : Inv X pins σ H { s with heap := h' } := I.kept (t' := s.toks) kp
    have np : H h'.objs.size = none := I1.hok.fresh (Nat.le_refl _)
    have I2 : Inv X pins σ (upd H h'.objs.size (.frz (tupObj its) (.tup vs))) { s with heap := h'.push (tupObj its) } :=
      I1.laid (t' := s.toks) (fun b o e => Heap.get?_push_of_some _ e) (Nat.le_refl _) ⟨Heap.get?_push_size _ rfl, hz, its, r', IsTup.new _ _⟩
    have N : Nw F H F (upd H h'.objs.size (.frz (tupObj its) (.tup vs))) := .upd np fz
    exact ⟨.ref h'.objs.size, _, I2, rfl, k _ _ _ N (.fup upd_same (r.ex N.ex))⟩
  · cases e
    obtain ⟨v, rfl, q1⟩ := r1.one
    obtain ⟨a, its, vs, rfl, h, r⟩ := q1.fup
    exact call_tuple_of pins s σ H _ us Q I rx ⟨a, vs, rfl, .inr ⟨.inl (.inr ⟨_, h⟩), k _ F H (.refl fz) (.fup h r)⟩⟩
  · cases e

/-! ### sorted of the keys -/
def intKeys : List (Key × PV) → Option (List Int)
  | [] => some []
  | (.inl i, _) :: r => (intKeys r).map fun l => i :: l
  | _ => none
def insI (x : Int) : List Int → List Int
  | [] => [x]
  | y :: r => if x ≤ y then x :: y :: r else y :: insI x r
def sortI : List Int → List Int
  | [] => []
  | x :: r => insI x (sortI r)
theorem insI_perm (x : Int) : ∀ l : List Int, (insI x l).Perm (x :: l)
  | [] => .refl _
  | y :: r => by
    unfold insI
    split
    · exact .refl _
    · exact ((insI_perm x r).cons y).trans (.swap x y r)
theorem sortI_perm : ∀ l : List Int, (sortI l).Perm l
  | [] => .refl _
  | x :: r => (insI_perm x _).trans ((sortI_perm r).cons x)
theorem insI_sorted (x : Int) : ∀ {l : List Int}, l.Pairwise (· ≤ ·) → (insI x l).Pairwise (· ≤ ·)
  | [], _ => by simp [insI]
  | y :: r, h => by
    rw [List.pairwise_cons] at h
    unfold insI
    split
    · rename_i hxy
      rw [List.pairwise_cons]
      refine ⟨fun z hz => ?_, List.pairwise_cons.mpr h⟩
      rcases List.mem_cons.mp hz with e | hz
      · omega
      · have := h.1 z hz; omega
    · rename_i hxy
      rw [List.pairwise_cons]
      refine ⟨fun z hz => ?_, insI_sorted x h.2⟩
      rcases List.mem_cons.mp ((insI_perm x r).mem_iff.mp hz) with e | hz
      · omega
      · exact h.1 z hz
theorem sortI_sorted : ∀ l : List Int, (sortI l).Pairwise (· ≤ ·)
  | [] => .nil
  | x :: r => insI_sorted x (sortI_sorted r)
theorem sorted_uniq : ∀ {l k : List Int}, l.Perm k → l.Pairwise (· ≤ ·) → k.Pairwise (· ≤ ·) → l = k := fun p h1 h2 =>
  p.eq_of_pairwise (fun a b _ _ h1 h2 => by omega) h1 h2
def sortedDF (ps : List PV) : Option PV := match ps with
  | [.dk kvs] => (intKeys kvs).bind fun is => if is.length < 64 then some (.lst ((sortI is).map PV.int)) else none
  | _ => none
theorem RepK.intKeys {K : PySem.W.Frag} {F : Addr → Prop} {H : Hp} : ∀ {kvs : List (Key × V)} {xs : List (Key × PV)} {is : List Int}, RepK K F H kvs xs → PP.intKeys xs = some is → kvs.map (·.1) = is.map Sum.inl
  | _, _, _, .nil, h => by cases h; rfl
  | _, _, _, @RepK.cons _ _ _ k _ _ _ _ r t, h => by
    cases k with
    | inl i =>
      simp only [PP.intKeys] at h
      obtain ⟨l, hl, e⟩ := Option.map_eq_some_iff.mp h
      subst e
      simp [RepK.intKeys t hl]
    | inr s => simp [PP.intKeys] at h
theorem intsL_rep {K : PySem.W.Frag} {F : Addr → Prop} {H : Hp} : ∀ is : List Int, RepL K F H (is.map V.int) (is.map PV.int)
  | [] => .nil
  | i :: is => .cons (.int i) (intsL_rep is)
theorem cr_sortedDF (hc : X.calm = true) : CallR X (.builtin "sorted") (rL X.K sortedDF) := by
  refine call_of fun pins s σ H xs us Q F ps r I rx fz sz r1 e k => ?_
  unfold sortedDF at e
  split at e
  · rename_i kvs
    obtain ⟨is, hi, e⟩ := Option.bind_eq_some_iff.mp e
    split at e
    · rename_i hl
      cases e
      obtain ⟨v, rfl, q1⟩ := r1.one
      obtain ⟨a, rfl, D⟩ := q1.dic rfl
      cases D with
      | @dk ws _ hH rk =>
        refine call_sortedDI hc pins s σ H _ us Q I rx ⟨a, ws, is, rfl, .inl hH, rk.intKeys hi, hl, fun ys p pm so np => ?_⟩
        have ey : ys = sortI is := sorted_uniq (pm.trans (sortI_perm is).symm) so (sortI_sorted is)
        subst ey
        obtain ⟨N, R⟩ := new_list (xs := (sortI is).map PV.int) fz np (intsL_rep _)
        exact k _ _ _ N R
    · cases e
  · cases e
end
end PP

/-! PP, part n: defs and calls. -/
namespace PP
open PySem PySem.Spec PyProof.Rows L2

/-- what a def does: the arguments, then the word and the arguments as they are behind it -/
abbrev Sem := List PV → Option (PV × List PV)
/-- the slots of the parameters; ms tells which are by reference -/
def argE : List Bool → List PV → PEn
  | [], ps => ps.map .val
  | _ :: _, [] => []
  | b :: bs, p :: ps => (if b then .own p else .val p) :: argE bs ps
def outsP (e : PEn) : Nat → List Bool → List PV → Option (List PV)
  | _, [], ps => some ps
  | _, _ :: _, [] => some []
  | k, b :: bs, p :: ps => (if b then (match e[k]? with | some (.own w) => some w | _ => none) else some p).bind fun w => (outsP e (k + 1) bs ps).map (w :: ·)
def runF (ms : List Bool) (m : Nat) (d : DenS) : Sem := fun ps => (d (argE ms ps ++ List.replicate m .no)).bind fun fl => match fl with
  | .nx e => (outsP e 0 ms ps).map fun w => (.non, w)
  | .rt v e => (outsP e 0 ms ps).map fun w => (v, w)
  | _ => none
def spOf (K : PySem.W.Frag) (n : Nat) (ms : List Bool) (sem : Sem) : Sp := fun vs H Q _ => ∃ F ps r ws, vs.length = n ∧ Rel K F H (argE ms ps) (vs.map some) ∧ sem ps = some (r, ws) ∧ (∀ (x : V) (F' : Addr → Prop) (H' : Hp), ws.length = ps.length → Rel K F' H' (argE ms ws) (vs.map some) → Mv F H (argE ms ps) (vs.map some) F' H' (argE ms ws) (vs.map some) → Rep K F' H' x r → Q x H')

theorem argE_get : ∀ (ms : List Bool) (ps : List PV) (i : Nat), (argE ms ps)[i]? = (ps[i]?).map fun p => if ms.getD i false then SlP.own p else SlP.val p
  | [], ps, i => by simp [argE]
  | _ :: _, [], i => by simp [argE]
  | b :: bs, p :: ps, 0 => by cases b <;> simp [argE]
  | b :: bs, p :: ps, i + 1 => by simpa [argE] using argE_get bs ps i
theorem argE_len (ms : List Bool) (ps : List PV) : (argE ms ps).length = ps.length := by
  induction ms generalizing ps with
  | nil => simp [argE]
  | cons b bs ih => cases ps <;> simp [argE, ih]
theorem argE_own {ms : List Bool} {ps : List PV} {i : Nat} {v : PV} (h : (argE ms ps)[i]? = some (SlP.own v)) : ms.getD i false = true ∧ ps[i]? = some v := by
  rw [argE_get] at h
  obtain ⟨p, hp, e⟩ := Option.map_eq_some_iff.mp h
  split at e <;> cases e
  exact ⟨by assumption, hp⟩
theorem argE_val {ms : List Bool} {ps : List PV} {i : Nat} {v : PV} (h : (argE ms ps)[i]? = some (SlP.val v)) : ms.getD i false = false ∧ ps[i]? = some v := by
  rw [argE_get] at h
  obtain ⟨p, hp, e⟩ := Option.map_eq_some_iff.mp h
  split at e <;> cases e
  rename_i h
  exact ⟨by simpa using h, hp⟩
theorem outsP_get {e : PEn} : ∀ {k : Nat} {ms : List Bool} {ps ws : List PV}, outsP e k ms ps = some ws → ws.length = ps.length ∧ ∀ (i : Nat) (w : PV), ws[i]? = some w → if ms.getD i false then e[k + i]? = some (SlP.own w) else ps[i]? = some w
  | k, [], ps, ws, h => by cases h; exact ⟨rfl, fun i w hw => by simpa using hw⟩
  | k, _ :: _, [], ws, h => by cases h; exact ⟨rfl, fun i w hw => by simp at hw⟩
  | k, b :: bs, p :: ps, ws, h => by
    unfold outsP at h
    obtain ⟨w, hw, h⟩ := Option.bind_eq_some_iff.mp h
    obtain ⟨t, ht, e1⟩ := Option.map_eq_some_iff.mp h
    subst e1
    obtain ⟨l, g⟩ := outsP_get ht
    refine ⟨by simp [l], fun i u hu => ?_⟩
    cases i with
    | zero =>
      simp at hu
      subst hu
      cases b with
      | false => simp at hw ⊢; exact hw
      | true =>
        simp only [if_true] at hw
        simp only [List.getD_cons_zero, if_true, Nat.add_zero]
        split at hw
        · rename_i e2; cases hw; exact e2
        · cases hw
    | succ i =>
      have := g i u (by simpa using hu)
      simp only [List.getD_cons_succ, List.getElem?_cons_succ]
      rw [show k + (i + 1) = k + 1 + i by omega]
      exact this

section
variable {K : PySem.W.Frag} {F F' : Addr → Prop} {H H' : Hp} {env e' : PEn} {σ σ' : L2.St} {refs : List Nat} {ms : List Bool} {ps ws : List PV} {vs : List V}
theorem pad_own {m n : Nat} {i : Nat} {v : PV} (h : (env ++ List.replicate m SlP.no)[i]? = some (SlP.own v)) : env[i]? = some (SlP.own v) ∧ i < env.length := by
  by_cases hi : i < env.length
  · rw [List.getElem?_append_left hi] at h; exact ⟨h, hi⟩
  · rw [List.getElem?_append_right (by omega), List.getElem?_replicate] at h
    split at h <;> cases h
theorem pad_val {m : Nat} {i : Nat} {v : PV} (h : (env ++ List.replicate m SlP.no)[i]? = some (SlP.val v)) : env[i]? = some (SlP.val v) ∧ i < env.length := by
  by_cases hi : i < env.length
  · rw [List.getElem?_append_left hi] at h; exact ⟨h, hi⟩
  · rw [List.getElem?_append_right (by omega), List.getElem?_replicate] at h
    split at h <;> cases h
theorem Rel.pad (R : Rel K F H env σ) (m : Nat) : Rel K F H (env ++ List.replicate m SlP.no) (σ ++ List.replicate m none) where
  len := by simp [R.len]
  val := fun i v e => by
    obtain ⟨e, hi⟩ := pad_val e
    rw [List.getElem?_append_left (by rw [← R.len]; exact hi)]
    exact R.val i v e
  own := fun i v e => by
    obtain ⟨e, hi⟩ := pad_own (n := m) e
    rw [List.getElem?_append_left (by rw [← R.len]; exact hi)]
    exact R.own i v e
  apart := fun i j v w a e1 e2 s1 s2 => by
    obtain ⟨e1, h1⟩ := pad_own (n := m) e1
    obtain ⟨e2, h2⟩ := pad_own (n := m) e2
    rw [List.getElem?_append_left (by rw [← R.len]; exact h1)] at s1
    rw [List.getElem?_append_left (by rw [← R.len]; exact h2)] at s2
    exact R.apart i j v w a e1 e2 s1 s2
  fz := R.fz
  sz := R.sz
theorem own_pad {m : Nat} {a : Addr} (l : env.length = σ.length) : Own (env ++ List.replicate m SlP.no) (σ ++ List.replicate m none) a → Own env σ a := fun ⟨i, v, e, s⟩ => by
  obtain ⟨e, h⟩ := pad_own (n := m) e
  rw [List.getElem?_append_left (by rw [← l]; exact h)] at s
  exact ⟨i, v, e, s⟩
/-- behind a body: the parameters by reference -/
theorem fn_end {m : Nat} (R0 : Rel K F H (argE ms ps) (vs.map some)) (hr : ∀ i, ms.getD i false = true → i ∈ refs) (R : Rel K F' H' e' σ') (M : Mv F H (argE ms ps ++ List.replicate m SlP.no) (vs.map some ++ List.replicate m none) F' H' e' σ') (k : Keep refs (vs.map some ++ List.replicate m none) σ')
    (ho : outsP e' 0 ms ps = some ws) : ws.length = ps.length ∧ Rel K F' H' (argE ms ws) (vs.map some) ∧ Mv F H (argE ms ps) (vs.map some) F' H' (argE ms ws) (vs.map some) := by
  obtain ⟨l, g⟩ := outsP_get ho
  have ll : ps.length = vs.length := by have := R0.len; rw [argE_len] at this; simpa using this
  have back : ∀ (i : Nat) (w : PV), (argE ms ws)[i]? = some (SlP.own w) → e'[i]? = some (SlP.own w) ∧ (∀ a, σ'[i]? = some (some (V.ref a)) → (vs.map some)[i]? = some (some (V.ref a))) := fun i w e => by
    obtain ⟨h1, h2⟩ := argE_own e
    have := g i w h2
    rw [if_pos h1, Nat.zero_add] at this
    refine ⟨this, fun a s => ?_⟩
    rw [k i (hr i h1)] at s
    have hi : i < ws.length := (List.getElem?_eq_some_iff.mp h2).1
    rw [List.getElem?_append_left (by simp; omega)] at s
    exact s
  have bck : ∀ (i : Nat) (w : PV), (argE ms ws)[i]? = some (SlP.own w) → ∀ a, (vs.map some)[i]? = some (some (V.ref a)) → σ'[i]? = some (some (V.ref a)) := fun i w e a s => by
    obtain ⟨h1, h2⟩ := argE_own e
    rw [k i (hr i h1)]
    have hi : i < ws.length := (List.getElem?_eq_some_iff.mp h2).1
    rw [List.getElem?_append_left (by simp; omega)]
    exact s
  refine ⟨l, ⟨by rw [argE_len, l, ll]; simp, fun i v e => ?_, fun i v e => ?_, fun i j v w a e1 e2 s1 s2 => ?_, R.fz, R.sz⟩, ⟨M.sub, fun b o hb n => M.frame b o hb fun z => n (own_pad R0.len z), fun a f => ?_, fun a ⟨i, v, e, s⟩ => ?_, M.there⟩⟩
  · obtain ⟨h1, h2⟩ := argE_val e
    have := g i v h2
    rw [h1] at this
    simp only [Bool.false_eq_true, if_false] at this
    obtain ⟨x, sx, r⟩ := R0.val i v (by rw [argE_get, this, h1]; rfl)
    exact ⟨x, sx, r.ex (M.ex (R0.pad m))⟩
  · obtain ⟨e1, e2⟩ := back i v e
    obtain ⟨a, sa, nF, O⟩ := R.own i v e1
    exact ⟨a, e2 a sa, nF, O⟩
  · exact R.apart i j v w a (back i v e1).1 (back j w e2).1 (bck i v e1 a s1) (bck j w e2 a s2)
  · rcases M.fnew a f with z | z | z
    · exact .inl z
    · exact .inr (.inl (own_pad R0.len z))
    · exact .inr (.inr z)
  · rcases M.onew a ⟨i, v, (back i v e).1, bck i v e a s⟩ with z | z
    · exact .inl (own_pad R0.len z)
    · exact .inr z
/-- a body's reading from what the def does -/
theorem fn_body {N : List Str} {n m : Nat} {d : DenS} {Q : VK} {E : XK} (hm : N.length - n = m) (hr : ∀ i, ms.getD i false = true → i ∈ refs) (h : spOf K n ms (runF ms m d) vs H Q E) : tS K refs d { nx := fun _ H' => Q .non H', rt := Q } (L2.start N vs) H := by
  obtain ⟨F, ps, r, ws, hl, R, hs, q⟩ := h
  unfold runF at hs
  obtain ⟨fl, h1, h2⟩ := Option.bind_eq_some_iff.mp hs
  unfold L2.start
  rw [hl, hm]
  refine ⟨F, _, fl, R.pad m, h1, ?_⟩
  cases fl with
  | nx e =>
    obtain ⟨w, hw, e1⟩ := Option.map_eq_some_iff.mp h2
    cases e1
    intro σ' F' H' R' M k
    obtain ⟨a, b, c⟩ := fn_end R hr R' M k hw
    exact q .non F' H' a b c .non
  | rt v e =>
    obtain ⟨w, hw, e1⟩ := Option.map_eq_some_iff.mp h2
    cases e1
    intro x σ' F' H' R' M k rx
    obtain ⟨a, b, c⟩ := fn_end R hr R' M k hw
    exact q x F' H' a b c rx
  | bk e => cases h2
  | ct e => cases h2
end
/-- a def keeps what its body's denotation says -/
theorem fn_ok {P : Program} {w : World} {K : PySem.W.Frag} {mg : Str → Option Value} {base : Heap} {x qual : Str} {params : Arguments} {body : List Stmt} {scope : Scope} {dvs : List V} {kws : List (Str × V)} {f : Addr} {fd : FuncData} {N ps : List Str} {k m : Nat} {ms : List Bool} {refs : List Nat} {d : DenS}
    (Fn : FunD K x qual params body scope dvs kws f fd) (S : FnScope N ps scope) (hm : N.length - ps.length = m) (hr : ∀ i, ms.getD i false = true → i ∈ refs)
    (hb : ∀ (cdv : Value) (A : Around) (outer : List Env) (s : Shared) (H : Hp) (E : XK), Room k (A.deeper (envOfC qual scope s.heap.objs.size f cdv)) → VSs (cxOf CX0 P w K mg base N qual scope f cdv A outer s H E).nox refs body d) :
    FnOk P w K mg base CX0 (k + 1) f fd ps (spOf K ps.length ms (runF ms m d)) :=
  Fn.ok S (fun vs H Q E ⟨_, _, _, _, h, _⟩ => h) fun cdv A outer s H vs Q E hroom h => ⟨_, PSs.nox (hb cdv A outer s H E hroom), fn_body hm hr h⟩

/-! ### calls -/
def isB : Arg → Bool
  | .d _ => false
  | .b _ => true
def slotsB : List Arg → List Nat
  | [] => []
  | .d _ :: r => slotsB r
  | .b i :: r => i :: slotsB r
def cArgs : List Arg → DenA
  | [] => fun e => some ([], e)
  | .d a :: r => fun e => (a e).bind fun p => (cArgs r p.2).map fun q => (p.1 :: q.1, q.2)
  | .b i :: r => fun e => (slotv e i).bind fun _ => (cArgs r e).bind fun q => match q.2[i]? with
    | some (.own v) => some (v :: q.1, q.2)
    | _ => none
def backE : List Arg → List PV → PEn → PEn
  | .b i :: as, p :: ps, e => backE as ps (e.set i (.own p))
  | .d _ :: as, _ :: ps, e => backE as ps e
  | _, _, e => e
def dCall (sem : Sem) (as : List Arg) : Den := fun e => (cArgs as e).bind fun p => (sem p.1).map fun r => (r.1, backE as r.2 p.2)
/-- the arguments as they lie -/
structure ArgRep (K : PySem.W.Frag) (F : Addr → Prop) (H : Hp) (env : PEn) (σ : L2.St) (as : List Arg) (xs : List V) (ps : List PV) : Prop where
  l1 : xs.length = as.length
  l2 : ps.length = as.length
  d : ∀ (j : Nat) (a : Den), as[j]? = some (.d a) → ∃ x p, xs[j]? = some x ∧ ps[j]? = some p ∧ Rep K F H x p
  b : ∀ (j i : Nat), as[j]? = some (.b i) → ∃ x p, xs[j]? = some x ∧ ps[j]? = some p ∧ σ[i]? = some (some x) ∧ env[i]? = some (SlP.own p)
def tC (K : PySem.W.Frag) (as : List Arg) : TA := fun σ H Q => ∃ F env r env', Rel K F H env σ ∧ cArgs as env = some (r, env') ∧ ∀ (xs : List V) (F' : Addr → Prop) (H' : Hp), Rel K F' H' env' σ → Mv F H env σ F' H' env' σ → ArgRep K F' H' env' σ as xs r → Q xs H'
abbrev VC (X : Cx) (es : List Expr) (as : List Arg) : Prop := PA X es (tC X.K as)
section
variable {X : Cx} {e : Expr} {es : List Expr} {as : List Arg} {da : Den}
theorem vc_nil : VC X [] [] := pa_imp pa_nil fun σ H Q sz ⟨F, env, r, env', R, hd, q⟩ => by
  cases hd
  exact fun _ => q [] F H R .refl ⟨rfl, rfl, fun j a h => by simp at h, fun j i h => by simp at h⟩
theorem vc_d (hn : notStar e = true) (ha : VE X e da) (hr : VC X es as) : VC X (e :: es) (.d da :: as) :=
  pa_imp (pa_cons ha hr (starEach_cons hn)) fun σ H Q sz ⟨F, env, r, env', R, hd, q⟩ => by
    unfold cArgs at hd
    obtain ⟨⟨p, e1⟩, h1, hd⟩ := Option.bind_eq_some_iff.mp hd
    obtain ⟨⟨ps, e2⟩, h2, hz⟩ := Option.map_eq_some_iff.mp hd
    cases hz
    refine ⟨F, env, p, e1, R, h1, fun x F1 H1 R1 M1 r1 => ⟨F1, e1, ps, e2, R1, h2, fun xs F2 H2 R2 M2 A => ?_⟩⟩
    refine fun _ => q (x :: xs) F2 H2 R2 (M1.trans M2) ⟨by simp [A.l1], by simp [A.l2], fun j a h => ?_, fun j i h => ?_⟩
    · cases j with
      | zero => exact ⟨x, p, rfl, rfl, r1.ex (M2.ex R1)⟩
      | succ j => obtain ⟨y, z, h1, h2, h3⟩ := A.d j a (by simpa using h); exact ⟨y, z, by simpa using h1, by simpa using h2, h3⟩
    · cases j with
      | zero => simp at h
      | succ j => obtain ⟨y, z, h1, h2, h3⟩ := A.b j i (by simpa using h); exact ⟨y, z, by simpa using h1, by simpa using h2, h3⟩
theorem vc_b {i : Nat} (hn : notStar e = true) (ha : PE X e (tVar i)) (hr : VC X es as) : VC X (e :: es) (.b i :: as) :=
  pa_imp (pa_cons ha hr (starEach_cons hn)) fun σ H Q sz ⟨F, env, r, env', R, hd, q⟩ => by
    unfold cArgs at hd
    obtain ⟨v0, h0, hd⟩ := Option.bind_eq_some_iff.mp hd
    obtain ⟨⟨ps, e1⟩, h1, hd⟩ := Option.bind_eq_some_iff.mp hd
    simp only at hd
    split at hd
    · rename_i v ev
      cases hd
      obtain ⟨x, sx, _⟩ := slotv_rep R h0
      refine ⟨x, sx, F, env, ps, _, R, h1, fun xs F2 H2 R2 M2 A => ?_⟩
      refine fun _ => q (x :: xs) F2 H2 R2 M2 ⟨by simp [A.l1], by simp [A.l2], fun j a h => ?_, fun j i' h => ?_⟩
      · cases j with
        | zero => simp at h
        | succ j => obtain ⟨y, z, h1, h2, h3⟩ := A.d j a (by simpa using h); exact ⟨y, z, by simpa using h1, by simpa using h2, h3⟩
      · cases j with
        | zero => simp at h; subst h; exact ⟨x, v, rfl, rfl, sx, ev⟩
        | succ j => obtain ⟨y, z, h1, h2, h3⟩ := A.b j i' (by simpa using h); exact ⟨y, z, by simpa using h1, by simpa using h2, h3⟩
    · cases hd
theorem backE_len : ∀ (as : List Arg) (ps : List PV) (e : PEn), (backE as ps e).length = e.length
  | .b i :: as, p :: ps, e => by simp [backE, backE_len as ps]
  | .d _ :: as, _ :: ps, e => by simp [backE, backE_len as ps]
  | [], _, e => by simp [backE]
  | .b _ :: _, [], e => by simp [backE]
  | .d _ :: _, [], e => by simp [backE]
theorem mem_slots : ∀ {as : List Arg} {i : Nat}, i ∈ slotsB as ↔ ∃ j : Nat, as[j]? = some (Arg.b i)
  | [], i => by simp [slotsB]
  | .d a :: as, i => by
    rw [slotsB, mem_slots]
    refine ⟨fun ⟨j, h⟩ => ⟨j + 1, by simpa using h⟩, fun ⟨j, h⟩ => ?_⟩
    cases j with
    | zero => simp at h
    | succ j => exact ⟨j, by simpa using h⟩
  | .b k :: as, i => by
    rw [slotsB, List.mem_cons, mem_slots]
    refine ⟨fun h => ?_, fun ⟨j, h⟩ => ?_⟩
    · rcases h with h | ⟨j, h⟩
      · subst h; exact ⟨0, rfl⟩
      · exact ⟨j + 1, by simpa using h⟩
    · cases j with
      | zero => simp at h; exact .inl h.symm
      | succ j => exact .inr ⟨j, by simpa using h⟩
theorem backE_off : ∀ {as : List Arg} {ps : List PV} {e : PEn} {i : Nat}, i ∉ slotsB as → (backE as ps e)[i]? = e[i]?
  | .b k :: as, p :: ps, e, i, h => by
    rw [slotsB, List.mem_cons, not_or] at h
    rw [backE, backE_off h.2, List.getElem?_set_ne (Ne.symm h.1)]
  | .d _ :: as, _ :: ps, e, i, h => by rw [slotsB] at h; rw [backE, backE_off h]
  | [], _, e, i, h => by simp [backE]
  | .b _ :: _, [], e, i, h => by simp [backE]
  | .d _ :: _, [], e, i, h => by simp [backE]
theorem backE_at : ∀ {as : List Arg} {ps : List PV} {e : PEn} {i j : Nat} {w : PV}, (slotsB as).Nodup → as[j]? = some (.b i) → ps[j]? = some w → i < e.length → (backE as ps e)[i]? = some (SlP.own w)
  | .b k :: as, p :: ps, e, i, 0, w, nd, h1, h2, hi => by
    simp at h1 h2
    subst h1 h2
    rw [slotsB, List.nodup_cons] at nd
    rw [backE, backE_off nd.1, List.getElem?_set_self hi]
  | .b k :: as, p :: ps, e, i, j + 1, w, nd, h1, h2, hi => by
    rw [slotsB, List.nodup_cons] at nd
    rw [backE]
    exact backE_at nd.2 (by simpa using h1) (by simpa using h2) (by simpa using hi)
  | .d _ :: as, _ :: ps, e, i, 0, w, nd, h1, h2, hi => by simp at h1
  | .d _ :: as, _ :: ps, e, i, j + 1, w, nd, h1, h2, hi => by
    rw [slotsB] at nd
    rw [backE]
    exact backE_at nd (by simpa using h1) (by simpa using h2) hi
  | [], _, e, i, j, w, nd, h1, h2, hi => by simp at h1
  | _ :: _, [], e, i, j, w, nd, h1, h2, hi => by simp at h2
theorem slots_inj : ∀ {as : List Arg} {i j k : Nat}, (slotsB as).Nodup → as[j]? = some (.b i) → as[k]? = some (.b i) → j = k
  | [], i, j, k, nd, h1, h2 => by simp at h1
  | .d _ :: as, i, j, k, nd, h1, h2 => by
    rw [slotsB] at nd
    cases j with
    | zero => simp at h1
    | succ j =>
      cases k with
      | zero => simp at h2
      | succ k => exact congrArg Nat.succ (slots_inj nd (by simpa using h1) (by simpa using h2))
  | .b q :: as, i, j, k, nd, h1, h2 => by
    rw [slotsB, List.nodup_cons] at nd
    cases j with
    | zero =>
      cases k with
      | zero => rfl
      | succ k =>
        simp at h1
        subst h1
        exact absurd (mem_slots.mpr ⟨k, by simpa using h2⟩) nd.1
    | succ j =>
      cases k with
      | zero =>
        simp at h2
        subst h2
        exact absurd (mem_slots.mpr ⟨j, by simpa using h1⟩) nd.1
      | succ k => exact congrArg Nat.succ (slots_inj nd.2 (by simpa using h1) (by simpa using h2))
end
section
variable {K : PySem.W.Frag} {F F' : Addr → Prop} {H H' : Hp} {env : PEn} {σ : L2.St} {ms : List Bool} {as : List Arg} {ps ws : List PV} {xs : List V}
def mskOk (as : List Arg) (ms : List Bool) : Prop := as.map isB = ms ++ List.replicate (as.length - ms.length) false
theorem msk_get (h : mskOk as ms) {j : Nat} {a : Arg} (ha : as[j]? = some a) : ms.getD j false = isB a := by
  have h1 : (as.map isB)[j]? = some (isB a) := by rw [List.getElem?_map, ha]; rfl
  rw [h] at h1
  rw [List.getD_eq_getElem?_getD]
  by_cases hj : j < ms.length
  · rw [List.getElem?_append_left hj] at h1; rw [h1]; rfl
  · rw [List.getElem?_append_right (by omega), List.getElem?_replicate] at h1
    rw [List.getElem?_eq_none (by omega)]
    split at h1
    · simpa using h1
    · cases h1
theorem arg_at {j : Nat} {p : PV} (A : ArgRep K F H env σ as xs ps) (hp : ps[j]? = some p) : ∃ a, as[j]? = some a := by
  have : j < as.length := by rw [← A.l2]; exact (List.getElem?_eq_some_iff.mp hp).1
  exact ⟨_, List.getElem?_eq_getElem this⟩
/-- a call's arguments are the parameters -/
theorem arg_rel (R : Rel K F H env σ) (A : ArgRep K F H env σ as xs ps) (hk : mskOk as ms) (nd : (slotsB as).Nodup) : Rel K F H (argE ms ps) (xs.map some) where
  len := by rw [argE_len, A.l2, ← A.l1]; simp
  val := fun j v e => by
    obtain ⟨h1, h2⟩ := argE_val e
    obtain ⟨a, ha⟩ := arg_at A h2
    have := msk_get hk ha
    cases a with
    | b i => rw [h1] at this; cases this
    | d a =>
      obtain ⟨x, p, hx, hp, r⟩ := A.d j a ha
      rw [h2] at hp; cases hp
      exact ⟨x, by rw [List.getElem?_map, hx]; rfl, r⟩
  own := fun j v e => by
    obtain ⟨h1, h2⟩ := argE_own e
    obtain ⟨a, ha⟩ := arg_at A h2
    have := msk_get hk ha
    cases a with
    | d a => rw [h1] at this; cases this
    | b i =>
      obtain ⟨x, p, hx, hp, sx, ep⟩ := A.b j i ha
      rw [h2] at hp; cases hp
      obtain ⟨a, sa, nF, O⟩ := R.own i _ ep
      rw [sx] at sa; cases sa
      exact ⟨a, by rw [List.getElem?_map, hx]; rfl, nF, O⟩
  apart := fun j k v w a e1 e2 s1 s2 => by
    have go : ∀ (j : Nat) (v : PV), (argE ms ps)[j]? = some (SlP.own v) → (xs.map some)[j]? = some (some (V.ref a)) → ∃ i, as[j]? = some (.b i) ∧ σ[i]? = some (some (V.ref a)) ∧ ∃ p, env[i]? = some (SlP.own p) := fun j v e s => by
      obtain ⟨h1, h2⟩ := argE_own e
      obtain ⟨b, hb⟩ := arg_at A h2
      have := msk_get hk hb
      cases b with
      | d _ => rw [h1] at this; cases this
      | b i =>
        obtain ⟨x, p, hx, hp, sx, ep⟩ := A.b j i hb
        rw [List.getElem?_map, hx] at s
        cases s
        exact ⟨i, hb, sx, p, ep⟩
    obtain ⟨i1, a1, s1, p1, q1⟩ := go j v e1 s1
    obtain ⟨i2, a2, s2, p2, q2⟩ := go k w e2 s2
    have := R.apart i1 i2 p1 p2 a q1 q2 s1 s2
    subst this
    exact slots_inj nd a1 a2
  fz := R.fz
  sz := R.sz
theorem own_arg (A : ArgRep K F H env σ as xs ps) (hk : mskOk as ms) {a : Addr} (o : Own (argE ms ps) (xs.map some) a) : ∃ i, i ∈ slotsB as ∧ σ[i]? = some (some (V.ref a)) ∧ ∃ p, env[i]? = some (SlP.own p) := by
  obtain ⟨j, v, e, s⟩ := o
  obtain ⟨h1, h2⟩ := argE_own e
  obtain ⟨b, hb⟩ := arg_at A h2
  have := msk_get hk hb
  cases b with
  | d _ => rw [h1] at this; cases this
  | b i =>
    obtain ⟨x, p, hx, hp, sx, ep⟩ := A.b j i hb
    rw [List.getElem?_map, hx] at s
    cases s
    exact ⟨i, mem_slots.mpr ⟨j, hb⟩, sx, p, ep⟩
/-- behind the call -/
theorem arg_back (R : Rel K F H env σ) (A : ArgRep K F H env σ as xs ps) (hk : mskOk as ms) (nd : (slotsB as).Nodup) (hl : ws.length = ps.length) (R2 : Rel K F' H' (argE ms ws) (xs.map some)) (M : Mv F H (argE ms ps) (xs.map some) F' H' (argE ms ws) (xs.map some)) :
    Rel K F' H' (backE as ws env) σ ∧ Mv F H env σ F' H' (backE as ws env) σ := by
  have R1 := arg_rel R A hk nd
  have ex := M.ex R1
  -- a slot by reference
  have inn : ∀ i, i ∈ slotsB as → ∃ a w, σ[i]? = some (some (V.ref a)) ∧ (backE as ws env)[i]? = some (SlP.own w) ∧ ¬ F' a ∧ OwnAt K F' H' a w ∧ Own (argE ms ws) (xs.map some) a ∧ ∃ p, env[i]? = some (SlP.own p) := fun i hi => by
    obtain ⟨j, hj⟩ := mem_slots.mp hi
    obtain ⟨x, p, hx, hp, sx, ep⟩ := A.b j i hj
    have hjl : j < ws.length := by rw [hl]; exact (List.getElem?_eq_some_iff.mp hp).1
    have hw : ws[j]? = some ws[j] := List.getElem?_eq_getElem hjl
    have hm := msk_get hk hj
    have e : (argE ms ws)[j]? = some (SlP.own ws[j]) := by rw [argE_get, hw, hm]; rfl
    obtain ⟨a, sa, nF, O⟩ := R2.own j _ e
    have sa' := sa
    rw [List.getElem?_map, hx] at sa
    cases sa
    exact ⟨a, ws[j], sx, backE_at nd hj hw (List.getElem?_eq_some_iff.mp ep).1, nF, O, ⟨j, _, e, sa'⟩, p, ep⟩
  -- one that is none
  have out : ∀ (i : Nat) (v : PV) (a : Addr), i ∉ slotsB as → env[i]? = some (SlP.own v) → σ[i]? = some (some (V.ref a)) → ¬ Own (argE ms ps) (xs.map some) a := fun i v a hi e s o => by
    obtain ⟨i', h1, h2, p, h3⟩ := own_arg A hk o
    have := R.apart i i' v p a e h3 s h2
    subst this
    exact hi h1
  have ownE : ∀ (a : Addr), Own (argE ms ps) (xs.map some) a → Own env σ a := fun a o => by
    obtain ⟨i, h1, h2, p, h3⟩ := own_arg A hk o
    exact ⟨i, p, h3, h2⟩
  refine ⟨⟨by rw [backE_len]; exact R.len, fun i v e => ?_, fun i v e => ?_, fun i j v w a e1 e2 s1 s2 => ?_, R2.fz, R2.sz⟩, ⟨M.sub, fun b o hb n => M.frame b o hb fun z => n (ownE b z), fun a f => ?_, fun a ⟨i, v, e, s⟩ => ?_, M.there⟩⟩
  · by_cases hi : i ∈ slotsB as
    · obtain ⟨a, w, _, e2, _⟩ := inn i hi
      rw [e] at e2; cases e2
    · rw [backE_off hi] at e
      obtain ⟨x, sx, r⟩ := R.val i v e
      exact ⟨x, sx, r.ex ex⟩
  · by_cases hi : i ∈ slotsB as
    · obtain ⟨a, w, s, e2, nF, O, _⟩ := inn i hi
      rw [e] at e2; cases e2
      exact ⟨a, s, nF, O⟩
    · rw [backE_off hi] at e
      obtain ⟨a, s, nF, O⟩ := R.own i v e
      have no := out i v a hi e s
      obtain ⟨u, hu, _⟩ := O.some
      refine ⟨a, s, fun f => ?_, O.ex ex ((M.frame a u hu no).trans hu.symm)⟩
      rcases M.fnew a f with z | z | z
      · exact nF z
      · exact no z
      · rw [hu] at z; cases z
  · have back : ∀ (i : Nat) (v : PV), (backE as ws env)[i]? = some (SlP.own v) → ∃ p, env[i]? = some (SlP.own p) := fun i v e => by
      by_cases hi : i ∈ slotsB as
      · obtain ⟨_, _, _, _, _, _, _, p, hp⟩ := inn i hi; exact ⟨p, hp⟩
      · rw [backE_off hi] at e; exact ⟨v, e⟩
    obtain ⟨p1, q1⟩ := back i v e1
    obtain ⟨p2, q2⟩ := back j w e2
    exact R.apart i j p1 p2 a q1 q2 s1 s2
  · rcases M.fnew a f with z | z | z
    · exact .inl z
    · exact .inr (.inl (ownE a z))
    · exact .inr (.inr z)
  · by_cases hi : i ∈ slotsB as
    · obtain ⟨_, _, _, _, _, _, _, p, hp⟩ := inn i hi; exact .inl ⟨i, p, hp, s⟩
    · rw [backE_off hi] at e; exact .inl ⟨i, v, e, s⟩
end
section
variable {X : Cx} {e : Expr} {es : List Expr} {as : List Arg} {k n : Nat} {f : Addr} {fd : FuncData} {ps : List Str} {ms : List Bool} {sem : Sem} {x : Str} {p pos : Pos}
theorem call_imp (hk : mskOk as ms) (nd : (slotsB as).Nodup) (hn : as.length = n) {σ : L2.St} {H : Hp} {Q : VK} (h : tE X.K (dCall sem as) σ H Q) : tCall (spOf X.K n ms sem) [] E0 (tC X.K as) σ H Q := by
  obtain ⟨F, env, r, env', R, hd, q⟩ := h
  unfold dCall at hd
  obtain ⟨⟨ps, e1⟩, h1, hd⟩ := Option.bind_eq_some_iff.mp hd
  obtain ⟨⟨z, ws⟩, h2, hz⟩ := Option.map_eq_some_iff.mp hd
  cases hz
  refine ⟨F, env, ps, e1, R, h1, fun xs F1 H1 R1 M1 A => ?_⟩
  show spOf X.K n ms sem (xs ++ []) H1 Q E0
  rw [List.append_nil]
  refine ⟨F1, ps, z, ws, by rw [A.l1]; exact hn, arg_rel R1 A hk nd, h2, fun y F2 H2 hl R2 M2 r2 => ?_⟩
  obtain ⟨R3, M3⟩ := arg_back R1 A hk nd hl R2 M2
  exact q y F2 H2 R3 (M1.trans M3) r2
/-- f(e, ..) -/
theorem ve_call (G : FnOk X.prog X.w X.K X.mg X.base CX0 k f fd ps (spOf X.K n ms sem)) (hr : Room k X.A) (hg : Gl X x) (hm : X.mg x = some (.ref f)) (kp : PySem.W.keepIn X.K (.ref f) = true) (hb : Binds X.K fd ps []) (hdb : (x == ("__debug__" : Str)) = false)
    (hs : (e :: es).all notStar = true) (hk : mskOk as ms) (nd : (slotsB as).Nodup) (hn : as.length = n) (ha : VC X (e :: es) as) : VE X (.Call (.Name x p) (e :: es) [] pos) (dCall sem as) :=
  pe_imp (pe_call G hr hg hm kp hb .nil pass0 ha hdb (starEach_cons (List.all_eq_true.mp hs _ List.mem_cons_self)) (star_plain (by simp only [List.all_cons, Bool.and_eq_true] at hs; exact hs.2) pos)) fun σ H Q sz h =>
    call_imp hk nd hn (Q := fun v H' => Sized H' → Q v H') (by obtain ⟨F, env, r, env', R, hd, q⟩ := h; exact ⟨F, env, r, env', R, hd, fun y F' H' R' M' r' _ => q y F' H' R' M' r'⟩)
end
end PP

/-! PP, part o: contexts, names, the forms that a printed proof uses. -/
namespace PP
open PySem PySem.Spec PyProof.Rows L2

abbrev Nms := List (Str × NameKind)
/-- a frame, a comprehension's block: what is known of its names -/
structure Cn (X : Cx) (N : List Str) (raw nm : Nms) (k : Nat) : Prop where
  calm : X.calm = true
  eN : X.N = N
  nd : N.Nodup
  nm : X.env.scope.names = nm
  kind : X.env.scope.kind = .function
  room : Room k X.A
  xe : PassesOwn (model X.prog X.w) X.A X.env X.xe
  st : ∀ x, raw.lookup x = some .local ∨ raw.lookup x = some .cell → Loc X.env.scope x ∧ (X.fn x = true ∨ X.env.scope.names.lookup x = some .local)
def relN (outer : Nms) (names : Nms) : Nms := names.map fun p => if (p.2 == NameKind.free && outer.lookup p.1 == some .cell) then (p.1, .cell) else p
theorem relN_lookup {outer : Nms} {x : Str} {k : NameKind} (hk : k ≠ .free) : ∀ {names : Nms}, names.lookup x = some k → (relN outer names).lookup x = some k
  | [], h => by simp at h
  | (n, k') :: r, h => by
    unfold relN
    rw [List.map_cons]
    by_cases e : x = n
    · subst e
      rw [List.lookup_cons_self] at h
      cases h
      rw [if_neg (by intro z; simp only [Bool.and_eq_true, beq_iff_eq] at z; exact hk z.1)]
      exact List.lookup_cons_self
    · have e1 : (x == n) = false := by simpa using e
      have h' : r.lookup x = some k := by rw [List.lookup_cons, e1] at h; exact h
      have ih := relN_lookup (outer := outer) hk h'
      unfold relN at ih
      split <;> (rw [List.lookup_cons, e1]; exact ih)
section
variable {X : Cx} {N : List Str} {raw nm : Nms} {k : Nat}
theorem Cn.blk (c : Cn X N raw nm k) (s : Shared) (H : Hp) (scope : Scope) (C : Addr) (cl : List (Str × Addr)) (fp : List Addr) (hk : scope.kind = .function) : Cn (X.blk s H scope (compEnvC scope cl C X.env) fp) N scope.names (relN nm scope.names) k where
  calm := c.calm
  eN := c.eN
  nd := c.nd
  nm := by
    show (relabel scope X.env).names = _
    unfold relabel relN
    simp only [c.kind, Env.kindOf, c.nm]
    first | rfl | (apply List.map_congr_left; intro p hp; obtain ⟨a, b⟩ := p; simp)
  kind := hk
  room := c.room
  xe := PassesOwn.never
  st := fun x h => by
    have hn : (relabel scope X.env).names = relN nm scope.names := by
      unfold relabel relN
      simp only [c.kind, Env.kindOf, c.nm]
      first | rfl | (apply List.map_congr_left; intro p hp; obtain ⟨a, b⟩ := p; simp)
    rcases h with h | h
    · have := relN_lookup (outer := nm) (by decide) h
      exact ⟨.inl (by show (relabel scope X.env).names.lookup x = _; rw [hn]; exact this), .inr (by show (relabel scope X.env).names.lookup x = _; rw [hn]; exact this)⟩
    · have := relN_lookup (outer := nm) (by decide) h
      exact ⟨.inr (by show (relabel scope X.env).names.lookup x = _; rw [hn]; exact this), .inl (by show (scope.names.lookup x == some NameKind.cell) = true; rw [h]; rfl)⟩
def varC (N : List Str) (nm : Nms) (i : Nat) (x : Str) : Bool := decide (N[i]? = some x) && (match nm.lookup x with | some .local => true | some .cell => true | some .free => true | _ => false) && decide ((x == ("__debug__" : Str)) = false) && decide ((x == ("__classdict__" : Str)) = false)
theorem Cn.var (c : Cn X N raw nm k) {i : Nat} {x : Str} (h : varC N nm i x = true) (pos : Pos) : PE X (.Name x pos) (tVar i) := by
  unfold varC at h
  simp only [Bool.and_eq_true, decide_eq_true_eq] at h
  obtain ⟨⟨⟨h1, h2⟩, h3⟩, h4⟩ := h
  refine pe_var (by rw [c.eN]; exact h1) ?_ h3 h4
  unfold Vis
  rw [c.nm]
  split at h2 <;> first | exact .inl (by assumption) | exact .inr (.inl (by assumption)) | exact .inr (.inr (by assumption)) | cases h2
def stoC (N : List Str) (raw : Nms) (i : Nat) (x : Str) : Bool := decide (N[i]? = some x) && (match raw.lookup x with | some .local => true | some .cell => true | _ => false)
theorem stoC_ok (c : Cn X N raw nm k) {i : Nat} {x : Str} (h : stoC N raw i x = true) : X.N.Nodup ∧ X.N[i]? = some x ∧ Loc X.env.scope x ∧ (X.fn x = true ∨ X.env.scope.names.lookup x = some .local) := by
  unfold stoC at h
  simp only [Bool.and_eq_true, decide_eq_true_eq] at h
  obtain ⟨h1, h2⟩ := h
  have h3 : raw.lookup x = some .local ∨ raw.lookup x = some .cell := by
    split at h2 <;> first | exact .inl (by assumption) | exact .inr (by assumption) | cases h2
  obtain ⟨a, b⟩ := c.st x h3
  exact ⟨by rw [c.eN]; exact c.nd, by rw [c.eN]; exact h1, a, b⟩
theorem Cn.tgt (c : Cn X N raw nm k) {i : Nat} {x : Str} (h : stoC N raw i x = true) (pos : Pos) : PG X (.Name x pos) (tG X.K (.nm i)) := by
  obtain ⟨a1, a2, a3, a4⟩ := stoC_ok c h
  exact vg_nm (pg_name a1 a2 a3 a4)
/-- a built-in's name -/
structure Bi (X : Cx) (x : Str) (v : Value) : Prop where
  gl : Gl X x
  mg : X.mg x = none
  boot : bootBuiltins x = some v
  ne : x ≠ "__name__"
  db : (x == ("__debug__" : Str)) = false
/-- the module's names -/
structure GF (mg : Str → Option Value) (free : List Str) (nts : List (Str × Int)) : Prop where
  free : ∀ x ∈ free, mg x = none
  nts : ∀ p ∈ nts, ∃ t, mg p.1 = some (.int p.2 t)
def biC (nm : Nms) (free : List Str) (x : Str) (v : Value) : Bool := decide (nm.lookup x = some .globalImplicit) && decide (x ∈ free) && decide (bootBuiltins x = some v) && decide (x ≠ "__name__") && decide ((x == ("__debug__" : Str)) = false)
theorem Cn.bi (c : Cn X N raw nm k) {free : List Str} {nts : List (Str × Int)} (g : GF X.mg free nts) {x : Str} {v : Value} (h : biC nm free x v = true) : Bi X x v := by
  unfold biC at h
  simp only [Bool.and_eq_true, decide_eq_true_eq] at h
  obtain ⟨⟨⟨⟨h1, h2⟩, h3⟩, h4⟩, h5⟩ := h
  exact ⟨by show X.env.scope.names.lookup x = _; rw [c.nm]; exact h1, g.free x h2, h3, h4, h5⟩
def inC (nm : Nms) (nts : List (Str × Int)) (x : Str) (i : Int) : Bool := decide (nm.lookup x = some .globalImplicit) && decide ((x, i) ∈ nts) && decide ((x == ("__debug__" : Str)) = false)
theorem Cn.int (c : Cn X N raw nm k) {free : List Str} {nts : List (Str × Int)} (g : GF X.mg free nts) {x : Str} {i : Int} (h : inC nm nts x i = true) (pos : Pos) : VE X (.Name x pos) (dC (.int i)) := by
  unfold inC at h
  simp only [Bool.and_eq_true, decide_eq_true_eq] at h
  obtain ⟨⟨h1, h2⟩, h5⟩ := h
  obtain ⟨t, e⟩ := g.nts (x, i) h2
  exact ve_c (pe_glob (v := .int i) (by show X.env.scope.names.lookup x = _; rw [c.nm]; exact h1) e ⟨t, rfl⟩ h5) fun F H => .int i
/-- a def of the module -/
def Fav (P : Program) (w : World) (K : PySem.W.Frag) (mg : Str → Option Value) (base : Heap) (k : Nat) (x : Str) (n : Nat) (ms : List Bool) (sem : Sem) : Prop :=
  ∃ (f : Addr) (fd : FuncData) (ps : List Str), FnOk P w K mg base CX0 k f fd ps (spOf K n ms sem) ∧ mg x = some (.ref f) ∧ PySem.W.keepIn K (.ref f) = true ∧ Binds K fd ps []
abbrev FavX (X : Cx) (k : Nat) (x : Str) (n : Nat) (ms : List Bool) (sem : Sem) : Prop := Fav X.prog X.w X.K X.mg X.base k x n ms sem
def fvC (nm : Nms) (x : Str) : Bool := decide (nm.lookup x = some .globalImplicit) && decide ((x == ("__debug__" : Str)) = false)
theorem Cn.call (c : Cn X N raw nm k) {j n : Nat} {x : Str} {ms : List Bool} {sem : Sem} {e : Expr} {es : List Expr} {as : List Arg} {p pos : Pos} (G : FavX X j x n ms sem) (hj : j ≤ k) (h : fvC nm x = true) (hs : (e :: es).all notStar = true) (hk : mskOk as ms) (nd : (slotsB as).Nodup) (hn : as.length = n) (ha : VC X (e :: es) as) :
    VE X (.Call (.Name x p) (e :: es) [] pos) (dCall sem as) := by
  unfold fvC at h
  simp only [Bool.and_eq_true, decide_eq_true_eq] at h
  obtain ⟨f, fd, ps, F, hm, kp, hb⟩ := G
  exact ve_call F (c.room.mono hj) (by show X.env.scope.names.lookup x = _; rw [c.nm]; exact h.1) hm kp hb h.2 hs hk nd hn ha
theorem Cn.hu (c : Cn X N raw nm k) : X.A.units + 100 < cLine := by have := c.room.un; omega
theorem Cn.hu1 (c : Cn X N raw nm k) : X.A.units + 1 < cLine := by have := c.room.un; omega
theorem Cn.hu0 (c : Cn X N raw nm k) : X.A.units < cLine := by have := c.room.un; omega
theorem Cn.hu64 (c : Cn X N raw nm k) : X.A.units + 64 < cLine := by have := c.room.un; omega
theorem Cn.hu65 (c : Cn X N raw nm k) : X.A.units + 65 < cLine := by have := c.room.un; omega
end
section
variable {X : Cx} {N : List Str} {raw nm : Nms} {k : Nat} {a b c' e elt tg iter : Expr} {es ifs : List Expr} {da db dc de : Den} {tt : DenT} {src : DenI} {t : Tgt} {own : List (Str × Nat)} {scope : Scope} {refs : List Nat} {p pos spos py : Pos} {as : List Arg} {x : Str} {T : String}
theorem Bi.app {f : List PV → Option PV} (B : Bi X x (.builtin T)) (hc : CallR X (.builtin T) (rL X.K f)) (hs : (e :: es).all notStar = true) (h : VAB X (e :: es) (bArgs as)) : VE X (.Call (.Name x p) (e :: es) [] pos) (dApp f as) := ve_app hc B.gl B.mg B.boot B.ne B.db hs h
theorem Bi.appTy {f : List PV → Option PV} (B : Bi X x (.type T)) (hc : CallR X (.type T) (rL X.K f)) (hs : (e :: es).all notStar = true) (h : VAB X (e :: es) (bArgs as)) : VE X (.Call (.Name x p) (e :: es) [] pos) (dApp f as) := ve_appTy hc B.gl B.mg B.boot B.ne B.db hs h
theorem Bi.isi {ar : Arg} {ty : TyN} {pos' : Pos} (B : Bi X "isinstance" (.builtin "isinstance")) (B2 : Bi X x (.type ty.name)) (hs : notStar e = true) (ho : VArg X e ar) : VE X (.Call (.Name "isinstance" p) [e, .Name x pos'] [] pos) (dIsI ty ar) := ve_isi B.gl B.mg B2.gl B2.mg B2.boot B2.ne B2.db hs ho
theorem Bi.range1 (B : Bi X "range" (.type "range")) (hs : notStar a = true) (ha : VE X a da) : VI X tg (.Call (.Name "range" p) [a] [] pos) (iRange [da]) := vi_range1 B.gl B.mg hs ha
theorem Bi.range2 (B : Bi X "range" (.type "range")) (hs : notStar a = true) (hs2 : notStar b = true) (ha : VE X a da) (hb : VE X b db) : VI X tg (.Call (.Name "range" p) [a, b] [] pos) (iRange [da, db]) := vi_range2 B.gl B.mg hs hs2 ha hb
theorem Bi.prg1 (B : Bi X "range" (.type "range")) (hs : notStar a = true) (ha : VE X a da) : PRg X (.Call (.Name "range" p) [a] [] pos) (tRgE X.K [da]) := prg_one B.gl B.mg hs ha
theorem Bi.prg2 (B : Bi X "range" (.type "range")) (hs : notStar a = true) (hs2 : notStar b = true) (ha : VE X a da) (hb : VE X b db) : PRg X (.Call (.Name "range" p) [a, b] [] pos) (tRgE X.K [da, db]) := prg_two B.gl B.mg hs hs2 ha hb
theorem Bi.zip {elts : List Expr} {kk : Nat} {tpos : Pos} (B : Bi X "zip" (.type "zip")) (hs : notStar a = true) (hs2 : notStar b = true) (ha : VE X a da) (hb : VE X b db) : VI X (.Tuple elts kk tpos) (.Call (.Name "zip" p) [a, b] [] pos) (iZip2 da db) := vi_zip B.gl B.mg hs hs2 ha hb
theorem Bi.listRg {as : List Den} (B : Bi X "list" (.type "list")) (hc : X.calm = true) (hs : notStar e = true) (h : PRg X e (tRgE X.K as)) : VF X (.Call (.Name "list" p) [e] [] pos) (dListRg as) := vf_listRg hc B.gl B.mg hs h
theorem Bi.tupRg {as : List Den} (B : Bi X "tuple" (.type "tuple")) (hc : X.calm = true) (hs : notStar e = true) (h : PRg X e (tRgE X.K as)) : VE X (.Call (.Name "tuple" p) [e] [] pos) (dTupRg as) := ve_tupRg hc B.gl B.mg hs h

def asBl (v : PV) : Option Bool := match v with | .bl b => some b | _ => none
def dB (d : Den) : DenT := fun e => (d e).bind fun p => (asBl p.1).map fun z => (z, p.2)
theorem vt_val (he : ∀ whole, isTrue e X.env whole = (do let v ← whole; standAt e.pos; holding [v] (truthy v))) (h : VE X e da) : VT X e (dB da) :=
  pt_imp (pt_val h he) fun σ H Q sz ⟨F, env, r, env', R, hd, q⟩ => by
    unfold dB at hd
    obtain ⟨⟨p, e1⟩, h1, hd⟩ := Option.bind_eq_some_iff.mp hd
    obtain ⟨z, h3, hz⟩ := Option.map_eq_some_iff.mp hd
    cases hz
    refine ⟨F, env, p, _, R, h1, fun x F1 H1 R1 M1 r1 => ?_⟩
    unfold asBl at h3
    dsimp only at h3
    split at h3
    · cases h3
      cases r1
      exact ⟨_, rfl, fun _ => q F1 H1 R1 M1⟩
    · cases h3
theorem vt_cmp {op : CmpOp} {f : PV → PV → Option PV} (ho : OpR X (compareOp op) (rB X.K f)) (hm : behindInMarks op b = false) (ha : VE X a da) (hb : VE X b db) : VT X (.Compare a [op] [b] pos) (dB (dBin f da db)) :=
  pt_imp (pt_cmpR (opr_sz ho) ha hb hm) fun σ H Q sz ⟨F, env, r, env', R, hd, q⟩ => by
    unfold dB dBin at hd
    obtain ⟨⟨z, e0⟩, h0, hd⟩ := Option.bind_eq_some_iff.mp hd
    obtain ⟨⟨p, e1⟩, h1, h0⟩ := Option.bind_eq_some_iff.mp h0
    obtain ⟨⟨q', e2⟩, h2, h0⟩ := Option.bind_eq_some_iff.mp h0
    obtain ⟨z', h3, hz⟩ := Option.map_eq_some_iff.mp h0
    cases hz
    obtain ⟨b', h4, hz⟩ := Option.map_eq_some_iff.mp hd
    cases hz
    refine ⟨F, env, p, e1, R, h1, fun x F1 H1 R1 M1 r1 => ⟨F1, e1, q', _, R1, h2, fun y F2 H2 R2 M2 r2 => ⟨F2, p, q', _, R2.fz, R2.sz, .rep (r1.ex (M2.ex R1)), .rep r2, h3, fun v F3 H3 N r3 s3 => ?_⟩⟩⟩
    unfold asBl at h4
    dsimp only at h4
    split at h4
    · cases h4
      cases r3
      exact ⟨_, rfl, fun _ => q F3 H3 (N.rel R2 s3) ((M1.trans M2).trans N.mv)⟩
    · cases h4
theorem vt_cmpR {op : CmpOp} {f : PV → PV → Option PV} {i : Nat} (ho : OpR X (compareOp op) (rB X.K f)) (hm : behindInMarks op b = false) (ha : VE X a da) (hb : PE X b (tVar i)) : VT X (.Compare a [op] [b] pos) (dB (dBinR f da i)) :=
  pt_imp (pt_cmpR (opr_sz ho) ha hb hm) fun σ H Q sz ⟨F, env, r, env', R, hd, q⟩ => by
    unfold dB dBinR at hd
    obtain ⟨⟨z, e0⟩, h0, hd⟩ := Option.bind_eq_some_iff.mp hd
    obtain ⟨⟨p, e1⟩, h1, h0⟩ := Option.bind_eq_some_iff.mp h0
    obtain ⟨y, h2, h0⟩ := Option.bind_eq_some_iff.mp h0
    obtain ⟨z', h3, hz⟩ := Option.map_eq_some_iff.mp h0
    cases hz
    obtain ⟨b', h4, hz⟩ := Option.map_eq_some_iff.mp hd
    cases hz
    refine ⟨F, env, p, _, R, h1, fun x F1 H1 R1 M1 r1 => ?_⟩
    obtain ⟨x', sx', r'⟩ := slotv_rep R1 h2
    refine ⟨x', sx', F1, p, y, _, R1.fz, R1.sz, .rep r1, r', h3, fun v F3 H3 N r3 s3 => ?_⟩
    unfold asBl at h4
    dsimp only at h4
    split at h4
    · cases h4
      cases r3
      exact ⟨_, rfl, fun _ => q F3 H3 (N.rel R1 s3) (M1.trans N.mv)⟩
    · cases h4
theorem chain_imp {f g : PV → PV → Option PV} {σ : L2.St} {H : Hp} {Q : VK} (h : tE X.K (dChain f g da db dc) σ H Q) :
    tChain (fun x y H Q => rB X.K f x y H fun v H' => Sized H' → Q v H') (fun x y H Q => rB X.K g x y H fun v H' => Sized H' → Q v H') (tE X.K da) (tE X.K db) (tE X.K dc) σ H Q := by
  obtain ⟨F, env, r, env', R, hd, q⟩ := h
  unfold dChain at hd
  obtain ⟨⟨p, e1⟩, h1, hd⟩ := Option.bind_eq_some_iff.mp hd
  obtain ⟨⟨p2, e2⟩, h2, hd⟩ := Option.bind_eq_some_iff.mp hd
  obtain ⟨z, h3, hd⟩ := Option.bind_eq_some_iff.mp hd
  refine ⟨F, env, p, e1, R, h1, fun x F1 H1 R1 M1 r1 => ⟨F1, e1, p2, e2, R1, h2, fun y F2 H2 R2 M2 r2 => ⟨F2, p, p2, z, R2.fz, R2.sz, .rep (r1.ex (M2.ex R1)), .rep r2, h3, fun v F3 H3 N r3 s3 => ?_⟩⟩⟩
  cases z <;> simp only at hd <;> try cases hd
  rename_i k
  cases r3
  cases k with
  | false =>
    cases hd
    exact ⟨false, rfl, by
      rw [if_neg Bool.false_ne_true]
      exact q _ F3 H3 (N.rel R2 s3) ((M1.trans M2).trans N.mv) (.bl _)⟩
  | true =>
    refine ⟨true, rfl, ?_⟩
    rw [if_pos rfl]
    obtain ⟨⟨p3, e3⟩, h4, hd⟩ := Option.bind_eq_some_iff.mp hd
    obtain ⟨y', h5, hz⟩ := Option.map_eq_some_iff.mp hd
    cases hz
    have R3 := N.rel R2 s3
    refine ⟨F3, e2, p3, e3, R3, h4, fun w F4 H4 R4 M4 r4 => ⟨F4, p2, p3, r, R4.fz, R4.sz, .rep (r2.ex (Ex.trans N.ex (M4.ex R3))), .rep r4, h5, fun v F5 H5 N5 r5 s5 => ?_⟩⟩
    exact q v F5 H5 (N5.rel R4 s5) (((M1.trans M2).trans N.mv).trans (M4.trans N5.mv)) r5
theorem vt_chain {op op' : CmpOp} {f g : PV → PV → Option PV} (ho : OpR X (compareOp op) (rB X.K f)) (ho' : OpR X (compareOp op') (rB X.K g)) (ha : VE X a da) (hb : VE X b db) (hc : VE X c' dc) (hm : lastMarks [op, op'] [b, c'] = false) :
    VT X (.Compare a [op, op'] [b, c'] pos) (dB (dChain f g da db dc)) :=
  pt_imp (pt_chain (opr_sz ho) (opr_sz ho') ha hb hc hm) fun σ H Q sz ⟨F, env, r, env', R, hd, q⟩ => by
    unfold dB at hd
    obtain ⟨⟨z, e0⟩, h0, hd⟩ := Option.bind_eq_some_iff.mp hd
    obtain ⟨b', h4, hz⟩ := Option.map_eq_some_iff.mp hd
    cases hz
    refine chain_imp ⟨F, env, z, _, R, h0, fun v F1 H1 R1 M1 r1 => ?_⟩
    unfold asBl at h4
    dsimp only at h4
    split at h4
    · cases h4
      cases r1
      exact ⟨_, rfl, fun _ => q F1 H1 R1 M1⟩
    · cases h4
/-- comprehensions -/
theorem Cn.lc (c : Cn X N raw nm k) (it : VI X tg iter src) (hok : blkC N { kind := .function, names := nm, isGenerator := false, isCoroutine := false } scope own = true) (hk : scope.kind = .function) (sub : (t.slots.all fun i => decide (i ∈ own.map (·.2))) = true) (fs : ∀ x, foldedSetIterable iter X.env x = pure x)
    (bd : ∀ (s : Shared) (H : Hp) (C : Addr) (cl : List (Str × Addr)) (fp : List Addr), Cn (X.blk s H scope (compEnvC scope cl C X.env) fp) N scope.names (relN nm scope.names) k →
      PG (X.blk s H scope (compEnvC scope cl C X.env) fp) tg (tG X.K t) ∧ PTs (X.blk s H scope (compEnvC scope cl C X.env) fp) ifs (tT X.K tt) ∧ PE (X.blk s H scope (compEnvC scope cl C X.env) fp) elt (tE X.K de)) : LcOk X elt tg iter ifs scope own src t tt de where
  it := it
  ok := by
    have := blkOk_by hok
    exact ⟨this.kind, this.uniq, by rw [c.eN]; exact this.ix, fun y hy e => by rw [c.nm]; exact this.free y hy e, by rw [c.eN]; exact this.own⟩
  tg := fun s H C cl fp => (bd s H C cl fp (c.blk s H scope C cl fp hk)).1
  ts := fun s H C cl fp => (bd s H C cl fp (c.blk s H scope C cl fp hk)).2.1
  el := fun s H C cl fp => (bd s H C cl fp (c.blk s H scope C cl fp hk)).2.2
  sub := fun i hi => by simpa using List.all_eq_true.mp sub i hi
  fs := fs
theorem Cn.vf (c : Cn X N raw nm k) (l : LcOk X elt tg iter ifs scope own src t tt de) : VF X (.ListComp elt [⟨tg, iter, ifs, 0⟩] scope pos) (dLC src (own.map (·.2)) t tt de) := vf_lc c.calm (by rw [c.eN]; exact c.nd) l
def swC (nm : Nms) (scope : Scope) (y : Str) (l1 l2 : Nat) : Bool := nm.lookup y == some .local && l1 == l2 && !(scope.names.any fun p => p.1 == y && (p.2 == .local || p.2 == .cell))
theorem Cn.bk (c : Cn X N raw nm k) : X.env.blockKind = .function := by unfold Env.blockKind; rw [c.kind]; rfl
theorem Cn.sw (c : Cn X N raw nm k) {gens : List Comprehension} {y : Str} {line : Nat} : swapsWith (.ListComp elt gens scope pos) (some (.Name y py)) line X.env = pure (swC nm scope y py.line pos.line) := by
  show (pure _ : PySem.Sem Bool) = _
  congr 1
  unfold swC
  rw [c.bk]
  show (ScopeKind.function == ScopeKind.function && X.env.scope.names.lookup y == _ && _ && _) = _
  rw [c.nm]
  rfl
theorem Cn.ownLc (c : Cn X N raw nm k) {i : Nat} {y : Str} (hr : (refs.all fun j => j != i) = true) (hs : stoC N raw i y = true) (hl : decide (nm.lookup y = some .local) = true) (hw : swC nm scope y py.line pos.line = true) (l : LcOk X elt tg iter ifs scope own src t tt de) :
    VS X refs (.Assign [.Name y py] (.ListComp elt [⟨tg, iter, ifs, 0⟩] scope pos) spos) (sOwn i (dLC src (own.map (·.2)) t tt de)) := by
  obtain ⟨a1, a2, a3, a4⟩ := stoC_ok c hs
  refine vs_ownLc (fun h => ?_) c.calm a1 a2 (by rw [c.nm]; simpa using hl) (by rw [c.sw, hw]) l
  have := List.all_eq_true.mp hr i h
  simp at this
theorem Cn.ownLc0 (c : Cn X N raw nm k) {i : Nat} {y : Str} (hr : (refs.all fun j => j != i) = true) (hs : stoC N raw i y = true) (hw : swC nm scope y py.line pos.line = false) (l : LcOk X elt tg iter ifs scope own src t tt de) :
    VS X refs (.Assign [.Name y py] (.ListComp elt [⟨tg, iter, ifs, 0⟩] scope pos) spos) (sOwn i (dLC src (own.map (·.2)) t tt de)) := by
  obtain ⟨a1, a2, a3, a4⟩ := stoC_ok c hs
  refine vs_own (fun h => ?_) a1 a2 a3 (c.vf l) (by rw [c.sw, hw]) a4
  have := List.all_eq_true.mp hr i h
  simp at this
theorem Cn.set (c : Cn X N raw nm k) {i : Nat} {y : Str} (hr : (refs.all fun j => j != i) = true) (hs : stoC N raw i y = true) (he : VE X e de) (hw : swapsWith e (some (.Name y py)) pos.line X.env = pure false) : VS X refs (.Assign [.Name y py] e pos) (sAsg (.nm i) de) := by
  obtain ⟨a1, a2, a3, a4⟩ := stoC_ok c hs
  refine vs_set (fun h => ?_) a1 a2 a3 he hw a4
  have := List.all_eq_true.mp hr i h
  simp at this
theorem Cn.ownF (c : Cn X N raw nm k) {i : Nat} {y : Str} (hr : (refs.all fun j => j != i) = true) (hs : stoC N raw i y = true) (he : VF X e de) (hw : swapsWith e (some (.Name y py)) pos.line X.env = pure false) : VS X refs (.Assign [.Name y py] e pos) (sOwn i de) := by
  obtain ⟨a1, a2, a3, a4⟩ := stoC_ok c hs
  refine vs_own (fun h => ?_) a1 a2 a3 he hw a4
  have := List.all_eq_true.mp hr i h
  simp at this
theorem refs_tgt (h : (refs.all fun j => decide (j ∉ t.slots)) = true) : ∀ i ∈ refs, i ∉ t.slots := fun i hi => by simpa using List.all_eq_true.mp h i hi
/-- a slot as a value that keeps it a container of one's own: frozen where it is read otherwise -/
theorem pe_iv {i : Int} {j : Nat} : VE X (.Constant (.int i) j pos) (dC (.int i)) := ve_c pe_int fun _ _ => .int i
theorem pe_bv {b : Bool} {j : Nat} : VE X (.Constant (.bool b) j pos) (dC (.bl b)) := ve_c pe_bl fun _ _ => .bl b
theorem pe_nv {j : Nat} : VE X (.Constant .none j pos) (dC .non) := ve_c pe_non fun _ _ => .non
theorem pe_sv {x : Str} {j : Nat} : VE X (.Constant (.str x) j pos) (dC (.str x)) := ve_c pe_str fun _ _ => .str x
end
end PP

/-! PP, part p: defs of the module, one that makes a list of its own. -/
namespace PP
open PySem PySem.Spec PyProof.Rows L2

section
variable {P : Program} {w : World} {K : PySem.W.Frag} {mg : Str → Option Value} {base : Heap} {x qual : Str} {params : Arguments} {body : List Stmt} {scope : Scope} {f : Addr} {fd : FuncData} {N ps : List Str} {k m : Nat}
theorem cn_body {cdv : Value} {A : Around} {outer : List Env} {s : Shared} {H : Hp} {E : XK} (S : FnScope N ps scope) (hr : Room k (A.deeper (envOfC qual scope s.heap.objs.size f cdv))) :
    Cn (cxOf CX0 P w K mg base N qual scope f cdv A outer s H E).nox N scope.names scope.names k where
  calm := rfl
  eN := rfl
  nd := S.nd
  nm := rfl
  kind := S.kind
  room := hr
  xe := PassesOwn.never
  st := fun x h => ⟨h, .inl rfl⟩
theorem fav_of {ms : List Bool} {refs : List Nat} {d : DenS} (Fn : FunD K x qual params body scope [] [] f fd) (hm : mg x = some (.ref f)) (S : FnScope N ps scope) (hl : N.length - ps.length = m) (hr : (ms.zipIdx.all fun p => !p.1 || decide (p.2 ∈ refs)) = true)
    (hb : ∀ (kV doc pm : Value) (an : Option Addr) (cdv ct : Value) (us : List Value), us.length = ps.length → bindArgs (PySem.W.fnOf x qual params body scope .none kV doc pm an cdv ct) ⟨us, []⟩ = pure (ps.zip us))
    (h : ∀ (cdv : Value) (A : Around) (outer : List Env) (s : Shared) (H : Hp) (E : XK), Cn (cxOf CX0 P w K mg base N qual scope f cdv A outer s H E).nox N scope.names scope.names k → VSs (cxOf CX0 P w K mg base N qual scope f cdv A outer s H E).nox refs body d) :
    Fav P w K mg base (k + 1) x ps.length ms (runF ms m d) := by
  refine ⟨f, fd, ps, fn_ok Fn S hl (fun i hi => ?_) fun cdv A outer s H E hroom => h cdv A outer s H E (cn_body S hroom), hm, Fn.kp, Fn.bindsN hb⟩
  have hlt : i < ms.length := by
    by_cases hlt : i < ms.length
    · exact hlt
    · rw [List.getD_eq_getElem?_getD, List.getElem?_eq_none (by omega)] at hi; cases hi
  have := List.all_eq_true.mp hr (ms[i], i) (by rw [List.mem_zipIdx_iff_getElem?]; exact List.getElem?_eq_getElem hlt)
  rw [List.getD_eq_getElem?_getD, List.getElem?_eq_getElem hlt] at hi
  simp only [Option.getD_some] at hi
  rw [hi] at this
  simpa using this

/-! ### a def whose one statement returns a new container -/
abbrev FSemN := List PV → Option PV
def spF (K : PySem.W.Frag) (n : Nat) (sem : FSemN) : Sp := fun vs H Q _ => ∃ F ps r, vs.length = n ∧ Rel K F H (argE [] ps) (vs.map some) ∧ sem ps = some r ∧
  ∀ (a : Addr) (F' : Addr → Prop) (H' : Hp), Nw F H F' H' → Sized H' → ¬ F' a → H a = none → OwnAt K F' H' a r → Q (.ref a) H'
def runFN (m : Nat) (d : Den) : FSemN := fun ps => (d (argE [] ps ++ List.replicate m .no)).map (·.1)
def FavN (P : Program) (w : World) (K : PySem.W.Frag) (mg : Str → Option Value) (base : Heap) (k : Nat) (x : Str) (n : Nat) (sem : FSemN) : Prop :=
  ∃ (f : Addr) (fd : FuncData) (ps : List Str), FnOk P w K mg base CX0 k f fd ps (spF K n sem) ∧ mg x = some (.ref f) ∧ PySem.W.keepIn K (.ref f) = true ∧ Binds K fd ps []
theorem favN_of {e : Expr} {pos : Pos} {d : Den} (Fn : FunD K x qual params [.Return (some e) pos] scope [] [] f fd) (hm : mg x = some (.ref f)) (S : FnScope N ps scope) (hl : N.length - ps.length = m)
    (hb : ∀ (kV doc pm : Value) (an : Option Addr) (cdv ct : Value) (us : List Value), us.length = ps.length → bindArgs (PySem.W.fnOf x qual params [.Return (some e) pos] scope .none kV doc pm an cdv ct) ⟨us, []⟩ = pure (ps.zip us))
    (h : ∀ (cdv : Value) (A : Around) (outer : List Env) (s : Shared) (H : Hp) (E : XK), Cn (cxOf CX0 P w K mg base N qual scope f cdv A outer s H E).nox N scope.names scope.names k → VF (cxOf CX0 P w K mg base N qual scope f cdv A outer s H E).nox e d) :
    FavN P w K mg base (k + 1) x ps.length (runFN m d) := by
  refine ⟨f, fd, ps, Fn.ok S (fun vs H Q E ⟨_, _, _, h, _⟩ => h) (fun cdv A outer s H vs Q E hroom hsp => ?_), hm, Fn.kp, Fn.bindsN hb⟩
  obtain ⟨F, us, r, hvl, R, hs, q⟩ := hsp
  refine ⟨_, PSs.nox (pss_one (ps_ret (h cdv A outer s H E (cn_body S hroom)))), ?_⟩
  unfold runFN at hs
  obtain ⟨⟨r', e'⟩, h1, h2⟩ := Option.map_eq_some_iff.mp hs
  cases h2
  unfold L2.start
  rw [hvl, hl]
  have no : ∀ a, ¬ Own (argE [] us ++ List.replicate m SlP.no) (vs.map some ++ List.replicate m none) a := fun a o => by
    obtain ⟨i, v, e1, _⟩ := own_pad R.len o
    have := (argE_own e1).1
    simp at this
  refine ⟨F, _, r', e', R.pad m, h1, fun a F' H' R' M nF nO hn O => ?_⟩
  exact q a F' H' ⟨M.sub, fun b o hb => M.frame b o hb (no b), fun b fb => by
    rcases M.fnew b fb with z | z | z
    · exact .inl z
    · exact absurd z (no b)
    · exact .inr z, R'.fz⟩ R'.sz nF hn O
end
def dCallN (sem : FSemN) (ds : List Den) : Den := fun e => (dArgs ds e).bind fun p => (sem p.1).map fun r => (r, p.2)
section
variable {X : Cx} {N : List Str} {raw nm : Nms} {k : Nat}
theorem repL_at {K : PySem.W.Frag} {F : Addr → Prop} {H : Hp} {vs : List V} {ps : List PV} (r : RepL K F H vs ps) {env : PEn} {σ : L2.St} (R : Rel K F H env σ) : Rel K F H (argE [] ps) (vs.map some) where
  len := by rw [argE_len, ← r.length]; simp
  val := fun i v e => by
    obtain ⟨_, h⟩ := argE_val e
    obtain ⟨x, hx, rx⟩ := r.get h
    exact ⟨x, by rw [List.getElem?_map, hx]; rfl, rx⟩
  own := fun i v e => by have := (argE_own e).1; simp at this
  apart := fun i j v w a e1 _ _ _ => by have := (argE_own e1).1; simp at this
  fz := R.fz
  sz := R.sz
theorem Cn.callN (c : Cn X N raw nm k) {j n : Nat} {x : Str} {sem : FSemN} {e : Expr} {es : List Expr} {ds : List Den} {p pos : Pos} (G : FavN X.prog X.w X.K X.mg X.base j x n sem) (hj : j ≤ k) (h : fvC nm x = true) (hs : (e :: es).all notStar = true) (hn : ds.length = n) (ha : VA X (e :: es) (dArgs ds)) :
    VF X (.Call (.Name x p) (e :: es) [] pos) (dCallN sem ds) := by
  unfold fvC at h
  simp only [Bool.and_eq_true, decide_eq_true_eq] at h
  obtain ⟨f, fd, ps, F, hm, kp, hb⟩ := G
  refine pe_imp (pe_call F (c.room.mono hj) (by show X.env.scope.names.lookup x = _; rw [c.nm]; exact h.1) hm kp hb .nil pass0 ha h.2 (starEach_cons (List.all_eq_true.mp hs _ List.mem_cons_self)) (star_plain (by simp only [List.all_cons, Bool.and_eq_true] at hs; exact hs.2) pos)) fun σ H Q sz ⟨F, env, r, env', R, hd, q⟩ => ?_
  unfold dCallN at hd
  obtain ⟨⟨ps, e1⟩, h1, hd⟩ := Option.bind_eq_some_iff.mp hd
  obtain ⟨z, h2, hz⟩ := Option.map_eq_some_iff.mp hd
  cases hz
  refine ⟨F, env, ps, _, R, h1, fun xs F1 H1 R1 M1 r1 => ?_⟩
  show spF X.K n sem (xs ++ []) H1 _ E0
  rw [List.append_nil]
  refine ⟨F1, ps, _, by rw [r1.length, dArgs_len h1]; exact hn, repL_at r1 R1, h2, fun a F' H' Nn sz' nF hn' O _ => ?_⟩
  have R2 := Nn.rel R1 sz'
  refine q a F' H' R2 (M1.trans Nn.mv) nF (fun o => ?_) (M1.back hn') O
  obtain ⟨v, Ov⟩ := R1.ownAt o
  obtain ⟨u, hu, _⟩ := Ov.some
  rw [hn'] at hu; cases hu
end
end PP

/-! PP, part q: the law itself. -/
namespace PP
open PySem PySem.Spec PyProof.Rows L2

/-- a promise over heaps of small lists -/
def spZ (K : PySem.W.Frag) (n : Nat) (ms : List Bool) (sem : Sem) : Sp := fun vs H Q E => vs.length = n ∧ (Sized H → spOf K n ms sem vs H Q E)
def tZ (t : TS) : TS := fun D σ H => Sized H → t D σ H
theorem fnZ_ok {P : Program} {w : World} {K : PySem.W.Frag} {mg : Str → Option Value} {base : Heap} {x qual : Str} {params : Arguments} {body : List Stmt} {scope : Scope} {f : Addr} {fd : FuncData} {N ps : List Str} {k m : Nat} {ms : List Bool} {refs : List Nat} {d : DenS}
    (Fn : FunD K x qual params body scope [] [] f fd) (S : FnScope N ps scope) (hm : N.length - ps.length = m) (hr : (ms.zipIdx.all fun p => !p.1 || decide (p.2 ∈ refs)) = true)
    (hb : ∀ (cdv : Value) (A : Around) (outer : List Env) (s : Shared) (H : Hp) (E : XK), Room k (A.deeper (envOfC qual scope s.heap.objs.size f cdv)) → VSs (cxOf CX0 P w K mg base N qual scope f cdv A outer s H E).nox refs body d) :
    FnOk P w K mg base CX0 (k + 1) f fd ps (spZ K ps.length ms (runF ms m d)) :=
  Fn.ok S (fun vs H Q E ⟨h, _⟩ => h) fun cdv A outer s H vs Q E hroom ⟨_, h⟩ => ⟨tZ (tS K refs d), PSs.nox (pss_imp (hb cdv A outer s H E hroom) fun D σ H sz ht => by
    obtain ⟨F, env, fl, R, hd, q⟩ := ht sz
    exact ⟨F, env, fl, R, hd, q.sz⟩), fun sz => fn_body hm (fun i hi => by
    have hlt : i < ms.length := by
      by_cases hlt : i < ms.length
      · exact hlt
      · rw [List.getD_eq_getElem?_getD, List.getElem?_eq_none (by omega)] at hi; cases hi
    have := List.all_eq_true.mp hr (ms[i], i) (by rw [List.mem_zipIdx_iff_getElem?]; exact List.getElem?_eq_getElem hlt)
    rw [List.getD_eq_getElem?_getD, List.getElem?_eq_getElem hlt] at hi
    simp only [Option.getD_some] at hi
    rw [hi] at this
    simpa using this) (h sz)⟩
theorem law_sp {K : PySem.W.Frag} {H : Hp} {a : Addr} {ns : List Int} {sem : Sem} {E : XK} (hS : SqL K H a (ns.map V.int)) (h : ∃ ws, sem [.lst (ns.map PV.int)] = some (.bl true, ws)) : spZ K 1 [] sem [.ref a] H (fun v _ => v = .bl true) E := by
  obtain ⟨ws, h⟩ := h
  refine ⟨rfl, fun sz => ?_⟩
  refine ⟨fun b => ∃ o, H b = some o, _, _, ws, rfl, ?_, h, fun x F' H' _ _ _ r => by cases r; rfl⟩
  have rp : Rep K (fun b => ∃ o, H b = some o) H (.ref a) (.lst (ns.map PV.int)) := by
    refine .lst ?_ (intsL_rep ns)
    cases e : H a with
    | some o => exact .inl ⟨⟨o, e⟩, hS⟩
    | none =>
      right
      rcases hS with (z | ⟨o, z⟩) | z
      · rw [e] at z; cases z
      · rw [e] at z; cases z
      · exact .inr z
  refine ⟨rfl, fun i v e => ?_, fun i v e => ?_, fun i j v w b e1 _ _ _ => ?_, fun b hb => hb, sz⟩
  · obtain ⟨_, h2⟩ := argE_val e
    cases i with
    | zero => simp at h2; subst h2; exact ⟨_, rfl, rp⟩
    | succ i => simp at h2
  · have := (argE_own e).1; simp at this
  · have := (argE_own e1).1; simp at this
theorem gf_of {K : PySem.W.Frag} {h : Heap} {mg : Str → Option Value} {fa : List He.Fa} {fn : List He.DefD} {free : List Str} {nts : List (Str × Int)} (X : K.In h) (G : h.Ns mainGlobals mg) (c : He.SaysD fa fn K) (h1 : ∀ x ∈ free, He.Fa.free x ∈ fa) (h2 : ∀ p ∈ nts, He.Fa.int p.1 p.2 ∈ fa) : GF mg free nts := by
  refine ⟨fun x hx => ?_, fun p hp => ?_⟩
  · obtain ⟨i, hi⟩ := List.mem_iff_getElem?.mp (h1 x hx)
    exact He.free_ok X G (c.fact i hi)
  · obtain ⟨i, hi⟩ := List.mem_iff_getElem?.mp (h2 p hp)
    exact He.int_ok X G (c.fact i hi)
end PP

/-! PP, part r: evaluation by rewriting, from the left. -/
namespace PP
open L2 (atI ixN)

/-! what goes on behind a part: no lambda is seen -/
section
variable {e e1 e2 : PEn} {a b c : Den} {t u : DenT} {x y : DenS}
def kR (o : Option PV) (e : PEn) : Option (PV × PEn) := o.map fun z => (z, e)
@[simp] theorem kR_s {z : PV} : kR (some z) e = some (z, e) := id rfl
def kSeq (o : Option Fl) (y : DenS) : Option Fl := o.bind fun f => match f with | .nx e1 => y e1 | f => some f
@[simp] theorem kSeq_nx : kSeq (some (.nx e)) y = y e := id rfl
@[simp] theorem kSeq_rt {v : PV} : kSeq (some (.rt v e)) y = some (.rt v e) := id rfl
@[simp] theorem kSeq_bk : kSeq (some (.bk e)) y = some (.bk e) := id rfl
@[simp] theorem sSeq_ev : sSeq x y e = kSeq (x e) y := id rfl
@[simp] theorem sNil_ev : sNil e = some (.nx e) := id rfl
def kRet (o : Option (PV × PEn)) : Option Fl := o.map fun p => .rt p.1 p.2
@[simp] theorem kRet_s {v : PV} : kRet (some (v, e)) = some (.rt v e) := id rfl
@[simp] theorem sRet_ev : sRet a e = kRet (a e) := id rfl
@[simp] theorem sRetN_ev : sRetN e = some (.rt .non e) := id rfl
@[simp] theorem sBreak_ev : sBreak e = some (.bk e) := id rfl
def kDrop (o : Option (PV × PEn)) : Option Fl := o.map fun p => .nx p.2
@[simp] theorem kDrop_s {v : PV} : kDrop (some (v, e)) = some (.nx e) := id rfl
@[simp] theorem sDrop_ev : sDrop a e = kDrop (a e) := id rfl
def kIf (o : Option (Bool × PEn)) (x y : DenS) : Option Fl := o.bind fun p => if p.1 then x p.2 else y p.2
@[simp] theorem kIf_t : kIf (some (true, e)) x y = x e := id rfl
@[simp] theorem kIf_f : kIf (some (false, e)) x y = y e := id rfl
@[simp] theorem sIf_ev : sIf t x y e = kIf (t e) x y := id rfl
def kNx (o : Option PEn) : Option Fl := o.map fun e' => .nx e'
@[simp] theorem kNx_s : kNx (some e) = some (.nx e) := id rfl
def kAsg (g : Tgt) (o : Option (PV × PEn)) : Option Fl := o.bind fun p => (tgtF g p.1 p.2).map fun e' => .nx e'
@[simp] theorem kAsg_s {g : Tgt} {v : PV} : kAsg g (some (v, e)) = kNx (tgtF g v e) := id rfl
@[simp] theorem sAsg_ev {g : Tgt} : sAsg g a e = kAsg g (a e) := id rfl
def kOwn (i : Nat) (o : Option (PV × PEn)) : Option Fl := o.bind fun p => if i < p.2.length then some (.nx (p.2.set i (.own p.1))) else none
@[simp] theorem kOwn_s {i : Nat} {v : PV} : kOwn i (some (v, e)) = if i < e.length then some (.nx (e.set i (.own v))) else none := id rfl
@[simp] theorem sOwn_ev {i : Nat} : sOwn i a e = kOwn i (a e) := id rfl
def kFor (g : Tgt) (x : DenS) (o : Option (List PV × PEn)) : Option Fl := o.bind fun p => forF g x p.1 p.2
@[simp] theorem kFor_s {g : Tgt} {xs : List PV} : kFor g x (some (xs, e)) = forF g x xs e := id rfl
@[simp] theorem sFor_ev {s : DenI} {g : Tgt} : sFor s g x e = kFor g x (s e) := id rfl
@[simp] theorem dC_ev {v : PV} : dC v e = some (v, e) := id rfl
def kUn (f : PV → Option PV) (o : Option (PV × PEn)) : Option (PV × PEn) := o.bind fun p => (f p.1).map fun z => (z, p.2)
@[simp] theorem kUn_s {f : PV → Option PV} {v : PV} : kUn f (some (v, e)) = kR (f v) e := id rfl
@[simp] theorem dUn_ev {f : PV → Option PV} : dUn f a e = kUn f (a e) := id rfl
def kB2 (f : PV → PV → Option PV) (p : PV) (o : Option (PV × PEn)) : Option (PV × PEn) := o.bind fun q => (f p q.1).map fun z => (z, q.2)
@[simp] theorem kB2_s {f : PV → PV → Option PV} {p q : PV} : kB2 f p (some (q, e)) = kR (f p q) e := id rfl
def kB1 (f : PV → PV → Option PV) (b : Den) (o : Option (PV × PEn)) : Option (PV × PEn) := o.bind fun p => (b p.2).bind fun q => (f p.1 q.1).map fun z => (z, q.2)
@[simp] theorem kB1_s {f : PV → PV → Option PV} {p : PV} : kB1 f b (some (p, e)) = kB2 f p (b e) := id rfl
@[simp] theorem dBin_ev {f : PV → PV → Option PV} : dBin f a b e = kB1 f b (a e) := id rfl
def kBR2 (f : PV → PV → Option PV) (p : PV) (o : Option PV) (e : PEn) : Option (PV × PEn) := o.bind fun y => (f p y).map fun z => (z, e)
@[simp] theorem kBR2_s {f : PV → PV → Option PV} {p q : PV} : kBR2 f p (some q) e = kR (f p q) e := id rfl
def kBR (f : PV → PV → Option PV) (i : Nat) (o : Option (PV × PEn)) : Option (PV × PEn) := o.bind fun p => (slotv p.2 i).bind fun y => (f p.1 y).map fun z => (z, p.2)
@[simp] theorem kBR_s {f : PV → PV → Option PV} {i : Nat} {p : PV} : kBR f i (some (p, e)) = kBR2 f p (slotv e i) e := id rfl
@[simp] theorem dBinR_ev {f : PV → PV → Option PV} {i : Nat} : dBinR f a i e = kBR f i (a e) := id rfl
def kBL3 (f : PV → PV → Option PV) (q : PV) (o : Option PV) (e : PEn) : Option (PV × PEn) := o.bind fun x => (f x q).map fun z => (z, e)
@[simp] theorem kBL3_s {f : PV → PV → Option PV} {p q : PV} : kBL3 f q (some p) e = kR (f p q) e := id rfl
def kBL2 (f : PV → PV → Option PV) (i : Nat) (o : Option (PV × PEn)) : Option (PV × PEn) := o.bind fun q => (slotv q.2 i).bind fun x => (f x q.1).map fun z => (z, q.2)
@[simp] theorem kBL2_s {f : PV → PV → Option PV} {i : Nat} {q : PV} : kBL2 f i (some (q, e)) = kBL3 f q (slotv e i) e := id rfl
def kBL (f : PV → PV → Option PV) (i : Nat) (b : Den) (o : Option PV) (e : PEn) : Option (PV × PEn) := o.bind fun _ => (b e).bind fun q => (slotv q.2 i).bind fun x => (f x q.1).map fun z => (z, q.2)
@[simp] theorem kBL_s {f : PV → PV → Option PV} {i : Nat} {q : PV} : kBL f i b (some q) e = kBL2 f i (b e) := id rfl
@[simp] theorem dBinL_ev {f : PV → PV → Option PV} {i : Nat} : dBinL f i b e = kBL f i b (slotv e i) e := id rfl
/-! arguments -/
def kA2 (p : PV) (o : Option (List PV × PEn)) : Option (List PV × PEn) := o.map fun q => (p :: q.1, q.2)
@[simp] theorem kA2_s {p : PV} {q : List PV} : kA2 p (some (q, e)) = some (p :: q, e) := id rfl
def kA1 (r : List Den) (o : Option (PV × PEn)) : Option (List PV × PEn) := o.bind fun p => (dArgs r p.2).map fun q => (p.1 :: q.1, q.2)
@[simp] theorem kA1_s {r : List Den} {p : PV} : kA1 r (some (p, e)) = kA2 p (dArgs r e) := id rfl
@[simp] theorem dArgs_nil : dArgs [] e = some ([], e) := id rfl
@[simp] theorem dArgs_cons {r : List Den} : dArgs (a :: r) e = kA1 r (a e) := id rfl
def kAd (r : List Arg) (o : Option (PV × PEn)) : Option (List PV × PEn) := o.bind fun p => (bArgs r p.2).map fun q => (p.1 :: q.1, q.2)
@[simp] theorem kAd_s {r : List Arg} {p : PV} : kAd r (some (p, e)) = kA2 p (bArgs r e) := id rfl
def kAb3 (q : List PV) (o : Option PV) (e : PEn) : Option (List PV × PEn) := o.map fun v => (v :: q, e)
@[simp] theorem kAb3_s {q : List PV} {v : PV} : kAb3 q (some v) e = some (v :: q, e) := id rfl
def kAb2 (i : Nat) (o : Option (List PV × PEn)) : Option (List PV × PEn) := o.bind fun q => (slotv q.2 i).map fun v => (v :: q.1, q.2)
@[simp] theorem kAb2_s {i : Nat} {q : List PV} : kAb2 i (some (q, e)) = kAb3 q (slotv e i) e := id rfl
def kAb (i : Nat) (r : List Arg) (o : Option PV) (e : PEn) : Option (List PV × PEn) := o.bind fun _ => (bArgs r e).bind fun q => (slotv q.2 i).map fun v => (v :: q.1, q.2)
@[simp] theorem kAb_s {i : Nat} {r : List Arg} {v : PV} : kAb i r (some v) e = kAb2 i (bArgs r e) := id rfl
@[simp] theorem bArgs_nil : bArgs [] e = some ([], e) := id rfl
@[simp] theorem bArgs_d {r : List Arg} : bArgs (.d a :: r) e = kAd r (a e) := id rfl
@[simp] theorem bArgs_b {r : List Arg} {i : Nat} : bArgs (.b i :: r) e = kAb i r (slotv e i) e := id rfl
def ownv (e : PEn) (i : Nat) : Option PV := match e[i]? with
  | some (.own v) => some v
  | _ => none
theorem ownv_match {α : Type} {e : PEn} {i : Nat} {F : PV → Option α} : (match e[i]? with | some (.own v) => F v | _ => none) = (ownv e i).bind F := by
  unfold ownv
  split <;> first | rfl | (split <;> first | rfl | (rename_i h _ h2; exact absurd h2 (h _)))
def kCd (r : List Arg) (o : Option (PV × PEn)) : Option (List PV × PEn) := o.bind fun p => (cArgs r p.2).map fun q => (p.1 :: q.1, q.2)
@[simp] theorem kCd_s {r : List Arg} {p : PV} : kCd r (some (p, e)) = kA2 p (cArgs r e) := id rfl
def kCb2 (i : Nat) (o : Option (List PV × PEn)) : Option (List PV × PEn) := o.bind fun q => (ownv q.2 i).map fun v => (v :: q.1, q.2)
@[simp] theorem kCb2_s {i : Nat} {q : List PV} : kCb2 i (some (q, e)) = kAb3 q (ownv e i) e := id rfl
def kCb (i : Nat) (r : List Arg) (o : Option PV) (e : PEn) : Option (List PV × PEn) := o.bind fun _ => kCb2 i (cArgs r e)
@[simp] theorem kCb_s {i : Nat} {r : List Arg} {v : PV} : kCb i r (some v) e = kCb2 i (cArgs r e) := id rfl
@[simp] theorem cArgs_nil : cArgs [] e = some ([], e) := id rfl
@[simp] theorem cArgs_d {r : List Arg} : cArgs (.d a :: r) e = kCd r (a e) := id rfl
@[simp] theorem cArgs_b {r : List Arg} {i : Nat} : cArgs (.b i :: r) e = kCb i r (slotv e i) e := by
  show ((slotv e i).bind fun _ => (cArgs r e).bind fun q => match q.2[i]? with | some (.own v) => some (v :: q.1, q.2) | _ => none) = _
  unfold kCb kCb2
  congr 1; funext v
  congr 1; funext q
  exact (ownv_match (e := q.2) (F := fun v => some (v :: q.1, q.2))).trans (by cases ownv q.2 i <;> rfl)
def kApp (f : List PV → Option PV) (o : Option (List PV × PEn)) : Option (PV × PEn) := o.bind fun p => (f p.1).map fun z => (z, p.2)
@[simp] theorem kApp_s {f : List PV → Option PV} {ps : List PV} : kApp f (some (ps, e)) = kR (f ps) e := id rfl
@[simp] theorem dApp_ev {f : List PV → Option PV} {as : List Arg} : dApp f as e = kApp f (bArgs as e) := id rfl
def kCall2 (as : List Arg) (e : PEn) (o : Option (PV × List PV)) : Option (PV × PEn) := o.map fun r => (r.1, backE as r.2 e)
@[simp] theorem kCall2_s {as : List Arg} {z : PV} {ws : List PV} : kCall2 as e (some (z, ws)) = some (z, backE as ws e) := id rfl
def kCall (f : Sem) (as : List Arg) (o : Option (List PV × PEn)) : Option (PV × PEn) := o.bind fun p => (f p.1).map fun r => (r.1, backE as r.2 p.2)
@[simp] theorem kCall_s {f : Sem} {as : List Arg} {ps : List PV} : kCall f as (some (ps, e)) = kCall2 as e (f ps) := id rfl
@[simp] theorem dCall_ev {f : Sem} {as : List Arg} : dCall f as e = kCall f as (cArgs as e) := id rfl
@[simp] theorem dCallN_ev {f : FSemN} {ds : List Den} : dCallN f ds e = kApp f (dArgs ds e) := id rfl
@[simp] theorem backE_nil {ps : List PV} : backE [] ps e = e := by cases ps <;> rfl
@[simp] theorem backE_d {as : List Arg} {p : PV} {ps : List PV} : backE (.d a :: as) (p :: ps) e = backE as ps e := id rfl
@[simp] theorem backE_b {as : List Arg} {i : Nat} {p : PV} {ps : List PV} : backE (.b i :: as) (p :: ps) e = backE as ps (e.set i (.own p)) := id rfl
def kTup (o : Option (List PV × PEn)) : Option (PV × PEn) := o.map fun p => (.tup p.1, p.2)
@[simp] theorem kTup_s {ps : List PV} : kTup (some (ps, e)) = some (.tup ps, e) := id rfl
@[simp] theorem dTup_ev {ds : List Den} : dTup ds e = kTup (dArgs ds e) := id rfl
def kLst (o : Option (List PV × PEn)) : Option (PV × PEn) := o.map fun p => (.lst p.1, p.2)
@[simp] theorem kLst_s {ps : List PV} : kLst (some (ps, e)) = some (.lst ps, e) := id rfl
@[simp] theorem dLst_ev {ds : List Den} : dLst ds e = kLst (dArgs ds e) := id rfl
/-! tests -/
def kT2 (o : Option Bool) (e : PEn) : Option (Bool × PEn) := o.map fun z => (z, e)
@[simp] theorem kT2_s {k : Bool} : kT2 (some k) e = some (k, e) := id rfl
def kDB (o : Option (PV × PEn)) : Option (Bool × PEn) := o.bind fun p => (asBl p.1).map fun z => (z, p.2)
@[simp] theorem kDB_s {v : PV} : kDB (some (v, e)) = kT2 (asBl v) e := id rfl
@[simp] theorem dB_ev : dB a e = kDB (a e) := id rfl
@[simp] theorem asBl_ev {k : Bool} : asBl (.bl k) = some k := id rfl
def kNot (o : Option (Bool × PEn)) : Option (Bool × PEn) := o.map fun p => (!p.1, p.2)
@[simp] theorem kNot_s {k : Bool} : kNot (some (k, e)) = some (!k, e) := id rfl
@[simp] theorem dNot_ev : dNot t e = kNot (t e) := id rfl
def kAnd (o : Option (Bool × PEn)) (u : DenT) : Option (Bool × PEn) := o.bind fun p => if p.1 then u p.2 else some (false, p.2)
@[simp] theorem kAnd_t : kAnd (some (true, e)) u = u e := id rfl
@[simp] theorem kAnd_f : kAnd (some (false, e)) u = some (false, e) := id rfl
@[simp] theorem dAnd_ev : dAnd t u e = kAnd (t e) u := id rfl
def kOr (o : Option (Bool × PEn)) (u : DenT) : Option (Bool × PEn) := o.bind fun p => if p.1 then some (true, p.2) else u p.2
@[simp] theorem kOr_t : kOr (some (true, e)) u = some (true, e) := id rfl
@[simp] theorem kOr_f : kOr (some (false, e)) u = u e := id rfl
@[simp] theorem dOr_ev : dOr t u e = kOr (t e) u := id rfl
def kIfE (o : Option (Bool × PEn)) (a b : Den) : Option (PV × PEn) := o.bind fun p => if p.1 then a p.2 else b p.2
@[simp] theorem kIfE_t : kIfE (some (true, e)) a b = a e := id rfl
@[simp] theorem kIfE_f : kIfE (some (false, e)) a b = b e := id rfl
@[simp] theorem dIf_ev : dIf t a b e = kIfE (t e) a b := id rfl
@[simp] theorem dYes_ev : dYes e = some (true, e) := id rfl
def kTr (o : Option (PV × PEn)) : Option (Bool × PEn) := o.bind fun p => (truthF p.1).map fun b => (b, p.2)
@[simp] theorem kTr_s {v : PV} : kTr (some (v, e)) = kT2 (truthF v) e := id rfl
@[simp] theorem dTruth_ev {o : Arg} : dTruth o e = kTr (dHead o e) := id rfl
@[simp] theorem dHead_d : dHead (.d a) e = a e := id rfl
@[simp] theorem dHead_b {i : Nat} : dHead (.b i) e = kR (slotv e i) e := id rfl
@[simp] theorem dBack_d {p : PV} : dBack (.d a) p e = some p := id rfl
@[simp] theorem dBack_b {i : Nat} {p : PV} : dBack (.b i) p e = slotv e i := id rfl
def kIs (k : TyN) (o : Option (PV × PEn)) : Option (PV × PEn) := o.map fun p => (.bl (isTy k p.1), p.2)
@[simp] theorem kIs_s {k : TyN} {v : PV} : kIs k (some (v, e)) = some (.bl (isTy k v), e) := id rfl
@[simp] theorem dIsI_ev {k : TyN} {o : Arg} : dIsI k o e = kIs k (dHead o e) := id rfl
def kAV (o : Option (PV × PEn)) (b : Den) : Option (PV × PEn) := o.bind fun p => match p.1 with
  | .bl true => b p.2
  | .bl false => some (.bl false, p.2)
  | _ => none
@[simp] theorem kAV_t : kAV (some (.bl true, e)) b = b e := id rfl
@[simp] theorem kAV_f : kAV (some (.bl false, e)) b = some (.bl false, e) := id rfl
@[simp] theorem dAndV_ev : dAndV a b e = kAV (a e) b := id rfl
def kOV (o : Option (PV × PEn)) (b : Den) : Option (PV × PEn) := o.bind fun p => match p.1 with
  | .bl false => b p.2
  | .bl true => some (.bl true, p.2)
  | _ => none
@[simp] theorem kOV_f : kOV (some (.bl false, e)) b = b e := id rfl
@[simp] theorem kOV_t : kOV (some (.bl true, e)) b = some (.bl true, e) := id rfl
@[simp] theorem dOrV_ev : dOrV a b e = kOV (a e) b := id rfl
@[simp] theorem notF_ev {k : Bool} : notF (.bl k) = some (.bl (!k)) := id rfl
def kC3 (g : PV → PV → Option PV) (c : Den) (q : PV) (e : PEn) (o : Option PV) : Option (PV × PEn) := o.bind fun z => match z with
  | .bl true => (c e).bind fun r => (g q r.1).map fun y => (y, r.2)
  | .bl false => some (.bl false, e)
  | _ => none
@[simp] theorem kC3_t {g : PV → PV → Option PV} {q : PV} : kC3 g c q e (some (.bl true)) = kB2 g q (c e) := id rfl
@[simp] theorem kC3_f {g : PV → PV → Option PV} {q : PV} : kC3 g c q e (some (.bl false)) = some (.bl false, e) := id rfl
def kC2 (f g : PV → PV → Option PV) (c : Den) (p : PV) (o : Option (PV × PEn)) : Option (PV × PEn) := o.bind fun q => kC3 g c q.1 q.2 (f p q.1)
@[simp] theorem kC2_s {f g : PV → PV → Option PV} {p q : PV} : kC2 f g c p (some (q, e)) = kC3 g c q e (f p q) := id rfl
def kC1 (f g : PV → PV → Option PV) (b c : Den) (o : Option (PV × PEn)) : Option (PV × PEn) := o.bind fun p => kC2 f g c p.1 (b p.2)
@[simp] theorem kC1_s {f g : PV → PV → Option PV} {p : PV} : kC1 f g b c (some (p, e)) = kC2 f g c p (b e) := id rfl
@[simp] theorem dChain_ev {f g : PV → PV → Option PV} : dChain f g a b c e = kC1 f g b c (a e) := id rfl
/-! containers of one's own -/
def ownL (e : PEn) (i : Nat) : Option (List PV) := match e[i]? with
  | some (.own (.lst xs)) => some xs
  | _ => none
theorem ownL_match {α : Type} {e : PEn} {i : Nat} {F : List PV → Option α} : (match e[i]? with | some (.own (.lst v)) => F v | _ => none) = (ownL e i).bind F := by
  unfold ownL
  split <;> first | rfl | (split <;> first | rfl | (rename_i h _ _ h2; exact absurd h2 (h _)))
def kM4 (i : Nat) (e : PEn) (o : Option (PV × List PV)) : Option (PV × PEn) := o.map fun z => (z.1, e.set i (.own (.lst z.2)))
@[simp] theorem kM4_s {i : Nat} {z : PV} {ws : List PV} : kM4 i e (some (z, ws)) = some (z, e.set i (.own (.lst ws))) := id rfl
def kM3 (f : List PV → List PV → Option (PV × List PV)) (i : Nat) (q : List PV) (e : PEn) (o : Option (List PV)) : Option (PV × PEn) := o.bind fun xs => kM4 i e (f xs q)
@[simp] theorem kM3_s {f : List PV → List PV → Option (PV × List PV)} {i : Nat} {q xs : List PV} : kM3 f i q e (some xs) = kM4 i e (f xs q) := id rfl
def kM2 (f : List PV → List PV → Option (PV × List PV)) (i : Nat) (o : Option (List PV × PEn)) : Option (PV × PEn) := o.bind fun q => kM3 f i q.1 q.2 (ownL q.2 i)
@[simp] theorem kM2_s {f : List PV → List PV → Option (PV × List PV)} {i : Nat} {q : List PV} : kM2 f i (some (q, e)) = kM3 f i q e (ownL e i) := id rfl
def kM (f : List PV → List PV → Option (PV × List PV)) (i : Nat) (ds : List Den) (o : Option (List PV)) (e : PEn) : Option (PV × PEn) := o.bind fun _ => kM2 f i (dArgs ds e)
@[simp] theorem kM_s {f : List PV → List PV → Option (PV × List PV)} {i : Nat} {ds : List Den} {xs : List PV} : kM f i ds (some xs) e = kM2 f i (dArgs ds e) := id rfl
@[simp] theorem dMut_ev {f : List PV → List PV → Option (PV × List PV)} {i : Nat} {ds : List Den} : dMut f i ds e = kM f i ds (ownL e i) e := by
  refine (ownL_match (e := e) (i := i) (F := fun _ => (dArgs ds e).bind (fun (q : List PV × PEn) => (match q.2[i]? with | some (.own (.lst xs)) => (f xs q.1).map (fun (z : PV × List PV) => (z.1, q.2.set i (.own (.lst z.2)))) | _ => none)))).trans ?_
  unfold kM kM2 kM3 kM4
  congr 1; funext _
  congr 1; funext q
  exact ownL_match (F := fun xs => (f xs q.1).map fun (z : PV × List PV) => (z.1, q.2.set i (.own (.lst z.2))))
def kS5 (i : Nat) (e : PEn) (o : Option PV) : Option Fl := o.map fun d' => .nx (e.set i (.own d'))
@[simp] theorem kS5_s {i : Nat} {d : PV} : kS5 i e (some d) = some (.nx (e.set i (.own d))) := id rfl
def kS4 (i : Nat) (v k : PV) (e : PEn) (o : Option PV) : Option Fl := o.bind fun d => kS5 i e (setF d k v)
@[simp] theorem kS4_s {i : Nat} {v k d : PV} : kS4 i v k e (some d) = kS5 i e (setF d k v) := id rfl
def kS3 (i : Nat) (v : PV) (o : Option (PV × PEn)) : Option Fl := o.bind fun k => kS4 i v k.1 k.2 (ownv k.2 i)
@[simp] theorem kS3_s {i : Nat} {v k : PV} : kS3 i v (some (k, e)) = kS4 i v k e (ownv e i) := id rfl
def kS2 (i : Nat) (a : Den) (v : PV) (o : Option PV) (e : PEn) : Option Fl := o.bind fun _ => kS3 i v (a e)
@[simp] theorem kS2_s {i : Nat} {v d : PV} : kS2 i a v (some d) e = kS3 i v (a e) := id rfl
def kS (i : Nat) (a : Den) (o : Option (PV × PEn)) : Option Fl := o.bind fun p => kS2 i a p.1 (ownv p.2 i) p.2
@[simp] theorem kS_s {i : Nat} {v : PV} : kS i a (some (v, e)) = kS2 i a v (ownv e i) e := id rfl
@[simp] theorem sStore_ev {i : Nat} : sStore i a b e = kS i a (b e) := by
  show ((b e).bind fun p => match p.2[i]? with | some (.own _) => (a p.2).bind (fun k => (match k.2[i]? with | some (.own d) => (setF d k.1 p.1).map (fun d' => Fl.nx (k.2.set i (.own d'))) | _ => none)) | _ => none) = _
  unfold kS kS2 kS3 kS4 kS5
  congr 1; funext p
  rw [ownv_match (F := fun _ => (a p.2).bind (fun k => (match k.2[i]? with | some (.own d) => (setF d k.1 p.1).map (fun d' => Fl.nx (k.2.set i (.own d'))) | _ => none)))]
  congr 1; funext _
  congr 1; funext k
  exact ownv_match (F := fun d => (setF d k.1 p.1).map fun d' => Fl.nx (k.2.set i (.own d')))
def kRv3 (f : PV → List PV → Option PV) (q : List PV) (p : PV) (e : PEn) (o : Option PV) : Option (PV × PEn) := o.bind fun y => if kind y = kind p then (f y q).map fun z => (z, e) else none
@[simp] theorem kRv3_s {f : PV → List PV → Option PV} {q : List PV} {p y : PV} : kRv3 f q p e (some y) = if kind y = kind p then kR (f y q) e else none := id rfl
def kRv2 (f : PV → List PV → Option PV) (o : Arg) (p : PV) (r : Option (List PV × PEn)) : Option (PV × PEn) := r.bind fun q => kRv3 f q.1 p q.2 (dBack o p q.2)
@[simp] theorem kRv2_s {f : PV → List PV → Option PV} {o : Arg} {p : PV} {q : List PV} : kRv2 f o p (some (q, e)) = kRv3 f q p e (dBack o p e) := id rfl
def kRv (g : PV → Bool) (o : Arg) (as : List Den) (f : PV → List PV → Option PV) (r : Option (PV × PEn)) : Option (PV × PEn) := r.bind fun p => if g p.1 then kRv2 f o p.1 (dArgs as p.2) else none
@[simp] theorem kRv_s {g : PV → Bool} {o : Arg} {as : List Den} {f : PV → List PV → Option PV} {p : PV} : kRv g o as f (some (p, e)) = if g p then kRv2 f o p (dArgs as e) else none := id rfl
@[simp] theorem dRecv_ev {g : PV → Bool} {o : Arg} {as : List Den} {f : PV → List PV → Option PV} : dRecv g o as f e = kRv g o as f (dHead o e) := id rfl
def kLR (o : Option ((Int × Int) × PEn)) : Option (PV × PEn) := o.map fun p => (.lst (rngP p.1.1 (p.1.2 - p.1.1).toNat), p.2)
@[simp] theorem kLR_s {i j : Int} : kLR (some ((i, j), e)) = some (.lst (rngP i (j - i).toNat), e) := id rfl
@[simp] theorem dListRg_ev {as : List Den} : dListRg as e = kLR (rngArg as e) := id rfl
def kSq2 (o : Option (List PV)) (e : PEn) : Option (List PV × PEn) := o.map fun xs => (xs, e)
@[simp] theorem kSq2_s {xs : List PV} : kSq2 (some xs) e = some (xs, e) := id rfl
def kSq (o : Option (PV × PEn)) : Option (List PV × PEn) := o.bind fun p => (seqOf p.1).map fun xs => (xs, p.2)
@[simp] theorem kSq_s {v : PV} : kSq (some (v, e)) = kSq2 (seqOf v) e := id rfl
@[simp] theorem iSeq_ev : iSeq a e = kSq (a e) := id rfl
def kLC2 (vs : List Nat) (e : PEn) (o : Option (List PV × PEn)) : Option (PV × PEn) := o.map fun q => (.lst q.1, restoreE q.2 e vs)
@[simp] theorem kLC2_s {vs : List Nat} {ys : List PV} : kLC2 vs e (some (ys, e1)) = some (.lst ys, restoreE e1 e vs) := id rfl
def kLC (g : Tgt) (t : DenT) (a : Den) (vs : List Nat) (o : Option (List PV × PEn)) : Option (PV × PEn) := o.bind fun p => (lcF g t a vs p.1 (wipeE p.2 vs)).map fun q => (.lst q.1, restoreE q.2 p.2 vs)
@[simp] theorem kLC_s {g : Tgt} {vs : List Nat} {xs : List PV} : kLC g t a vs (some (xs, e)) = kLC2 vs e (lcF g t a vs xs (wipeE e vs)) := id rfl
@[simp] theorem dLC_ev {s : DenI} {vs : List Nat} {g : Tgt} : dLC s vs g t a e = kLC g t a vs (s e) := id rfl
@[simp] theorem wipeE_nil : wipeE e [] = e := id rfl
@[simp] theorem wipeE_cons {v : Nat} {vs : List Nat} : wipeE e (v :: vs) = (wipeE e vs).set v .no := id rfl
@[simp] theorem restoreE_nil {o : PEn} : restoreE e o [] = e := id rfl
@[simp] theorem restoreE_cons {v : Nat} {vs : List Nat} {o : PEn} : restoreE e o (v :: vs) = (restoreE e o vs).set v (keepV o v) := id rfl
@[simp] theorem tgt_nm {i : Nat} {v : PV} : tgtF (.nm i) v e = if i < e.length then some (e.set i (.val v)) else none := by unfold tgtF; exact id rfl
def kTp (ts : List Tgt) (e : PEn) (o : Option (List PV)) : Option PEn := o.bind fun xs => tgtsF ts xs e
@[simp] theorem kTp_s {ts : List Tgt} {xs : List PV} : kTp ts e (some xs) = tgtsF ts xs e := id rfl
@[simp] theorem tgt_tp {ts : List Tgt} {v : PV} : tgtF (.tp ts) v e = kTp ts e (tupOf v) := by
  unfold tgtF kTp
  cases tupOf v <;> rfl
@[simp] theorem tgts_nil : tgtsF [] [] e = some e := by unfold tgtsF; exact id rfl
def kTs (ts : List Tgt) (vs : List PV) (o : Option PEn) : Option PEn := o.bind fun e1 => tgtsF ts vs e1
@[simp] theorem kTs_s {ts : List Tgt} {vs : List PV} : kTs ts vs (some e) = tgtsF ts vs e := id rfl
@[simp] theorem tgts_cons {g : Tgt} {ts : List Tgt} {v : PV} {vs : List PV} : tgtsF (g :: ts) (v :: vs) e = kTs ts vs (tgtF g v e) := by
  unfold kTs
  conv => lhs; unfold tgtsF
@[simp] theorem tupOf_tup {xs : List PV} : tupOf (.tup xs) = some xs := id rfl
@[simp] theorem tupOf_fup {xs : List PV} : tupOf (.fup xs) = some xs := id rfl
@[simp] theorem seqOf_tup {xs : List PV} : seqOf (.tup xs) = some xs := id rfl
@[simp] theorem seqOf_fup {xs : List PV} : seqOf (.fup xs) = some xs := id rfl
@[simp] theorem seqOf_lst {xs : List PV} : seqOf (.lst xs) = some xs := id rfl
/-! slots of a written environment -/
def kV (s : SlP) (o : Option (PV × PEn)) : Option (PV × PEn) := o.map fun p => (p.1, s :: p.2)
@[simp] theorem kV_s {s : SlP} {v : PV} : kV s (some (v, e)) = some (v, s :: e) := id rfl
@[simp] theorem dVar_0v {v : PV} {r : PEn} : dVar 0 (.val v :: r) = some (v, .val v :: r) := id rfl
@[simp] theorem dVar_0o {v : PV} {r : PEn} : dVar 0 (.own v :: r) = some (v, .val v :: r) := id rfl
@[simp] theorem dVar_s {i : Nat} {s : SlP} {r : PEn} : dVar (i + 1) (s :: r) = kV s (dVar i r) := by
  unfold dVar kV
  rw [List.getElem?_cons_succ]
  cases h : r[i]? with
  | none => rfl
  | some x => cases x <;> rfl
@[simp] theorem slotv_0v {v : PV} {r : PEn} : slotv (.val v :: r) 0 = some v := id rfl
@[simp] theorem slotv_0o {v : PV} {r : PEn} : slotv (.own v :: r) 0 = some v := id rfl
@[simp] theorem slotv_s {i : Nat} {s : SlP} {r : PEn} : slotv (s :: r) (i + 1) = slotv r i := id rfl
@[simp] theorem ownv_0 {v : PV} {r : PEn} : ownv (.own v :: r) 0 = some v := id rfl
@[simp] theorem ownv_s {i : Nat} {s : SlP} {r : PEn} : ownv (s :: r) (i + 1) = ownv r i := id rfl
@[simp] theorem ownL_0 {v : List PV} {r : PEn} : ownL (.own (.lst v) :: r) 0 = some v := id rfl
@[simp] theorem ownL_s {i : Nat} {s : SlP} {r : PEn} : ownL (s :: r) (i + 1) = ownL r i := id rfl
@[simp] theorem keepV_0v {v : PV} {r : PEn} : keepV (.val v :: r) 0 = .val v := id rfl
@[simp] theorem keepV_0o {v : PV} {r : PEn} : keepV (.own v :: r) 0 = .no := id rfl
@[simp] theorem keepV_0n {r : PEn} : keepV (.no :: r) 0 = .no := id rfl
@[simp] theorem keepV_s {i : Nat} {s : SlP} {r : PEn} : keepV (s :: r) (i + 1) = keepV r i := id rfl
@[simp] theorem argE_nil {ps : List PV} : argE [] ps = ps.map .val := id rfl
@[simp] theorem argE_t {ms : List Bool} {p : PV} {ps : List PV} : argE (true :: ms) (p :: ps) = .own p :: argE ms ps := id rfl
@[simp] theorem argE_f {ms : List Bool} {p : PV} {ps : List PV} : argE (false :: ms) (p :: ps) = .val p :: argE ms ps := id rfl
def kO2 (w : PV) (o : Option (List PV)) : Option (List PV) := o.map (w :: ·)
@[simp] theorem kO2_s {w : PV} {ws : List PV} : kO2 w (some ws) = some (w :: ws) := id rfl
def kO1 (e : PEn) (k : Nat) (ms : List Bool) (ps : List PV) (o : Option PV) : Option (List PV) := o.bind fun w => kO2 w (outsP e k ms ps)
@[simp] theorem kO1_s {k : Nat} {ms : List Bool} {ps : List PV} {w : PV} : kO1 e k ms ps (some w) = kO2 w (outsP e k ms ps) := id rfl
@[simp] theorem outsP_nil {k : Nat} {ps : List PV} : outsP e k [] ps = some ps := id rfl
@[simp] theorem outsP_t {k : Nat} {ms : List Bool} {p : PV} {ps : List PV} : outsP e k (true :: ms) (p :: ps) = kO1 e (k + 1) ms ps (ownv e k) := id rfl
@[simp] theorem outsP_f {k : Nat} {ms : List Bool} {p : PV} {ps : List PV} : outsP e k (false :: ms) (p :: ps) = kO2 p (outsP e (k + 1) ms ps) := id rfl
end
/-- what a run of a body ends in -/
def kE2 (v : PV) (o : Option (List PV)) : Option (PV × List PV) := o.map fun w => (v, w)
@[simp] theorem kE2_s {v : PV} {ws : List PV} : kE2 v (some ws) = some (v, ws) := id rfl
def kEnd (ms : List Bool) (ps : List PV) (o : Option Fl) : Option (PV × List PV) := o.bind fun fl => match fl with
  | .nx e => (outsP e 0 ms ps).map fun w => (.non, w)
  | .rt v e => (outsP e 0 ms ps).map fun w => (v, w)
  | _ => none
@[simp] theorem kEnd_nx {ms : List Bool} {ps : List PV} {e : PEn} : kEnd ms ps (some (.nx e)) = kE2 .non (outsP e 0 ms ps) := id rfl
@[simp] theorem kEnd_rt {ms : List Bool} {ps : List PV} {v : PV} {e : PEn} : kEnd ms ps (some (.rt v e)) = kE2 v (outsP e 0 ms ps) := id rfl
theorem runF_ev {ms : List Bool} {m : Nat} {d : DenS} {ps : List PV} : runF ms m d ps = kEnd ms ps (d (argE ms ps ++ List.replicate m .no)) := rfl
/-! numbers -/
theorem okD_int (n : Nat) (i : Int) : okD n (.int i) = true := by cases n <;> rfl
@[simp] theorem addF_int (i j : Int) : addF (.int i) (.int j) = some (.int (i + j)) := id rfl
@[simp] theorem subF_int (i j : Int) : subF (.int i) (.int j) = some (.int (i - j)) := id rfl
@[simp] theorem leF_int (i j : Int) : leF (.int i) (.int j) = some (.bl (decide (i ≤ j))) := id rfl
@[simp] theorem gtF_int (i j : Int) : gtF (.int i) (.int j) = some (.bl (decide (j < i))) := id rfl
@[simp] theorem geF_int (i j : Int) : geF (.int i) (.int j) = some (.bl (decide (j ≤ i))) := id rfl
@[simp] theorem ltF_int (i j : Int) : ltF (.int i) (.int j) = some (.bl (decide (i < j))) := id rfl
@[simp] theorem eqF_int (i j : Int) : eqF (.int i) (.int j) = some (.bl (decide (i = j))) := by
  simp only [eqF, okD_int, eqv, toD, PySem.PyData.eqv, Bool.and_self, if_true]
  congr 2
@[simp] theorem neF_int (i j : Int) : neF (.int i) (.int j) = some (.bl (!decide (i = j))) := by
  simp only [neF, okD_int, eqv, toD, PySem.PyData.eqv, Bool.and_self, if_true]
  congr 2
@[simp] theorem intTF_int (i : Int) : intTF [.int i] = some (.int i) := id rfl
@[simp] theorem intTF_bl (k : Bool) : intTF [.bl k] = some (.int (if k then 1 else 0)) := id rfl
@[simp] theorem lenF_lst (xs : List PV) : lenF [.lst xs] = some (.int xs.length) := id rfl
@[simp] theorem lenF_tup (xs : List PV) : lenF [.tup xs] = some (.int xs.length) := id rfl
@[simp] theorem lenF_fup (xs : List PV) : lenF [.fup xs] = some (.int xs.length) := id rfl
@[simp] theorem tupleF_lst (xs : List PV) : tupleF [.lst xs] = some (.tup xs) := id rfl
@[simp] theorem tupleZF_lst (xs : List PV) : tupleZF [.lst xs] = some (.fup xs) := id rfl
@[simp] theorem listF_lst (xs : List PV) : listF [.lst xs] = some (.lst xs) := id rfl
@[simp] theorem truthF_bl (k : Bool) : truthF (.bl k) = some k := id rfl
@[simp] theorem isNF_non (p : PV) : isNF p .non = some (.bl (isNone p)) := id rfl
@[simp] theorem notNF_non (p : PV) : notNF p .non = some (.bl (!isNone p)) := id rfl
@[simp] theorem isNone_non : isNone .non = true := id rfl
@[simp] theorem isNone_int (i : Int) : isNone (.int i) = false := id rfl
theorem modF_nat (a b : Nat) (h : 0 < b) : modF (.int a) (.int b) = some (.int ((a % b : Nat) : Int)) := by
  simp only [modF, intF, decide_eq_true_eq]
  rw [if_pos (by simpa using h)]
  rfl
theorem divF_nat (a b : Nat) (h : 0 < b) (h2 : b < 1000000) : divF (.int a) (.int b) = some (.int ((a / b : Nat) : Int)) := by
  simp only [divF, intF, decide_eq_true_eq]
  rw [if_pos (by omega)]
  rfl
theorem mulF_nat (a b : Nat) (h : a < 2 ^ 60) : mulF (.int a) (.int b) = some (.int ((a * b : Nat) : Int)) := by
  simp only [mulF, intF]
  rw [if_pos (by simp; left; omega)]
  simp
theorem getF_seq {d : PV} {xs : List PV} {k : Nat} {x : PV} (hs : seqOf d = some xs) (h : xs[k]? = some x) : getF d (.int k) = some x := by
  have hk : k < xs.length := (List.getElem?_eq_some_iff.mp h).1
  simp only [getF, hs, atI, ixN]
  rw [if_pos (by omega), if_pos (by omega)]
  simpa using h
@[simp] theorem getF_l0 (x : PV) (xs : List PV) : getF (.lst (x :: xs)) (.int 0) = some x := getF_seq (k := 0) rfl rfl
@[simp] theorem getF_l1 (x y : PV) (xs : List PV) : getF (.lst (x :: y :: xs)) (.int 1) = some y := getF_seq (k := 1) rfl rfl
@[simp] theorem getF_l2 (x y z : PV) (xs : List PV) : getF (.lst (x :: y :: z :: xs)) (.int 2) = some z := getF_seq (k := 2) rfl rfl
@[simp] theorem getF_t0 (x : PV) (xs : List PV) : getF (.tup (x :: xs)) (.int 0) = some x := getF_seq (k := 0) rfl rfl
@[simp] theorem getF_t1 (x y : PV) (xs : List PV) : getF (.tup (x :: y :: xs)) (.int 1) = some y := getF_seq (k := 1) rfl rfl
@[simp] theorem getF_t2 (x y z : PV) (xs : List PV) : getF (.tup (x :: y :: z :: xs)) (.int 2) = some z := getF_seq (k := 2) rfl rfl
@[simp] theorem setF_l1 (x y v : PV) (xs : List PV) : setF (.lst (x :: y :: xs)) (.int 1) v = some (.lst (x :: v :: xs)) := by
  simp only [setF, ixN, List.length_cons]
  rw [if_pos (by decide), if_pos (by omega)]
  rfl
@[simp] theorem setF_l2 (x y z v : PV) (xs : List PV) : setF (.lst (x :: y :: z :: xs)) (.int 2) v = some (.lst (x :: y :: v :: xs)) := by
  simp only [setF, ixN, List.length_cons]
  rw [if_pos (by decide), if_pos (by omega)]
  rfl
end PP

/-! PP, part s: loops and comprehensions by invariants. -/
namespace PP
/-- a loop that ends behind its last item -/
theorem forF_suf {t : Tgt} {b : DenS} {P : List PV → PEn → Prop} (step : ∀ x xs e, P (x :: xs) e → ∃ e1 e2, tgtF t x e = some e1 ∧ b e1 = some (.nx e2) ∧ P xs e2) : ∀ xs e, P xs e → ∃ e', forF t b xs e = some (.nx e') ∧ P [] e'
  | [], e, h => ⟨e, by unfold forF; rfl, h⟩
  | x :: xs, e, h => by
    obtain ⟨e1, e2, h1, h2, h3⟩ := step x xs e h
    obtain ⟨e', h4, h5⟩ := forF_suf step xs e2 h3
    refine ⟨e', ?_, h5⟩
    unfold forF
    rw [h1, Option.bind_some, h2]
    exact h4
/-- .. or leaves by a return -/
theorem forF_ret {t : Tgt} {b : DenS} {P : List PV → PEn → Prop} {R : PV → PEn → Prop} (step : ∀ x xs e, P (x :: xs) e → ∃ e1, tgtF t x e = some e1 ∧ ((∃ e2, b e1 = some (.nx e2) ∧ P xs e2) ∨ ∃ v e2, b e1 = some (.rt v e2) ∧ R v e2)) :
    ∀ xs e, P xs e → (∃ e', forF t b xs e = some (.nx e') ∧ P [] e') ∨ ∃ v e', forF t b xs e = some (.rt v e') ∧ R v e'
  | [], e, h => .inl ⟨e, by unfold forF; rfl, h⟩
  | x :: xs, e, h => by
    obtain ⟨e1, h1, h2⟩ := step x xs e h
    rcases h2 with ⟨e2, h2, h3⟩ | ⟨v, e2, h2, h3⟩
    · rcases forF_ret step xs e2 h3 with ⟨e', h4, h5⟩ | ⟨v, e', h4, h5⟩
      · refine .inl ⟨e', ?_, h5⟩
        unfold forF
        rw [h1, Option.bind_some, h2]
        exact h4
      · refine .inr ⟨v, e', ?_, h5⟩
        unfold forF
        rw [h1, Option.bind_some, h2]
        exact h4
    · refine .inr ⟨v, e2, ?_, h3⟩
      unfold forF
      rw [h1, Option.bind_some, h2]
      rfl
/-- a comprehension that leaves the slots as they are -/
theorem lcF_pure {t : Tgt} {tt : DenT} {elt : Den} {vs : List Nat} {e : PEn} {p : PV → Bool} {f : PV → PV} : ∀ {xs : List PV}, (∀ x ∈ xs, ∃ e1 e2, tgtF t x e = some e1 ∧ tt e1 = some (p x, e2) ∧ (p x = false → wipeE e2 vs = e) ∧ (p x = true → ∃ e3, elt e2 = some (f x, e3) ∧ wipeE e3 vs = e)) →
    lcF t tt elt vs xs e = some ((xs.filter p).map f, e)
  | [], _ => by unfold lcF; rfl
  | x :: xs, h => by
    obtain ⟨e1, e2, h1, h2, h3, h4⟩ := h x List.mem_cons_self
    have ih := lcF_pure (p := p) (f := f) fun y hy => h y (List.mem_cons_of_mem _ hy)
    unfold lcF
    rw [h1, Option.bind_some, h2, Option.bind_some]
    cases hp : p x with
    | false =>
      rw [if_neg (by simp), h3 hp, ih, List.filter_cons_of_neg (by simp [hp])]
    | true =>
      obtain ⟨e3, h5, h6⟩ := h4 hp
      rw [if_pos (by rfl), h5, Option.bind_some]
      show Option.map _ (lcF t tt elt vs xs (wipeE e3 vs)) = _
      rw [h6, ih, List.filter_cons_of_pos hp]
      rfl
/-- some of the items, each with what is made of it -/
inductive Made (G : PV → PV → Prop) : List PV → List PV → Prop
  | nil : Made G [] []
  | skip {x : PV} {xs ys : List PV} : Made G xs ys → Made G (x :: xs) ys
  | take {x y : PV} {xs ys : List PV} : G x y → Made G xs ys → Made G (x :: xs) (y :: ys)
theorem lcF_made {t : Tgt} {tt : DenT} {elt : Den} {vs : List Nat} {P : PEn → Prop} {G : PV → PV → Prop} : ∀ {xs : List PV} {e : PEn}, (∀ x ∈ xs, ∀ e, P e → ∃ e1 b e2, tgtF t x e = some e1 ∧ tt e1 = some (b, e2) ∧ (b = false → P (wipeE e2 vs)) ∧ (b = true → ∃ y e3, elt e2 = some (y, e3) ∧ G x y ∧ P (wipeE e3 vs))) → P e →
    ∃ ys e', lcF t tt elt vs xs e = some (ys, e') ∧ P e' ∧ Made G xs ys
  | [], e, _, hp => ⟨[], e, by unfold lcF; rfl, hp, .nil⟩
  | x :: xs, e, h, hp => by
    obtain ⟨e1, b, e2, h1, h2, h3, h4⟩ := h x List.mem_cons_self e hp
    have hh : ∀ y ∈ xs, _ := fun y hy => h y (List.mem_cons_of_mem _ hy)
    cases b with
    | false =>
      obtain ⟨ys, e', a1, a2, a3⟩ := lcF_made hh (h3 rfl)
      refine ⟨ys, e', ?_, a2, .skip a3⟩
      unfold lcF
      rw [h1, Option.bind_some, h2, Option.bind_some, if_neg (by simp), a1]
    | true =>
      obtain ⟨y, e3, h5, h6, h7⟩ := h4 rfl
      obtain ⟨ys, e', a1, a2, a3⟩ := lcF_made hh h7
      refine ⟨y :: ys, e', ?_, a2, .take h6 a3⟩
      unfold lcF
      rw [h1, Option.bind_some, h2, Option.bind_some, if_pos (by rfl), h5, Option.bind_some]
      show Option.map _ (lcF t tt elt vs xs (wipeE e3 vs)) = _
      rw [a1]
      rfl
/-- each item with what is made of it: none is left out -/
inductive Each (G : PV → PV → Prop) : List PV → List PV → Prop
  | nil : Each G [] []
  | cons {x y : PV} {xs ys : List PV} : G x y → Each G xs ys → Each G (x :: xs) (y :: ys)
theorem lcF_each {t : Tgt} {elt : Den} {vs : List Nat} {P : PEn → Prop} {G : PV → PV → Prop} : ∀ {xs : List PV} {e : PEn}, (∀ x ∈ xs, ∀ e, P e → ∃ e1 y e3, tgtF t x e = some e1 ∧ elt e1 = some (y, e3) ∧ G x y ∧ P (wipeE e3 vs)) → P e →
    ∃ ys e', lcF t dYes elt vs xs e = some (ys, e') ∧ P e' ∧ Each G xs ys
  | [], e, _, hp => ⟨[], e, by unfold lcF; rfl, hp, .nil⟩
  | x :: xs, e, h, hp => by
    obtain ⟨e1, y, e3, h1, h5, h6, h7⟩ := h x List.mem_cons_self e hp
    obtain ⟨ys, e', a1, a2, a3⟩ := lcF_each (fun y hy => h y (List.mem_cons_of_mem _ hy)) h7
    refine ⟨y :: ys, e', ?_, a2, .cons h6 a3⟩
    unfold lcF
    rw [h1, Option.bind_some, dYes_ev, Option.bind_some, if_pos (by rfl), h5, Option.bind_some]
    show Option.map _ (lcF t dYes elt vs xs (wipeE e3 vs)) = _
    rw [a1]
    rfl
theorem iRange_1 {a : Den} {e e1 : PEn} {n : Nat} (h : a e = some (.int n, e1)) (hn : n ≤ 16777216) : iRange [a] e = some (rngP 0 n, e1) := by
  unfold iRange
  rw [dArgs_cons, h, kA1_s, dArgs_nil, kA2_s, Option.bind_some]
  show (if -(2 ^ 62) ≤ (n : Int) ∧ (n : Int) ≤ 16777216 then some (rngP 0 (n : Int).toNat, e1) else none) = _
  rw [if_pos (by omega)]
  rfl
theorem iRange_2 {a b : Den} {e e1 e2 : PEn} {i j : Int} (h : a e = some (.int i, e1)) (h2 : b e1 = some (.int j, e2)) (hi : 0 ≤ i ∧ i ≤ 1000000) (hj : 0 ≤ j ∧ j ≤ 1000000) : iRange [a, b] e = some (rngP i (j - i).toNat, e2) := by
  unfold iRange
  rw [dArgs_cons, h, kA1_s, dArgs_cons, h2, kA1_s, dArgs_nil, kA2_s, kA2_s, Option.bind_some]
  show (if -(2 ^ 62) ≤ i ∧ i < 2 ^ 62 ∧ -(2 ^ 62) ≤ j ∧ j < 2 ^ 62 ∧ j - i ≤ 16777216 then some (rngP i (j - i).toNat, e2) else none) = _
  rw [if_pos (by omega)]
theorem rngP_mem {lo : Int} {n : Nat} {x : PV} (h : x ∈ rngP lo n) : ∃ i : Nat, i < n ∧ x = .int (lo + i) := by
  unfold rngP at h
  obtain ⟨i, hi, e⟩ := List.mem_map.mp h
  exact ⟨i, by simpa using hi, e.symm⟩
theorem rngP_succ (lo : Int) (n : Nat) : rngP lo (n + 1) = .int lo :: rngP (lo + 1) n := by
  unfold rngP
  rw [List.range_succ_eq_map, List.map_cons, List.map_map]
  congr 1
  · simp
  · apply List.map_congr_left
    intro i _
    show PV.int _ = PV.int _
    congr 1
    push_cast
    omega
theorem rngP_zero (lo : Int) : rngP lo 0 = [] := rfl
end PP

/-! PP, part t: sorting of numbers and of tuples of numbers. -/
namespace PP
theorem sortL_perm (xs : List PV) : (sortL xs).Perm xs := List.mergeSort_perm xs leP
theorem sortL_pw (xs : List PV) : (sortL xs).Pairwise fun a b => leP a b = true := by
  have T := PySem.W.sortLe_total (PyProof.Rows.listOrd PyProof.Rows.itemOrd) false fun b => PySem.W.keyToks (toD b)
  exact List.pairwise_mergeSort (fun a b c h1 h2 => T.trans a b c h1 h2) (fun a b => by simpa using T.total a b) xs
theorem lex_cons {a b : Int} {l m : List (Int ⊕ List Nat)} : PyProof.Rows.lexLt PyProof.Rows.itemOrd (.inl a :: l) (.inl b :: m) = if a = b then PyProof.Rows.lexLt PyProof.Rows.itemOrd l m else decide (a < b) := by
  by_cases h : a = b
  · subst h
    rw [if_pos rfl]
    exact PyProof.Rows.lex_self (O := PyProof.Rows.itemOrd) _ l m
  · rw [if_neg h]
    refine (PyProof.Rows.lex_diff (O := PyProof.Rows.itemOrd) (by simpa using h)).trans ?_
    rfl
theorem lex_toks : ∀ (a b : List Int), PyProof.Rows.lexLt PyProof.Rows.itemOrd (PySem.W.keyToksAll (a.map PySem.PyData.int)) (PySem.W.keyToksAll (b.map PySem.PyData.int)) = HT.lexLt a b
  | [], [] => by
    show PyProof.Rows.lexLt PyProof.Rows.itemOrd [.inl 0] [.inl 0] = _
    rw [lex_cons, if_pos rfl]
    rfl
  | [], y :: ys => by
    simp only [List.map_nil, List.map_cons, PySem.W.keyToksAll]
    rw [lex_cons]
    rfl
  | x :: xs, [] => by
    simp only [List.map_nil, List.map_cons, PySem.W.keyToksAll]
    rw [lex_cons]
    rfl
  | x :: xs, y :: ys => by
    simp only [List.map_cons, PySem.W.keyToksAll, PySem.W.keyToks, List.cons_append, List.nil_append]
    rw [lex_cons, if_pos rfl, lex_cons, lex_toks xs ys, HT.lexLt_cons]
theorem toDs_ints (a : List Int) : toDs (a.map PV.int) = a.map PySem.PyData.int := by
  rw [toDs_map, List.map_map]
  apply List.map_congr_left
  intro i _
  simp [toD]
theorem leP_tup (a b : List Int) : leP (.tup (a.map PV.int)) (.tup (b.map PV.int)) = !HT.lexLt b a := by
  show (!PyProof.Rows.lexLt PyProof.Rows.itemOrd (PySem.W.keyToks (toD (.tup (b.map PV.int)))) (PySem.W.keyToks (toD (.tup (a.map PV.int))))) = _
  simp only [toD, PySem.W.keyToks, toDs_ints]
  rw [lex_toks]
theorem leP_int (i j : Int) : leP (.int i) (.int j) = decide (i ≤ j) := by
  show (!PyProof.Rows.lexLt PyProof.Rows.itemOrd (PySem.W.keyToks (toD (.int j))) (PySem.W.keyToks (toD (.int i)))) = _
  simp only [toD, PySem.W.keyToks]
  rw [lex_cons]
  by_cases h : j = i
  · subst h
    rw [if_pos rfl]
    simp [PyProof.Rows.lexLt]
  · rw [if_neg h]
    by_cases h2 : j < i
    · simp [h2]
    · simp [h2]; omega
/-! numbers -/
theorem comparable_ints (l : List Int) : comparable (l.map PV.int) = true := by
  unfold comparable
  simp only [Bool.and_eq_true, List.all_eq_true, List.mem_map]
  refine ⟨⟨⟨?_, ?_⟩, ?_⟩, ?_⟩
  · rintro x ⟨i, _, rfl⟩; exact okD_int _ _
  · unfold alikeB
    simp only [List.all_eq_true, List.mem_map]
    rintro x ⟨i, _, rfl⟩ y ⟨j, _, rfl⟩
    simp [toD, PySem.W.alike]
  · rw [plainPs_all]
    simp only [List.all_eq_true, List.mem_map]
    rintro x ⟨i, _, rfl⟩
    simp [plainP]
  · rintro x ⟨i, _, rfl⟩; rfl
theorem sortable_ints (l : List Int) : sortable (l.map PV.int) = true := by
  unfold sortable
  simp only [Bool.or_eq_true, List.all_eq_true, List.mem_map]
  left; right
  rintro x ⟨i, _, rfl⟩
  rfl
/-- of a sorting of f's values: f's arguments -/
theorem perm_map {α : Type} {f : α → PV} {g : PV → α} (hg : ∀ a, g (f a) = a) {l : List α} {ys : List PV} (h : ys.Perm (l.map f)) : ys = (ys.map g).map f ∧ (ys.map g).Perm l := by
  refine ⟨?_, ?_⟩
  · rw [List.map_map]
    conv => lhs; rw [← List.map_id ys]
    apply List.map_congr_left
    intro y hy
    obtain ⟨a, _, e⟩ := List.mem_map.mp (h.mem_iff.mp hy)
    subst e
    simp [hg]
  · have := h.map g
    rwa [List.map_map, show g ∘ f = id from funext hg, List.map_id] at this
def unI : PV → Int
  | .int i => i
  | _ => 0
theorem sortL_ints (l : List Int) : sortL (l.map PV.int) = (sortI l).map PV.int := by
  obtain ⟨h1, h2⟩ := perm_map (g := unI) (fun i => rfl) (sortL_perm (l.map PV.int))
  have pw := sortL_pw (l.map PV.int)
  rw [h1, List.pairwise_map] at pw
  rw [h1]
  congr 1
  refine sorted_uniq (h2.trans (sortI_perm l).symm) (pw.imp fun {a b} h => ?_) (sortI_sorted l)
  rw [leP_int] at h
  simpa using h
theorem sortedF_ints (l : List Int) : sortedF [.lst (l.map PV.int)] = some (.lst ((sortI l).map PV.int)) := by
  simp only [sortedF]
  rw [comparable_ints, sortable_ints, sortL_ints]
  rfl
/-! pairs and rows of numbers -/
theorem alikeAll_ints : ∀ a b : List Int, PySem.W.alikeAll (a.map PySem.PyData.int) (b.map PySem.PyData.int) = true
  | [], _ => by simp [PySem.W.alikeAll]
  | _ :: _, [] => by simp [PySem.W.alikeAll]
  | x :: xs, y :: ys => by simp [PySem.W.alikeAll, PySem.W.alike, alikeAll_ints xs ys]
theorem okD_ints (n : Nat) (l : List Int) : (l.map PV.int).all (okD n) = true := by
  rw [List.all_eq_true]
  intro x hx
  obtain ⟨i, _, rfl⟩ := List.mem_map.mp hx
  exact okD_int _ _
theorem plainPs_ints (l : List Int) : plainPs (l.map PV.int) = true := by
  rw [plainPs_all, List.all_eq_true]
  intro x hx
  obtain ⟨i, _, rfl⟩ := List.mem_map.mp hx
  simp [plainP]
theorem comparable_tups (l : List (List Int)) : comparable (l.map fun a => .tup (a.map PV.int)) = true := by
  unfold comparable
  simp only [Bool.and_eq_true, List.all_eq_true, List.mem_map]
  refine ⟨⟨⟨?_, ?_⟩, ?_⟩, ?_⟩
  · rintro x ⟨i, _, rfl⟩
    simpa [okD] using okD_ints 59 i
  · unfold alikeB
    simp only [List.all_eq_true, List.mem_map]
    rintro x ⟨i, _, rfl⟩ y ⟨j, _, rfl⟩
    simp only [toD, PySem.W.alike, toDs_ints]
    exact alikeAll_ints i j
  · rw [plainPs_all]
    simp only [List.all_eq_true, List.mem_map]
    rintro x ⟨i, _, rfl⟩
    simpa [plainP] using plainPs_ints i
  · rintro x ⟨i, _, rfl⟩; rfl
theorem sortable_tups (l : List (List Int)) (h : ∀ a ∈ l, a ≠ []) : sortable (l.map fun a => .tup (a.map PV.int)) = true := by
  unfold sortable
  simp only [Bool.or_eq_true, List.all_eq_true, List.mem_map]
  left; left
  rintro x ⟨a, ha, rfl⟩
  cases a with
  | nil => exact absurd rfl (h [] ha)
  | cons i r => rfl
end PP

/-! PP, part u: slots that are let go; evaluation of what is not known. -/
namespace PP
open PySem PySem.Spec PyProof.Rows L2

section
variable {K : PySem.W.Frag} {F F' : Addr → Prop} {H H' : Hp} {env env' : PEn} {σ σ' : L2.St}
theorem Rel.kill (R : Rel K F H env σ) (vs : List Nat) : Rel K F H (wipeE env vs) σ where
  len := by rw [wipeE_len]; exact R.len
  val := fun j v e => R.val j v (val_wipe e).2
  own := fun j v e => R.own j v (own_wipe e).2
  apart := fun j k v w a e1 e2 s1 s2 => R.apart j k v w a (own_wipe e1).2 (own_wipe e2).2 s1 s2
  fz := R.fz
  sz := R.sz
theorem Mv.kill (vs : List Nat) : Mv F H env σ F H (wipeE env vs) σ :=
  ⟨fun _ h => h, fun _ _ h _ => h, fun _ h => .inl h, fun a ⟨j, v, e, s⟩ => .inl ⟨j, v, (own_wipe e).2, s⟩, fun _ o h => ⟨o, h⟩⟩
end
def killFl (ks : List Nat) : Fl → Fl
  | .nx e => .nx (wipeE e ks)
  | .bk e => .bk (wipeE e ks)
  | .ct e => .ct (wipeE e ks)
  | .rt v e => .rt v e
/-- slots that are let go ahead of a statement, behind a block -/
def sPre (ks : List Nat) (d : DenS) : DenS := fun e => d (wipeE e ks)
def sPost (ks : List Nat) (d : DenS) : DenS := fun e => (d e).map (killFl ks)
/-- a return lets all slots go but those by reference -/
def sRetK (ks : List Nat) (a : Den) : DenS := fun e => (a e).map fun p => .rt p.1 (wipeE p.2 ks)
section
variable {X : Cx} {refs : List Nat} {st : Stmt} {sts : List Stmt} {e : Expr} {de : Den} {d : DenS} {pos : Pos}
theorem flok_kill {K : PySem.W.Frag} {F : Addr → Prop} {H : Hp} {env : PEn} {σ : L2.St} {D : Ends} {ks : List Nat} {fl : Fl} (q : FlOk K refs F H env σ D (killFl ks fl)) : FlOk K refs F H env σ D fl := by
  cases fl with
  | nx e' => exact fun σ' F' H' R M k => q σ' F' H' (R.kill ks) (M.trans (Mv.kill ks)) k
  | bk e' => exact fun σ' F' H' R M k => q σ' F' H' (R.kill ks) (M.trans (Mv.kill ks)) k
  | ct e' => exact fun σ' F' H' R M k => q σ' F' H' (R.kill ks) (M.trans (Mv.kill ks)) k
  | rt v e' => exact q
theorem vs_pre (ks : List Nat) (h : VS X refs st d) : VS X refs st (sPre ks d) := ps_imp h fun D σ H sz ⟨F, env, fl, R, hd, q⟩ =>
  ⟨F, wipeE env ks, fl, R.kill ks, hd, (q.after (Mv.kill ks) .refl).sz⟩
theorem vss_pre (ks : List Nat) (h : VSs X refs sts d) : VSs X refs sts (sPre ks d) := pss_imp h fun D σ H sz ⟨F, env, fl, R, hd, q⟩ =>
  ⟨F, wipeE env ks, fl, R.kill ks, hd, (q.after (Mv.kill ks) .refl).sz⟩
theorem vs_post (ks : List Nat) (h : VS X refs st d) : VS X refs st (sPost ks d) := ps_imp h fun D σ H sz ⟨F, env, fl, R, hd, q⟩ => by
  unfold sPost at hd
  obtain ⟨fl', h1, e⟩ := Option.map_eq_some_iff.mp hd
  subst e
  exact ⟨F, env, fl', R, h1, (flok_kill q).sz⟩
theorem vss_post (ks : List Nat) (h : VSs X refs sts d) : VSs X refs sts (sPost ks d) := pss_imp h fun D σ H sz ⟨F, env, fl, R, hd, q⟩ => by
  unfold sPost at hd
  obtain ⟨fl', h1, e⟩ := Option.map_eq_some_iff.mp hd
  subst e
  exact ⟨F, env, fl', R, h1, (flok_kill q).sz⟩
theorem vs_retK (ks : List Nat) (h : VE X e de) : VS X refs (.Return (some e) pos) (sRetK ks de) := ps_imp (ps_ret h) fun D σ H sz ⟨F, env, fl, R, hd, q⟩ => by
  unfold sRetK at hd
  obtain ⟨p, h1, hz⟩ := Option.map_eq_some_iff.mp hd
  subst hz
  exact ⟨F, env, p.1, p.2, R, h1, fun x F1 H1 R1 M1 r1 _ => q x σ F1 H1 (R1.kill ks) (M1.trans (Mv.kill ks)) .refl r1⟩
end

/-- an own slot is frozen behind a statement -/
def fzE : PEn → Nat → PEn
  | [], _ => []
  | .own v :: r, 0 => .val v :: r
  | s :: r, 0 => s :: r
  | s :: r, i + 1 => s :: fzE r i
theorem fzE_own : ∀ {e : PEn} {i : Nat} {v : PV}, e[i]? = some (SlP.own v) → fzE e i = e.set i (.val v)
  | [], i, v, h => by simp at h
  | s :: r, 0, v, h => by simp at h; subst h; rfl
  | s :: r, i + 1, v, h => by
    have := fzE_own (e := r) (i := i) (by simpa using h)
    cases s <;> simp [fzE, this]
theorem fzE_not : ∀ {e : PEn} {i : Nat}, (∀ v, e[i]? ≠ some (SlP.own v)) → fzE e i = e
  | [], i, h => by cases i <;> rfl
  | s :: r, 0, h => by
    cases s with
    | own v => exact absurd rfl (h v)
    | _ => rfl
  | s :: r, i + 1, h => by
    have := fzE_not (e := r) (i := i) (by simpa using h)
    cases s <;> simp [fzE, this]
theorem Rel.frz {K : PySem.W.Frag} {F : Addr → Prop} {H : Hp} {env : PEn} {σ : L2.St} (R : Rel K F H env σ) (i : Nat) : ∃ F', Rel K F' H (fzE env i) σ ∧ Mv F H env σ F' H (fzE env i) σ := by
  by_cases h : ∃ v, env[i]? = some (SlP.own v)
  · obtain ⟨v, e⟩ := h
    obtain ⟨a, s, _, _⟩ := R.own i v e
    obtain ⟨R', M', _⟩ := freeze R e s
    rw [fzE_own e]
    exact ⟨_, R', M'⟩
  · rw [fzE_not fun v e => h ⟨v, e⟩]
    exact ⟨F, R, .refl⟩
def fzFl (i : Nat) : Fl → Fl
  | .nx e => .nx (fzE e i)
  | .bk e => .bk (fzE e i)
  | .ct e => .ct (fzE e i)
  | .rt v e => .rt v e
def sFz (i : Nat) (d : DenS) : DenS := fun e => (d e).map (fzFl i)
theorem flok_fz {K : PySem.W.Frag} {refs : List Nat} {F : Addr → Prop} {H : Hp} {env : PEn} {σ : L2.St} {D : Ends} {i : Nat} {fl : Fl} (q : FlOk K refs F H env σ D (fzFl i fl)) : FlOk K refs F H env σ D fl := by
  cases fl with
  | nx e' => exact fun σ' F' H' R M k => by obtain ⟨F2, R2, M2⟩ := R.frz i; exact q σ' F2 H' R2 (M.trans M2) k
  | bk e' => exact fun σ' F' H' R M k => by obtain ⟨F2, R2, M2⟩ := R.frz i; exact q σ' F2 H' R2 (M.trans M2) k
  | ct e' => exact fun σ' F' H' R M k => by obtain ⟨F2, R2, M2⟩ := R.frz i; exact q σ' F2 H' R2 (M.trans M2) k
  | rt v e' => exact q
theorem vs_fz {X : Cx} {refs : List Nat} {st : Stmt} {d : DenS} (i : Nat) (h : VS X refs st d) : VS X refs st (sFz i d) := ps_imp h fun D σ H sz ⟨F, env, fl, R, hd, q⟩ => by
  unfold sFz at hd
  obtain ⟨fl', h1, e⟩ := Option.map_eq_some_iff.mp hd
  subst e
  exact ⟨F, env, fl', R, h1, (flok_fz q).sz⟩

/-! ### what is not known -/
def kFst (o : Option (PV × PEn)) : Option PV := o.map (·.1)
section
variable {α : Type} {e e1 : PEn} {a b c : Den} {t u : DenT} {x y : DenS} {o : Option α}
theorem kSeq_b {f : α → Option Fl} : kSeq (o.bind f) y = o.bind fun z => kSeq (f z) y := by cases o <;> rfl
theorem kRet_b {f : α → Option (PV × PEn)} : kRet (o.bind f) = o.bind fun z => kRet (f z) := by cases o <;> rfl
def kRetK (ks : List Nat) (o : Option (PV × PEn)) : Option Fl := o.map fun p => .rt p.1 (wipeE p.2 ks)
theorem kRetK_s {ks : List Nat} {v : PV} : kRetK ks (some (v, e)) = some (.rt v (wipeE e ks)) := rfl
theorem kRetK_b {ks : List Nat} {f : α → Option (PV × PEn)} : kRetK ks (o.bind f) = o.bind fun z => kRetK ks (f z) := by cases o <;> rfl
theorem sRetK_ev {ks : List Nat} : sRetK ks a e = kRetK ks (a e) := rfl
theorem sPre_ev {ks : List Nat} : sPre ks x e = x (wipeE e ks) := rfl
def kPost (ks : List Nat) (o : Option Fl) : Option Fl := o.map (killFl ks)
theorem sPost_ev {ks : List Nat} : sPost ks x e = kPost ks (x e) := rfl
theorem kPost_nx {ks : List Nat} : kPost ks (some (.nx e)) = some (.nx (wipeE e ks)) := rfl
theorem kPost_bk {ks : List Nat} : kPost ks (some (.bk e)) = some (.bk (wipeE e ks)) := rfl
theorem kPost_rt {ks : List Nat} {v : PV} : kPost ks (some (.rt v e)) = some (.rt v e) := rfl
theorem kPost_b {ks : List Nat} {f : α → Option Fl} : kPost ks (o.bind f) = o.bind fun z => kPost ks (f z) := by cases o <;> rfl
def kFz (i : Nat) (o : Option Fl) : Option Fl := o.map (fzFl i)
theorem sFz_ev {i : Nat} : sFz i x e = kFz i (x e) := rfl
theorem kFz_nx {i : Nat} : kFz i (some (.nx e)) = some (.nx (fzE e i)) := rfl
theorem kFz_b {i : Nat} {f : α → Option Fl} : kFz i (o.bind f) = o.bind fun z => kFz i (f z) := by cases o <;> rfl
theorem fzE_0 {v : PV} : fzE (.own v :: e) 0 = .val v :: e := rfl
theorem fzE_n {s : SlP} {i : Nat} : fzE (s :: e) (i + 1) = s :: fzE e i := by cases s <;> rfl
theorem runFN_ev {m : Nat} {ps : List PV} : runFN m a ps = kFst (a (argE [] ps ++ List.replicate m .no)) := rfl
theorem kFst_s {v : PV} : kFst (some (v, e)) = some v := rfl
theorem kFst_b {f : α → Option (PV × PEn)} : kFst (o.bind f) = o.bind fun z => kFst (f z) := by cases o <;> rfl
theorem sNever_ev : sNever e = none := rfl
theorem kSeq_0 : kSeq none y = none := rfl
theorem kPost_0 {ks : List Nat} : kPost ks none = none := rfl
theorem kEnd_0 {ms : List Bool} {ps : List PV} : kEnd ms ps none = none := rfl
theorem kDrop_b {f : α → Option (PV × PEn)} : kDrop (o.bind f) = o.bind fun z => kDrop (f z) := by cases o <;> rfl
theorem kIf_b {f : α → Option (Bool × PEn)} : kIf (o.bind f) x y = o.bind fun z => kIf (f z) x y := by cases o <;> rfl
theorem kIf_v {k : Bool} : kIf (some (k, e)) x y = if k = true then x e else y e := rfl
theorem kNx_b {f : α → Option PEn} : kNx (o.bind f) = o.bind fun z => kNx (f z) := by cases o <;> rfl
theorem kAsg_b {g : Tgt} {f : α → Option (PV × PEn)} : kAsg g (o.bind f) = o.bind fun z => kAsg g (f z) := by cases o <;> rfl
theorem kOwn_b {i : Nat} {f : α → Option (PV × PEn)} : kOwn i (o.bind f) = o.bind fun z => kOwn i (f z) := by cases o <;> rfl
theorem kFor_b {g : Tgt} {f : α → Option (List PV × PEn)} : kFor g x (o.bind f) = o.bind fun z => kFor g x (f z) := by cases o <;> rfl
theorem kR_b {o : Option PV} : kR o e = o.bind fun z => some (z, e) := by cases o <;> rfl
theorem kUn_b {g : PV → Option PV} {f : α → Option (PV × PEn)} : kUn g (o.bind f) = o.bind fun z => kUn g (f z) := by cases o <;> rfl
theorem kB1_b {g : PV → PV → Option PV} {f : α → Option (PV × PEn)} : kB1 g b (o.bind f) = o.bind fun z => kB1 g b (f z) := by cases o <;> rfl
theorem kB2_b {g : PV → PV → Option PV} {p : PV} {f : α → Option (PV × PEn)} : kB2 g p (o.bind f) = o.bind fun z => kB2 g p (f z) := by cases o <;> rfl
theorem kBR_b {g : PV → PV → Option PV} {i : Nat} {f : α → Option (PV × PEn)} : kBR g i (o.bind f) = o.bind fun z => kBR g i (f z) := by cases o <;> rfl
theorem kBL2_b {g : PV → PV → Option PV} {i : Nat} {f : α → Option (PV × PEn)} : kBL2 g i (o.bind f) = o.bind fun z => kBL2 g i (f z) := by cases o <;> rfl
theorem kA1_b {r : List Den} {f : α → Option (PV × PEn)} : kA1 r (o.bind f) = o.bind fun z => kA1 r (f z) := by cases o <;> rfl
theorem kA2_b {p : PV} {f : α → Option (List PV × PEn)} : kA2 p (o.bind f) = o.bind fun z => kA2 p (f z) := by cases o <;> rfl
theorem kAd_b {r : List Arg} {f : α → Option (PV × PEn)} : kAd r (o.bind f) = o.bind fun z => kAd r (f z) := by cases o <;> rfl
theorem kAb2_b {i : Nat} {f : α → Option (List PV × PEn)} : kAb2 i (o.bind f) = o.bind fun z => kAb2 i (f z) := by cases o <;> rfl
theorem kCd_b {r : List Arg} {f : α → Option (PV × PEn)} : kCd r (o.bind f) = o.bind fun z => kCd r (f z) := by cases o <;> rfl
theorem kCb2_b {i : Nat} {f : α → Option (List PV × PEn)} : kCb2 i (o.bind f) = o.bind fun z => kCb2 i (f z) := by cases o <;> rfl
theorem kApp_b {g : List PV → Option PV} {f : α → Option (List PV × PEn)} : kApp g (o.bind f) = o.bind fun z => kApp g (f z) := by cases o <;> rfl
theorem kCall_b {g : Sem} {as : List Arg} {f : α → Option (List PV × PEn)} : kCall g as (o.bind f) = o.bind fun z => kCall g as (f z) := by cases o <;> rfl
theorem kCall2_b {as : List Arg} {f : α → Option (PV × List PV)} : kCall2 as e (o.bind f) = o.bind fun z => kCall2 as e (f z) := by cases o <;> rfl
theorem kTup_b {f : α → Option (List PV × PEn)} : kTup (o.bind f) = o.bind fun z => kTup (f z) := by cases o <;> rfl
theorem kLst_b {f : α → Option (List PV × PEn)} : kLst (o.bind f) = o.bind fun z => kLst (f z) := by cases o <;> rfl
theorem kT2_b {o : Option Bool} : kT2 o e = o.bind fun z => some (z, e) := by cases o <;> rfl
theorem kDB_b {f : α → Option (PV × PEn)} : kDB (o.bind f) = o.bind fun z => kDB (f z) := by cases o <;> rfl
theorem kNot_b {f : α → Option (Bool × PEn)} : kNot (o.bind f) = o.bind fun z => kNot (f z) := by cases o <;> rfl
theorem kAnd_b {f : α → Option (Bool × PEn)} : kAnd (o.bind f) u = o.bind fun z => kAnd (f z) u := by cases o <;> rfl
theorem kAnd_v {k : Bool} : kAnd (some (k, e)) u = if k = true then u e else some (false, e) := rfl
theorem kOr_b {f : α → Option (Bool × PEn)} : kOr (o.bind f) u = o.bind fun z => kOr (f z) u := by cases o <;> rfl
theorem kOr_v {k : Bool} : kOr (some (k, e)) u = if k = true then some (true, e) else u e := rfl
theorem kIfE_b {f : α → Option (Bool × PEn)} : kIfE (o.bind f) a b = o.bind fun z => kIfE (f z) a b := by cases o <;> rfl
theorem kIfE_v {k : Bool} : kIfE (some (k, e)) a b = if k = true then a e else b e := rfl
theorem kTr_b {f : α → Option (PV × PEn)} : kTr (o.bind f) = o.bind fun z => kTr (f z) := by cases o <;> rfl
theorem kIs_b {k : TyN} {f : α → Option (PV × PEn)} : kIs k (o.bind f) = o.bind fun z => kIs k (f z) := by cases o <;> rfl
/-- and, or as values; chains -/
def mAV (z : PV) (k : Option PV) : Option PV := match z with
  | .bl true => k
  | .bl false => some (.bl false)
  | _ => none
def mOV (z : PV) (k : Option PV) : Option PV := match z with
  | .bl false => k
  | .bl true => some (.bl true)
  | _ => none
def jAV (z : PV) (k : Option (PV × PEn)) (e : PEn) : Option (PV × PEn) := match z with
  | .bl true => k
  | .bl false => some (.bl false, e)
  | _ => none
def jOV (z : PV) (k : Option (PV × PEn)) (e : PEn) : Option (PV × PEn) := match z with
  | .bl false => k
  | .bl true => some (.bl true, e)
  | _ => none
theorem kAV_b {f : α → Option (PV × PEn)} : kAV (o.bind f) b = o.bind fun z => kAV (f z) b := by cases o <;> rfl
theorem kAV_v {z : PV} : kAV (some (z, e)) b = jAV z (b e) e := by cases z <;> first | rfl | (rename_i k; cases k <;> rfl)
theorem kOV_b {f : α → Option (PV × PEn)} : kOV (o.bind f) b = o.bind fun z => kOV (f z) b := by cases o <;> rfl
theorem kOV_v {z : PV} : kOV (some (z, e)) b = jOV z (b e) e := by cases z <;> first | rfl | (rename_i k; cases k <;> rfl)
theorem mAV_bind {z : PV} {k : Option PV} : ((mAV z k).bind fun v => some (v, e)) = jAV z (k.bind fun v => some (v, e)) e := by cases z <;> first | rfl | (rename_i k; cases k <;> rfl)
theorem mOV_bind {z : PV} {k : Option PV} : ((mOV z k).bind fun v => some (v, e)) = jOV z (k.bind fun v => some (v, e)) e := by cases z <;> first | rfl | (rename_i k; cases k <;> rfl)
theorem mAV_t {k : Option PV} : mAV (.bl true) k = k := rfl
theorem mAV_f {k : Option PV} : mAV (.bl false) k = some (.bl false) := rfl
theorem mOV_t {k : Option PV} : mOV (.bl true) k = some (.bl true) := rfl
theorem mOV_f {k : Option PV} : mOV (.bl false) k = k := rfl
theorem kC1_b {f g : PV → PV → Option PV} {h : α → Option (PV × PEn)} : kC1 f g b c (o.bind h) = o.bind fun z => kC1 f g b c (h z) := by cases o <;> rfl
theorem kC2_b {f g : PV → PV → Option PV} {p : PV} {h : α → Option (PV × PEn)} : kC2 f g c p (o.bind h) = o.bind fun z => kC2 f g c p (h z) := by cases o <;> rfl
theorem kC3_b {g : PV → PV → Option PV} {q : PV} {o : Option PV} : kC3 g c q e o = o.bind fun z => jAV z (kB2 g q (c e)) e := by
  cases o with
  | none => rfl
  | some z => cases z <;> first | rfl | (rename_i k; cases k <;> rfl)
/-! own lists, stores -/
def asL (v : PV) : Option (List PV) := match v with
  | .lst xs => some xs
  | _ => none
theorem asL_lst {xs : List PV} : asL (.lst xs) = some xs := rfl
theorem ownL_0v {v : PV} {r : PEn} : ownL (.own v :: r) 0 = asL v := by cases v <;> rfl
theorem kM_b {g : List PV → List PV → Option (PV × List PV)} {i : Nat} {ds : List Den} {o : Option (List PV)} : kM g i ds o e = o.bind fun _ => kM2 g i (dArgs ds e) := by cases o <;> rfl
theorem kM2_b {g : List PV → List PV → Option (PV × List PV)} {i : Nat} {f : α → Option (List PV × PEn)} : kM2 g i (o.bind f) = o.bind fun z => kM2 g i (f z) := by cases o <;> rfl
theorem kM3_b {g : List PV → List PV → Option (PV × List PV)} {i : Nat} {q : List PV} {o : Option (List PV)} : kM3 g i q e o = o.bind fun xs => kM4 i e (g xs q) := by cases o <;> rfl
theorem kM4_b {i : Nat} {o : Option (PV × List PV)} : kM4 i e o = o.bind fun z => some (z.1, e.set i (.own (.lst z.2))) := by cases o <;> rfl
theorem kS_b {i : Nat} {f : α → Option (PV × PEn)} : kS i a (o.bind f) = o.bind fun z => kS i a (f z) := by cases o <;> rfl
theorem kS3_b {i : Nat} {v : PV} {f : α → Option (PV × PEn)} : kS3 i v (o.bind f) = o.bind fun z => kS3 i v (f z) := by cases o <;> rfl
theorem kS5_b {i : Nat} {o : Option PV} : kS5 i e o = o.bind fun z => some (.nx (e.set i (.own z))) := by cases o <;> rfl
/-- the list of a method's change -/
def mMut (g : List PV → List PV → Option (PV × List PV)) (v : PV) (q : List PV) : Option (PV × PV) := (asL v).bind fun xs => (g xs q).bind fun z => some (z.1, .lst z.2)
/-! receivers -/
theorem kRv_b {g : PV → Bool} {oo : Arg} {as : List Den} {f : PV → List PV → Option PV} {h : α → Option (PV × PEn)} : kRv g oo as f (o.bind h) = o.bind fun z => kRv g oo as f (h z) := by cases o <;> rfl
theorem kRv2_b {f : PV → List PV → Option PV} {oo : Arg} {p : PV} {h : α → Option (List PV × PEn)} : kRv2 f oo p (o.bind h) = o.bind fun z => kRv2 f oo p (h z) := by cases o <;> rfl
/-- a method of a value that is read -/
def mRecv (g : PV → Bool) (f : PV → List PV → Option PV) (p : PV) (q : List PV) : Option PV := if g p = true then f p q else none
def guard1 (k : Bool) : Option Unit := if k = true then some () else none
theorem kRv_v {g : PV → Bool} {oo : Arg} {as : List Den} {f : PV → List PV → Option PV} {p : PV} : kRv g oo as f (some (p, e)) = (guard1 (g p)).bind fun _ => kRv2 f oo p (dArgs as e) := by
  show (if g p = true then _ else none) = _
  unfold guard1
  split <;> rfl
theorem kRv3_v {f : PV → List PV → Option PV} {q : List PV} {p : PV} : kRv3 f q p e (some p) = kR (f p q) e := by
  show (if kind p = kind p then _ else none) = _
  rw [if_pos rfl]
  rfl
theorem guard1_t : guard1 true = some () := rfl
/-! ranges -/
def rgO1 (j : PV) : Option (Int × Int) := match j with
  | .int j => if -(2 ^ 62) ≤ j ∧ j ≤ 16777216 then some (0, j) else none
  | _ => none
def rgO2 (i j : PV) : Option (Int × Int) := match i, j with
  | .int i, .int j => if -(2 ^ 62) ≤ i ∧ i < 2 ^ 62 ∧ -(2 ^ 62) ≤ j ∧ j < 2 ^ 62 ∧ j - i ≤ 16777216 then some (i, j) else none
  | _, _ => none
def rgL (p : Int × Int) : List PV := rngP p.1 (p.2 - p.1).toNat
def kRg (o : Option (List PV × PEn)) : Option ((Int × Int) × PEn) := o.bind fun p => match p.1 with
  | [.int j] => if -(2 ^ 62) ≤ j ∧ j ≤ 16777216 then some ((0, j), p.2) else none
  | [.int i, .int j] => if -(2 ^ 62) ≤ i ∧ i < 2 ^ 62 ∧ -(2 ^ 62) ≤ j ∧ j < 2 ^ 62 ∧ j - i ≤ 16777216 then some ((i, j), p.2) else none
  | _ => none
theorem rngArg_ev {as : List Den} : rngArg as e = kRg (dArgs as e) := rfl
theorem kRg_b {f : α → Option (List PV × PEn)} : kRg (o.bind f) = o.bind fun z => kRg (f z) := by cases o <;> rfl
theorem kRg_1 {j : PV} : kRg (some ([j], e)) = (rgO1 j).bind fun r => some (r, e) := by
  cases j <;> first | rfl | skip
  show (if _ then _ else _) = _
  unfold rgO1
  dsimp only
  split <;> rfl
theorem kRg_2 {i j : PV} : kRg (some ([i, j], e)) = (rgO2 i j).bind fun r => some (r, e) := by
  cases i <;> cases j <;> first | rfl | skip
  show (if _ then _ else _) = _
  unfold rgO2
  dsimp only
  split <;> rfl
theorem kLR_b {f : α → Option ((Int × Int) × PEn)} : kLR (o.bind f) = o.bind fun z => kLR (f z) := by cases o <;> rfl
theorem kLR_v {r : Int × Int} : kLR (some (r, e)) = some (.lst (rgL r), e) := rfl
def kTR (o : Option ((Int × Int) × PEn)) : Option (PV × PEn) := o.map fun p => (.tup (rngP p.1.1 (p.1.2 - p.1.1).toNat), p.2)
theorem dTupRg_ev {as : List Den} : dTupRg as e = kTR (rngArg as e) := rfl
theorem kTR_b {f : α → Option ((Int × Int) × PEn)} : kTR (o.bind f) = o.bind fun z => kTR (f z) := by cases o <;> rfl
theorem kTR_v {r : Int × Int} : kTR (some (r, e)) = some (.tup (rgL r), e) := rfl
def kIR (o : Option ((Int × Int) × PEn)) : Option (List PV × PEn) := o.map fun p => (rgL p.1, p.2)
theorem iRange_ev {as : List Den} : iRange as e = kIR (rngArg as e) := by
  unfold iRange kIR rngArg
  cases dArgs as e with
  | none => rfl
  | some p =>
    obtain ⟨l, e1⟩ := p
    simp only [Option.bind_some]
    split
    · rename_i j
      show _ = Option.map _ (if -(2 ^ 62) ≤ j ∧ j ≤ 16777216 then some ((0, j), e1) else none)
      split
      · show some (rngP 0 j.toNat, e1) = some (rngP 0 (j - 0).toNat, e1)
        rw [Int.sub_zero]
      · rfl
    · rename_i i j
      show _ = Option.map _ (if -(2 ^ 62) ≤ i ∧ i < 2 ^ 62 ∧ -(2 ^ 62) ≤ j ∧ j < 2 ^ 62 ∧ j - i ≤ 16777216 then some ((i, j), e1) else none)
      split <;> rfl
    · first | rfl | (split <;> first | rfl | (exfalso; simp_all))
theorem kIR_b {f : α → Option ((Int × Int) × PEn)} : kIR (o.bind f) = o.bind fun z => kIR (f z) := by cases o <;> rfl
theorem kIR_v {r : Int × Int} : kIR (some (r, e)) = some (rgL r, e) := rfl
/-! what is walked -/
theorem kSq_b {f : α → Option (PV × PEn)} : kSq (o.bind f) = o.bind fun z => kSq (f z) := by cases o <;> rfl
theorem kSq2_b {o : Option (List PV)} : kSq2 o e = o.bind fun z => some (z, e) := by cases o <;> rfl
def kZp (o : Option (List PV × PEn)) : Option (List PV × PEn) := o.bind fun p => match p.1 with
  | [x, y] => (zipF x y).map fun l => (l, p.2)
  | _ => none
theorem iZip2_ev : iZip2 a b e = kZp (dArgs [a, b] e) := rfl
theorem kZp_b {f : α → Option (List PV × PEn)} : kZp (o.bind f) = o.bind fun z => kZp (f z) := by cases o <;> rfl
theorem kZp_v {p q : PV} : kZp (some ([p, q], e)) = (zipF p q).bind fun l => some (l, e) := by
  show (zipF p q).map _ = _
  cases zipF p q <;> rfl
/-! slices -/
def kPt (o : Option (PV × PEn)) : Option (Option Int × PEn) := o.bind fun p => match p.1 with
  | .int i => some (some i, p.2)
  | _ => none
def asI (v : PV) : Option Int := match v with
  | .int i => some i
  | _ => none
theorem asI_int {i : Int} : asI (.int i) = some i := rfl
theorem dPart_ev : dPart a e = kPt (a e) := rfl
theorem kPt_b {f : α → Option (PV × PEn)} : kPt (o.bind f) = o.bind fun z => kPt (f z) := by cases o <;> rfl
theorem kPt_v {v : PV} : kPt (some (v, e)) = (asI v).bind fun i => some (some i, e) := by cases v <;> rfl
theorem dNoPart_ev : dNoPart e = some (none, e) := rfl
def kSl3 (ar : Arg) (p : PV) (l : Option Int) (o : Option (Option Int × PEn)) : Option (PV × PEn) := o.bind fun h => (dBack ar p h.2).bind fun y => (sliceF y l h.1).map fun z => (z, h.2)
def kSl2 (ar : Arg) (hi : DenO) (p : PV) (o : Option (Option Int × PEn)) : Option (PV × PEn) := o.bind fun l => kSl3 ar p l.1 (hi l.2)
def kSl1 (ar : Arg) (lo hi : DenO) (o : Option (PV × PEn)) : Option (PV × PEn) := o.bind fun p => kSl2 ar hi p.1 (lo p.2)
theorem dSlice_ev {ar : Arg} {lo hi : DenO} : dSlice ar lo hi e = kSl1 ar lo hi (dHead ar e) := rfl
theorem kSl1_b {ar : Arg} {lo hi : DenO} {f : α → Option (PV × PEn)} : kSl1 ar lo hi (o.bind f) = o.bind fun z => kSl1 ar lo hi (f z) := by cases o <;> rfl
theorem kSl1_s {ar : Arg} {lo hi : DenO} {p : PV} : kSl1 ar lo hi (some (p, e)) = kSl2 ar hi p (lo e) := rfl
theorem kSl2_b {ar : Arg} {hi : DenO} {p : PV} {f : α → Option (Option Int × PEn)} : kSl2 ar hi p (o.bind f) = o.bind fun z => kSl2 ar hi p (f z) := by cases o <;> rfl
theorem kSl2_s {ar : Arg} {hi : DenO} {p : PV} {l : Option Int} : kSl2 ar hi p (some (l, e)) = kSl3 ar p l (hi e) := rfl
theorem kSl3_b {ar : Arg} {p : PV} {l : Option Int} {f : α → Option (Option Int × PEn)} : kSl3 ar p l (o.bind f) = o.bind fun z => kSl3 ar p l (f z) := by cases o <;> rfl
def kSl4 (l h : Option Int) (e : PEn) (o : Option PV) : Option (PV × PEn) := o.bind fun y => (sliceF y l h).bind fun z => some (z, e)
theorem kSl3_s {ar : Arg} {p : PV} {l h : Option Int} : kSl3 ar p l (some (h, e)) = kSl4 l h e (dBack ar p e) := by
  show (dBack ar p e).bind _ = (dBack ar p e).bind _
  congr 1; funext y
  cases sliceF y l h <;> rfl
theorem kSl4_s {l h : Option Int} {y : PV} : kSl4 l h e (some y) = (sliceF y l h).bind fun z => some (z, e) := rfl
/-! targets -/
def un2 (v : PV) : Option (PV × PV) := (tupOf v).bind fun l => match l with
  | [a, b] => some (a, b)
  | _ => none
def un3 (v : PV) : Option (PV × PV × PV) := (tupOf v).bind fun l => match l with
  | [a, b, c] => some (a, b, c)
  | _ => none
theorem un2_tup {p q : PV} : un2 (.tup [p, q]) = some (p, q) := rfl
theorem un3_tup {p q r : PV} : un3 (.tup [p, q, r]) = some (p, q, r) := rfl
def kT1 (g : Tgt) (v : PV) (o : Option PEn) : Option PEn := o.bind fun e => tgtF g v e
theorem kT1_s {g : Tgt} {v : PV} : kT1 g v (some e) = tgtF g v e := rfl
theorem kT1_b {g : Tgt} {v : PV} {f : α → Option PEn} : kT1 g v (o.bind f) = o.bind fun z => kT1 g v (f z) := by cases o <;> rfl
theorem tgt_2 {g h : Tgt} {v : PV} : tgtF (.tp [g, h]) v e = (un2 v).bind fun p => kT1 h p.2 (tgtF g p.1 e) := by
  rw [tgt_tp]
  unfold un2 kTp
  cases tupOf v with
  | none => rfl
  | some l =>
    match l with
    | [] => simp [tgtsF]
    | [a] => simp [kTs, tgtsF]
    | [a, b] => simp [kTs, kT1]
    | a :: b :: c :: r => simp [kTs, tgtsF]
theorem tgt_3 {g h k : Tgt} {v : PV} : tgtF (.tp [g, h, k]) v e = (un3 v).bind fun p => kT1 k p.2.2 (kT1 h p.2.1 (tgtF g p.1 e)) := by
  rw [tgt_tp]
  unfold un3 kTp
  cases tupOf v with
  | none => rfl
  | some l =>
    match l with
    | [] => simp [tgtsF]
    | [a] => simp [kTs, tgtsF]
    | [a, b] => simp [kTs, tgtsF]
    | [a, b, c] => simp [kTs, kT1, Option.bind_assoc]
    | a :: b :: c :: d :: r => simp [kTs, tgtsF]
/-- a slot of a written environment gets a value -/
def putS (e : PEn) (i : Nat) (s : SlP) : Option PEn := if i < e.length then some (e.set i s) else none
def kPs (s : SlP) (o : Option PEn) : Option PEn := o.map (s :: ·)
theorem kPs_s {s : SlP} : kPs s (some e) = some (s :: e) := rfl
theorem putS_0 {s q : SlP} : putS (q :: e) 0 s = some (s :: e) := by simp [putS]
theorem putS_n {s q : SlP} {i : Nat} : putS (q :: e) (i + 1) s = kPs q (putS e i s) := by
  unfold putS kPs
  simp only [List.length_cons, List.set_cons_succ]
  by_cases h : i < e.length
  · rw [if_pos h, if_pos (by omega)]; rfl
  · rw [if_neg h, if_neg (by omega)]; rfl
theorem tgt_nmP {i : Nat} {v : PV} : tgtF (.nm i) v e = putS e i (.val v) := tgt_nm
theorem kOwn_P {i : Nat} {v : PV} : kOwn i (some (v, e)) = kNx (putS e i (.own v)) := by
  show (if _ then _ else _) = _
  unfold putS
  split <;> rfl
theorem kE2_b {v : PV} {f : α → Option (List PV)} : kE2 v (o.bind f) = o.bind fun z => kE2 v (f z) := by cases o <;> rfl
theorem kEnd_b {ms : List Bool} {ps : List PV} {f : α → Option Fl} : kEnd ms ps (o.bind f) = o.bind fun z => kEnd ms ps (f z) := by cases o <;> rfl
theorem ite_b {p : Prop} [Decidable p] {A B : Option α} {β : Type} {k : α → Option β} : (if p then A else B).bind k = if p then A.bind k else B.bind k := by split <;> rfl
theorem kSeq_i {p : Prop} [Decidable p] {A B : Option Fl} : kSeq (if p then A else B) y = if p then kSeq A y else kSeq B y := by split <;> rfl
theorem kPost_i {p : Prop} [Decidable p] {ks : List Nat} {A B : Option Fl} : kPost ks (if p then A else B) = if p then kPost ks A else kPost ks B := by split <;> rfl
theorem kEnd_i {p : Prop} [Decidable p] {ms : List Bool} {ps : List PV} {A B : Option Fl} : kEnd ms ps (if p then A else B) = if p then kEnd ms ps A else kEnd ms ps B := by split <;> rfl
end
/-- a bind whose rest goes into the ways -/
def mTail {α β : Type} (o : Option α) (k : α → Option β) : Option β := o.bind k
theorem mTail_eq {α β : Type} (o : Option α) (k : α → Option β) : mTail o k = o.bind k := rfl
section
variable {α β γ : Type} {k : α → Option β}
theorem mTail_s {v : α} : mTail (some v) k = k v := rfl
theorem mTail_0 : mTail none k = none := rfl
theorem mTail_b {o : Option γ} {f : γ → Option α} : mTail (o.bind f) k = o.bind fun z => mTail (f z) k := Option.bind_assoc ..
theorem mTail_i {p : Prop} [Decidable p] {A B : Option α} : mTail (if p then A else B) k = if p then mTail A k else mTail B k := by split <;> rfl
theorem mTail_AV {z : PV} {o : Option PV} {e : PEn} : mTail (mAV z o) (fun v => some (v, e)) = jAV z (mTail o fun v => some (v, e)) e := mAV_bind
theorem mTail_OV {z : PV} {o : Option PV} {e : PEn} : mTail (mOV z o) (fun v => some (v, e)) = jOV z (mTail o fun v => some (v, e)) e := mOV_bind
end
/-! ### loops -/
section
variable {S R : Type} {t : Tgt} {b : DenS}
def fldM (f : S → PV → Option S) : List PV → S → Option S
  | [], s => some s
  | x :: xs, s => (f s x).bind fun s' => fldM f xs s'
/-- a loop that may be left by a return -/
def fldR (f : S → PV → Option (S ⊕ R)) : List PV → S → Option (S ⊕ R)
  | [], s => some (.inl s)
  | x :: xs, s => (f s x).bind fun r => match r with
    | .inl s' => fldR f xs s'
    | .inr v => some (.inr v)
def flS (E : S → PEn) (V : R → PV × PEn) : S ⊕ R → Fl
  | .inl s => .nx (E s)
  | .inr v => .rt (V v).1 (V v).2
def mSum {β : Type} (r : S ⊕ R) (f : S → Option β) (g : R → Option β) : Option β := match r with
  | .inl s => f s
  | .inr v => g v
theorem mSum_l {β : Type} {s : S} {f : S → Option β} {g : R → Option β} : mSum (.inl s) f g = f s := rfl
theorem mSum_r {β : Type} {s : R} {f : S → Option β} {g : R → Option β} : mSum (.inr s) f g = g s := rfl
theorem mSum_b {α β : Type} {r : S ⊕ R} {f : S → Option α} {g : R → Option α} {k : α → Option β} : (mSum r f g).bind k = mSum r (fun s => (f s).bind k) (fun v => (g v).bind k) := by cases r <;> rfl
theorem kSeq_S {E : S → PEn} {V : R → PV × PEn} {r : S ⊕ R} {y : DenS} : kSeq (some (flS E V r)) y = mSum r (fun s => y (E s)) (fun v => some (.rt (V v).1 (V v).2)) := by cases r <;> rfl
theorem kEnd_S {E : S → PEn} {V : R → PV × PEn} {r : S ⊕ R} {ms : List Bool} {ps : List PV} : kEnd ms ps (some (flS E V r)) = mSum r (fun s => kE2 .non (outsP (E s) 0 ms ps)) (fun v => kE2 (V v).1 (outsP (V v).2 0 ms ps)) := by cases r <;> rfl
theorem kPost_S {E : S → PEn} {V : R → PV × PEn} {r : S ⊕ R} {ks : List Nat} : kPost ks (some (flS E V r)) = mSum r (fun s => some (.nx (wipeE (E s) ks))) (fun v => some (.rt (V v).1 (V v).2)) := by cases r <;> rfl
theorem kSeq_m {r : S ⊕ R} {f : S → Option Fl} {g : R → Option Fl} {y : DenS} : kSeq (mSum r f g) y = mSum r (fun s => kSeq (f s) y) (fun v => kSeq (g v) y) := by cases r <;> rfl
theorem kEnd_m {r : S ⊕ R} {f : S → Option Fl} {g : R → Option Fl} {ms : List Bool} {ps : List PV} : kEnd ms ps (mSum r f g) = mSum r (fun s => kEnd ms ps (f s)) (fun v => kEnd ms ps (g v)) := by cases r <;> rfl
theorem kPost_m {r : S ⊕ R} {f : S → Option Fl} {g : R → Option Fl} {ks : List Nat} : kPost ks (mSum r f g) = mSum r (fun s => kPost ks (f s)) (fun v => kPost ks (g v)) := by cases r <;> rfl
theorem mTail_m {α β : Type} {r : S ⊕ R} {f : S → Option α} {g : R → Option α} {k : α → Option β} : mTail (mSum r f g) k = mSum r (fun s => mTail (f s) k) (fun v => mTail (g v) k) := by cases r <;> rfl
theorem flS_l {E : S → PEn} {V : R → PV × PEn} {s : S} : flS E V (.inl s) = .nx (E s) := rfl
theorem flS_r {E : S → PEn} {V : R → PV × PEn} {v : R} : flS E V (.inr v) = .rt (V v).1 (V v).2 := rfl
/-- one turn -/
def turnF (t : Tgt) (b : DenS) (x : PV) (e : PEn) : Option Fl := (tgtF t x e).bind b
def kTn (b : DenS) (o : Option PEn) : Option Fl := o.bind b
theorem turn_ev {x : PV} {e : PEn} : turnF t b x e = kTn b (tgtF t x e) := rfl
theorem kTn_s {e : PEn} : kTn b (some e) = b e := rfl
theorem kTn_b {α : Type} {o : Option α} {f : α → Option PEn} : kTn b (o.bind f) = o.bind fun z => kTn b (f z) := by cases o <;> rfl
theorem for_fold (E : S → PEn) (m : S → PV → Option S) (h : ∀ s x, turnF t b x (E s) = (m s x).bind fun s' => some (.nx (E s'))) : ∀ xs s, forF t b xs (E s) = (fldM m xs s).bind fun s' => some (.nx (E s'))
  | [], s => rfl
  | x :: xs, s => by
    have h1 := h s x
    unfold forF fldM
    show (tgtF t x (E s)).bind _ = _
    unfold turnF at h1
    cases e1 : tgtF t x (E s) with
    | none =>
      rw [e1] at h1
      cases e2 : m s x with
      | none => rfl
      | some s' => rw [e2] at h1; cases h1
    | some e =>
      rw [e1, Option.bind_some] at h1
      rw [Option.bind_some, h1]
      cases m s x with
      | none => rfl
      | some s' => exact for_fold E m h xs s'
theorem for_foldR (E : S → PEn) (V : R → PV × PEn) (m : S → PV → Option (S ⊕ R)) (h : ∀ s x, turnF t b x (E s) = (m s x).bind fun r => some (flS E V r)) : ∀ xs s, forF t b xs (E s) = (fldR m xs s).bind fun r => some (flS E V r)
  | [], s => rfl
  | x :: xs, s => by
    have h1 := h s x
    unfold forF fldR
    show (tgtF t x (E s)).bind _ = _
    unfold turnF at h1
    cases e1 : tgtF t x (E s) with
    | none =>
      rw [e1] at h1
      cases e2 : m s x with
      | none => rfl
      | some s' => rw [e2] at h1; cases h1
    | some e =>
      rw [e1, Option.bind_some] at h1
      rw [Option.bind_some, h1]
      cases m s x with
      | none => rfl
      | some r =>
        cases r with
        | inl s' => exact for_foldR E V m h xs s'
        | inr v => rfl
/-- while -/
def whlM (c : S → Option Bool) (f : S → Option S) : Nat → S → Option S
  | 0, _ => none
  | n + 1, s => (c s).bind fun k => if k = true then (f s).bind fun s' => whlM c f n s' else some s
theorem wh_fold {c : DenT} (E : S → PEn) (mc : S → Option Bool) (m : S → Option S) (hc : ∀ s, c (E s) = (mc s).bind fun k => some (k, E s)) (h : ∀ s, b (E s) = (m s).bind fun s' => some (.nx (E s'))) : ∀ n s, whF c b n (E s) = (whlM mc m n s).bind fun s' => some (.nx (E s'))
  | 0, s => rfl
  | n + 1, s => by
    unfold whF whlM
    rw [hc s]
    cases mc s with
    | none => rfl
    | some k =>
      cases k with
      | false => rfl
      | true =>
        simp only [Option.bind_some, if_true]
        rw [h s]
        cases m s with
        | none => rfl
        | some s' => exact wh_fold E mc m hc h n s'
end
/-! ### comprehensions -/
section
variable {α : Type} {t : Tgt} {tt : DenT} {elt : Den} {vs : List Nat}
def cmpM (f : PV → Option PV) : List PV → Option (List PV)
  | [] => some []
  | x :: xs => (f x).bind fun y => (cmpM f xs).bind fun ys => some (y :: ys)
def consO (r : Option PV) (ys : List PV) : List PV := match r with
  | some y => y :: ys
  | none => ys
def cmpG (f : PV → Option (Option PV)) : List PV → Option (List PV)
  | [] => some []
  | x :: xs => (f x).bind fun r => (cmpG f xs).bind fun ys => some (consO r ys)
/-- with a state -/
def cmpT {S : Type} (f : S → PV → Option (PV × S)) : List PV → S → Option (List PV × S)
  | [], s => some ([], s)
  | x :: xs, s => (f s x).bind fun r => (cmpT f xs r.2).bind fun q => some (r.1 :: q.1, q.2)
def cmpS {S : Type} (f : S → PV → Option (Option PV × S)) : List PV → S → Option (List PV × S)
  | [], s => some ([], s)
  | x :: xs, s => (f s x).bind fun r => (cmpS f xs r.2).bind fun q => some (consO r.1 q.1, q.2)
/-- one turn -/
def kL3 (vs : List Nat) (o : Option (PV × PEn)) : Option (Option PV × PEn) := o.bind fun y => some (some y.1, wipeE y.2 vs)
def kL2 (elt : Den) (vs : List Nat) (o : Option (Bool × PEn)) : Option (Option PV × PEn) := o.bind fun b => if b.1 = true then kL3 vs (elt b.2) else some (none, wipeE b.2 vs)
def kL1 (tt : DenT) (elt : Den) (vs : List Nat) (o : Option PEn) : Option (Option PV × PEn) := o.bind fun e1 => kL2 elt vs (tt e1)
def turnL (t : Tgt) (tt : DenT) (elt : Den) (vs : List Nat) (x : PV) (e : PEn) : Option (Option PV × PEn) := kL1 tt elt vs (tgtF t x e)
theorem turnL_ev {x : PV} {e : PEn} : turnL t tt elt vs x e = kL1 tt elt vs (tgtF t x e) := rfl
theorem kL1_s {e : PEn} : kL1 tt elt vs (some e) = kL2 elt vs (tt e) := rfl
theorem kL1_b {o : Option α} {f : α → Option PEn} : kL1 tt elt vs (o.bind f) = o.bind fun z => kL1 tt elt vs (f z) := by cases o <;> rfl
theorem kL2_v {k : Bool} {e : PEn} : kL2 elt vs (some (k, e)) = if k = true then kL3 vs (elt e) else some (none, wipeE e vs) := rfl
theorem kL2_t {e : PEn} : kL2 elt vs (some (true, e)) = kL3 vs (elt e) := rfl
theorem kL2_b {o : Option α} {f : α → Option (Bool × PEn)} : kL2 elt vs (o.bind f) = o.bind fun z => kL2 elt vs (f z) := by cases o <;> rfl
theorem kL3_s {v : PV} {e : PEn} : kL3 vs (some (v, e)) = some (some v, wipeE e vs) := rfl
theorem kL3_b {o : Option α} {f : α → Option (PV × PEn)} : kL3 vs (o.bind f) = o.bind fun z => kL3 vs (f z) := by cases o <;> rfl
theorem lcF_turn {x : PV} {xs : List PV} {e : PEn} : lcF t tt elt vs (x :: xs) e = (turnL t tt elt vs x e).bind fun r => (lcF t tt elt vs xs r.2).bind fun q => some (consO r.1 q.1, q.2) := by
  unfold turnL kL1 kL2 kL3
  conv => lhs; unfold lcF
  cases tgtF t x e with
  | none => rfl
  | some e1 =>
    simp only [Option.bind_some]
    cases tt e1 with
    | none => rfl
    | some b =>
      simp only [Option.bind_some]
      split
      · cases elt b.2 with
        | none => rfl
        | some y =>
          simp only [Option.bind_some]
          cases lcF t tt elt vs xs (wipeE y.2 vs) <;> rfl
      · simp only [Option.bind_some]
        cases lcF t tt elt vs xs (wipeE b.2 vs) <;> rfl
theorem lc_M {e : PEn} (f : PV → Option PV) (h : ∀ x, turnL t tt elt vs x e = (f x).bind fun y => some (some y, e)) : ∀ xs, lcF t tt elt vs xs e = (cmpM f xs).bind fun ys => some (ys, e)
  | [] => rfl
  | x :: xs => by
    rw [lcF_turn, h x]
    unfold cmpM
    cases f x with
    | none => rfl
    | some y =>
      simp only [Option.bind_some]
      rw [lc_M f h xs]
      cases cmpM f xs <;> rfl
theorem lc_G {e : PEn} (f : PV → Option (Option PV)) (h : ∀ x, turnL t tt elt vs x e = (f x).bind fun y => some (y, e)) : ∀ xs, lcF t tt elt vs xs e = (cmpG f xs).bind fun ys => some (ys, e)
  | [] => rfl
  | x :: xs => by
    rw [lcF_turn, h x]
    unfold cmpG
    cases f x with
    | none => rfl
    | some y =>
      simp only [Option.bind_some]
      rw [lc_G f h xs]
      cases cmpG f xs <;> rfl
theorem lc_T {S : Type} (E : S → PEn) (f : S → PV → Option (PV × S)) (h : ∀ s x, turnL t tt elt vs x (E s) = (f s x).bind fun r => some (some r.1, E r.2)) : ∀ xs s, lcF t tt elt vs xs (E s) = (cmpT f xs s).bind fun q => some (q.1, E q.2)
  | [], s => rfl
  | x :: xs, s => by
    rw [lcF_turn, h s x]
    unfold cmpT
    cases f s x with
    | none => rfl
    | some y =>
      simp only [Option.bind_some]
      rw [lc_T E f h xs]
      cases cmpT f xs y.2 <;> rfl
theorem lc_S {S : Type} (E : S → PEn) (f : S → PV → Option (Option PV × S)) (h : ∀ s x, turnL t tt elt vs x (E s) = (f s x).bind fun r => some (r.1, E r.2)) : ∀ xs s, lcF t tt elt vs xs (E s) = (cmpS f xs s).bind fun q => some (q.1, E q.2)
  | [], s => rfl
  | x :: xs, s => by
    rw [lcF_turn, h s x]
    unfold cmpS
    cases f s x with
    | none => rfl
    | some y =>
      simp only [Option.bind_some]
      rw [lc_S E f h xs]
      cases cmpS f xs y.2 <;> rfl
theorem kLC_b {o : Option α} {f : α → Option (List PV × PEn)} : kLC t tt elt vs (o.bind f) = o.bind fun z => kLC t tt elt vs (f z) := by cases o <;> rfl
theorem kLC2_b {e : PEn} {o : Option α} {f : α → Option (List PV × PEn)} : kLC2 vs e (o.bind f) = o.bind fun z => kLC2 vs e (f z) := by cases o <;> rfl
end
section
variable {β S R : Type}
theorem mTail_fldM {f : S → PV → Option S} {xs : List PV} {s : S} {k : S → Option β} : mTail (fldM f xs s) k = (fldM f xs s).bind k := rfl
theorem mTail_fldR {f : S → PV → Option (S ⊕ R)} {xs : List PV} {s : S} {k : S ⊕ R → Option β} : mTail (fldR f xs s) k = (fldR f xs s).bind k := rfl
theorem mTail_whlM {c : S → Option Bool} {f : S → Option S} {n : Nat} {s : S} {k : S → Option β} : mTail (whlM c f n s) k = (whlM c f n s).bind k := rfl
theorem mTail_cmpM {f : PV → Option PV} {xs : List PV} {k : List PV → Option β} : mTail (cmpM f xs) k = (cmpM f xs).bind k := rfl
theorem mTail_cmpG {f : PV → Option (Option PV)} {xs : List PV} {k : List PV → Option β} : mTail (cmpG f xs) k = (cmpG f xs).bind k := rfl
theorem mTail_cmpT {f : S → PV → Option (PV × S)} {xs : List PV} {s : S} {k : List PV × S → Option β} : mTail (cmpT f xs s) k = (cmpT f xs s).bind k := rfl
theorem mTail_cmpS {f : S → PV → Option (Option PV × S)} {xs : List PV} {s : S} {k : List PV × S → Option β} : mTail (cmpS f xs s) k = (cmpS f xs s).bind k := rfl
end
end PP

/-! PP, part v: comprehensions of two clauses; new lists out of slices. -/
namespace PP
open PySem PySem.Spec PyProof.Rows L2

/-- a new container at D, nobody's, while a block runs -/
structure LS (K : PySem.W.Frag) (F0 : Addr → Prop) (H0 : Hp) (e0 : PEn) (σ0 : L2.St) (D : Addr) (F : Addr → Prop) (H : Hp) (e : PEn) (σ : L2.St) (v : PV) : Prop where
  R : Rel K F H e σ
  o : OwnAt K F H D v
  nF : ¬ F D
  nO : ¬ Own e σ D
  M : Mv F0 H0 e0 σ0 F H e σ
section
variable {K : PySem.W.Frag} {F0 F F' : Addr → Prop} {H0 H H' : Hp} {e0 e e' : PEn} {σ0 σ σ' : L2.St} {D : Addr} {v : PV}
theorem LS.new (l : LS K F0 H0 e0 σ0 D F H e σ v) (N : Nw F H F' H') (s : Sized H → Sized H') : LS K F0 H0 e0 σ0 D F' H' e σ v := by
  obtain ⟨u, hu, _⟩ := l.o.some
  exact ⟨N.rel l.R (s l.R.sz), l.o.ex N.ex ((N.same D u hu).trans hu.symm), fun f => (N.fnew D f).elim l.nF fun z => (by rw [hu] at z; cases z), l.nO, l.M.trans N.mv⟩
theorem LS.mv (l : LS K F0 H0 e0 σ0 D F H e σ v) (R' : Rel K F' H' e' σ') (M' : Mv F H e σ F' H' e' σ') : LS K F0 H0 e0 σ0 D F' H' e' σ' v := by
  obtain ⟨u, hu, _⟩ := l.o.some
  refine ⟨R', l.o.ex (M'.ex l.R) ((M'.frame D u hu l.nO).trans hu.symm), fun f => ?_, fun o => ?_, l.M.trans M'⟩
  · rcases M'.fnew D f with z | z | z
    · exact l.nF z
    · exact l.nO z
    · rw [hu] at z; cases z
  · rcases M'.onew D o with z | z
    · exact l.nO z
    · rw [hu] at z; cases z
theorem LS.wipe (l : LS K F0 H0 e0 σ0 D F H e σ v) (vs : List Nat) : LS K F0 H0 e0 σ0 D F H (wipeE e vs) (L2.wipe σ vs) v :=
  ⟨l.R.wipe vs, l.o, l.nF, fun o => l.nO (own_unwipe o), l.M.trans (Mv.wipe vs)⟩
/-- the container gets another content -/
theorem LS.put (l : LS K F0 H0 e0 σ0 D F H e σ v) (hD : H0 D = none) {o : HO} {w : PV} (sm : PP.HO.small o) (O : Ex F H F (upd H D o) → OwnAt K F (upd H D o) D w) : LS K F0 H0 e0 σ0 D F (upd H D o) e σ w := by
  have ex : Ex F H F (upd H D o) := ex_own l.nF l.o
  refine ⟨⟨l.R.len, fun j u ej => ?_, fun j u ej => ?_, l.R.apart, fun a f => ?_, l.R.sz.upd sm⟩, O ex, l.nF, l.nO, ⟨l.M.sub, fun c q hc n => ?_, l.M.fnew, l.M.onew, fun c q hc => ?_⟩⟩
  · obtain ⟨z, sz, rz⟩ := l.R.val j u ej
    exact ⟨z, sz, rz.ex ex⟩
  · obtain ⟨a, sa, na, oa⟩ := l.R.own j u ej
    have hne : a ≠ D := fun z => l.nO ⟨j, u, ej, by rw [← z]; exact sa⟩
    exact ⟨a, sa, na, oa.ex ex (upd_ne hne)⟩
  · have hne : a ≠ D := fun z => l.nF (by rw [← z]; exact f)
    rw [upd_ne hne]; exact l.R.fz a f
  · rw [upd_ne (ne_of_none hc hD)]; exact l.M.frame c q hc n
  · rw [upd_ne (ne_of_none hc hD)]; exact l.M.there c q hc
theorem wipe_out {vs : List Nat} {σ σ4 : L2.St} {t : Tgt} (hsub : ∀ i, i ∈ t.slots → i ∈ vs) (l : σ4.length = σ.length) (k4 : ∀ i, i ∉ t.slots → σ4[i]? = (L2.wipe σ vs)[i]?) : L2.wipe σ4 vs = L2.wipe σ vs := by
  refine (wipe_congr (fun j hj => k4 j fun z => hj (hsub j z)) (by rw [wipe_length]; exact l)).trans ?_
  apply List.ext_getElem?
  intro j
  rw [wipe_get, wipe_get]
  by_cases hj : j ∈ vs
  · rw [if_pos hj, if_pos hj]
    cases σ[j]? <;> rfl
  · rw [if_neg hj, if_neg hj]
theorem wipe_wipe {vs ws : List Nat} {σ : L2.St} (h : ∀ i ∈ ws, i ∈ vs) : L2.wipe (L2.wipe σ ws) vs = L2.wipe σ vs := by
  apply List.ext_getElem?
  intro j
  rw [wipe_get, wipe_get, wipe_get]
  by_cases hj : j ∈ vs
  · rw [if_pos hj, if_pos hj]
    split
    · cases σ[j]? <;> rfl
    · rfl
  · rw [if_neg hj, if_neg hj, if_neg fun z => hj (h j z)]
end

/-! ### [e for x in xs if .. for y in ys if ..] -/
def lc2F (t : Tgt) (tt : DenT) (src1 : DenI) (vs1 : List Nat) (t1 : Tgt) (tt1 : DenT) (elt : Den) (vs : List Nat) : List PV → PEn → Option (List PV × PEn)
  | [], e => some ([], e)
  | x :: xs, e => (tgtF t x e).bind fun e1 => (tt e1).bind fun b => if b.1 then (src1 b.2).bind fun p => (lcF t1 tt1 elt vs1 p.1 (wipeE p.2 vs1)).bind fun q => (lc2F t tt src1 vs1 t1 tt1 elt vs xs (wipeE q.2 vs)).map fun r => (q.1 ++ r.1, r.2)
      else lc2F t tt src1 vs1 t1 tt1 elt vs xs (wipeE b.2 vs)
def dLC2 (src : DenI) (vs : List Nat) (t : Tgt) (tt : DenT) (src1 : DenI) (vs1 : List Nat) (t1 : Tgt) (tt1 : DenT) (elt : Den) : Den := fun e => (src e).bind fun p => (lc2F t tt src1 vs1 t1 tt1 elt vs p.1 (wipeE p.2 vs)).bind fun q => if q.1.length ≤ 1000000 then some (.lst q.1, restoreE q.2 p.2 vs) else none
theorem lc2F_noown {t : Tgt} {tt : DenT} {src1 : DenI} {vs1 : List Nat} {t1 : Tgt} {tt1 : DenT} {elt : Den} {vs : List Nat} : ∀ {xs : List PV} {e e' : PEn} {ys : List PV}, lc2F t tt src1 vs1 t1 tt1 elt vs xs e = some (ys, e') → (∀ i, i ∈ vs → ∀ v, e[i]? ≠ some (SlP.own v)) → ∀ i, i ∈ vs → ∀ v, e'[i]? ≠ some (SlP.own v)
  | [], _, _, _, h, q => by cases h; exact q
  | x :: xs, e, e', ys, h, q => by
    unfold lc2F at h
    obtain ⟨e1, _, h⟩ := Option.bind_eq_some_iff.mp h
    obtain ⟨b, _, h⟩ := Option.bind_eq_some_iff.mp h
    split at h
    · obtain ⟨p, _, h⟩ := Option.bind_eq_some_iff.mp h
      obtain ⟨y, _, h⟩ := Option.bind_eq_some_iff.mp h
      obtain ⟨r, h', e⟩ := Option.map_eq_some_iff.mp h
      cases e
      exact lc2F_noown h' (wipeE_noown _ _)
    · exact lc2F_noown h (wipeE_noown _ _)
/-- one more item -/
theorem LS.push {K : PySem.W.Frag} {F0 F : Addr → Prop} {H0 H : Hp} {e0 e : PEn} {σ0 σ : L2.St} {D : Addr} {done : List PV} (l : LS K F0 H0 e0 σ0 D F H e σ (.lst done)) (hD : H0 D = none) {v : V} {y : PV} (r : Rep K F H v y) (hl : done.length < 1000000) :
    ∃ acc, H D = some (.lst acc) ∧ acc.length < sizeLine ∧ LS K F0 H0 e0 σ0 D F (upd H D (.lst (acc ++ [v]))) e σ (.lst (done ++ [y])) ∧ Ex F H F (upd H D (.lst (acc ++ [v]))) := by
  have o := l.o
  cases o with
  | @lst acc _ h ra =>
    have la := ra.length
    have hsz : acc.length < sizeLine := by rw [sizeLine_eq]; omega
    refine ⟨acc, h, hsz, l.put hD (by show (acc ++ [v]).length ≤ _; rw [List.length_append]; exact hsz) fun ex => .lst upd_same ((ra.append (.cons r .nil)).ex ex), ex_own l.nF l.o⟩
theorem lc2_imp {X : Cx} {src : DenI} {t : Tgt} {tt : DenT} {src1 : DenI} {vs vs1 : List Nat} {t1 : Tgt} {tt1 : DenT} {de : Den} (hsub : ∀ i, i ∈ t.slots → i ∈ vs) (hsub1 : ∀ i, i ∈ t1.slots → i ∈ vs1) (hv : ∀ i ∈ vs1, i ∈ vs) {σ : L2.St} {H : Hp} {Q : VK} (h : tF X.K (dLC2 src vs t tt src1 vs1 t1 tt1 de) σ H Q) :
    tLc2 (tI X.K src) (tG X.K t) (tT X.K tt) (tI X.K src1) (tG X.K t1) (tT X.K tt1) (tE X.K de) vs vs1 σ H (fun v H' => Sized H' → Q v H') := by
  obtain ⟨F, env, r, env', R, hd, q⟩ := h
  unfold dLC2 at hd
  obtain ⟨⟨items, e1⟩, h1, hd⟩ := Option.bind_eq_some_iff.mp hd
  obtain ⟨⟨ys, e2⟩, h2, hd⟩ := Option.bind_eq_some_iff.mp hd
  split at hd
  case isFalse => cases hd
  rename_i hys
  cases hd
  refine ⟨F, env, items, e1, R, h1, fun J F1 H1 R1 M1 Y hlen => fun D hD => ?_⟩
  have R1w := R1.wipe vs
  have N0 : Nw F1 H1 F1 (upd H1 D (.lst [])) := .upd hD R1.fz
  have L0 : LS X.K F1 H1 (wipeE e1 vs) (wipe σ vs) D F1 (upd H1 D (.lst [])) (wipeE e1 vs) (wipe σ vs) (.lst []) := by
    obtain ⟨a1, a2⟩ := own_new R1w hD
    exact ⟨N0.rel R1w (R1.sz.upd (Nat.zero_le _)), .lst upd_same .nil, a1, a2, N0.mv⟩
  let I : Nat → Hp → Prop := fun i H2 => i ≤ items.length ∧ ∃ F2 ei done rest, LS X.K F1 H1 (wipeE e1 vs) (wipe σ vs) D F2 H2 ei (wipe σ vs) (.lst done) ∧ lc2F t tt src1 vs1 t1 tt1 de vs (items.drop i) ei = some (rest, e2) ∧ done ++ rest = ys
  refine ⟨fun i m H2 => m = items.length - i ∧ I i H2, ⟨items.length, by simp, Nat.zero_le _, F1, wipeE e1 vs, [], ys, L0, by simpa using h2, rfl⟩, ?_⟩
  rintro i m H2 ⟨rfl, hi, F2, ei, done, rest, L, hl, hdone⟩
  have ex2 : Ex F1 H1 F2 H2 := L.M.ex R1w
  obtain ⟨go, stop⟩ := Y F2 H2 ex2 L.R.fz i
  by_cases hlt : i < items.length
  case neg =>
    have hie : i = items.length := by omega
    subst hie
    simp only [List.drop_length, lc2F] at hl
    cases hl
    refine .inl ⟨stop (Nat.le_refl _), fun sz => ?_⟩
    rw [List.append_nil] at hdone
    subst hdone
    have noown := lc2F_noown h2 (wipeE_noown _ _)
    refine q D F2 H2 (R1.restore L.R ex2 noown) (M1.trans ⟨L.M.sub, fun c o hc n => L.M.frame c o hc fun z => n (own_unwipe z), fun a f => ?_, fun a o => ?_, L.M.there⟩) L.nF (fun o => L.nO (own_restore o)) (M1.back hD) L.o
    · rcases L.M.fnew a f with z | z | z
      · exact .inl z
      · exact .inr (.inl (own_unwipe z))
      · exact .inr (.inr z)
    · rcases L.M.onew a (own_restore o) with z | z
      · exact .inl (own_unwipe z)
      · exact .inr z
  obtain ⟨g, yl⟩ := go _ (List.getElem?_eq_getElem hlt)
  refine .inr ⟨g, I (i + 1), fun H' n => ⟨items.length - (i + 1), by omega, rfl, n⟩, fun x H3 hy => ?_⟩
  obtain ⟨F3, N3, rx, s3⟩ := yl x H3 hy
  have L3 := L.new N3 s3
  rw [List.drop_eq_getElem_cons hlt] at hl
  unfold lc2F at hl
  obtain ⟨et, ht, hl⟩ := Option.bind_eq_some_iff.mp hl
  obtain ⟨⟨b, eb⟩, hb, hl⟩ := Option.bind_eq_some_iff.mp hl
  refine ⟨F3, ei, _, et, L3.R, rx, ht, fun σ4 R4 M4 k4 => ?_⟩
  have e4 : wipe σ4 vs = wipe σ vs := wipe_out hsub (by have a := R4.len; have b := L3.R.len; rw [tgt_len ht, b, wipe_length] at a; exact a.symm) fun j hj => (k4 j hj).1
  refine ⟨e4, F3, et, b, eb, R4, hb, fun F5 H5 R5 M5 => ?_⟩
  have L5 := L3.mv R5 (M4.trans M5)
  cases b with
  | false =>
    simp only [Bool.false_eq_true, if_false] at hl
    refine iteF ⟨hlt, F5, wipeE eb vs, done, rest, ?_, hl, hdone⟩
    have := L5.wipe vs
    rw [e4] at this
    exact this
  | true =>
    simp only [if_true] at hl
    refine iteT ?_
    obtain ⟨⟨items1, e6⟩, h6, hl⟩ := Option.bind_eq_some_iff.mp hl
    obtain ⟨⟨ys1, e7⟩, h7, hl⟩ := Option.bind_eq_some_iff.mp hl
    obtain ⟨⟨r1, r2⟩, hl', er⟩ := Option.map_eq_some_iff.mp hl
    cases er
    refine ⟨F5, eb, items1, e6, R5, h6, fun J1 F6 H6 R6 M6 Y1 hlen1 => ?_⟩
    have L6 := L5.mv R6 M6
    let I1 : Nat → Hp → Prop := fun j H7 => j ≤ items1.length ∧ ∃ F7 ej done1 rest1, LS X.K F1 H1 (wipeE e1 vs) (wipe σ vs) D F7 H7 ej (wipe σ4 vs1) (.lst (done ++ done1)) ∧ Ex F6 H6 F7 H7 ∧ lcF t1 tt1 de vs1 (items1.drop j) ej = some (rest1, e7) ∧ done1 ++ rest1 = ys1
    refine ⟨fun j k H7 => k = items1.length - j ∧ I1 j H7, ⟨items1.length, by simp, Nat.zero_le _, F6, wipeE e6 vs1, [], ys1, by simpa using L6.wipe vs1, .refl, by simpa using h7, rfl⟩, ?_⟩
    rintro j k H7 ⟨rfl, hj, F7, ej, done1, rest1, L7, ex7, hl1, hd1⟩
    obtain ⟨go1, stop1⟩ := Y1 F7 H7 ex7 L7.R.fz j
    by_cases hlt1 : j < items1.length
    case neg =>
      have hje : j = items1.length := by omega
      subst hje
      simp only [List.drop_length, lcF] at hl1
      cases hl1
      refine .inl ⟨stop1 (Nat.le_refl _), hlt, F7, wipeE e7 vs, done ++ done1, r1, ?_, hl', ?_⟩
      · have := L7.wipe vs
        rw [wipe_wipe hv, e4] at this
        exact this
      · rw [List.append_nil] at hd1
        rw [hd1, List.append_assoc]
        exact hdone
    obtain ⟨g1, yl1⟩ := go1 _ (List.getElem?_eq_getElem hlt1)
    refine .inr ⟨g1, I1 (j + 1), fun H' n => ⟨items1.length - (j + 1), by omega, rfl, n⟩, fun y H8 hy8 => ?_⟩
    obtain ⟨F8, N8, ry, s8⟩ := yl1 y H8 hy8
    have L8 := L7.new N8 s8
    rw [List.drop_eq_getElem_cons hlt1] at hl1
    unfold lcF at hl1
    obtain ⟨eu, hu, hl1⟩ := Option.bind_eq_some_iff.mp hl1
    obtain ⟨⟨b1, ev⟩, hb1, hl1⟩ := Option.bind_eq_some_iff.mp hl1
    refine ⟨F8, ej, _, eu, L8.R, ry, hu, fun σ9 R9 M9 k9 => ?_⟩
    have e9 : wipe σ9 vs1 = wipe σ4 vs1 := wipe_out hsub1 (by have a := R9.len; have b := L8.R.len; rw [tgt_len hu, b, wipe_length] at a; exact a.symm) fun j hj => (k9 j hj).1
    refine ⟨e9, F8, eu, b1, ev, R9, hb1, fun F10 H10 R10 M10 => ?_⟩
    have L10 := L8.mv R10 (M9.trans M10)
    have x10 : Ex F6 H6 F10 H10 := ex7.trans (N8.ex.trans ((M9.trans M10).ex L8.R))
    cases b1 with
    | false =>
      simp only [Bool.false_eq_true, if_false] at hl1
      refine iteF ⟨hlt1, F10, wipeE ev vs1, done1, rest1, ?_, x10, hl1, hd1⟩
      have := L10.wipe vs1
      rw [e9] at this
      exact this
    | true =>
      simp only [if_true] at hl1
      refine iteT ?_
      obtain ⟨⟨z, ez⟩, hz, hl1⟩ := Option.bind_eq_some_iff.mp hl1
      obtain ⟨⟨r3, r4⟩, hl3, er3⟩ := Option.map_eq_some_iff.mp hl1
      cases er3
      refine ⟨F10, ev, z, ez, R10, hz, fun v F11 H11 R11 M11 r11 => ?_⟩
      have L11 := L10.mv R11 M11
      obtain ⟨acc, ha, hs, Lp, exp⟩ := L11.push hD r11 (by have := congrArg List.length hdone; have := congrArg List.length hd1; simp only [List.length_append, List.length_cons] at *; omega)
      refine ⟨acc, ha, hs, hlt1, F11, wipeE ez vs1, done1 ++ [z], r3, ?_, (x10.trans (M11.ex R10)).trans exp, hl3, by rw [List.append_assoc]; exact hd1⟩
      have := Lp.wipe vs1
      rw [e9, List.append_assoc] at this
      exact this
structure LcOk2 (X : Cx) (elt tg iter tg1 iter1 : Expr) (ifs ifs1 : List Expr) (scope : Scope) (own : List (Str × Nat)) (src : DenI) (t : Tgt) (tt : DenT) (src1 : DenI) (vs1 : List Nat) (t1 : Tgt) (tt1 : DenT) (de : Den) : Prop where
  it : VI X tg iter src
  ok : BlkOk X.N X.env.scope scope own
  bd : ∀ (s : Shared) (H : Hp) (C : Addr) (cl : List (Str × Addr)) (fp : List Addr), PG (X.blk s H scope (compEnvC scope cl C X.env) fp) tg (tG X.K t) ∧ PTs (X.blk s H scope (compEnvC scope cl C X.env) fp) ifs (tT X.K tt) ∧
    PI (X.blk s H scope (compEnvC scope cl C X.env) fp) tg1 iter1 (tI X.K src1) ∧ PG (X.blk s H scope (compEnvC scope cl C X.env) fp) tg1 (tG X.K t1) ∧ PTs (X.blk s H scope (compEnvC scope cl C X.env) fp) ifs1 (tT X.K tt1) ∧ PE (X.blk s H scope (compEnvC scope cl C X.env) fp) elt (tE X.K de)
  sub : ∀ i, i ∈ t.slots → i ∈ own.map (·.2)
  sub1 : ∀ i, i ∈ t1.slots → i ∈ vs1
  sv : ∀ i ∈ vs1, i ∈ own.map (·.2)
  fs : ∀ x, foldedSetIterable iter X.env x = pure x
  fs1 : ∀ env x, foldedSetIterable iter1 env x = pure x
section
variable {X : Cx} {refs : List Nat} {elt tg iter tg1 iter1 : Expr} {ifs ifs1 : List Expr} {scope : Scope} {own : List (Str × Nat)} {pos spos py : Pos} {src src1 : DenI} {t t1 : Tgt} {tt tt1 : DenT} {de : Den} {vs1 : List Nat}
theorem vf_lc2 (hc : X.calm = true) (hN : X.N.Nodup) (l : LcOk2 X elt tg iter tg1 iter1 ifs ifs1 scope own src t tt src1 vs1 t1 tt1 de) : VF X (.ListComp elt [⟨tg, iter, ifs, 0⟩, ⟨tg1, iter1, ifs1, 0⟩] scope pos) (dLC2 src (own.map (·.2)) t tt src1 vs1 t1 tt1 de) :=
  pe_imp (pe_lc2 hc hN l.it l.ok l.sv (fun s H C cl fp => (l.bd s H C cl fp).1) (fun s H C cl fp => (l.bd s H C cl fp).2.1) (fun s H C cl fp => (l.bd s H C cl fp).2.2.1) (fun s H C cl fp => (l.bd s H C cl fp).2.2.2.1) (fun s H C cl fp => (l.bd s H C cl fp).2.2.2.2.1) (fun s H C cl fp => (l.bd s H C cl fp).2.2.2.2.2) l.fs l.fs1) fun σ H Q sz h => lc2_imp l.sub l.sub1 l.sv h
theorem vs_ownLc2 {i : Nat} {y : Str} (hr : i ∉ refs) (hc : X.calm = true) (hN : X.N.Nodup) (hy : X.N[i]? = some y) (hyl : X.env.scope.names.lookup y = some .local)
    (hsw : swapsWith (.ListComp elt [⟨tg, iter, ifs, 0⟩, ⟨tg1, iter1, ifs1, 0⟩] scope pos) (some (.Name y py)) spos.line X.env = pure true) (l : LcOk2 X elt tg iter tg1 iter1 ifs ifs1 scope own src t tt src1 vs1 t1 tt1 de) :
    VS X refs (.Assign [.Name y py] (.ListComp elt [⟨tg, iter, ifs, 0⟩, ⟨tg1, iter1, ifs1, 0⟩] scope pos) spos) (sOwn i (dLC2 src (own.map (·.2)) t tt src1 vs1 t1 tt1 de)) :=
  ps_imp (ps_setLc2 hc hN hy hyl hsw l.it l.ok l.sv (fun s H C cl fp => (l.bd s H C cl fp).1) (fun s H C cl fp => (l.bd s H C cl fp).2.1) (fun s H C cl fp => (l.bd s H C cl fp).2.2.1) (fun s H C cl fp => (l.bd s H C cl fp).2.2.2.1) (fun s H C cl fp => (l.bd s H C cl fp).2.2.2.2.1) (fun s H C cl fp => (l.bd s H C cl fp).2.2.2.2.2) l.fs l.fs1) fun D σ H sz h => by
    have h1 := own_imp hr h
    have h2 := tF_sz (Q := fun x H1 => D.nx (σ.set i (some x)) H1) h1
    exact lc2_imp l.sub l.sub1 l.sv h2
end
section
variable {X : Cx} {N : List Str} {raw nm : Nms} {k : Nat} {elt tg iter tg1 iter1 : Expr} {ifs ifs1 : List Expr} {de : Den} {tt tt1 : DenT} {src src1 : DenI} {t t1 : Tgt} {own : List (Str × Nat)} {vs1 : List Nat} {scope : Scope} {refs : List Nat} {pos spos py : Pos}
theorem Cn.lc2 (c : Cn X N raw nm k) (it : VI X tg iter src) (hok : blkC N { kind := .function, names := nm, isGenerator := false, isCoroutine := false } scope own = true) (hk : scope.kind = .function) (sub : (t.slots.all fun i => decide (i ∈ own.map (·.2))) = true) (sub1 : (t1.slots.all fun i => decide (i ∈ vs1)) = true) (sv : (vs1.all fun i => decide (i ∈ own.map (·.2))) = true)
    (fs : ∀ x, foldedSetIterable iter X.env x = pure x) (fs1 : ∀ env x, foldedSetIterable iter1 env x = pure x)
    (bd : ∀ (s : Shared) (H : Hp) (C : Addr) (cl : List (Str × Addr)) (fp : List Addr), Cn (X.blk s H scope (compEnvC scope cl C X.env) fp) N scope.names (relN nm scope.names) k →
      PG (X.blk s H scope (compEnvC scope cl C X.env) fp) tg (tG X.K t) ∧ PTs (X.blk s H scope (compEnvC scope cl C X.env) fp) ifs (tT X.K tt) ∧
      PI (X.blk s H scope (compEnvC scope cl C X.env) fp) tg1 iter1 (tI X.K src1) ∧ PG (X.blk s H scope (compEnvC scope cl C X.env) fp) tg1 (tG X.K t1) ∧ PTs (X.blk s H scope (compEnvC scope cl C X.env) fp) ifs1 (tT X.K tt1) ∧ PE (X.blk s H scope (compEnvC scope cl C X.env) fp) elt (tE X.K de)) : LcOk2 X elt tg iter tg1 iter1 ifs ifs1 scope own src t tt src1 vs1 t1 tt1 de where
  it := it
  ok := by
    have := blkOk_by hok
    exact ⟨this.kind, this.uniq, by rw [c.eN]; exact this.ix, fun y hy e => by rw [c.nm]; exact this.free y hy e, by rw [c.eN]; exact this.own⟩
  bd := fun s H C cl fp => bd s H C cl fp (c.blk s H scope C cl fp hk)
  sub := fun i hi => by simpa using List.all_eq_true.mp sub i hi
  sub1 := fun i hi => by simpa using List.all_eq_true.mp sub1 i hi
  sv := fun i hi => by simpa using List.all_eq_true.mp sv i hi
  fs := fs
  fs1 := fs1
theorem Cn.vf2 (c : Cn X N raw nm k) (l : LcOk2 X elt tg iter tg1 iter1 ifs ifs1 scope own src t tt src1 vs1 t1 tt1 de) : VF X (.ListComp elt [⟨tg, iter, ifs, 0⟩, ⟨tg1, iter1, ifs1, 0⟩] scope pos) (dLC2 src (own.map (·.2)) t tt src1 vs1 t1 tt1 de) := vf_lc2 c.calm (by rw [c.eN]; exact c.nd) l
theorem Cn.ownLc2 (c : Cn X N raw nm k) {i : Nat} {y : Str} (hr : (refs.all fun j => j != i) = true) (hs : stoC N raw i y = true) (hl : decide (nm.lookup y = some .local) = true) (hw : swC nm scope y py.line pos.line = true) (l : LcOk2 X elt tg iter tg1 iter1 ifs ifs1 scope own src t tt src1 vs1 t1 tt1 de) :
    VS X refs (.Assign [.Name y py] (.ListComp elt [⟨tg, iter, ifs, 0⟩, ⟨tg1, iter1, ifs1, 0⟩] scope pos) spos) (sOwn i (dLC2 src (own.map (·.2)) t tt src1 vs1 t1 tt1 de)) := by
  obtain ⟨a1, a2, a3, a4⟩ := stoC_ok c hs
  refine vs_ownLc2 (fun h => ?_) c.calm a1 a2 (by rw [c.nm]; simpa using hl) (by rw [c.sw, hw]) l
  have := List.all_eq_true.mp hr i h
  simp at this
theorem Cn.ownLc20 (c : Cn X N raw nm k) {i : Nat} {y : Str} (hr : (refs.all fun j => j != i) = true) (hs : stoC N raw i y = true) (hw : swC nm scope y py.line pos.line = false) (l : LcOk2 X elt tg iter tg1 iter1 ifs ifs1 scope own src t tt src1 vs1 t1 tt1 de) :
    VS X refs (.Assign [.Name y py] (.ListComp elt [⟨tg, iter, ifs, 0⟩, ⟨tg1, iter1, ifs1, 0⟩] scope pos) spos) (sOwn i (dLC2 src (own.map (·.2)) t tt src1 vs1 t1 tt1 de)) := by
  obtain ⟨a1, a2, a3, a4⟩ := stoC_ok c hs
  refine vs_own (fun h => ?_) a1 a2 a3 (c.vf2 l) (by rw [c.sw, hw]) a4
  have := List.all_eq_true.mp hr i h
  simp at this
end
/-- list(x) as a new list of one's own -/
theorem vf_list {X : Cx} {x : Str} {e : Expr} {as : List Arg} {p pos : Pos} (B : Bi X x (.type "list")) (hs : (e :: []).all notStar = true) (h : VAB X [e] (bArgs as)) : VF X (.Call (.Name x p) [e] [] pos) (dApp listF as) :=
  pe_imp (pe_callTy call_list_of B.gl B.mg B.boot h B.ne B.db (starEach_cons (List.all_eq_true.mp hs _ List.mem_cons_self)) (star_plain rfl pos)) fun σ H Q sz ⟨F, env, r, env', R, hd, q⟩ => by
    unfold dApp at hd
    obtain ⟨⟨ps, e1⟩, h1, hd⟩ := Option.bind_eq_some_iff.mp hd
    obtain ⟨z, h3, hz⟩ := Option.map_eq_some_iff.mp hd
    cases hz
    refine ⟨F, env, ps, _, R, h1, fun xs F1 H1 R1 M1 r1 => ?_⟩
    match ps, r1, h3 with
    | [], _, h3 => simp [listF] at h3
    | _ :: _ :: _, _, h3 => simp [listF] at h3
    | [y], r1, h3 =>
      simp only [listF] at h3
      obtain ⟨ys, hy, e2⟩ := Option.map_eq_some_iff.mp h3
      subst e2
      obtain ⟨v, rfl, q1⟩ := r1.one
      obtain ⟨a, vs, rfl, hh, rr⟩ := q1.seq hy
      refine ⟨a, vs, rfl, hh, fun l hl sz' => ?_⟩
      have N : Nw F1 H1 F1 (upd H1 l (.lst vs)) := .upd hl R1.fz
      obtain ⟨a1, a2⟩ := own_new R1 hl
      exact q l F1 _ (N.rel R1 sz') (M1.trans N.mv) a1 a2 (M1.back hl) (.lst upd_same (rr.ex N.ex))
/-! evaluation -/
section
variable {α : Type} {t t1 : Tgt} {tt tt1 : DenT} {src src1 : DenI} {elt : Den} {vs vs1 : List Nat} {e : PEn}
def cmpB (f : PV → Option (List PV)) : List PV → Option (List PV)
  | [] => some []
  | x :: xs => (f x).bind fun y => (cmpB f xs).bind fun ys => some (y ++ ys)
def kB3 (vs : List Nat) (o : Option (List PV × PEn)) : Option (List PV × PEn) := o.bind fun q => some (q.1, wipeE q.2 vs)
theorem kB3_s {ys : List PV} : kB3 vs (some (ys, e)) = some (ys, wipeE e vs) := rfl
theorem kB3_b {o : Option α} {f : α → Option (List PV × PEn)} : kB3 vs (o.bind f) = o.bind fun z => kB3 vs (f z) := by cases o <;> rfl
def kBS (t1 : Tgt) (tt1 : DenT) (elt : Den) (vs1 vs : List Nat) (o : Option (List PV × PEn)) : Option (List PV × PEn) := o.bind fun p => kB3 vs (lcF t1 tt1 elt vs1 p.1 (wipeE p.2 vs1))
theorem kBS_s {xs : List PV} : kBS t1 tt1 elt vs1 vs (some (xs, e)) = kB3 vs (lcF t1 tt1 elt vs1 xs (wipeE e vs1)) := rfl
theorem kBS_b {o : Option α} {f : α → Option (List PV × PEn)} : kBS t1 tt1 elt vs1 vs (o.bind f) = o.bind fun z => kBS t1 tt1 elt vs1 vs (f z) := by cases o <;> rfl
def kBT (src1 : DenI) (t1 : Tgt) (tt1 : DenT) (elt : Den) (vs1 vs : List Nat) (o : Option (Bool × PEn)) : Option (List PV × PEn) := o.bind fun b => if b.1 = true then kBS t1 tt1 elt vs1 vs (src1 b.2) else some ([], wipeE b.2 vs)
theorem kBT_t : kBT src1 t1 tt1 elt vs1 vs (some (true, e)) = kBS t1 tt1 elt vs1 vs (src1 e) := rfl
theorem kBT_v {k : Bool} : kBT src1 t1 tt1 elt vs1 vs (some (k, e)) = if k = true then kBS t1 tt1 elt vs1 vs (src1 e) else some ([], wipeE e vs) := rfl
theorem kBT_b {o : Option α} {f : α → Option (Bool × PEn)} : kBT src1 t1 tt1 elt vs1 vs (o.bind f) = o.bind fun z => kBT src1 t1 tt1 elt vs1 vs (f z) := by cases o <;> rfl
def kBG (tt : DenT) (src1 : DenI) (t1 : Tgt) (tt1 : DenT) (elt : Den) (vs1 vs : List Nat) (o : Option PEn) : Option (List PV × PEn) := o.bind fun e => kBT src1 t1 tt1 elt vs1 vs (tt e)
theorem kBG_s : kBG tt src1 t1 tt1 elt vs1 vs (some e) = kBT src1 t1 tt1 elt vs1 vs (tt e) := rfl
theorem kBG_b {o : Option α} {f : α → Option PEn} : kBG tt src1 t1 tt1 elt vs1 vs (o.bind f) = o.bind fun z => kBG tt src1 t1 tt1 elt vs1 vs (f z) := by cases o <;> rfl
def turnB (t : Tgt) (tt : DenT) (src1 : DenI) (vs1 : List Nat) (t1 : Tgt) (tt1 : DenT) (elt : Den) (vs : List Nat) (x : PV) (e : PEn) : Option (List PV × PEn) := kBG tt src1 t1 tt1 elt vs1 vs (tgtF t x e)
theorem turnB_ev {x : PV} : turnB t tt src1 vs1 t1 tt1 elt vs x e = kBG tt src1 t1 tt1 elt vs1 vs (tgtF t x e) := rfl
theorem lc2F_turn {x : PV} {xs : List PV} : lc2F t tt src1 vs1 t1 tt1 elt vs (x :: xs) e = (turnB t tt src1 vs1 t1 tt1 elt vs x e).bind fun r => (lc2F t tt src1 vs1 t1 tt1 elt vs xs r.2).bind fun q => some (r.1 ++ q.1, q.2) := by
  unfold turnB kBG kBT kBS kB3
  conv => lhs; unfold lc2F
  cases tgtF t x e with
  | none => rfl
  | some e1 =>
    simp only [Option.bind_some]
    cases tt e1 with
    | none => rfl
    | some b =>
      simp only [Option.bind_some]
      split
      · cases src1 b.2 with
        | none => rfl
        | some p =>
          simp only [Option.bind_some]
          cases lcF t1 tt1 elt vs1 p.1 (wipeE p.2 vs1) with
          | none => rfl
          | some q =>
            simp only [Option.bind_some]
            cases lc2F t tt src1 vs1 t1 tt1 elt vs xs (wipeE q.2 vs) <;> rfl
      · simp only [Option.bind_some]
        cases lc2F t tt src1 vs1 t1 tt1 elt vs xs (wipeE b.2 vs) <;> rfl
theorem lc_B (f : PV → Option (List PV)) (h : ∀ x, turnB t tt src1 vs1 t1 tt1 elt vs x e = (f x).bind fun y => some (y, e)) : ∀ xs, lc2F t tt src1 vs1 t1 tt1 elt vs xs e = (cmpB f xs).bind fun ys => some (ys, e)
  | [] => rfl
  | x :: xs => by
    rw [lc2F_turn, h x]
    unfold cmpB
    cases f x with
    | none => rfl
    | some y =>
      simp only [Option.bind_some]
      rw [lc_B f h xs]
      cases cmpB f xs <;> rfl
def mLim (ys : List PV) : Option (List PV) := if ys.length ≤ 1000000 then some ys else none
def kLD2 (vs : List Nat) (e0 : PEn) (o : Option (List PV × PEn)) : Option (PV × PEn) := o.bind fun q => if q.1.length ≤ 1000000 then some (.lst q.1, restoreE q.2 e0 vs) else none
theorem kLD2_s {e0 : PEn} {ys : List PV} : kLD2 vs e0 (some (ys, e)) = (mLim ys).bind fun ys => some (.lst ys, restoreE e e0 vs) := by
  show (if ys.length ≤ 1000000 then _ else _) = _
  unfold mLim
  split <;> rfl
theorem kLD2_b {e0 : PEn} {o : Option α} {f : α → Option (List PV × PEn)} : kLD2 vs e0 (o.bind f) = o.bind fun z => kLD2 vs e0 (f z) := by cases o <;> rfl
def kLD (t : Tgt) (tt : DenT) (src1 : DenI) (vs1 : List Nat) (t1 : Tgt) (tt1 : DenT) (elt : Den) (vs : List Nat) (o : Option (List PV × PEn)) : Option (PV × PEn) := o.bind fun p => kLD2 vs p.2 (lc2F t tt src1 vs1 t1 tt1 elt vs p.1 (wipeE p.2 vs))
theorem kLD_s {xs : List PV} : kLD t tt src1 vs1 t1 tt1 elt vs (some (xs, e)) = kLD2 vs e (lc2F t tt src1 vs1 t1 tt1 elt vs xs (wipeE e vs)) := rfl
theorem kLD_b {o : Option α} {f : α → Option (List PV × PEn)} : kLD t tt src1 vs1 t1 tt1 elt vs (o.bind f) = o.bind fun z => kLD t tt src1 vs1 t1 tt1 elt vs (f z) := by cases o <;> rfl
theorem dLC2_ev : dLC2 src vs t tt src1 vs1 t1 tt1 elt e = kLD t tt src1 vs1 t1 tt1 elt vs (src e) := rfl
theorem mTail_cmpB {β : Type} {f : PV → Option (List PV)} {xs : List PV} {k : List PV → Option β} : mTail (cmpB f xs) k = (cmpB f xs).bind k := rfl
end
end PP

/-! PP, part w: sorted of a dict with tuple keys. -/
namespace PP
open PySem PySem.Spec PyProof.Rows L2

def keyT (ks : List Key) : PV := .tup (ks.map keyP)
def sortedTF (ps : List PV) : Option PV := match ps with
  | [.dt kvs] => if comparable (kvs.map fun p => keyT p.1) && sortable (kvs.map fun p => keyT p.1) then some (.lst (sortL (kvs.map fun p => keyT p.1))) else none
  | _ => none
theorem keyP_rep {K : PySem.W.Frag} {F : Addr → Prop} {H : Hp} : ∀ ks : List Key, RepL K F H (ks.map L2.kV) (ks.map keyP)
  | [] => .nil
  | .inl i :: r => .cons (.int i) (keyP_rep r)
  | .inr s :: r => .cons (.str s) (keyP_rep r)
/-- the keys' objects -/
theorem keys_rep {K : PySem.W.Frag} {F : Addr → Prop} {H : Hp} : ∀ {kvs : List (List Key × V)} {xs : List (List Key × PV)} {bs : List Addr}, RepT K F H kvs xs → IsKeys H kvs bs → RepL K F H (bs.map V.ref) (xs.map fun p => keyT p.1)
  | _, _, _, .nil, h => by cases h; exact .nil
  | _, _, _, .cons r t, h => by
    cases h with
    | cons hb ht => exact .cons (.tup hb (keyP_rep _)) (keys_rep t ht)
theorem cr_sortedTF {X : Cx} (hc : X.calm = true) (hu : X.A.units + 100 < cLine) : CallR X (.builtin "sorted") (rL X.K sortedTF) := by
  refine call_of fun pins s σ H xs us Q F ps r I rx fz sz r1 e k => ?_
  unfold sortedTF at e
  split at e
  case h_2 => cases e
  rename_i ys
  split at e
  case isFalse => cases e
  rename_i h
  cases e
  rw [Bool.and_eq_true] at h
  obtain ⟨hcm, hst⟩ := h
  obtain ⟨h1, h2, _, h4⟩ := comparable_ok hcm
  obtain ⟨c1, c2, c3⟩ := all_shaped h1
  obtain ⟨v, rfl, q1⟩ := r1.one
  obtain ⟨u, rfl, ru⟩ := rx.one
  obtain ⟨a, rfl, D⟩ := q1.dic rfl
  cases ru
  cases D with
  | @dt kvs _ hH rt =>
  obtain ⟨z, hs, ks, pr, o, es, ep, ho, hx, hdt, he, hn⟩ := (show ObjOk X.prog X.w H s.heap a (.dT kvs) from I.hok a _ hH)
  have l1 : es.size = ks.length := size_of_entries he
  have l2 : kvs.length = ks.length := Paired.length pr
  refine Calls.call_function_entry PyProof.Rows.kind_sorted PyProof.Rows.plain_sorted PyProof.Rows.entry_sorted (PyProof.Rows.args_sorted1 _) ?_
  unfold Builtin.«sorted»
  refine wpAny_bind (m := checkCount "sorted" 1 1 _) (wpAny_pure ?_)
  refine wpAny_bind (PySem.W.kdu_collect (A := X.A.in1) (kdl_raw hs hx hdt) (I.ok.hd hc) ho (by rw [l1, ← l2]; exact z) fun g' tk acc keep it => ?_)
  -- what was gathered
  have ea : acc.toList = (ks.map fun x => x.2.1).map Value.ref := by
    have hl : acc.toList.length = ks.length := (Array.length_toList ..).trans (it.1.trans l1)
    apply List.ext_getElem?
    intro j
    rw [List.getElem?_map, List.getElem?_map]
    rcases hj : acc.toList[j]? with _ | v
    · have := List.getElem?_eq_none_iff.mp hj
      rw [List.getElem?_eq_none (by omega)]
      rfl
    · obtain ⟨en, hen, hv⟩ := it.2 j v (by rw [← Array.getElem?_toList]; exact hj)
      have qe := entry_at he j
      rw [hen] at qe
      rcases hb : ks[j]? with _ | b
      · rw [hb] at qe; exact nomatch (show some en = none from qe)
      · rw [hb] at qe
        have e2 : en = entryOfKey (tupleKind (mixKind X.prog X.w)) b := Option.some.inj qe
        rw [hv, e2]
        rfl
  have rk : RepL X.K F H ((ks.map fun x => x.2.1).map V.ref) (ys.map fun p => keyT p.1) := keys_rep rt (isKeys_of pr)
  have rv : Vals ((ks.map fun x => x.2.1).map V.ref) acc.toList := ea ▸ vals_refs _
  generalize ys.map (fun p => keyT p.1) = xs at *
  generalize (ks.map fun x => x.2.1).map V.ref = vs at *
  have I1 : Inv X pins σ H { s with heap := g', toks := tk } := I.kept keep
  obtain ⟨as, rd⟩ := Dp.readsAll I1 _ _ _ (RepL.dp c3 rk) rv
  have el := each_vals rv rk
  have er := reads_each rd
  have lx : acc.toList.length = xs.length := rv.length.symm.trans rk.length
  have lk : acc.toList.length ≤ sizeLine := by rw [ea]; simp only [List.length_map]; omega
  refine wpAny_bind (wpAny_newList ?_ lk)
  have hoL : (g'.push (seqObj "list" acc.toList.toArray 0)).get? g'.objs.size = some (seqObj "list" acc.toList.toArray 0) := Heap.get?_push_size _ rfl
  show wpAny _ _ _ _ _ { s with heap := g'.push (seqObj "list" acc.toList.toArray 0), toks := tk }
  have dd : ∀ x ∈ xs, (toD x).depth ≤ 60 := fun x hx => depth_le (by rw [toDs_map] at c2; exact c2) _ (List.mem_map_of_mem hx)
  -- the end
  have fin : ∀ out : List Value, out.length ≤ sizeLine → PySem.W.EachIs (fun u x => ∃ v, RelV v u ∧ Rep X.K F H v x) out (sortL xs) →
      EP X pins σ Q (.ref g'.objs.size) { s with heap := sortedHeap (g'.push (seqObj "list" acc.toList.toArray 0)) g'.objs.size acc.toList (List.toArray out), toks := tk } := fun out hl ho => by
    obtain ⟨ws, va, ra⟩ := vals_each ho
    obtain ⟨e', he'⟩ := PyProof.Rows.sortedHeap_at (vs := acc.toList) (out := List.toArray out) hoL
    have np : H g'.objs.size = none := I1.hok.fresh (Nat.le_refl _)
    obtain ⟨N, R⟩ := new_list fz np ra
    refine ⟨.ref g'.objs.size, _, I1.laid (t' := tk) (fun b u e => ?_) (Nat.le_refl _) (show ObjOk X.prog X.w _ _ _ (.lst ws) from ⟨by rw [va.length]; exact hl, out, e', va, he'⟩), rfl, k _ _ _ N R⟩
    have hb : b < g'.objs.size := Heap.lt_size e
    rw [PyProof.Rows.sortedHeap_old (Nat.ne_of_lt hb) (by rw [Heap.size_push]; exact Nat.lt_succ_of_lt hb)]
    exact Heap.get?_push_of_some _ e
  have lm : (sortL xs).length = xs.length := List.length_mergeSort ..
  have er2 : PySem.W.EachIs (fun v b => ∃ as, Reads (g'.push (seqObj "list" acc.toList.toArray 0)) v (toD b) as ∧ g'.objs.size ∉ as) acc.toList xs := er.mono fun v b ⟨as, q⟩ =>
    ⟨as, Reads.keeps (fun _ _ => Heap.get?_push_of_some _) q, fun hm => by obtain ⟨o, e⟩ := PyProof.On.reads_mem_get q _ hm; exact absurd (Heap.lt_size e) (Nat.lt_irrefl _)⟩
  rcases sortable_ok hst h4 with hso | ⟨d, rfl⟩
  · exact wpAny_bind (wpAny_holding (PySem.W.list_sort_data (R := fun u x => ∃ v, RelV v u ∧ Rep X.K F H v x) (enc := toD) hoL el er2 (alikeB_all h2) hso (by omega) (fun b hb => by have := dd b hb; show X.A.units + 1 + 1 + _ < _; omega) fun out hl ho => wpAny_pure ⟨_, rfl, fin out (by omega) ho⟩))
  · have al : PySem.W.AllAlike ([d].map toD) := alikeB_all h2
    generalize acc.toList = its at *
    match its, rv, el, er2 with
    | [], _, el, _ => cases el
    | _ :: _ :: _, _, el, _ => cases el with | cons _ t => cases t
    | [u], rv, el, er2 =>
    have ek := PySem.W.each_keepBut (h' := PySem.W.sortingHeap (g'.push (seqObj "list" [u].toArray 0)) g'.objs.size [u]) (fun _ _ hb q => PySem.W.sortingHeap_old hb q) (fun o q => by rw [hoL] at q; rw [← Option.some.inj q]) al er2
    obtain ⟨bs, rdu⟩ : ∃ bs, Reads (PySem.W.sortingHeap (g'.push (seqObj "list" [u].toArray 0)) g'.objs.size [u]) u (toD d) bs := by
      cases ek with | cons r _ => exact r
    have dd := dd d (by simp)
    have hd : toD d ≠ .none := fun z => by
      have := h4 d (by simp)
      cases d <;> simp [toD, isNone] at z this
    have q := PySem.W.sortVals_data (R := fun u x => ∃ v, RelV v u ∧ Rep X.K F H v x) (enc := toD) false el ek al
    refine wpAny_bind (wpAny_holding (wpAny_call_entry PyProof.Rows.slot_list_sort ⟨_, hoL, rfl⟩ PyProof.Rows.entry_list_sort (PySem.W.list_sort_vals (κ := PySem.W.dataKind (PySem.W.sortingHeap (g'.push (seqObj "list" [u].toArray 0)) g'.objs.size [u]) [toD d]) hoL
      (sortsAt_one (s := { s with heap := PySem.W.sortingHeap (g'.push (seqObj "list" [u].toArray 0)) g'.objs.size [u], toks := tk }) rdu (al _ (by simp) _ (by simp)) hd (by show X.A.units + 1 + 1 + _ < _; omega)) (by simp; rw [sizeLine_eq]; omega) ⟨.none, rfl, ?_⟩) (PyProof.Rows.args_list_sort _)))
    exact wpAny_pure ⟨_, rfl, fin _ (by rw [PySem.W.sortVals_length false rfl]; simp; rw [sizeLine_eq]; omega) q⟩
end PP

/-! PP, part x: tools for the plain laws: loops and comprehensions over typed lists, rows of numbers. -/
namespace QQ
open PP
open L2 (atI ixN)
section
variable {α β S T R : Type}
/-! comprehensions -/
theorem cmpM_map {f : PV → Option PV} {g h : α → PV} : ∀ {xs : List α}, (∀ x ∈ xs, f (g x) = some (h x)) → cmpM f (xs.map g) = some (xs.map h)
  | [], _ => rfl
  | x :: xs, H => by
    rw [List.map_cons, cmpM, H x List.mem_cons_self, Option.bind_some, cmpM_map fun y hy => H y (List.mem_cons_of_mem _ hy)]
    rfl
theorem cmpM_list {f : PV → Option PV} {h : PV → PV} {xs : List PV} (H : ∀ x ∈ xs, f x = some (h x)) : cmpM f xs = some (xs.map h) := by
  have := cmpM_map (f := f) (g := id) (h := h) (xs := xs) H
  rwa [List.map_id] at this
theorem cmpG_map {f : PV → Option (Option PV)} {g h : α → PV} {p : α → Bool} : ∀ {xs : List α}, (∀ x ∈ xs, f (g x) = if p x = true then some (some (h x)) else some none) → cmpG f (xs.map g) = some ((xs.filter p).map h)
  | [], _ => rfl
  | x :: xs, H => by
    have H1 := H x List.mem_cons_self
    have ih := cmpG_map fun y hy => H y (List.mem_cons_of_mem _ hy)
    rw [List.map_cons, cmpG, H1]
    by_cases hp : p x = true
    · rw [if_pos hp, Option.bind_some, ih, List.filter_cons_of_pos hp]; rfl
    · rw [if_neg hp, Option.bind_some, ih, List.filter_cons_of_neg hp]; rfl
theorem cmpB_map {f : PV → Option (List PV)} {g : α → PV} {h : α → List PV} : ∀ {xs : List α}, (∀ x ∈ xs, f (g x) = some (h x)) → cmpB f (xs.map g) = some (xs.flatMap h)
  | [], _ => rfl
  | x :: xs, H => by
    rw [List.map_cons, cmpB, H x List.mem_cons_self, Option.bind_some, cmpB_map fun y hy => H y (List.mem_cons_of_mem _ hy)]
    rfl
/-- with a state of which not all is said -/
theorem cmpT_each {f : S → PV → Option (PV × S)} {E : T → S} {P : T → Prop} {G : PV → PV → Prop} : ∀ {xs : List PV}, (∀ x ∈ xs, ∀ t, P t → ∃ y t', f (E t) x = some (y, E t') ∧ P t' ∧ G x y) → ∀ {t}, P t → ∃ ys t', cmpT f xs (E t) = some (ys, E t') ∧ P t' ∧ Each G xs ys
  | [], _, t, h => ⟨[], t, rfl, h, .nil⟩
  | x :: xs, H, t, h => by
    obtain ⟨y, t1, e1, h1, g1⟩ := H x List.mem_cons_self t h
    obtain ⟨ys, t2, e2, h2, g2⟩ := cmpT_each (fun z hz => H z (List.mem_cons_of_mem _ hz)) h1
    exact ⟨y :: ys, t2, by rw [cmpT, e1, Option.bind_some, e2]; rfl, h2, .cons g1 g2⟩
theorem cmpS_made {f : S → PV → Option (Option PV × S)} {E : T → S} {P : T → Prop} {G : PV → PV → Prop} : ∀ {xs : List PV}, (∀ x ∈ xs, ∀ t, P t → ∃ r t', f (E t) x = some (r, E t') ∧ P t' ∧ ∀ y, r = some y → G x y) → ∀ {t}, P t → ∃ ys t', cmpS f xs (E t) = some (ys, E t') ∧ P t' ∧ Made G xs ys
  | [], _, t, h => ⟨[], t, rfl, h, .nil⟩
  | x :: xs, H, t, h => by
    obtain ⟨r, t1, e1, h1, g1⟩ := H x List.mem_cons_self t h
    obtain ⟨ys, t2, e2, h2, g2⟩ := cmpS_made (fun z hz => H z (List.mem_cons_of_mem _ hz)) h1
    cases r with
    | none => exact ⟨ys, t2, by rw [cmpS, e1, Option.bind_some, e2]; rfl, h2, .skip g2⟩
    | some y => exact ⟨y :: ys, t2, by rw [cmpS, e1, Option.bind_some, e2]; rfl, h2, .take (g1 y rfl) g2⟩
/-! loops -/
theorem fldM_inv {f : S → PV → Option S} {P : List PV → S → Prop} (step : ∀ x xs s, P (x :: xs) s → ∃ s', f s x = some s' ∧ P xs s') : ∀ xs s, P xs s → ∃ s', fldM f xs s = some s' ∧ P [] s'
  | [], s, h => ⟨s, rfl, h⟩
  | x :: xs, s, h => by
    obtain ⟨s1, e1, h1⟩ := step x xs s h
    obtain ⟨s2, e2, h2⟩ := fldM_inv step xs s1 h1
    exact ⟨s2, by rw [fldM, e1, Option.bind_some, e2], h2⟩
theorem fldM_map {f : S → PV → Option S} {E : T → S} {g : α → PV} {k : T → α → T} (I : Nat → T → Prop) : ∀ (xs : List α) (n : Nat) (t : T), (∀ i t x, x ∈ xs → n ≤ i → i < n + xs.length → I i t → f (E t) (g x) = some (E (k t x)) ∧ I (i + 1) (k t x)) → I n t → fldM f (xs.map g) (E t) = some (E (xs.foldl k t)) ∧ I (n + xs.length) (xs.foldl k t)
  | [], n, t, _, h => ⟨rfl, h⟩
  | x :: xs, n, t, H, h => by
    obtain ⟨e1, h1⟩ := H n t x List.mem_cons_self (Nat.le_refl _) (by simp) h
    obtain ⟨e2, h2⟩ := fldM_map I xs (n + 1) (k t x) (fun i t y hy hi hl hI => H i t y (List.mem_cons_of_mem _ hy) (by omega) (by simp; omega) hI) h1
    refine ⟨by rw [List.map_cons, fldM, e1, Option.bind_some, e2]; rfl, ?_⟩
    have e : n + (x :: xs).length = n + 1 + xs.length := by simp; omega
    rw [e]
    exact h2
/-- .. without a bound -/
theorem fldM_all {f : S → PV → Option S} {E : T → S} {g : α → PV} {k : T → α → T} (xs : List α) (t : T) (H : ∀ t x, x ∈ xs → f (E t) (g x) = some (E (k t x))) : fldM f (xs.map g) (E t) = some (E (xs.foldl k t)) :=
  (fldM_map (fun _ _ => True) xs 0 t (fun i t x hx _ _ _ => ⟨H t x hx, trivial⟩) trivial).1
/-- a loop that goes on or returns -/
theorem fldR_inv {f : S → PV → Option (S ⊕ R)} {P : List PV → S → Prop} {Q : R → Prop} (step : ∀ x xs s, P (x :: xs) s → (∃ s', f s x = some (.inl s') ∧ P xs s') ∨ ∃ v, f s x = some (.inr v) ∧ Q v) : ∀ xs s, P xs s → (∃ s', fldR f xs s = some (.inl s') ∧ P [] s') ∨ ∃ v, fldR f xs s = some (.inr v) ∧ Q v
  | [], s, h => .inl ⟨s, rfl, h⟩
  | x :: xs, s, h => by
    rcases step x xs s h with ⟨s1, e1, h1⟩ | ⟨v, e1, h1⟩
    · rcases fldR_inv step xs s1 h1 with ⟨s2, e2, h2⟩ | ⟨v, e2, h2⟩
      · exact .inl ⟨s2, by rw [fldR, e1, Option.bind_some]; exact e2, h2⟩
      · exact .inr ⟨v, by rw [fldR, e1, Option.bind_some]; exact e2, h2⟩
    · exact .inr ⟨v, by rw [fldR, e1]; rfl, h1⟩
/-- it never returns -/
theorem fldR_go {f : S → PV → Option (S ⊕ R)} {P : List PV → S → Prop} (step : ∀ x xs s, P (x :: xs) s → ∃ s', f s x = some (.inl s') ∧ P xs s') (xs : List PV) (s : S) (h : P xs s) : ∃ s', fldR f xs s = some (.inl s') ∧ P [] s' := by
  rcases fldR_inv (Q := fun _ => False) (fun x xs s h => .inl (step x xs s h)) xs s h with z | ⟨_, _, z⟩
  · exact z
  · exact z.elim
/-- the first item that makes it return -/
theorem fldR_find {f : Unit → PV → Option (Unit ⊕ R)} {g : α → PV} {p : α → Bool} {v : α → R} : ∀ {xs : List α}, (∀ x ∈ xs, f () (g x) = if p x = true then some (.inr (v x)) else some (.inl ())) → fldR f (xs.map g) () = some (match xs.find? p with | some x => .inr (v x) | none => .inl ())
  | [], _ => rfl
  | x :: xs, H => by
    have H1 := H x List.mem_cons_self
    rw [List.map_cons, fldR, H1]
    by_cases hp : p x = true
    · rw [if_pos hp, List.find?_cons_of_pos hp]; rfl
    · rw [if_neg hp, List.find?_cons_of_neg hp, Option.bind_some]
      exact fldR_find fun y hy => H y (List.mem_cons_of_mem _ hy)
end
/-! ### what ends, and how -/
def Ok {β : Type} (o : Option β) (Q : β → Prop) : Prop := ∃ r, o = some r ∧ Q r
section
variable {α β γ S T R : Type} {Q : β → Prop}
theorem Ok.s {v : β} (h : Q v) : Ok (some v) Q := ⟨v, rfl, h⟩
theorem Ok.bind {o : Option α} {k : α → Option β} (h : Ok o fun v => Ok (k v) Q) : Ok (o.bind k) Q := by
  obtain ⟨v, e, r, e2, q⟩ := h
  exact ⟨r, by rw [e]; exact e2, q⟩
theorem Ok.of {o : Option β} {v : β} (e : o = some v) (h : Q v) : Ok o Q := ⟨v, e, h⟩
theorem Ok.imp {o : Option β} {Q' : β → Prop} (h : Ok o Q') (i : ∀ v, Q' v → Q v) : Ok o Q := by
  obtain ⟨r, e, q⟩ := h
  exact ⟨r, e, i r q⟩
theorem Ok.then {o : Option α} {k : α → Option β} {P : α → Prop} (h : Ok o P) (i : ∀ v, P v → Ok (k v) Q) : Ok (o.bind k) Q := Ok.bind (h.imp i)
theorem Ok.fld {f : S → PV → Option S} {xs : List PV} {s : S} {Q : S → Prop} (P : List PV → S → Prop) (start : P xs s) (step : ∀ x xs s, P (x :: xs) s → Ok (f s x) fun s' => P xs s') (done : ∀ s, P [] s → Q s) : Ok (fldM f xs s) Q := by
  obtain ⟨s', e, h⟩ := fldM_inv (f := f) (P := P) (fun x xs s h => step x xs s h) xs s start
  exact ⟨s', e, done s' h⟩
theorem Ok.fldR {f : S → PV → Option (S ⊕ R)} {xs : List PV} {s : S} {Q : S ⊕ R → Prop} (P : List PV → S → Prop) (start : P xs s) (step : ∀ x xs s, P (x :: xs) s → Ok (f s x) fun r => match r with | .inl s' => P xs s' | .inr v => Q (.inr v)) (done : ∀ s, P [] s → Q (.inl s)) : Ok (fldR f xs s) Q := by
  rcases fldR_inv (f := f) (P := P) (Q := fun v => Q (.inr v)) (fun x xs s h => by
    obtain ⟨r, e, q⟩ := step x xs s h
    cases r with
    | inl s' => exact .inl ⟨s', e, q⟩
    | inr v => exact .inr ⟨v, e, q⟩) xs s start with ⟨s', e, h⟩ | ⟨v, e, h⟩
  · exact ⟨_, e, done s' h⟩
  · exact ⟨_, e, h⟩
theorem Ok.cmpT {f : S → PV → Option (PV × S)} {xs : List PV} {s : S} {Q : List PV × S → Prop} (P : S → Prop) (G : PV → PV → Prop) (start : P s) (step : ∀ x ∈ xs, ∀ s, P s → Ok (f s x) fun r => G x r.1 ∧ P r.2) (done : ∀ ys s, P s → Each G xs ys → Q (ys, s)) : Ok (cmpT f xs s) Q := by
  obtain ⟨ys, s', e, h, g⟩ := cmpT_each (f := f) (E := id) (P := P) (G := G) (xs := xs) (fun x hx s h => by obtain ⟨⟨y, s'⟩, e, g, h⟩ := step x hx s h; exact ⟨y, s', e, h, g⟩) start
  exact ⟨_, e, done ys s' h g⟩
theorem Ok.cmpS {f : S → PV → Option (Option PV × S)} {xs : List PV} {s : S} {Q : List PV × S → Prop} (P : S → Prop) (G : PV → PV → Prop) (start : P s) (step : ∀ x ∈ xs, ∀ s, P s → Ok (f s x) fun r => P r.2 ∧ ∀ y, r.1 = some y → G x y) (done : ∀ ys s, P s → Made G xs ys → Q (ys, s)) : Ok (cmpS f xs s) Q := by
  obtain ⟨ys, s', e, h, g⟩ := cmpS_made (f := f) (E := id) (P := P) (G := G) (xs := xs) (fun x hx s h => by obtain ⟨⟨y, s'⟩, e, h, g⟩ := step x hx s h; exact ⟨y, s', e, h, g⟩) start
  exact ⟨_, e, done ys s' h g⟩
end
/-! ### what the evaluation knows -/
section
@[simp] theorem asL_l {xs : List PV} : asL (.lst xs) = some xs := id rfl
@[simp] theorem asI_i {i : Int} : asI (.int i) = some i := id rfl
@[simp] theorem mAV_true {k : Option PV} : mAV (.bl true) k = k := id rfl
@[simp] theorem mAV_false {k : Option PV} : mAV (.bl false) k = some (.bl false) := id rfl
@[simp] theorem mOV_true {k : Option PV} : mOV (.bl true) k = some (.bl true) := id rfl
@[simp] theorem mOV_false {k : Option PV} : mOV (.bl false) k = k := id rfl
@[simp] theorem guard1_true : guard1 true = some () := id rfl
@[simp] theorem mSum_inl {S R β : Type} {s : S} {f : S → Option β} {g : R → Option β} : mSum (.inl s) f g = f s := id rfl
@[simp] theorem mSum_inr {S R β : Type} {s : R} {f : S → Option β} {g : R → Option β} : mSum (.inr s) f g = g s := id rfl
@[simp] theorem un2_t {p q : PV} : un2 (.tup [p, q]) = some (p, q) := id rfl
@[simp] theorem un3_t {p q r : PV} : un3 (.tup [p, q, r]) = some (p, q, r) := id rfl
@[simp] theorem isTy_ii (i : Int) : isTy .int (.int i) = true := id rfl
@[simp] theorem isTy_bi (i : Int) : isTy .bool (.int i) = false := id rfl
@[simp] theorem isTy_tt (xs : List PV) : isTy .tuple (.tup xs) = true := id rfl
@[simp] theorem isTy_tf (xs : List PV) : isTy .tuple (.fup xs) = true := id rfl
@[simp] theorem isTy_bb (b : Bool) : isTy .bool (.bl b) = true := id rfl
@[simp] theorem isTy_ll (xs : List PV) : isTy .list (.lst xs) = true := id rfl
@[simp] theorem isTy_in : isTy .int .non = false := id rfl
@[simp] theorem isSeqI_f (xs : List PV) : isSeqI (.fup xs) = true := id rfl
@[simp] theorem isSeqI_l (xs : List PV) : isSeqI (.lst xs) = true := id rfl
@[simp] theorem rgO1_nat {n : Nat} (h : n ≤ 16777216) : rgO1 (.int n) = some (0, (n : Int)) := by
  show (if _ then _ else _) = _
  rw [if_pos (by omega)]
def rgN (n : Nat) : List PV := (List.range n).map fun i : Nat => .int (i : Int)
@[simp] theorem rgL_nat {n : Nat} : rgL (0, (n : Int)) = rgN n := by
  unfold rgL rgN rngP
  simp
theorem rgO2_ok {i j : Int} (hi : 0 ≤ i ∧ i ≤ 1000000) (hj : 0 ≤ j ∧ j ≤ 1000000) : rgO2 (.int i) (.int j) = some (i, j) := by
  show (if _ then _ else _) = _
  rw [if_pos (by omega)]
theorem rgL_def {i j : Int} : rgL (i, j) = rngP i (j - i).toNat := rfl
end
/-! ### numbers -/
theorem modF_int (i j : Int) (h : 0 < j) : modF (.int i) (.int j) = some (.int (i % j)) := by
  simp only [modF, intF]; rw [if_pos (by simpa using h)]
theorem divF_int (i j : Int) (h : 0 < j ∧ j < 1073741824) : divF (.int i) (.int j) = some (.int (i / j)) := by
  simp only [divF, intF]; rw [if_pos (by simpa using h)]
theorem mulF_int (i j : Int) (h : -(2 ^ 64) < i ∧ i < 2 ^ 64 ∨ -(2 ^ 64) < j ∧ j < 2 ^ 64) : mulF (.int i) (.int j) = some (.int (i * j)) := by
  simp only [mulF, intF]; rw [if_pos (by simpa using h)]
theorem getF_at (ns : List Int) (k : Nat) (h : k < ns.length) : getF (.lst (ns.map PV.int)) (.int k) = some (.int ns[k]) := getF_seq rfl (by simp [h])
theorem pow18 : powF (.int 10) (.int 18) = some (.int 1000000000000000000) := by
  simp only [powF, intF]
  rw [if_pos (by decide)]
  rfl
theorem appendF_ok (xs : List PV) (y : PV) (h : xs.length < 1000000) : appendF xs [y] = some (.non, xs ++ [y]) := by
  simp only [appendF]; rw [if_pos h]
theorem addL_ok (xs ys : List PV) (h : xs.length + ys.length ≤ 10000000) : addF (.lst xs) (.lst ys) = some (.lst (xs ++ ys)) := by
  simp only [addF]; rw [if_pos (by rw [PySem.sizeLine_eq]; omega)]
theorem addT_ok (xs ys : List PV) (h : xs.length + ys.length ≤ 10000000) : addF (.tup xs) (.tup ys) = some (.tup (xs ++ ys)) := by
  simp only [addF]; rw [if_pos (by rw [PySem.sizeLine_eq]; omega)]
theorem mLim_ok (xs : List PV) (h : xs.length ≤ 1000000) : mLim xs = some xs := if_pos h
theorem getF_mid {α : Type} {f : α → PV} {d : PV} {l : List α} (hd : seqOf d = some (l.map f)) (i : Int) (h0 : 0 ≤ i) (h1 : i < l.length) : ∃ a, a ∈ l ∧ l[i.toNat]? = some a ∧ getF d (.int i) = some (f a) := by
  have hl : i.toNat < l.length := by omega
  refine ⟨l[i.toNat], List.getElem_mem hl, by simp [hl], ?_⟩
  have := getF_seq (d := d) (xs := l.map f) (k := i.toNat) (x := f l[i.toNat]) hd (by simp [hl])
  rwa [show ((i.toNat : Nat) : Int) = i by omega] at this
/-! ### rows of numbers -/
abbrev tI (l : List Int) : PV := .tup (l.map PV.int)
theorem toInts_ints : ∀ l : List Int, toInts (l.map PV.int) = some l
  | [] => rfl
  | x :: r => by simp [toInts, toInts_ints r]
theorem eqv_int (a b : Int) : eqv (.int a) (.int b) = decide (a = b) := by
  simp only [eqv, toD, PySem.PyData.eqv]; rfl
theorem eqv_ints : ∀ a b : List Int, PySem.PyData.eqvAll (a.map PySem.PyData.int) (b.map PySem.PyData.int) = decide (a = b)
  | [], [] => by simp [PySem.PyData.eqvAll]
  | [], _ :: _ => by simp [PySem.PyData.eqvAll]
  | _ :: _, [] => by simp [PySem.PyData.eqvAll]
  | x :: xs, y :: ys => by
    simp only [List.map_cons, PySem.PyData.eqvAll, eqv_ints xs ys, PySem.PyData.eqv]
    by_cases h1 : x = y <;> by_cases h2 : xs = ys <;> simp [h1, h2]
theorem eqv_tI (a b : List Int) : eqv (tI a) (tI b) = decide (a = b) := by
  simp only [eqv, toD, PySem.PyData.eqv, toDs_ints, eqv_ints]
theorem any_int (x : Int) (l : List Int) : (l.map PV.int).any (fun z => eqv z (.int x)) = decide (x ∈ l) := by
  rw [List.any_map]
  have e : ((fun z => eqv z (PV.int x)) ∘ PV.int) = fun z : Int => decide (z = x) := by
    funext z; exact eqv_int z x
  rw [e]
  by_cases h : x ∈ l
  · rw [decide_eq_true h, List.any_eq_true]
    exact ⟨x, h, by simp⟩
  · rw [decide_eq_false h, List.any_eq_false]
    intro z hz
    simp only [decide_eq_true_eq]
    rintro rfl
    exact h hz
theorem okD_lst {l : List PV} (h : l.all (okD 59) = true) : okD 60 (.lst l) = true := by simpa [okD] using h
theorem okD_tup {n : Nat} {l : List PV} (h : l.all (okD n) = true) : okD (n + 1) (.tup l) = true := by simpa [okD] using h
theorem okD_fup {n : Nat} {l : List PV} (h : l.all (okD n) = true) : okD (n + 1) (.fup l) = true := by simpa [okD] using h
theorem okD_tI (n : Nat) (l : List Int) : okD (n + 1) (tI l) = true := okD_tup (okD_ints n l)
@[simp] theorem notInF_l (x : Int) (l : List Int) : notInF (.int x) (.lst (l.map PV.int)) = some (.bl (!decide (x ∈ l))) := by
  simp only [notInF, seqOf_lst]
  rw [okD_int, okD_lst (okD_ints 59 l), any_int]
  rfl
@[simp] theorem inF_l (x : Int) (l : List Int) : inF (.int x) (.lst (l.map PV.int)) = some (.bl (decide (x ∈ l))) := by
  simp only [inF, seqOf_lst]
  rw [okD_int, okD_lst (okD_ints 59 l), any_int]
  rfl
@[simp] theorem inF_t (x : Int) (l : List Int) : inF (.int x) (.tup (l.map PV.int)) = some (.bl (decide (x ∈ l))) := by
  simp only [inF, seqOf_tup]
  rw [okD_int, okD_tup (okD_ints 59 l), any_int]
  rfl
@[simp] theorem inF_f (x : Int) (l : List Int) : inF (.int x) (.fup (l.map PV.int)) = some (.bl (decide (x ∈ l))) := by
  simp only [inF, seqOf_fup]
  rw [okD_int, okD_fup (okD_ints 59 l), any_int]
  rfl
@[simp] theorem notInF_t (x : Int) (l : List Int) : notInF (.int x) (.tup (l.map PV.int)) = some (.bl (!decide (x ∈ l))) := by
  simp only [notInF, seqOf_tup]
  rw [okD_int, okD_tup (okD_ints 59 l), any_int]
  rfl
@[simp] theorem eqF_tI (a b : List Int) : eqF (.tup (a.map PV.int)) (.tup (b.map PV.int)) = some (.bl (decide (a = b))) := by
  unfold eqF
  rw [okD_tI 59 a, okD_tI 59 b]
  show (if true = true then some (PV.bl (eqv (tI a) (tI b))) else none) = _
  rw [eqv_tI]
  rfl
@[simp] theorem lt_tI (a b : List Int) : ltF (.tup (a.map PV.int)) (.tup (b.map PV.int)) = some (.bl (HT.lexLt a b)) := by
  simp only [ltF, tupOf_tup, Option.bind_some, toInts_ints, Option.map_some]
theorem toBools_map {α : Type} (f : α → Bool) : ∀ l : List α, toBools (l.map fun a => PV.bl (f a)) = some (l.map f)
  | [] => rfl
  | a :: l => by simp [toBools, toBools_map f l]
theorem allF_map {α : Type} (f : α → Bool) (l : List α) : allF [.lst (l.map fun a => PV.bl (f a))] = some (.bl (l.all f)) := by
  simp only [allF, toBools_map f, Option.map_some, List.all_map]
  rfl
theorem anyF_map {α : Type} (f : α → Bool) (l : List α) : anyF [.lst (l.map fun a => PV.bl (f a))] = some (.bl (l.any f)) := by
  simp only [anyF, toBools_map f, Option.map_some, List.any_map]
  rfl
theorem all_true {α : Type} (l : List α) : allF [.lst (l.map fun _ => PV.bl true)] = some (.bl true) := by
  rw [allF_map (fun _ => true)]
  simp
/-- all of some that are true each -/
theorem cmp_all {α : Type} {f : PV → Option PV} {g : α → PV} {xs : List α} (H : ∀ x ∈ xs, f (g x) = some (.bl true)) : cmpM f (xs.map g) = some (xs.map fun _ => PV.bl true) := cmpM_map H
theorem zip_maps {α β : Type} (f : α → PV) (g : β → PV) : ∀ (xs : List α) (ys : List β), zipP (xs.map f) (ys.map g) = (xs.zip ys).map fun p => .tup [f p.1, g p.2]
  | [], _ => by simp [zipP]
  | _ :: _, [] => by simp [zipP]
  | x :: xs, y :: ys => by simp [zipP, zip_maps f g xs ys]
@[simp] theorem zipF_tt {α β : Type} (f : α → PV) (g : β → PV) (xs : List α) (ys : List β) : zipF (.tup (xs.map f)) (.tup (ys.map g)) = some ((xs.zip ys).map fun p => .tup [f p.1, g p.2]) := by
  simp only [zipF, tupOf_tup, Option.bind_some, Option.map_some, zip_maps]
@[simp] theorem zipF_ft {α β : Type} (f : α → PV) (g : β → PV) (xs : List α) (ys : List β) : zipF (.fup (xs.map f)) (.tup (ys.map g)) = some ((xs.zip ys).map fun p => .tup [f p.1, g p.2]) := by
  simp only [zipF, tupOf_tup, tupOf_fup, Option.bind_some, Option.map_some, zip_maps]
/-! ### which of the items stay -/
theorem each_map {α : Type} {G : PV → PV → Prop} {f : α → PV} {Q : α → Prop} (h : ∀ x y, G x y → ∃ l, y = f l ∧ Q l) : ∀ {xs ys : List PV}, Each G xs ys → ∃ ls : List α, ys = ls.map f ∧ (∀ l ∈ ls, Q l) ∧ ls.length = xs.length
  | _, _, .nil => ⟨[], rfl, by simp, rfl⟩
  | _, _, .cons g t => by
    obtain ⟨l, e, q⟩ := h _ _ g
    obtain ⟨ls, e1, q1, q2⟩ := each_map h t
    subst e e1
    exact ⟨l :: ls, rfl, fun z hz => (List.mem_cons.mp hz).elim (fun e => e ▸ q) (q1 z), by simp [q2]⟩
theorem made_same {α : Type} {G : PV → PV → Prop} {f : α → PV} (h : ∀ a y, G (f a) y → y = f a) : ∀ {as : List α} {ys : List PV}, Made G (as.map f) ys → ∃ zs : List α, ys = zs.map f ∧ zs.Sublist as
  | [], _, .nil => ⟨[], rfl, List.Sublist.refl _⟩
  | a :: as, _, .skip t => by
    obtain ⟨zs, h1, h2⟩ := made_same h t
    exact ⟨zs, h1, h2.cons a⟩
  | a :: as, _, .take g0 t => by
    obtain ⟨zs, h1, h2⟩ := made_same h t
    subst h1
    exact ⟨a :: zs, by rw [h a _ g0]; rfl, h2.cons₂ a⟩
theorem rngP_nil {i : Int} {n : Nat} (h : [] = rngP i n) : n = 0 := by
  cases n with
  | zero => rfl
  | succ n => rw [rngP_succ] at h; cases h
theorem rngP_cons {i : Int} {n : Nat} {x : PV} {xs : List PV} (h : x :: xs = rngP i n) : ∃ m, n = m + 1 ∧ x = .int i ∧ xs = rngP (i + 1) m := by
  cases n with
  | zero => rw [rngP_zero] at h; cases h
  | succ n => rw [rngP_succ] at h; cases h; exact ⟨n, rfl, rfl, rfl⟩
theorem rgN_rng (n : Nat) : rgN n = rngP 0 n := by
  unfold rgN rngP
  simp
/-! ### rows -/
def extL (v : Nat) (r : List Int) : List (List Int) := (List.range v).map fun x : Nat => r ++ [(x : Int)]
def rowsL (v : Nat) : Nat → List (List Int)
  | 0 => [[]]
  | n + 1 => (rowsL v n).flatMap (extL v)
theorem extL_len (v : Nat) (r : List Int) : (extL v r).length = v := by simp [extL]
theorem flat_len (v : Nat) : ∀ rs : List (List Int), (rs.flatMap (extL v)).length = rs.length * v
  | [] => by simp
  | r :: rs => by rw [List.flatMap_cons, List.length_append, flat_len v rs, extL_len, List.length_cons, Nat.succ_mul, Nat.add_comm]
theorem rowsL_len (v : Nat) : ∀ n, (rowsL v n).length = v ^ n
  | 0 => rfl
  | n + 1 => by rw [rowsL, flat_len, rowsL_len v n, Nat.pow_succ]
theorem rowsL_mem {v : Nat} : ∀ {n : Nat} {r : List Int}, r ∈ rowsL v n → r.length = n ∧ ∀ x ∈ r, 0 ≤ x ∧ x < v
  | 0, r, h => by simp [rowsL] at h; subst h; simp
  | n + 1, r, h => by
    rw [rowsL, List.mem_flatMap] at h
    obtain ⟨q, hq, h⟩ := h
    obtain ⟨x, hx, rfl⟩ := List.mem_map.mp h
    obtain ⟨a, b⟩ := rowsL_mem hq
    refine ⟨by simp [a], fun y hy => ?_⟩
    rcases List.mem_append.mp hy with hy | hy
    · exact b y hy
    · simp at hy hx; subst hy; omega
theorem rowsL_all {v : Nat} : ∀ {n : Nat} {r : List Int}, r.length = n → (∀ x ∈ r, 0 ≤ x ∧ x < v) → r ∈ rowsL v n
  | 0, r, h, _ => by
    have := List.length_eq_zero_iff.mp h
    subst this; simp [rowsL]
  | n + 1, r, h, hb => by
    have hne : r ≠ [] := fun e => by subst e; simp at h
    rw [rowsL, List.mem_flatMap]
    refine ⟨r.dropLast, rowsL_all (by simp [h]) fun x hx => hb x (List.dropLast_subset r hx), ?_⟩
    have hl := hb (r.getLast hne) (List.getLast_mem hne)
    unfold extL
    refine List.mem_map.mpr ⟨(r.getLast hne).toNat, List.mem_range.mpr (by omega), ?_⟩
    rw [show (((r.getLast hne).toNat : Nat) : Int) = r.getLast hne by omega]
    exact List.dropLast_concat_getLast hne
theorem lex_app : ∀ {a b : List Int} {c d : List Int}, a.length = b.length → HT.lexLt a b = true → HT.lexLt (a ++ c) (b ++ d) = true
  | [], [], _, _, _, h => by simp [HT.lexLt] at h
  | x :: xs, y :: ys, _, _, hl, h => by
    rw [List.cons_append, List.cons_append]
    rw [HT.lexLt_cons] at h ⊢
    by_cases e : x = y
    · rw [if_pos e] at h ⊢
      exact lex_app (by simpa using hl) h
    · rw [if_neg e] at h ⊢
      exact h
  | [], _ :: _, _, _, hl, _ => by simp at hl
  | _ :: _, [], _, _, hl, _ => by simp at hl
theorem lex_last (r : List Int) {x y : Int} (h : x < y) : HT.lexLt (r ++ [x]) (r ++ [y]) = true := by
  induction r with
  | nil =>
    show HT.lexLt [x] [y] = true
    rw [HT.lexLt_cons, if_neg (by omega)]
    simpa using h
  | cons a r ih => rw [List.cons_append, List.cons_append, HT.lexLt_cons, if_pos rfl]; exact ih
theorem rowsL_asc (v : Nat) : ∀ n, (rowsL v n).Pairwise fun a b => HT.lexLt a b = true
  | 0 => by simp [rowsL]
  | n + 1 => by
    rw [rowsL, List.pairwise_flatMap]
    refine ⟨fun r hr => ?_, ?_⟩
    · unfold extL
      rw [List.pairwise_map]
      exact List.pairwise_lt_range.imp fun {a b} h => lex_last r (by omega)
    · refine (rowsL_asc v n).imp_of_mem fun {a b} ha hb h => ?_
      intro p hp q hq
      obtain ⟨x, _, rfl⟩ := List.mem_map.mp hp
      obtain ⟨y, _, rfl⟩ := List.mem_map.mp hq
      exact lex_app ((rowsL_mem ha).1.trans (rowsL_mem hb).1.symm) h
theorem pow3 {v n : Nat} (hv : v ≤ 3) (hn : n ≤ 6) : v ^ n ≤ 729 := Nat.le_trans (Nat.pow_le_pow_left hv n) (Nat.le_trans (Nat.pow_le_pow_right (by omega) hn) (by decide))
theorem rng_ext (v : Nat) (r : List Int) : (rgN v).map (fun x => PV.tup (r.map PV.int ++ [x])) = (extL v r).map tI := by
  unfold rgN extL
  rw [List.map_map, List.map_map]
  apply List.map_congr_left
  intro i _
  simp [tI]
/-! ### rows with costs -/
def rowP (p : List Int × Int) : PV := .tup [tI p.1, .int p.2]
abbrev tabP (t : List (List Int × Int)) : PV := .tup (t.map rowP)
@[simp] theorem un2_row {p : List Int × Int} : un2 (rowP p) = some (tI p.1, .int p.2) := id rfl
@[simp] theorem getF_row0 {p : List Int × Int} : getF (rowP p) (.int 0) = some (tI p.1) := getF_t0 _ _
@[simp] theorem getF_row1 {p : List Int × Int} : getF (rowP p) (.int 1) = some (.int p.2) := getF_t1 _ _ _
@[simp] theorem lenF_row {p : List Int × Int} : lenF [rowP p] = some (.int 2) := id rfl
@[simp] theorem isTy_row {p : List Int × Int} : isTy .tuple (rowP p) = true := id rfl
end QQ

set_option maxHeartbeats 0
namespace WK
open PP
local macro_rules
  | `(tactic| simp! only [$xs:simpLemma,*]) => `(tactic| simp only [$xs,*, kR_s, kSeq_nx, kSeq_rt, kSeq_bk, sSeq_ev, sNil_ev, kRet_s, sRet_ev, sRetN_ev, sBreak_ev, kDrop_s, sDrop_ev, sIf_ev, kNx_s, kAsg_s, sAsg_ev, sOwn_ev, kFor_s, sFor_ev, dC_ev, kUn_s, dUn_ev, kB2_s, kB1_s, dBin_ev, kBR2_s, kBR_s, dBinR_ev, kBL3_s, kBL2_s, kBL_s, dBinL_ev, kA2_s, kA1_s, dArgs_nil, dArgs_cons, kAd_s, kAb3_s, kAb2_s, kAb_s, bArgs_nil, bArgs_d, bArgs_b, kCd_s, kCb2_s, kCb_s, cArgs_nil, cArgs_d, cArgs_b, kApp_s, dApp_ev, kCall2_s, kCall_s, dCall_ev, dCallN_ev, backE_nil, backE_d, backE_b, kTup_s, dTup_ev, kLst_s, dLst_ev, kT2_s, kDB_s, dB_ev, asBl_ev, kNot_s, dNot_ev, kAnd_t, kAnd_f, dAnd_ev, kOr_t, kOr_f, dOr_ev, kIfE_t, kIfE_f, dIf_ev, dYes_ev, kTr_s, dTruth_ev, dHead_d, dHead_b, dBack_d, dBack_b, kIs_s, dIsI_ev, kAV_t, kAV_f, dAndV_ev, kOV_f, kOV_t, dOrV_ev, notF_ev, kC3_t, kC3_f, kC2_s, kC1_s, dChain_ev, kM4_s, kM3_s, kM2_s, kM_s, dMut_ev, kS5_s, kS4_s, kS3_s, kS2_s, kS_s, sStore_ev, kRv2_s, dRecv_ev, kLR_s, dListRg_ev, kSq2_s, kSq_s, iSeq_ev, kLC2_s, kLC_s, dLC_ev, wipeE_nil, wipeE_cons, restoreE_nil, restoreE_cons, kTp_s, kTs_s, tupOf_fup, seqOf_tup, seqOf_fup, seqOf_lst, kV_s, dVar_0v, dVar_0o, dVar_s, slotv_0v, slotv_0o, slotv_s, ownv_0, ownv_s, ownL_0, ownL_s, keepV_0v, keepV_0o, keepV_0n, keepV_s, argE_nil, argE_t, argE_f, kO2_s, kO1_s, outsP_nil, outsP_t, outsP_f, kE2_s, kEnd_nx, kEnd_rt, kSeq_b, kRet_b, kRetK_s, kRetK_b, sRetK_ev, sPre_ev, sPost_ev, kPost_nx, kPost_bk, kPost_rt, kPost_b, sFz_ev, kFz_nx, kFz_b, fzE_0, fzE_n, runFN_ev, kFst_s, kFst_b, sNever_ev, kSeq_0, kPost_0, kEnd_0, kDrop_b, kIf_b, kIf_v, kNx_b, kAsg_b, kOwn_b, kFor_b, kR_b, kUn_b, kB1_b, kB2_b, kBR_b, kBL2_b, kA1_b, kA2_b, kAd_b, kAb2_b, kCd_b, kCb2_b, kApp_b, kCall_b, kCall2_b, kTup_b, kLst_b, kT2_b, kDB_b, kNot_b, kAnd_b, kAnd_v, kOr_b, kOr_v, kIfE_b, kIfE_v, kTr_b, kIs_b, kAV_b, kAV_v, kOV_b, kOV_v, mAV_t, mAV_f, mOV_t, mOV_f, kC1_b, kC2_b, kC3_b, ownL_0v, kM_b, kM2_b, kM3_b, kM4_b, kS_b, kS3_b, kS5_b, kRv_b, kRv2_b, kRv_v, kRv3_v, guard1_t, rngArg_ev, kRg_1, kRg_2, kLR_b, kLR_v, dTupRg_ev, kTR_b, kTR_v, iRange_ev, kIR_b, kIR_v, kSq_b, kSq2_b, iZip2_ev, kZp_b, kZp_v, dPart_ev, kPt_b, kPt_v, dNoPart_ev, dSlice_ev, kSl1_b, kSl1_s, kSl2_b, kSl2_s, kSl3_b, kSl3_s, kSl4_s, kT1_s, kT1_b, tgt_2, tgt_3, kPs_s, putS_0, putS_n, tgt_nmP, kOwn_P, kE2_b, kEnd_b, kSeq_i, kPost_i, kEnd_i, mTail_s, mTail_0, mTail_b, mTail_i, mTail_AV, mTail_OV, mSum_l, mSum_r, kSeq_S, kEnd_S, kPost_S, kSeq_m, kEnd_m, kPost_m, mTail_m, flS_l, flS_r, turn_ev, kTn_s, kTn_b, turnL_ev, kL1_s, kL1_b, kL2_v, kL2_t, kL2_b, kL3_s, kL3_b, lc_S, kLC_b, kLC2_b, mTail_fldM, mTail_fldR, mTail_whlM, mTail_cmpM, mTail_cmpG, mTail_cmpT, mTail_cmpS, kB3_s, kB3_b, kBS_s, kBS_b, kBT_t, kBT_v, kBT_b, kBG_s, kBG_b, turnB_ev, kLD2_s, kLD2_b, kLD_s, kLD_b, dLC2_ev, mTail_cmpB, Option.bind_some, Option.bind_none, Option.bind_assoc, List.set_cons_zero, List.set_cons_succ, List.replicate_succ, List.replicate_zero, List.cons_append, List.nil_append, List.map_cons, List.map_nil, if_true, if_false, eq_self, Bool.false_eq_true, Bool.not_true, Bool.not_false, kRg_b, kIf_t, kIf_f])

def d__law_stream : Den := (dLst [(dApp listF [.d (dVar 0)]), (dC (.int 0)), (dC (.int 0))])
def s__law_stream : FSemN := runFN 0 d__law_stream
def m__law_stream (s0 : PV) : Option PV := (listF [s0]).bind fun t1 => some (.lst [t1, (.int 0), (.int 0)])
theorem q__law_stream (s0 : PV) : s__law_stream [s0] = m__law_stream s0 := by
  simp! only [s__law_stream, d__law_stream, m__law_stream, runFN_ev]
def D__law_next_2 : DenS := (sIf (dB (dBin ltF (dVar 2) (dApp lenF [.d (dBinL getF 0 (dC (.int 0)))]))) (sSeq (sAsg (.nm 3) (dApp absF [.d (dBin getF (dBinL getF 0 (dC (.int 0))) (dVar 2))])) sNil) sNil)
theorem D__law_next_2_q (s0 s1 s2 s3 : PV) : D__law_next_2 [.own s0, .val s1, .val s2, .val s3, .no] = ((getF s0 (.int 0)).bind fun t6 => (lenF [t6]).bind fun t7 => (ltF s2 t7).bind fun t8 => (asBl t8).bind fun b9 => if b9 = true then (getF s0 (.int 0)).bind fun t10 => (getF t10 s2).bind fun t11 => (absF [t11]).bind fun t12 => some t12 else some s3).bind fun (k : PV) => some (.nx [.own s0, .val s1, .val s2, .val k, .no]) := by
  refine Eq.trans ?_ (mTail_eq _ _); simp! only [D__law_next_2]
def D__law_next_3 : DenS := (sIf (dB (dBin ltF (dVar 3) (dBin powF (dC (.int 10)) (dC (.int 18))))) (sSeq (sAsg (.nm 3) (dBin modF (dApp intTF [.d (dBin addF (dBin addF (dBin mulF (dVar 3) (dC (.int 48271))) (dBin mulF (dVar 2) (dC (.int 69621)))) (dC (.int 11)))]) (dC (.int 2147483647)))) (sSeq (sAsg (.nm 3) (dBin addF (dBin mulF (dBin modF (dApp intTF [.d (dBin addF (dBin mulF (dVar 3) (dC (.int 16807))) (dC (.int 13)))]) (dC (.int 2147483647))) (dC (.int 65537))) (dVar 3))) sNil)) sNil)
theorem D__law_next_3_q (s0 s1 s2 s3 : PV) : D__law_next_3 [.own s0, .val s1, .val s2, .val s3, .no] = ((powF (.int 10) (.int 18)).bind fun t14 => (ltF s3 t14).bind fun t15 => (asBl t15).bind fun b16 => if b16 = true then (mulF s3 (.int 48271)).bind fun t17 => (mulF s2 (.int 69621)).bind fun t18 => (addF t17 t18).bind fun t19 => (addF t19 (.int 11)).bind fun t20 => (intTF [t20]).bind fun t21 => (modF t21 (.int 2147483647)).bind fun t22 => (mulF t22 (.int 16807)).bind fun t23 => (addF t23 (.int 13)).bind fun t24 => (intTF [t24]).bind fun t25 => (modF t25 (.int 2147483647)).bind fun t26 => (mulF t26 (.int 65537)).bind fun t27 => (addF t27 t22).bind fun t28 => some t28 else some s3).bind fun (k : PV) => some (.nx [.own s0, .val s1, .val s2, .val k, .no]) := by
  refine Eq.trans ?_ (mTail_eq _ _); simp! only [D__law_next_3, D__law_next_2_q]
def D__law_next_1 : DenS := sPost [2, 3] (sIf (dB (dBin eqF (dBinL getF 0 (dC (.int 1))) (dC (.int 0)))) (sSeq (sAsg (.nm 2) (dBinL getF 0 (dC (.int 2)))) (sSeq (sAsg (.nm 3) (dBin addF (dC (.int 7)) (dVar 2))) (sSeq D__law_next_2 (sSeq D__law_next_3 (sSeq (sStore 0 (dC (.int 1)) (dVar 3)) (sSeq (sStore 0 (dC (.int 2)) (dBin addF (dVar 2) (dC (.int 1)))) sNil)))))) sNil)
theorem D__law_next_1_q (s0 s1 : PV) : D__law_next_1 [.own s0, .val s1, .no, .no, .no] = ((getF s0 (.int 1)).bind fun t1 => (eqF t1 (.int 0)).bind fun t2 => (asBl t2).bind fun b3 => if b3 = true then (getF s0 (.int 2)).bind fun t4 => (addF (.int 7) t4).bind fun t5 => ((getF s0 (.int 0)).bind fun t6 => (lenF [t6]).bind fun t7 => (ltF t4 t7).bind fun t8 => (asBl t8).bind fun b9 => if b9 = true then (getF s0 (.int 0)).bind fun t10 => (getF t10 t4).bind fun t11 => (absF [t11]).bind fun t12 => some t12 else some t5).bind fun (k13 : PV) => ((powF (.int 10) (.int 18)).bind fun t14 => (ltF k13 t14).bind fun t15 => (asBl t15).bind fun b16 => if b16 = true then (mulF k13 (.int 48271)).bind fun t17 => (mulF t4 (.int 69621)).bind fun t18 => (addF t17 t18).bind fun t19 => (addF t19 (.int 11)).bind fun t20 => (intTF [t20]).bind fun t21 => (modF t21 (.int 2147483647)).bind fun t22 => (mulF t22 (.int 16807)).bind fun t23 => (addF t23 (.int 13)).bind fun t24 => (intTF [t24]).bind fun t25 => (modF t25 (.int 2147483647)).bind fun t26 => (mulF t26 (.int 65537)).bind fun t27 => (addF t27 t22).bind fun t28 => some t28 else some k13).bind fun (k29 : PV) => (setF s0 (.int 1) k29).bind fun d30 => (addF t4 (.int 1)).bind fun t31 => (setF d30 (.int 2) t31).bind fun d32 => some d32 else some s0).bind fun (k : PV) => some (.nx [.own k, .val s1, .no, .no, .no]) := by
  refine Eq.trans ?_ (mTail_eq _ _); simp! only [D__law_next_1, D__law_next_2_q, D__law_next_3_q]
def d__law_next : DenS := (sSeq D__law_next_1 (sSeq (sAsg (.nm 4) (dBin modF (dApp intTF [.d (dBinL getF 0 (dC (.int 1)))]) (dVar 1))) (sSeq (sStore 0 (dC (.int 1)) (dBin divF (dBinL getF 0 (dC (.int 1))) (dVar 1))) (sSeq (sRetK [1, 2, 3, 4] (dVar 4)) sNil))))
def s__law_next : PP.Sem := runF [true] 3 d__law_next
def m__law_next (s0 s1 : PV) : Option (PV × PV) := ((getF s0 (.int 1)).bind fun t1 => (eqF t1 (.int 0)).bind fun t2 => (asBl t2).bind fun b3 => if b3 = true then (getF s0 (.int 2)).bind fun t4 => (addF (.int 7) t4).bind fun t5 => ((getF s0 (.int 0)).bind fun t6 => (lenF [t6]).bind fun t7 => (ltF t4 t7).bind fun t8 => (asBl t8).bind fun b9 => if b9 = true then (getF s0 (.int 0)).bind fun t10 => (getF t10 t4).bind fun t11 => (absF [t11]).bind fun t12 => some t12 else some t5).bind fun (k13 : PV) => ((powF (.int 10) (.int 18)).bind fun t14 => (ltF k13 t14).bind fun t15 => (asBl t15).bind fun b16 => if b16 = true then (mulF k13 (.int 48271)).bind fun t17 => (mulF t4 (.int 69621)).bind fun t18 => (addF t17 t18).bind fun t19 => (addF t19 (.int 11)).bind fun t20 => (intTF [t20]).bind fun t21 => (modF t21 (.int 2147483647)).bind fun t22 => (mulF t22 (.int 16807)).bind fun t23 => (addF t23 (.int 13)).bind fun t24 => (intTF [t24]).bind fun t25 => (modF t25 (.int 2147483647)).bind fun t26 => (mulF t26 (.int 65537)).bind fun t27 => (addF t27 t22).bind fun t28 => some t28 else some k13).bind fun (k29 : PV) => (setF s0 (.int 1) k29).bind fun d30 => (addF t4 (.int 1)).bind fun t31 => (setF d30 (.int 2) t31).bind fun d32 => some d32 else some s0).bind fun (k33 : PV) => (getF k33 (.int 1)).bind fun t34 => (intTF [t34]).bind fun t35 => (modF t35 s1).bind fun t36 => (getF k33 (.int 1)).bind fun t37 => (divF t37 s1).bind fun t38 => (setF k33 (.int 1) t38).bind fun d39 => some (t36, d39)
theorem q__law_next (s0 s1 : PV) : s__law_next [s0, s1] = (m__law_next s0 s1).bind fun (r : PV × PV) => some (r.1, [r.2, s1]) := by
  refine Eq.trans ?_ (mTail_eq _ _); simp! only [s__law_next, d__law_next, m__law_next, runF_ev, D__law_next_2_q, D__law_next_3_q, D__law_next_1_q]
def T__law_some_3 : DenT := (dAnd (dB (dBin ltF (dApp lenF [.b 3]) (dVar 1))) (dB (dBin eqF (dCall s__law_next [.b 0, .d (dC (.int 2))]) (dC (.int 0)))))
theorem T__law_some_3_q (s0 s1 s2 s3 s4 : PV) : T__law_some_3 [.own s0, .val s1, .val s2, .own s3, .val s4] = ((lenF [s3]).bind fun t4 => (ltF t4 s1).bind fun t5 => (asBl t5).bind fun b6 => if b6 = true then (m__law_next s0 (.int 2)).bind fun (t7 : PV × PV) => (eqF t7.1 (.int 0)).bind fun t8 => (asBl t8).bind fun b9 => some (b9, t7.2) else some (false, s0)).bind fun (k : Bool × PV) => some (k.1, [.own k.2, .val s1, .val s2, .own s3, .val s4]) := by
  refine Eq.trans ?_ (mTail_eq _ _); simp! only [T__law_some_3, q__law_next]
def D__law_some_2 : DenS := (sIf T__law_some_3 (sSeq (sDrop (dMut appendF 3 [(dVar 4)])) sNil) sNil)
theorem D__law_some_2_q (s0 s1 s2 s3 s4 : PV) : D__law_some_2 [.own s0, .val s1, .val s2, .own s3, .val s4] = (((lenF [s3]).bind fun t4 => (ltF t4 s1).bind fun t5 => (asBl t5).bind fun b6 => if b6 = true then (m__law_next s0 (.int 2)).bind fun (t7 : PV × PV) => (eqF t7.1 (.int 0)).bind fun t8 => (asBl t8).bind fun b9 => some (b9, t7.2) else some (false, s0)).bind fun (b10 : Bool × PV) => if b10.1 = true then (asL s3).bind fun _ => (asL s3).bind fun l11 => (appendF l11 [s4]).bind fun (z12 : PV × List PV) => some (b10.2, (.lst z12.2)) else some (b10.2, s3)).bind fun (k : PV × PV) => some (.nx [.own k.1, .val s1, .val s2, .own k.2, .val s4]) := by
  refine Eq.trans ?_ (mTail_eq _ _); simp! only [D__law_some_2, q__law_next, T__law_some_3_q]
def D__law_some_1_b : DenS := sPost [4] (sSeq D__law_some_2 sNil)
def D__law_some_1 : DenS := sFor (iRange [(dVar 2)]) (.nm 4) D__law_some_1_b
theorem D__law_some_1_l (s1 s2 : PV) (z0 z3 : PV) (xs : List PV) : forF (.nm 4) D__law_some_1_b xs [.own z0, .val s1, .val s2, .own z3, .no] = (fldM (fun (w2 : PV × PV) (x1 : PV) => (((lenF [w2.2]).bind fun t4 => (ltF t4 s1).bind fun t5 => (asBl t5).bind fun b6 => if b6 = true then (m__law_next w2.1 (.int 2)).bind fun (t7 : PV × PV) => (eqF t7.1 (.int 0)).bind fun t8 => (asBl t8).bind fun b9 => some (b9, t7.2) else some (false, w2.1)).bind fun (b10 : Bool × PV) => if b10.1 = true then (asL w2.2).bind fun _ => (asL w2.2).bind fun l11 => (appendF l11 [x1]).bind fun (z12 : PV × List PV) => some (b10.2, (.lst z12.2)) else some (b10.2, w2.2)).bind fun (k13 : PV × PV) => some (k13.1, k13.2)) xs (z0, z3)).bind fun (k : PV × PV) => some (.nx [.own k.1, .val s1, .val s2, .own k.2, .no]) := by
  refine for_fold (E := fun (w2 : PV × PV) => [.own w2.1, .val s1, .val s2, .own w2.2, .no]) _ ?_ xs (z0, z3)
  intro z x; refine Eq.trans ?_ (mTail_eq _ _); simp! only [D__law_some_1_b, q__law_next, T__law_some_3_q, D__law_some_2_q]
theorem D__law_some_1_q (s0 s1 s2 s3 : PV) : D__law_some_1 [.own s0, .val s1, .val s2, .own s3, .no] = ((rgO1 s2).bind fun r3 => fldM (fun (w2 : PV × PV) (x1 : PV) => (((lenF [w2.2]).bind fun t4 => (ltF t4 s1).bind fun t5 => (asBl t5).bind fun b6 => if b6 = true then (m__law_next w2.1 (.int 2)).bind fun (t7 : PV × PV) => (eqF t7.1 (.int 0)).bind fun t8 => (asBl t8).bind fun b9 => some (b9, t7.2) else some (false, w2.1)).bind fun (b10 : Bool × PV) => if b10.1 = true then (asL w2.2).bind fun _ => (asL w2.2).bind fun l11 => (appendF l11 [x1]).bind fun (z12 : PV × List PV) => some (b10.2, (.lst z12.2)) else some (b10.2, w2.2)).bind fun (k13 : PV × PV) => some (k13.1, k13.2)) (rgL r3) (s0, s3)).bind fun (k : PV × PV) => some (.nx [.own k.1, .val s1, .val s2, .own k.2, .no]) := by
  refine Eq.trans ?_ (mTail_eq _ _); simp! only [D__law_some_1, q__law_next, T__law_some_3_q, D__law_some_2_q, D__law_some_1_l]
def d__law_some : DenS := (sSeq (sOwn 3 (dLst [])) (sSeq D__law_some_1 (sSeq (sRetK [1, 2, 3, 4] (dApp tupleF [.b 3])) sNil)))
def s__law_some : PP.Sem := runF [true] 2 d__law_some
def m__law_some (s0 s1 s2 : PV) : Option (PV × PV) := ((rgO1 s2).bind fun r3 => fldM (fun (w2 : PV × PV) (x1 : PV) => (((lenF [w2.2]).bind fun t4 => (ltF t4 s1).bind fun t5 => (asBl t5).bind fun b6 => if b6 = true then (m__law_next w2.1 (.int 2)).bind fun (t7 : PV × PV) => (eqF t7.1 (.int 0)).bind fun t8 => (asBl t8).bind fun b9 => some (b9, t7.2) else some (false, w2.1)).bind fun (b10 : Bool × PV) => if b10.1 = true then (asL w2.2).bind fun _ => (asL w2.2).bind fun l11 => (appendF l11 [x1]).bind fun (z12 : PV × List PV) => some (b10.2, (.lst z12.2)) else some (b10.2, w2.2)).bind fun (k13 : PV × PV) => some (k13.1, k13.2)) (rgL r3) (s0, (.lst []))).bind fun (k14 : PV × PV) => (tupleF [k14.2]).bind fun t15 => some (t15, k14.1)
theorem q__law_some (s0 s1 s2 : PV) : s__law_some [s0, s1, s2] = (m__law_some s0 s1 s2).bind fun (r : PV × PV) => some (r.1, [r.2, s1, s2]) := by
  refine Eq.trans ?_ (mTail_eq _ _); simp! only [s__law_some, d__law_some, m__law_some, runF_ev, q__law_next, T__law_some_3_q, D__law_some_2_q, D__law_some_1_l, D__law_some_1_q]
def C__law_graph_1_e : Den := (dCall s__law_some [.b 0, .d (dBin addF (dC (.int 2)) (dApp intTF [.d (dBin eqF (dVar 2) (dC (.int 2)))])), .d (dC (.int 4))])
def C__law_graph_1_t : DenT := dYes
theorem C__law_graph_1_l (s1 s2 s3 : PV) (z0 : PV) (xs : List PV) : lcF (.nm 5) C__law_graph_1_t C__law_graph_1_e [5] xs [.own z0, .val s1, .val s2, .val s3, .no, .no, .no, .no, .no] = (cmpT (fun (w8 : PV) (x7 : PV) => (eqF s2 (.int 2)).bind fun t10 => (intTF [t10]).bind fun t11 => (addF (.int 2) t11).bind fun t12 => (m__law_some w8 t12 (.int 4)).bind fun (t13 : PV × PV) => some (t13.1, t13.2)) xs z0).bind fun q => some (q.1, [.own q.2, .val s1, .val s2, .val s3, .no, .no, .no, .no, .no]) := by
  refine lc_T (E := fun (w8 : PV) => [.own w8, .val s1, .val s2, .val s3, .no, .no, .no, .no, .no]) _ ?_ xs z0
  intro z x; refine Eq.trans ?_ (mTail_eq _ _); simp! only [C__law_graph_1_e, C__law_graph_1_t, q__law_next, q__law_some]
def C__law_graph_1 : Den := dLC (iRange [(dVar 3)]) [5] (.nm 5) C__law_graph_1_t C__law_graph_1_e
theorem C__law_graph_1_q (s0 s1 s2 s3 : PV) : C__law_graph_1 [.own s0, .val s1, .val s2, .val s3, .no, .no, .no, .no, .no] = ((rgO1 s3).bind fun r9 => cmpT (fun (w8 : PV) (x7 : PV) => (eqF s2 (.int 2)).bind fun t10 => (intTF [t10]).bind fun t11 => (addF (.int 2) t11).bind fun t12 => (m__law_some w8 t12 (.int 4)).bind fun (t13 : PV × PV) => some (t13.1, t13.2)) (rgL r9) s0).bind fun (k : List PV × PV) => some (.lst k.1, [.own k.2, .val s1, .val s2, .val s3, .no, .no, .no, .no, .no]) := by
  refine Eq.trans ?_ (mTail_eq _ _); simp! only [C__law_graph_1, q__law_next, q__law_some, C__law_graph_1_l]
def D__law_graph_4 : DenS := (sIf (dB (dBin eqF (dCall s__law_next [.b 0, .d (dC (.int 2))]) (dC (.int 0)))) (sSeq (sDrop (dMut appendF 6 [(dTup [(dVar 7), (dVar 8)])])) sNil) sNil)
theorem D__law_graph_4_q (s0 s1 s2 s3 s4 s6 s7 s8 : PV) : D__law_graph_4 [.own s0, .val s1, .val s2, .val s3, .val s4, .no, .own s6, .val s7, .val s8] = ((m__law_next s0 (.int 2)).bind fun (t23 : PV × PV) => (eqF t23.1 (.int 0)).bind fun t24 => (asBl t24).bind fun b25 => if b25 = true then (asL s6).bind fun _ => (asL s6).bind fun l26 => (appendF l26 [(.tup [s7, s8])]).bind fun (z27 : PV × List PV) => some (t23.2, (.lst z27.2)) else some (t23.2, s6)).bind fun (k : PV × PV) => some (.nx [.own k.1, .val s1, .val s2, .val s3, .val s4, .no, .own k.2, .val s7, .val s8]) := by
  refine Eq.trans ?_ (mTail_eq _ _); simp! only [D__law_graph_4, q__law_next, q__law_some, C__law_graph_1_l, C__law_graph_1_q]
def D__law_graph_3_b : DenS := sPost [8] (sSeq D__law_graph_4 sNil)
def D__law_graph_3 : DenS := sFor (iRange [(dBin addF (dVar 7) (dC (.int 1))), (dVar 3)]) (.nm 8) D__law_graph_3_b
theorem D__law_graph_3_l (s1 s2 s3 s4 s7 : PV) (z0 z6 : PV) (xs : List PV) : forF (.nm 8) D__law_graph_3_b xs [.own z0, .val s1, .val s2, .val s3, .val s4, .no, .own z6, .val s7, .no] = (fldM (fun (w20 : PV × PV) (x19 : PV) => ((m__law_next w20.1 (.int 2)).bind fun (t23 : PV × PV) => (eqF t23.1 (.int 0)).bind fun t24 => (asBl t24).bind fun b25 => if b25 = true then (asL w20.2).bind fun _ => (asL w20.2).bind fun l26 => (appendF l26 [(.tup [s7, x19])]).bind fun (z27 : PV × List PV) => some (t23.2, (.lst z27.2)) else some (t23.2, w20.2)).bind fun (k28 : PV × PV) => some (k28.1, k28.2)) xs (z0, z6)).bind fun (k : PV × PV) => some (.nx [.own k.1, .val s1, .val s2, .val s3, .val s4, .no, .own k.2, .val s7, .no]) := by
  refine for_fold (E := fun (w20 : PV × PV) => [.own w20.1, .val s1, .val s2, .val s3, .val s4, .no, .own w20.2, .val s7, .no]) _ ?_ xs (z0, z6)
  intro z x; refine Eq.trans ?_ (mTail_eq _ _); simp! only [D__law_graph_3_b, q__law_next, q__law_some, C__law_graph_1_l, C__law_graph_1_q, D__law_graph_4_q]
theorem D__law_graph_3_q (s0 s1 s2 s3 s4 s6 s7 : PV) : D__law_graph_3 [.own s0, .val s1, .val s2, .val s3, .val s4, .no, .own s6, .val s7, .no] = ((addF s7 (.int 1)).bind fun t21 => (rgO2 t21 s3).bind fun r22 => fldM (fun (w20 : PV × PV) (x19 : PV) => ((m__law_next w20.1 (.int 2)).bind fun (t23 : PV × PV) => (eqF t23.1 (.int 0)).bind fun t24 => (asBl t24).bind fun b25 => if b25 = true then (asL w20.2).bind fun _ => (asL w20.2).bind fun l26 => (appendF l26 [(.tup [s7, x19])]).bind fun (z27 : PV × List PV) => some (t23.2, (.lst z27.2)) else some (t23.2, w20.2)).bind fun (k28 : PV × PV) => some (k28.1, k28.2)) (rgL r22) (s0, s6)).bind fun (k : PV × PV) => some (.nx [.own k.1, .val s1, .val s2, .val s3, .val s4, .no, .own k.2, .val s7, .no]) := by
  refine Eq.trans ?_ (mTail_eq _ _); simp! only [D__law_graph_3, q__law_next, q__law_some, C__law_graph_1_l, C__law_graph_1_q, D__law_graph_4_q, D__law_graph_3_l]
def D__law_graph_2_b : DenS := sPost [7, 8] (sSeq D__law_graph_3 sNil)
def D__law_graph_2 : DenS := sFor (iRange [(dVar 3)]) (.nm 7) D__law_graph_2_b
theorem D__law_graph_2_l (s1 s2 s3 s4 : PV) (z0 z6 : PV) (xs : List PV) : forF (.nm 7) D__law_graph_2_b xs [.own z0, .val s1, .val s2, .val s3, .val s4, .no, .own z6, .no, .no] = (fldM (fun (w17 : PV × PV) (x16 : PV) => ((addF x16 (.int 1)).bind fun t21 => (rgO2 t21 s3).bind fun r22 => fldM (fun (w20 : PV × PV) (x19 : PV) => ((m__law_next w20.1 (.int 2)).bind fun (t23 : PV × PV) => (eqF t23.1 (.int 0)).bind fun t24 => (asBl t24).bind fun b25 => if b25 = true then (asL w20.2).bind fun _ => (asL w20.2).bind fun l26 => (appendF l26 [(.tup [x16, x19])]).bind fun (z27 : PV × List PV) => some (t23.2, (.lst z27.2)) else some (t23.2, w20.2)).bind fun (k28 : PV × PV) => some (k28.1, k28.2)) (rgL r22) (w17.1, w17.2)).bind fun (k29 : PV × PV) => some (k29.1, k29.2)) xs (z0, z6)).bind fun (k : PV × PV) => some (.nx [.own k.1, .val s1, .val s2, .val s3, .val s4, .no, .own k.2, .no, .no]) := by
  refine for_fold (E := fun (w17 : PV × PV) => [.own w17.1, .val s1, .val s2, .val s3, .val s4, .no, .own w17.2, .no, .no]) _ ?_ xs (z0, z6)
  intro z x; refine Eq.trans ?_ (mTail_eq _ _); simp! only [D__law_graph_2_b, q__law_next, q__law_some, C__law_graph_1_l, C__law_graph_1_q, D__law_graph_4_q, D__law_graph_3_l, D__law_graph_3_q]
theorem D__law_graph_2_q (s0 s1 s2 s3 s4 s6 : PV) : D__law_graph_2 [.own s0, .val s1, .val s2, .val s3, .val s4, .no, .own s6, .no, .no] = ((rgO1 s3).bind fun r18 => fldM (fun (w17 : PV × PV) (x16 : PV) => ((addF x16 (.int 1)).bind fun t21 => (rgO2 t21 s3).bind fun r22 => fldM (fun (w20 : PV × PV) (x19 : PV) => ((m__law_next w20.1 (.int 2)).bind fun (t23 : PV × PV) => (eqF t23.1 (.int 0)).bind fun t24 => (asBl t24).bind fun b25 => if b25 = true then (asL w20.2).bind fun _ => (asL w20.2).bind fun l26 => (appendF l26 [(.tup [x16, x19])]).bind fun (z27 : PV × List PV) => some (t23.2, (.lst z27.2)) else some (t23.2, w20.2)).bind fun (k28 : PV × PV) => some (k28.1, k28.2)) (rgL r22) (w17.1, w17.2)).bind fun (k29 : PV × PV) => some (k29.1, k29.2)) (rgL r18) (s0, s6)).bind fun (k : PV × PV) => some (.nx [.own k.1, .val s1, .val s2, .val s3, .val s4, .no, .own k.2, .no, .no]) := by
  refine Eq.trans ?_ (mTail_eq _ _); simp! only [D__law_graph_2, q__law_next, q__law_some, C__law_graph_1_l, C__law_graph_1_q, D__law_graph_4_q, D__law_graph_3_l, D__law_graph_3_q, D__law_graph_2_l]
def d__law_graph : DenS := (sSeq (sAsg (.nm 2) (dBin addF (dC (.int 2)) (dApp intTF [.d (dBin eqF (dCall s__law_next [.b 0, .d (dC (.int 5))]) (dC (.int 0)))]))) (sSeq (sAsg (.nm 3) (dBin addF (dC (.int 1)) (dCall s__law_next [.b 0, .d (dVar 1)]))) (sSeq (sAsg (.nm 4) (dApp tupleF [.d C__law_graph_1])) (sSeq (sOwn 6 (dLst [])) (sSeq D__law_graph_2 (sSeq (sRetK [1, 2, 3, 4, 5, 6, 7, 8] (dTup [(dVar 2), (dVar 4), (dApp tupleF [.b 6])])) sNil))))))
def s__law_graph : PP.Sem := runF [true] 7 d__law_graph
def m__law_graph (s0 s1 : PV) : Option (PV × PV) := (m__law_next s0 (.int 5)).bind fun (t1 : PV × PV) => (eqF t1.1 (.int 0)).bind fun t2 => (intTF [t2]).bind fun t3 => (addF (.int 2) t3).bind fun t4 => (m__law_next t1.2 s1).bind fun (t5 : PV × PV) => (addF (.int 1) t5.1).bind fun t6 => ((rgO1 t6).bind fun r9 => cmpT (fun (w8 : PV) (x7 : PV) => (eqF t4 (.int 2)).bind fun t10 => (intTF [t10]).bind fun t11 => (addF (.int 2) t11).bind fun t12 => (m__law_some w8 t12 (.int 4)).bind fun (t13 : PV × PV) => some (t13.1, t13.2)) (rgL r9) t5.2).bind fun (y14 : List PV × PV) => (tupleF [(.lst y14.1)]).bind fun t15 => ((rgO1 t6).bind fun r18 => fldM (fun (w17 : PV × PV) (x16 : PV) => ((addF x16 (.int 1)).bind fun t21 => (rgO2 t21 t6).bind fun r22 => fldM (fun (w20 : PV × PV) (x19 : PV) => ((m__law_next w20.1 (.int 2)).bind fun (t23 : PV × PV) => (eqF t23.1 (.int 0)).bind fun t24 => (asBl t24).bind fun b25 => if b25 = true then (asL w20.2).bind fun _ => (asL w20.2).bind fun l26 => (appendF l26 [(.tup [x16, x19])]).bind fun (z27 : PV × List PV) => some (t23.2, (.lst z27.2)) else some (t23.2, w20.2)).bind fun (k28 : PV × PV) => some (k28.1, k28.2)) (rgL r22) (w17.1, w17.2)).bind fun (k29 : PV × PV) => some (k29.1, k29.2)) (rgL r18) (y14.2, (.lst []))).bind fun (k30 : PV × PV) => (tupleF [k30.2]).bind fun t31 => some ((.tup [t4, t15, t31]), k30.1)
theorem q__law_graph (s0 s1 : PV) : s__law_graph [s0, s1] = (m__law_graph s0 s1).bind fun (r : PV × PV) => some (r.1, [r.2, s1]) := by
  refine Eq.trans ?_ (mTail_eq _ _); simp! only [s__law_graph, d__law_graph, m__law_graph, runF_ev, q__law_next, q__law_some, C__law_graph_1_l, C__law_graph_1_q, D__law_graph_4_q, D__law_graph_3_l, D__law_graph_3_q, D__law_graph_2_l, D__law_graph_2_q]
def C__law_tree_2_e : Den := (dVar 9)
def C__law_tree_2_t : DenT := (dB (dBin gtF (dCall s__law_next [.b 0, .d (dC (.int 3))]) (dC (.int 0))))
theorem C__law_tree_2_l (s1 s2 s3 s4 s5 s6 s7 : PV) (z0 : PV) (xs : List PV) : lcF (.nm 9) C__law_tree_2_t C__law_tree_2_e [9] xs [.own z0, .val s1, .val s2, .own s3, .own s4, .val s5, .val s6, .val s7, .no, .no] = (cmpS (fun (w13 : PV) (x12 : PV) => (m__law_next w13 (.int 3)).bind fun (t16 : PV × PV) => (gtF t16.1 (.int 0)).bind fun t17 => (asBl t17).bind fun b18 => if b18 = true then some (some x12, t16.2) else some (none, t16.2)) xs z0).bind fun q => some (q.1, [.own q.2, .val s1, .val s2, .own s3, .own s4, .val s5, .val s6, .val s7, .no, .no]) := by
  refine lc_S (E := fun (w13 : PV) => [.own w13, .val s1, .val s2, .own s3, .own s4, .val s5, .val s6, .val s7, .no, .no]) _ ?_ xs z0
  intro z x; refine Eq.trans ?_ (mTail_eq _ _); simp! only [C__law_tree_2_e, C__law_tree_2_t, q__law_next, q__law_some]
def C__law_tree_2 : Den := dLC (iSeq (dBinL getF 3 (dVar 7))) [9] (.nm 9) C__law_tree_2_t C__law_tree_2_e
theorem C__law_tree_2_q (s0 s1 s2 s3 s4 s5 s6 s7 : PV) : C__law_tree_2 [.own s0, .val s1, .val s2, .own s3, .own s4, .val s5, .val s6, .val s7, .no, .no] = ((getF s3 s7).bind fun t14 => (seqOf t14).bind fun l15 => cmpS (fun (w13 : PV) (x12 : PV) => (m__law_next w13 (.int 3)).bind fun (t16 : PV × PV) => (gtF t16.1 (.int 0)).bind fun t17 => (asBl t17).bind fun b18 => if b18 = true then some (some x12, t16.2) else some (none, t16.2)) l15 s0).bind fun (k : List PV × PV) => some (.lst k.1, [.own k.2, .val s1, .val s2, .own s3, .own s4, .val s5, .val s6, .val s7, .no, .no]) := by
  refine Eq.trans ?_ (mTail_eq _ _); simp! only [C__law_tree_2, q__law_next, q__law_some, C__law_tree_2_l]
def T__law_tree_4 : DenT := (dAnd (dB (dBin ltF (dVar 5) (dC (.int 6)))) (dAnd (dB (dBin eqF (dCall s__law_next [.b 0, .d (dC (.int 2))]) (dC (.int 0)))) (dB (dBin ltF (dApp lenF [.b 8]) (dC (.int 2))))))
theorem T__law_tree_4_q (s0 s1 s2 s3 s4 s5 s6 s7 s8 : PV) : T__law_tree_4 [.own s0, .val s1, .val s2, .own s3, .own s4, .val s5, .val s6, .val s7, .own s8, .no] = ((ltF s5 (.int 6)).bind fun t20 => (asBl t20).bind fun b21 => if b21 = true then (m__law_next s0 (.int 2)).bind fun (t22 : PV × PV) => (eqF t22.1 (.int 0)).bind fun t23 => (asBl t23).bind fun b24 => if b24 = true then (lenF [s8]).bind fun t25 => (ltF t25 (.int 2)).bind fun t26 => (asBl t26).bind fun b27 => some (b27, t22.2) else some (false, t22.2) else some (false, s0)).bind fun (k : Bool × PV) => some (k.1, [.own k.2, .val s1, .val s2, .own s3, .own s4, .val s5, .val s6, .val s7, .own s8, .no]) := by
  refine Eq.trans ?_ (mTail_eq _ _); simp! only [T__law_tree_4, q__law_next, q__law_some, C__law_tree_2_l, C__law_tree_2_q]
def D__law_tree_3 : DenS := (sIf T__law_tree_4 (sSeq (sDrop (dMut appendF 8 [(dVar 5)])) (sSeq (sAsg (.nm 5) (dBin addF (dVar 5) (dC (.int 1)))) sNil)) sNil)
theorem D__law_tree_3_q (s0 s1 s2 s3 s4 s5 s6 s7 s8 : PV) : D__law_tree_3 [.own s0, .val s1, .val s2, .own s3, .own s4, .val s5, .val s6, .val s7, .own s8, .no] = (((ltF s5 (.int 6)).bind fun t20 => (asBl t20).bind fun b21 => if b21 = true then (m__law_next s0 (.int 2)).bind fun (t22 : PV × PV) => (eqF t22.1 (.int 0)).bind fun t23 => (asBl t23).bind fun b24 => if b24 = true then (lenF [s8]).bind fun t25 => (ltF t25 (.int 2)).bind fun t26 => (asBl t26).bind fun b27 => some (b27, t22.2) else some (false, t22.2) else some (false, s0)).bind fun (b28 : Bool × PV) => if b28.1 = true then (asL s8).bind fun _ => (asL s8).bind fun l29 => (appendF l29 [s5]).bind fun (z30 : PV × List PV) => (addF s5 (.int 1)).bind fun t31 => some (b28.2, t31, (.lst z30.2)) else some (b28.2, s5, s8)).bind fun (k : PV × PV × PV) => some (.nx [.own k.1, .val s1, .val s2, .own s3, .own s4, .val k.2.1, .val s6, .val s7, .own k.2.2, .no]) := by
  refine Eq.trans ?_ (mTail_eq _ _); simp! only [D__law_tree_3, q__law_next, q__law_some, C__law_tree_2_l, C__law_tree_2_q, T__law_tree_4_q]
def D__law_tree_1_b : DenS := sPost [6, 7, 8] (sSeq (sAsg (.nm 7) (dCall s__law_next [.b 0, .d (dVar 6)])) (sSeq (sOwn 8 C__law_tree_2) (sSeq D__law_tree_3 (sSeq (sDrop (dMut appendF 3 [(dApp tupleF [.b 8])])) (sSeq (sDrop (dMut appendF 4 [(dTup [(dVar 7), (dVar 6)])])) sNil)))))
def D__law_tree_1 : DenS := sFor (iRange [(dC (.int 1)), (dBin addF (dC (.int 1)) (dCall s__law_next [.b 0, .d (dVar 1)]))]) (.nm 6) D__law_tree_1_b
theorem D__law_tree_1_l (s1 s2 : PV) (z0 z3 z4 z5 : PV) (xs : List PV) : forF (.nm 6) D__law_tree_1_b xs [.own z0, .val s1, .val s2, .own z3, .own z4, .val z5, .no, .no, .no, .no] = (fldM (fun (w7 : PV × PV × PV × PV) (x6 : PV) => (m__law_next w7.1 x6).bind fun (t11 : PV × PV) => ((getF w7.2.1 t11.1).bind fun t14 => (seqOf t14).bind fun l15 => cmpS (fun (w13 : PV) (x12 : PV) => (m__law_next w13 (.int 3)).bind fun (t16 : PV × PV) => (gtF t16.1 (.int 0)).bind fun t17 => (asBl t17).bind fun b18 => if b18 = true then some (some x12, t16.2) else some (none, t16.2)) l15 t11.2).bind fun (y19 : List PV × PV) => (((ltF w7.2.2.2 (.int 6)).bind fun t20 => (asBl t20).bind fun b21 => if b21 = true then (m__law_next y19.2 (.int 2)).bind fun (t22 : PV × PV) => (eqF t22.1 (.int 0)).bind fun t23 => (asBl t23).bind fun b24 => if b24 = true then (lenF [(.lst y19.1)]).bind fun t25 => (ltF t25 (.int 2)).bind fun t26 => (asBl t26).bind fun b27 => some (b27, t22.2) else some (false, t22.2) else some (false, y19.2)).bind fun (b28 : Bool × PV) => if b28.1 = true then (asL (.lst y19.1)).bind fun _ => (asL (.lst y19.1)).bind fun l29 => (appendF l29 [w7.2.2.2]).bind fun (z30 : PV × List PV) => (addF w7.2.2.2 (.int 1)).bind fun t31 => some (b28.2, t31, (.lst z30.2)) else some (b28.2, w7.2.2.2, (.lst y19.1))).bind fun (k32 : PV × PV × PV) => (asL w7.2.1).bind fun _ => (tupleF [k32.2.2]).bind fun t33 => (asL w7.2.1).bind fun l34 => (appendF l34 [t33]).bind fun (z35 : PV × List PV) => (asL w7.2.2.1).bind fun _ => (asL w7.2.2.1).bind fun l36 => (appendF l36 [(.tup [t11.1, x6])]).bind fun (z37 : PV × List PV) => some (k32.1, (.lst z35.2), (.lst z37.2), k32.2.1)) xs (z0, z3, z4, z5)).bind fun (k : PV × PV × PV × PV) => some (.nx [.own k.1, .val s1, .val s2, .own k.2.1, .own k.2.2.1, .val k.2.2.2, .no, .no, .no, .no]) := by
  refine for_fold (E := fun (w7 : PV × PV × PV × PV) => [.own w7.1, .val s1, .val s2, .own w7.2.1, .own w7.2.2.1, .val w7.2.2.2, .no, .no, .no, .no]) _ ?_ xs (z0, z3, z4, z5)
  intro z x; refine Eq.trans ?_ (mTail_eq _ _); simp! only [D__law_tree_1_b, q__law_next, q__law_some, C__law_tree_2_l, C__law_tree_2_q, T__law_tree_4_q, D__law_tree_3_q]
theorem D__law_tree_1_q (s0 s1 s2 s3 s4 s5 : PV) : D__law_tree_1 [.own s0, .val s1, .val s2, .own s3, .own s4, .val s5, .no, .no, .no, .no] = ((m__law_next s0 s1).bind fun (t8 : PV × PV) => (addF (.int 1) t8.1).bind fun t9 => (rgO2 (.int 1) t9).bind fun r10 => fldM (fun (w7 : PV × PV × PV × PV) (x6 : PV) => (m__law_next w7.1 x6).bind fun (t11 : PV × PV) => ((getF w7.2.1 t11.1).bind fun t14 => (seqOf t14).bind fun l15 => cmpS (fun (w13 : PV) (x12 : PV) => (m__law_next w13 (.int 3)).bind fun (t16 : PV × PV) => (gtF t16.1 (.int 0)).bind fun t17 => (asBl t17).bind fun b18 => if b18 = true then some (some x12, t16.2) else some (none, t16.2)) l15 t11.2).bind fun (y19 : List PV × PV) => (((ltF w7.2.2.2 (.int 6)).bind fun t20 => (asBl t20).bind fun b21 => if b21 = true then (m__law_next y19.2 (.int 2)).bind fun (t22 : PV × PV) => (eqF t22.1 (.int 0)).bind fun t23 => (asBl t23).bind fun b24 => if b24 = true then (lenF [(.lst y19.1)]).bind fun t25 => (ltF t25 (.int 2)).bind fun t26 => (asBl t26).bind fun b27 => some (b27, t22.2) else some (false, t22.2) else some (false, y19.2)).bind fun (b28 : Bool × PV) => if b28.1 = true then (asL (.lst y19.1)).bind fun _ => (asL (.lst y19.1)).bind fun l29 => (appendF l29 [w7.2.2.2]).bind fun (z30 : PV × List PV) => (addF w7.2.2.2 (.int 1)).bind fun t31 => some (b28.2, t31, (.lst z30.2)) else some (b28.2, w7.2.2.2, (.lst y19.1))).bind fun (k32 : PV × PV × PV) => (asL w7.2.1).bind fun _ => (tupleF [k32.2.2]).bind fun t33 => (asL w7.2.1).bind fun l34 => (appendF l34 [t33]).bind fun (z35 : PV × List PV) => (asL w7.2.2.1).bind fun _ => (asL w7.2.2.1).bind fun l36 => (appendF l36 [(.tup [t11.1, x6])]).bind fun (z37 : PV × List PV) => some (k32.1, (.lst z35.2), (.lst z37.2), k32.2.1)) (rgL r10) (t8.2, s3, s4, s5)).bind fun (k : PV × PV × PV × PV) => some (.nx [.own k.1, .val s1, .val s2, .own k.2.1, .own k.2.2.1, .val k.2.2.2, .no, .no, .no, .no]) := by
  refine Eq.trans ?_ (mTail_eq _ _); simp! only [D__law_tree_1, q__law_next, q__law_some, C__law_tree_2_l, C__law_tree_2_q, T__law_tree_4_q, D__law_tree_3_q, D__law_tree_1_l]
def d__law_tree : DenS := (sSeq (sAsg (.nm 2) (dBin addF (dC (.int 2)) (dApp intTF [.d (dBin eqF (dCall s__law_next [.b 0, .d (dC (.int 5))]) (dC (.int 0)))]))) (sSeq (sOwn 3 (dLst [(dCall s__law_some [.b 0, .d (dC (.int 2)), .d (dC (.int 4))])])) (sSeq (sOwn 4 (dLst [])) (sSeq (sAsg (.nm 5) (dC (.int 4))) (sSeq D__law_tree_1 (sSeq (sRetK [1, 2, 3, 4, 5, 6, 7, 8, 9] (dTup [(dVar 2), (dApp tupleF [.b 3]), (dApp tupleF [.d (dApp sortedF [.b 4])])])) sNil))))))
def s__law_tree : PP.Sem := runF [true] 8 d__law_tree
def m__law_tree (s0 s1 : PV) : Option (PV × PV) := (m__law_next s0 (.int 5)).bind fun (t1 : PV × PV) => (eqF t1.1 (.int 0)).bind fun t2 => (intTF [t2]).bind fun t3 => (addF (.int 2) t3).bind fun t4 => (m__law_some t1.2 (.int 2) (.int 4)).bind fun (t5 : PV × PV) => ((m__law_next t5.2 s1).bind fun (t8 : PV × PV) => (addF (.int 1) t8.1).bind fun t9 => (rgO2 (.int 1) t9).bind fun r10 => fldM (fun (w7 : PV × PV × PV × PV) (x6 : PV) => (m__law_next w7.1 x6).bind fun (t11 : PV × PV) => ((getF w7.2.1 t11.1).bind fun t14 => (seqOf t14).bind fun l15 => cmpS (fun (w13 : PV) (x12 : PV) => (m__law_next w13 (.int 3)).bind fun (t16 : PV × PV) => (gtF t16.1 (.int 0)).bind fun t17 => (asBl t17).bind fun b18 => if b18 = true then some (some x12, t16.2) else some (none, t16.2)) l15 t11.2).bind fun (y19 : List PV × PV) => (((ltF w7.2.2.2 (.int 6)).bind fun t20 => (asBl t20).bind fun b21 => if b21 = true then (m__law_next y19.2 (.int 2)).bind fun (t22 : PV × PV) => (eqF t22.1 (.int 0)).bind fun t23 => (asBl t23).bind fun b24 => if b24 = true then (lenF [(.lst y19.1)]).bind fun t25 => (ltF t25 (.int 2)).bind fun t26 => (asBl t26).bind fun b27 => some (b27, t22.2) else some (false, t22.2) else some (false, y19.2)).bind fun (b28 : Bool × PV) => if b28.1 = true then (asL (.lst y19.1)).bind fun _ => (asL (.lst y19.1)).bind fun l29 => (appendF l29 [w7.2.2.2]).bind fun (z30 : PV × List PV) => (addF w7.2.2.2 (.int 1)).bind fun t31 => some (b28.2, t31, (.lst z30.2)) else some (b28.2, w7.2.2.2, (.lst y19.1))).bind fun (k32 : PV × PV × PV) => (asL w7.2.1).bind fun _ => (tupleF [k32.2.2]).bind fun t33 => (asL w7.2.1).bind fun l34 => (appendF l34 [t33]).bind fun (z35 : PV × List PV) => (asL w7.2.2.1).bind fun _ => (asL w7.2.2.1).bind fun l36 => (appendF l36 [(.tup [t11.1, x6])]).bind fun (z37 : PV × List PV) => some (k32.1, (.lst z35.2), (.lst z37.2), k32.2.1)) (rgL r10) (t8.2, (.lst [t5.1]), (.lst []), (.int 4))).bind fun (k38 : PV × PV × PV × PV) => (tupleF [k38.2.1]).bind fun t39 => (sortedF [k38.2.2.1]).bind fun t40 => (tupleF [t40]).bind fun t41 => some ((.tup [t4, t39, t41]), k38.1)
theorem q__law_tree (s0 s1 : PV) : s__law_tree [s0, s1] = (m__law_tree s0 s1).bind fun (r : PV × PV) => some (r.1, [r.2, s1]) := by
  refine Eq.trans ?_ (mTail_eq _ _); simp! only [s__law_tree, d__law_tree, m__law_tree, runF_ev, q__law_next, q__law_some, C__law_tree_2_l, C__law_tree_2_q, T__law_tree_4_q, D__law_tree_3_q, D__law_tree_1_l, D__law_tree_1_q]
def C__law_rows_3_e : Den := (dBin addF (dVar 5) (dTup [(dVar 6)]))
def C__law_rows_3_t : DenT := dYes
theorem C__law_rows_3_l (s0 s1 s2 s3 s4 s5 : PV) (xs : List PV) : lcF (.nm 6) C__law_rows_3_t C__law_rows_3_e [6] xs [.val s0, .val s1, .val s2, .val s3, .val s4, .val s5, .no] = (cmpM (fun (x7 : PV) => (addF s5 (.tup [x7])).bind fun t10 => some t10) xs).bind fun ys => some (ys, [.val s0, .val s1, .val s2, .val s3, .val s4, .val s5, .no]) := by
  refine lc_M (e := [.val s0, .val s1, .val s2, .val s3, .val s4, .val s5, .no]) _ ?_ xs
  intro x; refine Eq.trans ?_ (mTail_eq _ _); simp! only [C__law_rows_3_e, C__law_rows_3_t]
def C__law_rows_3 : Den := dLC (iRange [(dVar 0)]) [6] (.nm 6) C__law_rows_3_t C__law_rows_3_e
theorem C__law_rows_3_q (s0 s1 s2 s3 s4 s5 : PV) : C__law_rows_3 [.val s0, .val s1, .val s2, .val s3, .val s4, .val s5, .no] = ((rgO1 s0).bind fun r9 => cmpM (fun (x7 : PV) => (addF s5 (.tup [x7])).bind fun t10 => some t10) (rgL r9)).bind fun (k : List PV) => some (.lst k, [.val s0, .val s1, .val s2, .val s3, .val s4, .val s5, .no]) := by
  refine Eq.trans ?_ (mTail_eq _ _); simp! only [C__law_rows_3, C__law_rows_3_l]
def D__law_rows_2_b : DenS := sPost [5] (sSeq (sAsg (.nm 4) (dBin addF (dVar 4) C__law_rows_3)) sNil)
def D__law_rows_2 : DenS := sFor (iSeq (dVar 2)) (.nm 5) D__law_rows_2_b
theorem D__law_rows_2_l (s0 s1 s2 s3 : PV) (z4 : PV) (xs : List PV) : forF (.nm 5) D__law_rows_2_b xs [.val s0, .val s1, .val s2, .val s3, .val z4, .no, .no] = (fldM (fun (w5 : PV) (x4 : PV) => ((rgO1 s0).bind fun r9 => cmpM (fun (x7 : PV) => (addF x4 (.tup [x7])).bind fun t10 => some t10) (rgL r9)).bind fun (y11 : List PV) => (addF w5 (.lst y11)).bind fun t12 => some t12) xs z4).bind fun (k : PV) => some (.nx [.val s0, .val s1, .val s2, .val s3, .val k, .no, .no]) := by
  refine for_fold (E := fun (w5 : PV) => [.val s0, .val s1, .val s2, .val s3, .val w5, .no, .no]) _ ?_ xs z4
  intro z x; refine Eq.trans ?_ (mTail_eq _ _); simp! only [D__law_rows_2_b, C__law_rows_3_l, C__law_rows_3_q]
theorem D__law_rows_2_q (s0 s1 s2 s3 s4 : PV) : D__law_rows_2 [.val s0, .val s1, .val s2, .val s3, .val s4, .no, .no] = ((seqOf s2).bind fun l6 => fldM (fun (w5 : PV) (x4 : PV) => ((rgO1 s0).bind fun r9 => cmpM (fun (x7 : PV) => (addF x4 (.tup [x7])).bind fun t10 => some t10) (rgL r9)).bind fun (y11 : List PV) => (addF w5 (.lst y11)).bind fun t12 => some t12) l6 s4).bind fun (k : PV) => some (.nx [.val s0, .val s1, .val s2, .val s3, .val k, .no, .no]) := by
  refine Eq.trans ?_ (mTail_eq _ _); simp! only [D__law_rows_2, C__law_rows_3_l, C__law_rows_3_q, D__law_rows_2_l]
def D__law_rows_1_b : DenS := sPost [3, 4, 5] (sSeq (sAsg (.nm 4) (dLst [])) (sSeq D__law_rows_2 (sSeq (sAsg (.nm 2) (dVar 4)) sNil)))
def D__law_rows_1 : DenS := sFor (iRange [(dVar 1)]) (.nm 3) D__law_rows_1_b
theorem D__law_rows_1_l (s0 s1 : PV) (z2 : PV) (xs : List PV) : forF (.nm 3) D__law_rows_1_b xs [.val s0, .val s1, .val z2, .no, .no, .no, .no] = (fldM (fun (w2 : PV) (x1 : PV) => ((seqOf w2).bind fun l6 => fldM (fun (w5 : PV) (x4 : PV) => ((rgO1 s0).bind fun r9 => cmpM (fun (x7 : PV) => (addF x4 (.tup [x7])).bind fun t10 => some t10) (rgL r9)).bind fun (y11 : List PV) => (addF w5 (.lst y11)).bind fun t12 => some t12) l6 (.lst [])).bind fun (k13 : PV) => some k13) xs z2).bind fun (k : PV) => some (.nx [.val s0, .val s1, .val k, .no, .no, .no, .no]) := by
  refine for_fold (E := fun (w2 : PV) => [.val s0, .val s1, .val w2, .no, .no, .no, .no]) _ ?_ xs z2
  intro z x; refine Eq.trans ?_ (mTail_eq _ _); simp! only [D__law_rows_1_b, C__law_rows_3_l, C__law_rows_3_q, D__law_rows_2_l, D__law_rows_2_q]
theorem D__law_rows_1_q (s0 s1 s2 : PV) : D__law_rows_1 [.val s0, .val s1, .val s2, .no, .no, .no, .no] = ((rgO1 s1).bind fun r3 => fldM (fun (w2 : PV) (x1 : PV) => ((seqOf w2).bind fun l6 => fldM (fun (w5 : PV) (x4 : PV) => ((rgO1 s0).bind fun r9 => cmpM (fun (x7 : PV) => (addF x4 (.tup [x7])).bind fun t10 => some t10) (rgL r9)).bind fun (y11 : List PV) => (addF w5 (.lst y11)).bind fun t12 => some t12) l6 (.lst [])).bind fun (k13 : PV) => some k13) (rgL r3) s2).bind fun (k : PV) => some (.nx [.val s0, .val s1, .val k, .no, .no, .no, .no]) := by
  refine Eq.trans ?_ (mTail_eq _ _); simp! only [D__law_rows_1, C__law_rows_3_l, C__law_rows_3_q, D__law_rows_2_l, D__law_rows_2_q, D__law_rows_1_l]
def d__law_rows : DenS := (sSeq (sAsg (.nm 2) (dLst [(dTup [])])) (sSeq D__law_rows_1 (sSeq (sRetK [0, 1, 2, 3, 4, 5, 6] (dVar 2)) sNil)))
def s__law_rows : PP.Sem := runF [] 5 d__law_rows
def m__law_rows (s0 s1 : PV) : Option (PV) := ((rgO1 s1).bind fun r3 => fldM (fun (w2 : PV) (x1 : PV) => ((seqOf w2).bind fun l6 => fldM (fun (w5 : PV) (x4 : PV) => ((rgO1 s0).bind fun r9 => cmpM (fun (x7 : PV) => (addF x4 (.tup [x7])).bind fun t10 => some t10) (rgL r9)).bind fun (y11 : List PV) => (addF w5 (.lst y11)).bind fun t12 => some t12) l6 (.lst [])).bind fun (k13 : PV) => some k13) (rgL r3) (.lst [(.tup [])])).bind fun (k14 : PV) => some k14
theorem q__law_rows (s0 s1 : PV) : s__law_rows [s0, s1] = (m__law_rows s0 s1).bind fun (r : PV) => some (r, [s0, s1]) := by
  refine Eq.trans ?_ (mTail_eq _ _); simp! only [s__law_rows, d__law_rows, m__law_rows, runF_ev, C__law_rows_3_l, C__law_rows_3_q, D__law_rows_2_l, D__law_rows_2_q, D__law_rows_1_l, D__law_rows_1_q]
def C__law_tables_2_e : Den := (dVar 5)
def C__law_tables_2_t : DenT := (dB (dBin gtF (dCall s__law_next [.b 0, .d (dC (.int 4))]) (dC (.int 0))))
theorem C__law_tables_2_l (s1 s2 s3 : PV) (z0 : PV) (xs : List PV) : lcF (.nm 5) C__law_tables_2_t C__law_tables_2_e [5] xs [.own z0, .val s1, .own s2, .val s3, .no, .no] = (cmpS (fun (w6 : PV) (x5 : PV) => (m__law_next w6 (.int 4)).bind fun (t11 : PV × PV) => (gtF t11.1 (.int 0)).bind fun t12 => (asBl t12).bind fun b13 => if b13 = true then some (some x5, t11.2) else some (none, t11.2)) xs z0).bind fun q => some (q.1, [.own q.2, .val s1, .own s2, .val s3, .no, .no]) := by
  refine lc_S (E := fun (w6 : PV) => [.own w6, .val s1, .own s2, .val s3, .no, .no]) _ ?_ xs z0
  intro z x; refine Eq.trans ?_ (mTail_eq _ _); simp! only [C__law_tables_2_e, C__law_tables_2_t, q__law_rows, q__law_next]
def C__law_tables_2 : Den := dLC (iSeq (dCall s__law_rows [.d (dBin getF (dVar 1) (dC (.int 0))), .d (dApp lenF [.d (dVar 3)])])) [5] (.nm 5) C__law_tables_2_t C__law_tables_2_e
theorem C__law_tables_2_q (s0 s1 s2 s3 : PV) : C__law_tables_2 [.own s0, .val s1, .own s2, .val s3, .no, .no] = ((getF s1 (.int 0)).bind fun t7 => (lenF [s3]).bind fun t8 => (m__law_rows t7 t8).bind fun (t9 : PV) => (seqOf t9).bind fun l10 => cmpS (fun (w6 : PV) (x5 : PV) => (m__law_next w6 (.int 4)).bind fun (t11 : PV × PV) => (gtF t11.1 (.int 0)).bind fun t12 => (asBl t12).bind fun b13 => if b13 = true then some (some x5, t11.2) else some (none, t11.2)) l10 s0).bind fun (k : List PV × PV) => some (.lst k.1, [.own k.2, .val s1, .own s2, .val s3, .no, .no]) := by
  refine Eq.trans ?_ (mTail_eq _ _); simp! only [C__law_tables_2, q__law_rows, q__law_next, C__law_tables_2_l]
def D__law_tables_3 : DenS := (sIf (dB (dBin eqF (dCall s__law_next [.b 0, .d (dC (.int 9))]) (dC (.int 0)))) (sSeq (sAsg (.nm 4) (dLst [])) sNil) sNil)
theorem D__law_tables_3_q (s0 s1 s2 s3 s4 : PV) : D__law_tables_3 [.own s0, .val s1, .own s2, .val s3, .val s4, .no] = ((m__law_next s0 (.int 9)).bind fun (t15 : PV × PV) => (eqF t15.1 (.int 0)).bind fun t16 => (asBl t16).bind fun b17 => if b17 = true then some (t15.2, (.lst [])) else some (t15.2, s4)).bind fun (k : PV × PV) => some (.nx [.own k.1, .val s1, .own s2, .val s3, .val k.2, .no]) := by
  refine Eq.trans ?_ (mTail_eq _ _); simp! only [D__law_tables_3, q__law_rows, q__law_next, C__law_tables_2_l, C__law_tables_2_q]
def C__law_tables_4_e : Den := (dTup [(dVar 5), (dCall s__law_next [.b 0, .d (dBin getF (dLst [(dC (.int 4)), (dC (.int 12))]) (dCall s__law_next [.b 0, .d (dC (.int 2))]))])])
def C__law_tables_4_t : DenT := dYes
theorem C__law_tables_4_l (s1 s2 s3 s4 : PV) (z0 : PV) (xs : List PV) : lcF (.nm 5) C__law_tables_4_t C__law_tables_4_e [5] xs [.own z0, .val s1, .own s2, .val s3, .val s4, .no] = (cmpT (fun (w20 : PV) (x19 : PV) => (m__law_next w20 (.int 2)).bind fun (t22 : PV × PV) => (getF (.lst [(.int 4), (.int 12)]) t22.1).bind fun t23 => (m__law_next t22.2 t23).bind fun (t24 : PV × PV) => some ((.tup [x19, t24.1]), t24.2)) xs z0).bind fun q => some (q.1, [.own q.2, .val s1, .own s2, .val s3, .val s4, .no]) := by
  refine lc_T (E := fun (w20 : PV) => [.own w20, .val s1, .own s2, .val s3, .val s4, .no]) _ ?_ xs z0
  intro z x; refine Eq.trans ?_ (mTail_eq _ _); simp! only [C__law_tables_4_e, C__law_tables_4_t, q__law_rows, q__law_next, C__law_tables_2_l, C__law_tables_2_q, D__law_tables_3_q]
def C__law_tables_4 : Den := dLC (iSeq (dVar 4)) [5] (.nm 5) C__law_tables_4_t C__law_tables_4_e
theorem C__law_tables_4_q (s0 s1 s2 s3 s4 : PV) : C__law_tables_4 [.own s0, .val s1, .own s2, .val s3, .val s4, .no] = ((seqOf s4).bind fun l21 => cmpT (fun (w20 : PV) (x19 : PV) => (m__law_next w20 (.int 2)).bind fun (t22 : PV × PV) => (getF (.lst [(.int 4), (.int 12)]) t22.1).bind fun t23 => (m__law_next t22.2 t23).bind fun (t24 : PV × PV) => some ((.tup [x19, t24.1]), t24.2)) l21 s0).bind fun (k : List PV × PV) => some (.lst k.1, [.own k.2, .val s1, .own s2, .val s3, .val s4, .no]) := by
  refine Eq.trans ?_ (mTail_eq _ _); simp! only [C__law_tables_4, q__law_rows, q__law_next, C__law_tables_2_l, C__law_tables_2_q, D__law_tables_3_q, C__law_tables_4_l]
def D__law_tables_1_b : DenS := sPost [3, 4] (sSeq (sFz 4 (sOwn 4 C__law_tables_2)) (sSeq D__law_tables_3 (sSeq (sDrop (dMut appendF 2 [(dApp tupleF [.d C__law_tables_4])])) sNil)))
def D__law_tables_1 : DenS := sFor (iSeq (dBin getF (dVar 1) (dC (.int 1)))) (.nm 3) D__law_tables_1_b
theorem D__law_tables_1_l (s1 : PV) (z0 z2 : PV) (xs : List PV) : forF (.nm 3) D__law_tables_1_b xs [.own z0, .val s1, .own z2, .no, .no, .no] = (fldM (fun (w2 : PV × PV) (x1 : PV) => ((getF s1 (.int 0)).bind fun t7 => (lenF [x1]).bind fun t8 => (m__law_rows t7 t8).bind fun (t9 : PV) => (seqOf t9).bind fun l10 => cmpS (fun (w6 : PV) (x5 : PV) => (m__law_next w6 (.int 4)).bind fun (t11 : PV × PV) => (gtF t11.1 (.int 0)).bind fun t12 => (asBl t12).bind fun b13 => if b13 = true then some (some x5, t11.2) else some (none, t11.2)) l10 w2.1).bind fun (y14 : List PV × PV) => ((m__law_next y14.2 (.int 9)).bind fun (t15 : PV × PV) => (eqF t15.1 (.int 0)).bind fun t16 => (asBl t16).bind fun b17 => if b17 = true then some (t15.2, (.lst [])) else some (t15.2, (.lst y14.1))).bind fun (k18 : PV × PV) => (asL w2.2).bind fun _ => ((seqOf k18.2).bind fun l21 => cmpT (fun (w20 : PV) (x19 : PV) => (m__law_next w20 (.int 2)).bind fun (t22 : PV × PV) => (getF (.lst [(.int 4), (.int 12)]) t22.1).bind fun t23 => (m__law_next t22.2 t23).bind fun (t24 : PV × PV) => some ((.tup [x19, t24.1]), t24.2)) l21 k18.1).bind fun (y25 : List PV × PV) => (tupleF [(.lst y25.1)]).bind fun t26 => (asL w2.2).bind fun l27 => (appendF l27 [t26]).bind fun (z28 : PV × List PV) => some (y25.2, (.lst z28.2))) xs (z0, z2)).bind fun (k : PV × PV) => some (.nx [.own k.1, .val s1, .own k.2, .no, .no, .no]) := by
  refine for_fold (E := fun (w2 : PV × PV) => [.own w2.1, .val s1, .own w2.2, .no, .no, .no]) _ ?_ xs (z0, z2)
  intro z x; refine Eq.trans ?_ (mTail_eq _ _); simp! only [D__law_tables_1_b, q__law_rows, q__law_next, C__law_tables_2_l, C__law_tables_2_q, D__law_tables_3_q, C__law_tables_4_l, C__law_tables_4_q]
theorem D__law_tables_1_q (s0 s1 s2 : PV) : D__law_tables_1 [.own s0, .val s1, .own s2, .no, .no, .no] = ((getF s1 (.int 1)).bind fun t3 => (seqOf t3).bind fun l4 => fldM (fun (w2 : PV × PV) (x1 : PV) => ((getF s1 (.int 0)).bind fun t7 => (lenF [x1]).bind fun t8 => (m__law_rows t7 t8).bind fun (t9 : PV) => (seqOf t9).bind fun l10 => cmpS (fun (w6 : PV) (x5 : PV) => (m__law_next w6 (.int 4)).bind fun (t11 : PV × PV) => (gtF t11.1 (.int 0)).bind fun t12 => (asBl t12).bind fun b13 => if b13 = true then some (some x5, t11.2) else some (none, t11.2)) l10 w2.1).bind fun (y14 : List PV × PV) => ((m__law_next y14.2 (.int 9)).bind fun (t15 : PV × PV) => (eqF t15.1 (.int 0)).bind fun t16 => (asBl t16).bind fun b17 => if b17 = true then some (t15.2, (.lst [])) else some (t15.2, (.lst y14.1))).bind fun (k18 : PV × PV) => (asL w2.2).bind fun _ => ((seqOf k18.2).bind fun l21 => cmpT (fun (w20 : PV) (x19 : PV) => (m__law_next w20 (.int 2)).bind fun (t22 : PV × PV) => (getF (.lst [(.int 4), (.int 12)]) t22.1).bind fun t23 => (m__law_next t22.2 t23).bind fun (t24 : PV × PV) => some ((.tup [x19, t24.1]), t24.2)) l21 k18.1).bind fun (y25 : List PV × PV) => (tupleF [(.lst y25.1)]).bind fun t26 => (asL w2.2).bind fun l27 => (appendF l27 [t26]).bind fun (z28 : PV × List PV) => some (y25.2, (.lst z28.2))) l4 (s0, s2)).bind fun (k : PV × PV) => some (.nx [.own k.1, .val s1, .own k.2, .no, .no, .no]) := by
  refine Eq.trans ?_ (mTail_eq _ _); simp! only [D__law_tables_1, q__law_rows, q__law_next, C__law_tables_2_l, C__law_tables_2_q, D__law_tables_3_q, C__law_tables_4_l, C__law_tables_4_q, D__law_tables_1_l]
def d__law_tables : DenS := (sSeq (sOwn 2 (dLst [])) (sSeq D__law_tables_1 (sSeq (sRetK [1, 2, 3, 4, 5] (dApp tupleF [.b 2])) sNil)))
def s__law_tables : PP.Sem := runF [true] 4 d__law_tables
def m__law_tables (s0 s1 : PV) : Option (PV × PV) := ((getF s1 (.int 1)).bind fun t3 => (seqOf t3).bind fun l4 => fldM (fun (w2 : PV × PV) (x1 : PV) => ((getF s1 (.int 0)).bind fun t7 => (lenF [x1]).bind fun t8 => (m__law_rows t7 t8).bind fun (t9 : PV) => (seqOf t9).bind fun l10 => cmpS (fun (w6 : PV) (x5 : PV) => (m__law_next w6 (.int 4)).bind fun (t11 : PV × PV) => (gtF t11.1 (.int 0)).bind fun t12 => (asBl t12).bind fun b13 => if b13 = true then some (some x5, t11.2) else some (none, t11.2)) l10 w2.1).bind fun (y14 : List PV × PV) => ((m__law_next y14.2 (.int 9)).bind fun (t15 : PV × PV) => (eqF t15.1 (.int 0)).bind fun t16 => (asBl t16).bind fun b17 => if b17 = true then some (t15.2, (.lst [])) else some (t15.2, (.lst y14.1))).bind fun (k18 : PV × PV) => (asL w2.2).bind fun _ => ((seqOf k18.2).bind fun l21 => cmpT (fun (w20 : PV) (x19 : PV) => (m__law_next w20 (.int 2)).bind fun (t22 : PV × PV) => (getF (.lst [(.int 4), (.int 12)]) t22.1).bind fun t23 => (m__law_next t22.2 t23).bind fun (t24 : PV × PV) => some ((.tup [x19, t24.1]), t24.2)) l21 k18.1).bind fun (y25 : List PV × PV) => (tupleF [(.lst y25.1)]).bind fun t26 => (asL w2.2).bind fun l27 => (appendF l27 [t26]).bind fun (z28 : PV × List PV) => some (y25.2, (.lst z28.2))) l4 (s0, (.lst []))).bind fun (k29 : PV × PV) => (tupleF [k29.2]).bind fun t30 => some (t30, k29.1)
theorem q__law_tables (s0 s1 : PV) : s__law_tables [s0, s1] = (m__law_tables s0 s1).bind fun (r : PV × PV) => some (r.1, [r.2, s1]) := by
  refine Eq.trans ?_ (mTail_eq _ _); simp! only [s__law_tables, d__law_tables, m__law_tables, runF_ev, q__law_rows, q__law_next, C__law_tables_2_l, C__law_tables_2_q, D__law_tables_3_q, C__law_tables_4_l, C__law_tables_4_q, D__law_tables_1_l, D__law_tables_1_q]
def C__law_variables_2_e : Den := (dVar 4)
def C__law_variables_2_t : DenT := (dB (dBin notInF (dVar 4) (dVar 2)))
theorem C__law_variables_2_l (s0 s1 s2 s3 : PV) (xs : List PV) : lcF (.nm 4) C__law_variables_2_t C__law_variables_2_e [4] xs [.val s0, .val s1, .val s2, .val s3, .no] = (cmpG (fun (x4 : PV) => (notInF x4 s2).bind fun t9 => (asBl t9).bind fun b10 => if b10 = true then some (some x4) else some none) xs).bind fun ys => some (ys, [.val s0, .val s1, .val s2, .val s3, .no]) := by
  refine lc_G (e := [.val s0, .val s1, .val s2, .val s3, .no]) _ ?_ xs
  intro x; refine Eq.trans ?_ (mTail_eq _ _); simp! only [C__law_variables_2_e, C__law_variables_2_t]
def C__law_variables_2 : Den := dLC (iSeq (dBin getF (dBin getF (dVar 0) (dC (.int 1))) (dVar 3))) [4] (.nm 4) C__law_variables_2_t C__law_variables_2_e
theorem C__law_variables_2_q (s0 s1 s2 s3 : PV) : C__law_variables_2 [.val s0, .val s1, .val s2, .val s3, .no] = ((getF s0 (.int 1)).bind fun t6 => (getF t6 s3).bind fun t7 => (seqOf t7).bind fun l8 => cmpG (fun (x4 : PV) => (notInF x4 s2).bind fun t9 => (asBl t9).bind fun b10 => if b10 = true then some (some x4) else some none) l8).bind fun (k : List PV) => some (.lst k, [.val s0, .val s1, .val s2, .val s3, .no]) := by
  refine Eq.trans ?_ (mTail_eq _ _); simp! only [C__law_variables_2, C__law_variables_2_l]
def D__law_variables_1_b : DenS := sPost [3] (sSeq (sAsg (.nm 2) (dBin addF (dVar 2) C__law_variables_2)) sNil)
def D__law_variables_1 : DenS := sFor (iSeq (dVar 1)) (.nm 3) D__law_variables_1_b
theorem D__law_variables_1_l (s0 s1 : PV) (z2 : PV) (xs : List PV) : forF (.nm 3) D__law_variables_1_b xs [.val s0, .val s1, .val z2, .no, .no] = (fldM (fun (w2 : PV) (x1 : PV) => ((getF s0 (.int 1)).bind fun t6 => (getF t6 x1).bind fun t7 => (seqOf t7).bind fun l8 => cmpG (fun (x4 : PV) => (notInF x4 w2).bind fun t9 => (asBl t9).bind fun b10 => if b10 = true then some (some x4) else some none) l8).bind fun (y11 : List PV) => (addF w2 (.lst y11)).bind fun t12 => some t12) xs z2).bind fun (k : PV) => some (.nx [.val s0, .val s1, .val k, .no, .no]) := by
  refine for_fold (E := fun (w2 : PV) => [.val s0, .val s1, .val w2, .no, .no]) _ ?_ xs z2
  intro z x; refine Eq.trans ?_ (mTail_eq _ _); simp! only [D__law_variables_1_b, C__law_variables_2_l, C__law_variables_2_q]
theorem D__law_variables_1_q (s0 s1 s2 : PV) : D__law_variables_1 [.val s0, .val s1, .val s2, .no, .no] = ((seqOf s1).bind fun l3 => fldM (fun (w2 : PV) (x1 : PV) => ((getF s0 (.int 1)).bind fun t6 => (getF t6 x1).bind fun t7 => (seqOf t7).bind fun l8 => cmpG (fun (x4 : PV) => (notInF x4 w2).bind fun t9 => (asBl t9).bind fun b10 => if b10 = true then some (some x4) else some none) l8).bind fun (y11 : List PV) => (addF w2 (.lst y11)).bind fun t12 => some t12) l3 s2).bind fun (k : PV) => some (.nx [.val s0, .val s1, .val k, .no, .no]) := by
  refine Eq.trans ?_ (mTail_eq _ _); simp! only [D__law_variables_1, C__law_variables_2_l, C__law_variables_2_q, D__law_variables_1_l]
def d__law_variables : DenS := (sSeq (sAsg (.nm 2) (dLst [])) (sSeq D__law_variables_1 (sSeq (sRetK [0, 1, 2, 3, 4] (dApp tupleZF [.d (dApp sortedF [.d (dVar 2)])])) sNil)))
def s__law_variables : PP.Sem := runF [] 3 d__law_variables
def m__law_variables (s0 s1 : PV) : Option (PV) := ((seqOf s1).bind fun l3 => fldM (fun (w2 : PV) (x1 : PV) => ((getF s0 (.int 1)).bind fun t6 => (getF t6 x1).bind fun t7 => (seqOf t7).bind fun l8 => cmpG (fun (x4 : PV) => (notInF x4 w2).bind fun t9 => (asBl t9).bind fun b10 => if b10 = true then some (some x4) else some none) l8).bind fun (y11 : List PV) => (addF w2 (.lst y11)).bind fun t12 => some t12) l3 (.lst [])).bind fun (k13 : PV) => (sortedF [k13]).bind fun t14 => (tupleZF [t14]).bind fun t15 => some t15
theorem q__law_variables (s0 s1 : PV) : s__law_variables [s0, s1] = (m__law_variables s0 s1).bind fun (r : PV) => some (r, [s0, s1]) := by
  refine Eq.trans ?_ (mTail_eq _ _); simp! only [s__law_variables, d__law_variables, m__law_variables, runF_ev, C__law_variables_2_l, C__law_variables_2_q, D__law_variables_1_l, D__law_variables_1_q]
def C__law_cut_1_e : Den := (dBin getF (dVar 0) (dRecv isSeqI (.d (dVar 1)) [(dVar 3)] indexF))
def C__law_cut_1_t : DenT := dYes
theorem C__law_cut_1_l (s0 s1 s2 : PV) (xs : List PV) : lcF (.nm 3) C__law_cut_1_t C__law_cut_1_e [3] xs [.val s0, .val s1, .val s2, .no] = (cmpM (fun (x1 : PV) => (guard1 (isSeqI s1)).bind fun _ => (indexF s1 [x1]).bind fun t4 => (getF s0 t4).bind fun t5 => some t5) xs).bind fun ys => some (ys, [.val s0, .val s1, .val s2, .no]) := by
  refine lc_M (e := [.val s0, .val s1, .val s2, .no]) _ ?_ xs
  intro x; refine Eq.trans ?_ (mTail_eq _ _); simp! only [C__law_cut_1_e, C__law_cut_1_t]
def C__law_cut_1 : Den := dLC (iSeq (dVar 2)) [3] (.nm 3) C__law_cut_1_t C__law_cut_1_e
theorem C__law_cut_1_q (s0 s1 s2 : PV) : C__law_cut_1 [.val s0, .val s1, .val s2, .no] = ((seqOf s2).bind fun l3 => cmpM (fun (x1 : PV) => (guard1 (isSeqI s1)).bind fun _ => (indexF s1 [x1]).bind fun t4 => (getF s0 t4).bind fun t5 => some t5) l3).bind fun (k : List PV) => some (.lst k, [.val s0, .val s1, .val s2, .no]) := by
  refine Eq.trans ?_ (mTail_eq _ _); simp! only [C__law_cut_1, C__law_cut_1_l]
def d__law_cut : DenS := (sSeq (sRetK [0, 1, 2, 3] (dApp tupleF [.d C__law_cut_1])) sNil)
def s__law_cut : PP.Sem := runF [] 1 d__law_cut
def m__law_cut (s0 s1 s2 : PV) : Option (PV) := ((seqOf s2).bind fun l3 => cmpM (fun (x1 : PV) => (guard1 (isSeqI s1)).bind fun _ => (indexF s1 [x1]).bind fun t4 => (getF s0 t4).bind fun t5 => some t5) l3).bind fun (y6 : List PV) => (tupleF [(.lst y6)]).bind fun t7 => some t7
theorem q__law_cut (s0 s1 s2 : PV) : s__law_cut [s0, s1, s2] = (m__law_cut s0 s1 s2).bind fun (r : PV) => some (r, [s0, s1, s2]) := by
  refine Eq.trans ?_ (mTail_eq _ _); simp! only [s__law_cut, d__law_cut, m__law_cut, runF_ev, C__law_cut_1_l, C__law_cut_1_q]
def C__law_cost_2_e : Den := (dVar 10)
def C__law_cost_2_t : DenT := (dB (dBin eqF (dVar 9) (dVar 7)))
theorem C__law_cost_2_l (s0 s1 s2 s3 s4 s5 s6 s7 : PV) (xs : List PV) : lcF (.tp [(.nm 9), (.nm 10)]) C__law_cost_2_t C__law_cost_2_e [9, 10] xs [.val s0, .val s1, .val s2, .val s3, .val s4, .val s5, .val s6, .val s7, .no, .no, .no] = (cmpG (fun (x8 : PV) => (un2 x8).bind fun (u12 : PV × PV) => (eqF u12.1 s7).bind fun t13 => (asBl t13).bind fun b14 => if b14 = true then some (some u12.2) else some none) xs).bind fun ys => some (ys, [.val s0, .val s1, .val s2, .val s3, .val s4, .val s5, .val s6, .val s7, .no, .no, .no]) := by
  refine lc_G (e := [.val s0, .val s1, .val s2, .val s3, .val s4, .val s5, .val s6, .val s7, .no, .no, .no]) _ ?_ xs
  intro x; refine Eq.trans ?_ (mTail_eq _ _); simp! only [C__law_cost_2_e, C__law_cost_2_t, q__law_variables, q__law_cut]
def C__law_cost_2 : Den := dLC (iSeq (dBin getF (dVar 1) (dVar 6))) [9, 10] (.tp [(.nm 9), (.nm 10)]) C__law_cost_2_t C__law_cost_2_e
theorem C__law_cost_2_q (s0 s1 s2 s3 s4 s5 s6 s7 : PV) : C__law_cost_2 [.val s0, .val s1, .val s2, .val s3, .val s4, .val s5, .val s6, .val s7, .no, .no, .no] = ((getF s1 s6).bind fun t10 => (seqOf t10).bind fun l11 => cmpG (fun (x8 : PV) => (un2 x8).bind fun (u12 : PV × PV) => (eqF u12.1 s7).bind fun t13 => (asBl t13).bind fun b14 => if b14 = true then some (some u12.2) else some none) l11).bind fun (k : List PV) => some (.lst k, [.val s0, .val s1, .val s2, .val s3, .val s4, .val s5, .val s6, .val s7, .no, .no, .no]) := by
  refine Eq.trans ?_ (mTail_eq _ _); simp! only [C__law_cost_2, q__law_variables, q__law_cut, C__law_cost_2_l]
def D__law_cost_1_b : DenS := sPost [6, 7, 8] (sSeq (sAsg (.nm 7) (dCall s__law_cut [.d (dVar 3), .d (dVar 4), .d (dBin getF (dBin getF (dVar 0) (dC (.int 1))) (dVar 6))])) (sSeq (sFz 8 (sOwn 8 C__law_cost_2)) (sSeq (sIf (dNot (dTruth (.d (dVar 8)))) (sSeq (sRetK [0, 1, 2, 3, 4, 5, 6, 7, 8, 9, 10] (dC .non)) sNil) sNil) (sSeq (sAsg (.nm 5) (dBin addF (dVar 5) (dBin getF (dVar 8) (dC (.int 0))))) sNil))))
def D__law_cost_1 : DenS := sFor (iSeq (dVar 2)) (.nm 6) D__law_cost_1_b
theorem D__law_cost_1_l (s0 s1 s2 s3 s4 : PV) (z5 : PV) (xs : List PV) : forF (.nm 6) D__law_cost_1_b xs [.val s0, .val s1, .val s2, .val s3, .val s4, .val z5, .no, .no, .no, .no, .no] = (fldR (S := PV) (R := PV) (fun (w3 : PV) (x2 : PV) => (getF s0 (.int 1)).bind fun t5 => (getF t5 x2).bind fun t6 => (m__law_cut s3 s4 t6).bind fun (t7 : PV) => ((getF s1 x2).bind fun t10 => (seqOf t10).bind fun l11 => cmpG (fun (x8 : PV) => (un2 x8).bind fun (u12 : PV × PV) => (eqF u12.1 t7).bind fun t13 => (asBl t13).bind fun b14 => if b14 = true then some (some u12.2) else some none) l11).bind fun (y15 : List PV) => (truthF (.lst y15)).bind fun b16 => if (!b16) = true then some (.inr .non) else (getF (.lst y15) (.int 0)).bind fun t17 => (addF w3 t17).bind fun t18 => some (.inl t18)) xs z5).bind fun r => some (flS (fun (k : PV) => [.val s0, .val s1, .val s2, .val s3, .val s4, .val k, .no, .no, .no, .no, .no]) (fun (v : PV) => (v, [.no, .no, .no, .no, .no, .no, .no, .no, .no, .no, .no])) r) := by
  refine for_foldR (E := fun (w3 : PV) => [.val s0, .val s1, .val s2, .val s3, .val s4, .val w3, .no, .no, .no, .no, .no]) (fun (v : PV) => (v, [.no, .no, .no, .no, .no, .no, .no, .no, .no, .no, .no])) _ ?_ xs z5
  intro z x; refine Eq.trans ?_ (mTail_eq _ _); simp! only [D__law_cost_1_b, q__law_variables, q__law_cut, C__law_cost_2_l, C__law_cost_2_q]
theorem D__law_cost_1_q (s0 s1 s2 s3 s4 s5 : PV) : D__law_cost_1 [.val s0, .val s1, .val s2, .val s3, .val s4, .val s5, .no, .no, .no, .no, .no] = ((seqOf s2).bind fun l4 => fldR (S := PV) (R := PV) (fun (w3 : PV) (x2 : PV) => (getF s0 (.int 1)).bind fun t5 => (getF t5 x2).bind fun t6 => (m__law_cut s3 s4 t6).bind fun (t7 : PV) => ((getF s1 x2).bind fun t10 => (seqOf t10).bind fun l11 => cmpG (fun (x8 : PV) => (un2 x8).bind fun (u12 : PV × PV) => (eqF u12.1 t7).bind fun t13 => (asBl t13).bind fun b14 => if b14 = true then some (some u12.2) else some none) l11).bind fun (y15 : List PV) => (truthF (.lst y15)).bind fun b16 => if (!b16) = true then some (.inr .non) else (getF (.lst y15) (.int 0)).bind fun t17 => (addF w3 t17).bind fun t18 => some (.inl t18)) l4 s5).bind fun r => some (flS (fun (k : PV) => [.val s0, .val s1, .val s2, .val s3, .val s4, .val k, .no, .no, .no, .no, .no]) (fun (v : PV) => (v, [.no, .no, .no, .no, .no, .no, .no, .no, .no, .no, .no])) r) := by
  refine Eq.trans ?_ (mTail_eq _ _); simp! only [D__law_cost_1, q__law_variables, q__law_cut, C__law_cost_2_l, C__law_cost_2_q, D__law_cost_1_l]
def d__law_cost : DenS := (sSeq (sAsg (.nm 4) (dCall s__law_variables [.d (dVar 0), .d (dVar 2)])) (sSeq (sAsg (.nm 5) (dC (.int 0))) (sSeq D__law_cost_1 (sSeq (sRetK [0, 1, 2, 3, 4, 5, 6, 7, 8, 9, 10] (dVar 5)) sNil))))
def s__law_cost : PP.Sem := runF [] 7 d__law_cost
def m__law_cost (s0 s1 s2 s3 : PV) : Option (PV) := (m__law_variables s0 s2).bind fun (t1 : PV) => ((seqOf s2).bind fun l4 => fldR (S := PV) (R := PV) (fun (w3 : PV) (x2 : PV) => (getF s0 (.int 1)).bind fun t5 => (getF t5 x2).bind fun t6 => (m__law_cut s3 t1 t6).bind fun (t7 : PV) => ((getF s1 x2).bind fun t10 => (seqOf t10).bind fun l11 => cmpG (fun (x8 : PV) => (un2 x8).bind fun (u12 : PV × PV) => (eqF u12.1 t7).bind fun t13 => (asBl t13).bind fun b14 => if b14 = true then some (some u12.2) else some none) l11).bind fun (y15 : List PV) => (truthF (.lst y15)).bind fun b16 => if (!b16) = true then some (.inr .non) else (getF (.lst y15) (.int 0)).bind fun t17 => (addF w3 t17).bind fun t18 => some (.inl t18)) l4 (.int 0)).bind fun (r19 : (PV) ⊕ (PV)) => mSum r19 (fun (k20 : PV) => some k20) (fun (v21 : PV) => some v21)
theorem q__law_cost (s0 s1 s2 s3 : PV) : s__law_cost [s0, s1, s2, s3] = (m__law_cost s0 s1 s2 s3).bind fun (r : PV) => some (r, [s0, s1, s2, s3]) := by
  refine Eq.trans ?_ (mTail_eq _ _); simp! only [s__law_cost, d__law_cost, m__law_cost, runF_ev, q__law_variables, q__law_cut, C__law_cost_2_l, C__law_cost_2_q, D__law_cost_1_l, D__law_cost_1_q]
def D__law_solutions_2 : DenS := (sIf (dB (dBin notNF (dVar 5) (dC .non))) (sSeq (sDrop (dMut appendF 3 [(dTup [(dVar 4), (dVar 5)])])) sNil) sNil)
theorem D__law_solutions_2_q (s0 s1 s2 s3 s4 s5 : PV) : D__law_solutions_2 [.val s0, .val s1, .val s2, .own s3, .val s4, .val s5] = ((notNF s5 .non).bind fun t9 => (asBl t9).bind fun b10 => if b10 = true then (asL s3).bind fun _ => (asL s3).bind fun l11 => (appendF l11 [(.tup [s4, s5])]).bind fun (z12 : PV × List PV) => some (.lst z12.2) else some s3).bind fun (k : PV) => some (.nx [.val s0, .val s1, .val s2, .own k, .val s4, .val s5]) := by
  refine Eq.trans ?_ (mTail_eq _ _); simp! only [D__law_solutions_2, q__law_rows, q__law_variables, q__law_cost]
def D__law_solutions_1_b : DenS := sPost [4, 5] (sSeq (sAsg (.nm 5) (dCall s__law_cost [.d (dVar 0), .d (dVar 1), .d (dVar 2), .d (dVar 4)])) (sSeq D__law_solutions_2 sNil))
def D__law_solutions_1 : DenS := sFor (iSeq (dCall s__law_rows [.d (dBin getF (dVar 0) (dC (.int 0))), .d (dApp lenF [.d (dCall s__law_variables [.d (dVar 0), .d (dVar 2)])])])) (.nm 4) D__law_solutions_1_b
theorem D__law_solutions_1_l (s0 s1 s2 : PV) (z3 : PV) (xs : List PV) : forF (.nm 4) D__law_solutions_1_b xs [.val s0, .val s1, .val s2, .own z3, .no, .no] = (fldM (fun (w2 : PV) (x1 : PV) => (m__law_cost s0 s1 s2 x1).bind fun (t8 : PV) => ((notNF t8 .non).bind fun t9 => (asBl t9).bind fun b10 => if b10 = true then (asL w2).bind fun _ => (asL w2).bind fun l11 => (appendF l11 [(.tup [x1, t8])]).bind fun (z12 : PV × List PV) => some (.lst z12.2) else some w2).bind fun (k13 : PV) => some k13) xs z3).bind fun (k : PV) => some (.nx [.val s0, .val s1, .val s2, .own k, .no, .no]) := by
  refine for_fold (E := fun (w2 : PV) => [.val s0, .val s1, .val s2, .own w2, .no, .no]) _ ?_ xs z3
  intro z x; refine Eq.trans ?_ (mTail_eq _ _); simp! only [D__law_solutions_1_b, q__law_rows, q__law_variables, q__law_cost, D__law_solutions_2_q]
theorem D__law_solutions_1_q (s0 s1 s2 s3 : PV) : D__law_solutions_1 [.val s0, .val s1, .val s2, .own s3, .no, .no] = ((getF s0 (.int 0)).bind fun t3 => (m__law_variables s0 s2).bind fun (t4 : PV) => (lenF [t4]).bind fun t5 => (m__law_rows t3 t5).bind fun (t6 : PV) => (seqOf t6).bind fun l7 => fldM (fun (w2 : PV) (x1 : PV) => (m__law_cost s0 s1 s2 x1).bind fun (t8 : PV) => ((notNF t8 .non).bind fun t9 => (asBl t9).bind fun b10 => if b10 = true then (asL w2).bind fun _ => (asL w2).bind fun l11 => (appendF l11 [(.tup [x1, t8])]).bind fun (z12 : PV × List PV) => some (.lst z12.2) else some w2).bind fun (k13 : PV) => some k13) l7 s3).bind fun (k : PV) => some (.nx [.val s0, .val s1, .val s2, .own k, .no, .no]) := by
  refine Eq.trans ?_ (mTail_eq _ _); simp! only [D__law_solutions_1, q__law_rows, q__law_variables, q__law_cost, D__law_solutions_2_q, D__law_solutions_1_l]
def d__law_solutions : DenS := (sSeq (sOwn 3 (dLst [])) (sSeq D__law_solutions_1 (sSeq (sRetK [0, 1, 2, 3, 4, 5] (dVar 3)) sNil)))
def s__law_solutions : PP.Sem := runF [] 3 d__law_solutions
def m__law_solutions (s0 s1 s2 : PV) : Option (PV) := ((getF s0 (.int 0)).bind fun t3 => (m__law_variables s0 s2).bind fun (t4 : PV) => (lenF [t4]).bind fun t5 => (m__law_rows t3 t5).bind fun (t6 : PV) => (seqOf t6).bind fun l7 => fldM (fun (w2 : PV) (x1 : PV) => (m__law_cost s0 s1 s2 x1).bind fun (t8 : PV) => ((notNF t8 .non).bind fun t9 => (asBl t9).bind fun b10 => if b10 = true then (asL w2).bind fun _ => (asL w2).bind fun l11 => (appendF l11 [(.tup [x1, t8])]).bind fun (z12 : PV × List PV) => some (.lst z12.2) else some w2).bind fun (k13 : PV) => some k13) l7 (.lst [])).bind fun (k14 : PV) => some k14
theorem q__law_solutions (s0 s1 s2 : PV) : s__law_solutions [s0, s1, s2] = (m__law_solutions s0 s1 s2).bind fun (r : PV) => some (r, [s0, s1, s2]) := by
  refine Eq.trans ?_ (mTail_eq _ _); simp! only [s__law_solutions, d__law_solutions, m__law_solutions, runF_ev, q__law_rows, q__law_variables, q__law_cost, D__law_solutions_2_q, D__law_solutions_1_l, D__law_solutions_1_q]
def V_is_number_2 : Den := dChain leF leF (dVar 1) (dVar 0) (dVar 2)
theorem V_is_number_2_q (s0 s1 s2 : PV) : V_is_number_2 [.val s0, .val s1, .val s2] = ((leF s1 s0).bind fun t2 => mAV t2 ((leF s0 s2).bind fun t3 => some t3)).bind fun (k : PV) => some (k, [.val s0, .val s1, .val s2]) := by
  refine Eq.trans ?_ (mTail_eq _ _); simp! only [V_is_number_2]
def V_is_number_1 : Den := (dAndV (dIsI .int (.d (dVar 0))) (dAndV (dUn notF (dIsI .bool (.d (dVar 0)))) V_is_number_2))
theorem V_is_number_1_q (s0 s1 s2 : PV) : V_is_number_1 [.val s0, .val s1, .val s2] = (mAV (.bl (isTy .int s0)) ((notF (.bl (isTy .bool s0))).bind fun t1 => mAV t1 (((leF s1 s0).bind fun t2 => mAV t2 ((leF s0 s2).bind fun t3 => some t3)).bind fun (t4 : PV) => some t4))).bind fun (k : PV) => some (k, [.val s0, .val s1, .val s2]) := by
  refine Eq.trans ?_ (mTail_eq _ _); simp! only [V_is_number_1, V_is_number_2_q]
def d_is_number : DenS := (sSeq (sRetK [0, 1, 2] V_is_number_1) sNil)
def s_is_number : PP.Sem := runF [] 0 d_is_number
def m_is_number (s0 s1 s2 : PV) : Option (PV) := (mAV (.bl (isTy .int s0)) ((notF (.bl (isTy .bool s0))).bind fun t1 => mAV t1 (((leF s1 s0).bind fun t2 => mAV t2 ((leF s0 s2).bind fun t3 => some t3)).bind fun (t4 : PV) => some t4))).bind fun (t5 : PV) => some t5
theorem q_is_number (s0 s1 s2 : PV) : s_is_number [s0, s1, s2] = (m_is_number s0 s1 s2).bind fun (r : PV) => some (r, [s0, s1, s2]) := by
  refine Eq.trans ?_ (mTail_eq _ _); simp! only [s_is_number, d_is_number, m_is_number, runF_ev, V_is_number_2_q, V_is_number_1_q]
def V_is_whole_2 : Den := dChain leF leF (dVar 1) (dVar 0) (dVar 2)
theorem V_is_whole_2_q (s0 s1 s2 : PV) : V_is_whole_2 [.val s0, .val s1, .val s2] = ((leF s1 s0).bind fun t2 => mAV t2 ((leF s0 s2).bind fun t3 => some t3)).bind fun (k : PV) => some (k, [.val s0, .val s1, .val s2]) := by
  refine Eq.trans ?_ (mTail_eq _ _); simp! only [V_is_whole_2]
def V_is_whole_1 : Den := (dAndV (dIsI .int (.d (dVar 0))) (dAndV (dUn notF (dIsI .bool (.d (dVar 0)))) V_is_whole_2))
theorem V_is_whole_1_q (s0 s1 s2 : PV) : V_is_whole_1 [.val s0, .val s1, .val s2] = (mAV (.bl (isTy .int s0)) ((notF (.bl (isTy .bool s0))).bind fun t1 => mAV t1 (((leF s1 s0).bind fun t2 => mAV t2 ((leF s0 s2).bind fun t3 => some t3)).bind fun (t4 : PV) => some t4))).bind fun (k : PV) => some (k, [.val s0, .val s1, .val s2]) := by
  refine Eq.trans ?_ (mTail_eq _ _); simp! only [V_is_whole_1, V_is_whole_2_q]
def d_is_whole : DenS := (sSeq (sRetK [0, 1, 2] V_is_whole_1) sNil)
def s_is_whole : PP.Sem := runF [] 0 d_is_whole
def m_is_whole (s0 s1 s2 : PV) : Option (PV) := (mAV (.bl (isTy .int s0)) ((notF (.bl (isTy .bool s0))).bind fun t1 => mAV t1 (((leF s1 s0).bind fun t2 => mAV t2 ((leF s0 s2).bind fun t3 => some t3)).bind fun (t4 : PV) => some t4))).bind fun (t5 : PV) => some t5
theorem q_is_whole (s0 s1 s2 : PV) : s_is_whole [s0, s1, s2] = (m_is_whole s0 s1 s2).bind fun (r : PV) => some (r, [s0, s1, s2]) := by
  refine Eq.trans ?_ (mTail_eq _ _); simp! only [s_is_whole, d_is_whole, m_is_whole, runF_ev, V_is_whole_2_q, V_is_whole_1_q]
def C_is_climbing_1_e : Den := (dBin ltF (dBin getF (dVar 0) (dVar 1)) (dBin getF (dVar 0) (dBin addF (dVar 1) (dC (.int 1)))))
def C_is_climbing_1_t : DenT := dYes
theorem C_is_climbing_1_l (s0 : PV) (xs : List PV) : lcF (.nm 1) C_is_climbing_1_t C_is_climbing_1_e [1] xs [.val s0, .no] = (cmpM (fun (x1 : PV) => (getF s0 x1).bind fun t6 => (addF x1 (.int 1)).bind fun t7 => (getF s0 t7).bind fun t8 => (ltF t6 t8).bind fun t9 => some t9) xs).bind fun ys => some (ys, [.val s0, .no]) := by
  refine lc_M (e := [.val s0, .no]) _ ?_ xs
  intro x; refine Eq.trans ?_ (mTail_eq _ _); simp! only [C_is_climbing_1_e, C_is_climbing_1_t]
def C_is_climbing_1 : Den := dLC (iRange [(dBin subF (dApp lenF [.d (dVar 0)]) (dC (.int 1)))]) [1] (.nm 1) C_is_climbing_1_t C_is_climbing_1_e
theorem C_is_climbing_1_q (s0 : PV) : C_is_climbing_1 [.val s0, .no] = ((lenF [s0]).bind fun t3 => (subF t3 (.int 1)).bind fun t4 => (rgO1 t4).bind fun r5 => cmpM (fun (x1 : PV) => (getF s0 x1).bind fun t6 => (addF x1 (.int 1)).bind fun t7 => (getF s0 t7).bind fun t8 => (ltF t6 t8).bind fun t9 => some t9) (rgL r5)).bind fun (k : List PV) => some (.lst k, [.val s0, .no]) := by
  refine Eq.trans ?_ (mTail_eq _ _); simp! only [C_is_climbing_1, C_is_climbing_1_l]
def d_is_climbing : DenS := (sSeq (sRetK [0, 1] (dApp allF [.d C_is_climbing_1])) sNil)
def s_is_climbing : PP.Sem := runF [] 1 d_is_climbing
def m_is_climbing (s0 : PV) : Option (PV) := ((lenF [s0]).bind fun t3 => (subF t3 (.int 1)).bind fun t4 => (rgO1 t4).bind fun r5 => cmpM (fun (x1 : PV) => (getF s0 x1).bind fun t6 => (addF x1 (.int 1)).bind fun t7 => (getF s0 t7).bind fun t8 => (ltF t6 t8).bind fun t9 => some t9) (rgL r5)).bind fun (y10 : List PV) => (allF [(.lst y10)]).bind fun t11 => some t11
theorem q_is_climbing (s0 : PV) : s_is_climbing [s0] = (m_is_climbing s0).bind fun (r : PV) => some (r, [s0]) := by
  refine Eq.trans ?_ (mTail_eq _ _); simp! only [s_is_climbing, d_is_climbing, m_is_climbing, runF_ev, C_is_climbing_1_l, C_is_climbing_1_q]
def C_are_variables_2_e : Den := (dCall s_is_whole [.d (dVar 1), .d (dC (.int 0)), .d (dC (.int 5))])
def C_are_variables_2_t : DenT := dYes
theorem C_are_variables_2_l (s0 : PV) (xs : List PV) : lcF (.nm 1) C_are_variables_2_t C_are_variables_2_e [1] xs [.val s0, .no] = (cmpM (fun (x2 : PV) => (m_is_whole x2 (.int 0) (.int 5)).bind fun (t5 : PV) => some t5) xs).bind fun ys => some (ys, [.val s0, .no]) := by
  refine lc_M (e := [.val s0, .no]) _ ?_ xs
  intro x; refine Eq.trans ?_ (mTail_eq _ _); simp! only [C_are_variables_2_e, C_are_variables_2_t, q_is_whole, q_is_climbing]
def C_are_variables_2 : Den := dLC (iSeq (dVar 0)) [1] (.nm 1) C_are_variables_2_t C_are_variables_2_e
theorem C_are_variables_2_q (s0 : PV) : C_are_variables_2 [.val s0, .no] = ((seqOf s0).bind fun l4 => cmpM (fun (x2 : PV) => (m_is_whole x2 (.int 0) (.int 5)).bind fun (t5 : PV) => some t5) l4).bind fun (k : List PV) => some (.lst k, [.val s0, .no]) := by
  refine Eq.trans ?_ (mTail_eq _ _); simp! only [C_are_variables_2, q_is_whole, q_is_climbing, C_are_variables_2_l]
def T_are_variables_1 : DenT := (dOr (dNot (dTruth (.d (dIsI .tuple (.d (dVar 0)))))) (dNot (dTruth (.d (dApp allF [.d C_are_variables_2])))))
theorem T_are_variables_1_q (s0 : PV) : T_are_variables_1 [.val s0, .no] = ((truthF (.bl (isTy .tuple s0))).bind fun b1 => if (!b1) = true then some true else ((seqOf s0).bind fun l4 => cmpM (fun (x2 : PV) => (m_is_whole x2 (.int 0) (.int 5)).bind fun (t5 : PV) => some t5) l4).bind fun (y6 : List PV) => (allF [(.lst y6)]).bind fun t7 => (truthF t7).bind fun b8 => some (!b8)).bind fun (k : Bool) => some (k, [.val s0, .no]) := by
  refine Eq.trans ?_ (mTail_eq _ _); simp! only [T_are_variables_1, q_is_whole, q_is_climbing, C_are_variables_2_l, C_are_variables_2_q]
def d_are_variables : DenS := (sSeq (sIf T_are_variables_1 (sSeq (sRetK [0, 1] (dC (.bl false))) sNil) sNil) (sSeq (sRetK [0, 1] (dCall s_is_climbing [.d (dVar 0)])) sNil))
def s_are_variables : PP.Sem := runF [] 1 d_are_variables
def m_are_variables (s0 : PV) : Option (PV) := ((truthF (.bl (isTy .tuple s0))).bind fun b1 => if (!b1) = true then some true else ((seqOf s0).bind fun l4 => cmpM (fun (x2 : PV) => (m_is_whole x2 (.int 0) (.int 5)).bind fun (t5 : PV) => some t5) l4).bind fun (y6 : List PV) => (allF [(.lst y6)]).bind fun t7 => (truthF t7).bind fun b8 => some (!b8)).bind fun (b9 : Bool) => if b9 = true then some (.bl false) else (m_is_climbing s0).bind fun (t10 : PV) => some t10
theorem q_are_variables (s0 : PV) : s_are_variables [s0] = (m_are_variables s0).bind fun (r : PV) => some (r, [s0]) := by
  refine Eq.trans ?_ (mTail_eq _ _); simp! only [s_are_variables, d_are_variables, m_are_variables, runF_ev, q_is_whole, q_is_climbing, C_are_variables_2_l, C_are_variables_2_q, T_are_variables_1_q]
def V_is_scope_1 : Den := (dAndV (dCall s_are_variables [.d (dVar 0)]) (dBin leF (dApp lenF [.d (dVar 0)]) (dC (.int 3))))
theorem V_is_scope_1_q (s0 : PV) : V_is_scope_1 [.val s0] = ((m_are_variables s0).bind fun (t1 : PV) => mAV t1 ((lenF [s0]).bind fun t2 => (leF t2 (.int 3)).bind fun t3 => some t3)).bind fun (k : PV) => some (k, [.val s0]) := by
  refine Eq.trans ?_ (mTail_eq _ _); simp! only [V_is_scope_1, q_are_variables]
def d_is_scope : DenS := (sSeq (sRetK [0] V_is_scope_1) sNil)
def s_is_scope : PP.Sem := runF [] 0 d_is_scope
def m_is_scope (s0 : PV) : Option (PV) := ((m_are_variables s0).bind fun (t1 : PV) => mAV t1 ((lenF [s0]).bind fun t2 => (leF t2 (.int 3)).bind fun t3 => some t3)).bind fun (t4 : PV) => some t4
theorem q_is_scope (s0 : PV) : s_is_scope [s0] = (m_is_scope s0).bind fun (r : PV) => some (r, [s0]) := by
  refine Eq.trans ?_ (mTail_eq _ _); simp! only [s_is_scope, d_is_scope, m_is_scope, runF_ev, q_are_variables, V_is_scope_1_q]
def C_is_edge_2_e : Den := (dCall s_is_number [.d (dVar 2), .d (dC (.int 0)), .d (dBin subF (dVar 1) (dC (.int 1)))])
def C_is_edge_2_t : DenT := dYes
theorem C_is_edge_2_l (s0 s1 : PV) (xs : List PV) : lcF (.nm 2) C_is_edge_2_t C_is_edge_2_e [2] xs [.val s0, .val s1, .no] = (cmpM (fun (x5 : PV) => (subF s1 (.int 1)).bind fun t8 => (m_is_number x5 (.int 0) t8).bind fun (t9 : PV) => some t9) xs).bind fun ys => some (ys, [.val s0, .val s1, .no]) := by
  refine lc_M (e := [.val s0, .val s1, .no]) _ ?_ xs
  intro x; refine Eq.trans ?_ (mTail_eq _ _); simp! only [C_is_edge_2_e, C_is_edge_2_t, q_is_number]
def C_is_edge_2 : Den := dLC (iSeq (dVar 0)) [2] (.nm 2) C_is_edge_2_t C_is_edge_2_e
theorem C_is_edge_2_q (s0 s1 : PV) : C_is_edge_2 [.val s0, .val s1, .no] = ((seqOf s0).bind fun l7 => cmpM (fun (x5 : PV) => (subF s1 (.int 1)).bind fun t8 => (m_is_number x5 (.int 0) t8).bind fun (t9 : PV) => some t9) l7).bind fun (k : List PV) => some (.lst k, [.val s0, .val s1, .no]) := by
  refine Eq.trans ?_ (mTail_eq _ _); simp! only [C_is_edge_2, q_is_number, C_is_edge_2_l]
def T_is_edge_1 : DenT := (dOr (dNot (dTruth (.d (dIsI .tuple (.d (dVar 0)))))) (dOr (dB (dBin neF (dApp lenF [.d (dVar 0)]) (dC (.int 2)))) (dNot (dTruth (.d (dApp allF [.d C_is_edge_2]))))))
theorem T_is_edge_1_q (s0 s1 : PV) : T_is_edge_1 [.val s0, .val s1, .no] = ((truthF (.bl (isTy .tuple s0))).bind fun b1 => if (!b1) = true then some true else (lenF [s0]).bind fun t2 => (neF t2 (.int 2)).bind fun t3 => (asBl t3).bind fun b4 => if b4 = true then some true else ((seqOf s0).bind fun l7 => cmpM (fun (x5 : PV) => (subF s1 (.int 1)).bind fun t8 => (m_is_number x5 (.int 0) t8).bind fun (t9 : PV) => some t9) l7).bind fun (y10 : List PV) => (allF [(.lst y10)]).bind fun t11 => (truthF t11).bind fun b12 => some (!b12)).bind fun (k : Bool) => some (k, [.val s0, .val s1, .no]) := by
  refine Eq.trans ?_ (mTail_eq _ _); simp! only [T_is_edge_1, q_is_number, C_is_edge_2_l, C_is_edge_2_q]
def d_is_edge : DenS := (sSeq (sIf T_is_edge_1 (sSeq (sRetK [0, 1, 2] (dC (.bl false))) sNil) sNil) (sSeq (sRetK [0, 1, 2] (dBin ltF (dBin getF (dVar 0) (dC (.int 0))) (dBin getF (dVar 0) (dC (.int 1))))) sNil))
def s_is_edge : PP.Sem := runF [] 1 d_is_edge
def m_is_edge (s0 s1 : PV) : Option (PV) := ((truthF (.bl (isTy .tuple s0))).bind fun b1 => if (!b1) = true then some true else (lenF [s0]).bind fun t2 => (neF t2 (.int 2)).bind fun t3 => (asBl t3).bind fun b4 => if b4 = true then some true else ((seqOf s0).bind fun l7 => cmpM (fun (x5 : PV) => (subF s1 (.int 1)).bind fun t8 => (m_is_number x5 (.int 0) t8).bind fun (t9 : PV) => some t9) l7).bind fun (y10 : List PV) => (allF [(.lst y10)]).bind fun t11 => (truthF t11).bind fun b12 => some (!b12)).bind fun (b13 : Bool) => if b13 = true then some (.bl false) else (getF s0 (.int 0)).bind fun t14 => (getF s0 (.int 1)).bind fun t15 => (ltF t14 t15).bind fun t16 => some t16
theorem q_is_edge (s0 s1 : PV) : s_is_edge [s0, s1] = (m_is_edge s0 s1).bind fun (r : PV) => some (r, [s0, s1]) := by
  refine Eq.trans ?_ (mTail_eq _ _); simp! only [s_is_edge, d_is_edge, m_is_edge, runF_ev, q_is_number, C_is_edge_2_l, C_is_edge_2_q, T_is_edge_1_q]
def T_is_graph_1 : DenT := (dOr (dNot (dTruth (.d (dIsI .tuple (.d (dVar 0)))))) (dOr (dB (dBin neF (dApp lenF [.d (dVar 0)]) (dC (.int 3)))) (dNot (dTruth (.d (dCall s_is_number [.d (dBin getF (dVar 0) (dC (.int 0))), .d (dC (.int 2)), .d (dC (.int 3))]))))))
theorem T_is_graph_1_q (s0 : PV) : T_is_graph_1 [.val s0, .no, .no, .no, .no, .no, .no] = ((truthF (.bl (isTy .tuple s0))).bind fun b1 => if (!b1) = true then some true else (lenF [s0]).bind fun t2 => (neF t2 (.int 3)).bind fun t3 => (asBl t3).bind fun b4 => if b4 = true then some true else (getF s0 (.int 0)).bind fun t5 => (m_is_number t5 (.int 2) (.int 3)).bind fun (t6 : PV) => (truthF t6).bind fun b7 => some (!b7)).bind fun (k : Bool) => some (k, [.val s0, .no, .no, .no, .no, .no, .no]) := by
  refine Eq.trans ?_ (mTail_eq _ _); simp! only [T_is_graph_1, q_is_number, q_is_scope, q_is_edge]
def V_is_graph_3 : Den := dChain leF leF (dC (.int 1)) (dApp lenF [.d (dVar 2)]) (dC (.int 5))
theorem V_is_graph_3_q (s0 s1 s2 s3 : PV) : V_is_graph_3 [.val s0, .val s1, .val s2, .val s3, .no, .no, .no] = ((lenF [s2]).bind fun t11 => (leF (.int 1) t11).bind fun t12 => mAV t12 ((leF t11 (.int 5)).bind fun t13 => some t13)).bind fun (k : PV) => some (k, [.val s0, .val s1, .val s2, .val s3, .no, .no, .no]) := by
  refine Eq.trans ?_ (mTail_eq _ _); simp! only [V_is_graph_3, q_is_number, q_is_scope, q_is_edge, T_is_graph_1_q]
def T_is_graph_2 : DenT := (dOr (dNot (dTruth (.d (dIsI .tuple (.d (dVar 2)))))) (dNot (dB V_is_graph_3)))
theorem T_is_graph_2_q (s0 s1 s2 s3 : PV) : T_is_graph_2 [.val s0, .val s1, .val s2, .val s3, .no, .no, .no] = ((truthF (.bl (isTy .tuple s2))).bind fun b10 => if (!b10) = true then some true else ((lenF [s2]).bind fun t11 => (leF (.int 1) t11).bind fun t12 => mAV t12 ((leF t11 (.int 5)).bind fun t13 => some t13)).bind fun (t14 : PV) => (asBl t14).bind fun b15 => some (!b15)).bind fun (k : Bool) => some (k, [.val s0, .val s1, .val s2, .val s3, .no, .no, .no]) := by
  refine Eq.trans ?_ (mTail_eq _ _); simp! only [T_is_graph_2, q_is_number, q_is_scope, q_is_edge, T_is_graph_1_q, V_is_graph_3_q]
def C_is_graph_4_e : Den := (dCall s_is_scope [.d (dVar 4)])
def C_is_graph_4_t : DenT := dYes
theorem C_is_graph_4_l (s0 s1 s2 s3 : PV) (xs : List PV) : lcF (.nm 4) C_is_graph_4_t C_is_graph_4_e [4] xs [.val s0, .val s1, .val s2, .val s3, .no, .no, .no] = (cmpM (fun (x17 : PV) => (m_is_scope x17).bind fun (t20 : PV) => some t20) xs).bind fun ys => some (ys, [.val s0, .val s1, .val s2, .val s3, .no, .no, .no]) := by
  refine lc_M (e := [.val s0, .val s1, .val s2, .val s3, .no, .no, .no]) _ ?_ xs
  intro x; refine Eq.trans ?_ (mTail_eq _ _); simp! only [C_is_graph_4_e, C_is_graph_4_t, q_is_number, q_is_scope, q_is_edge, T_is_graph_1_q, V_is_graph_3_q, T_is_graph_2_q]
def C_is_graph_4 : Den := dLC (iSeq (dVar 2)) [4] (.nm 4) C_is_graph_4_t C_is_graph_4_e
theorem C_is_graph_4_q (s0 s1 s2 s3 : PV) : C_is_graph_4 [.val s0, .val s1, .val s2, .val s3, .no, .no, .no] = ((seqOf s2).bind fun l19 => cmpM (fun (x17 : PV) => (m_is_scope x17).bind fun (t20 : PV) => some t20) l19).bind fun (k : List PV) => some (.lst k, [.val s0, .val s1, .val s2, .val s3, .no, .no, .no]) := by
  refine Eq.trans ?_ (mTail_eq _ _); simp! only [C_is_graph_4, q_is_number, q_is_scope, q_is_edge, T_is_graph_1_q, V_is_graph_3_q, T_is_graph_2_q, C_is_graph_4_l]
def C_is_graph_6_e : Den := (dCall s_is_edge [.d (dVar 5), .d (dApp lenF [.d (dVar 2)])])
def C_is_graph_6_t : DenT := dYes
theorem C_is_graph_6_l (s0 s1 s2 s3 : PV) (xs : List PV) : lcF (.nm 5) C_is_graph_6_t C_is_graph_6_e [5] xs [.val s0, .val s1, .val s2, .val s3, .no, .no, .no] = (cmpM (fun (x25 : PV) => (lenF [s2]).bind fun t28 => (m_is_edge x25 t28).bind fun (t29 : PV) => some t29) xs).bind fun ys => some (ys, [.val s0, .val s1, .val s2, .val s3, .no, .no, .no]) := by
  refine lc_M (e := [.val s0, .val s1, .val s2, .val s3, .no, .no, .no]) _ ?_ xs
  intro x; refine Eq.trans ?_ (mTail_eq _ _); simp! only [C_is_graph_6_e, C_is_graph_6_t, q_is_number, q_is_scope, q_is_edge, T_is_graph_1_q, V_is_graph_3_q, T_is_graph_2_q, C_is_graph_4_l, C_is_graph_4_q]
def C_is_graph_6 : Den := dLC (iSeq (dVar 3)) [5] (.nm 5) C_is_graph_6_t C_is_graph_6_e
theorem C_is_graph_6_q (s0 s1 s2 s3 : PV) : C_is_graph_6 [.val s0, .val s1, .val s2, .val s3, .no, .no, .no] = ((seqOf s3).bind fun l27 => cmpM (fun (x25 : PV) => (lenF [s2]).bind fun t28 => (m_is_edge x25 t28).bind fun (t29 : PV) => some t29) l27).bind fun (k : List PV) => some (.lst k, [.val s0, .val s1, .val s2, .val s3, .no, .no, .no]) := by
  refine Eq.trans ?_ (mTail_eq _ _); simp! only [C_is_graph_6, q_is_number, q_is_scope, q_is_edge, T_is_graph_1_q, V_is_graph_3_q, T_is_graph_2_q, C_is_graph_4_l, C_is_graph_4_q, C_is_graph_6_l]
def T_is_graph_5 : DenT := (dOr (dNot (dTruth (.d (dIsI .tuple (.d (dVar 3)))))) (dNot (dTruth (.d (dApp allF [.d C_is_graph_6])))))
theorem T_is_graph_5_q (s0 s1 s2 s3 : PV) : T_is_graph_5 [.val s0, .val s1, .val s2, .val s3, .no, .no, .no] = ((truthF (.bl (isTy .tuple s3))).bind fun b24 => if (!b24) = true then some true else ((seqOf s3).bind fun l27 => cmpM (fun (x25 : PV) => (lenF [s2]).bind fun t28 => (m_is_edge x25 t28).bind fun (t29 : PV) => some t29) l27).bind fun (y30 : List PV) => (allF [(.lst y30)]).bind fun t31 => (truthF t31).bind fun b32 => some (!b32)).bind fun (k : Bool) => some (k, [.val s0, .val s1, .val s2, .val s3, .no, .no, .no]) := by
  refine Eq.trans ?_ (mTail_eq _ _); simp! only [T_is_graph_5, q_is_number, q_is_scope, q_is_edge, T_is_graph_1_q, V_is_graph_3_q, T_is_graph_2_q, C_is_graph_4_l, C_is_graph_4_q, C_is_graph_6_l, C_is_graph_6_q]
def C_is_graph_7_e : Den := (dBin ltF (dBin getF (dVar 3) (dVar 6)) (dBin getF (dVar 3) (dBin addF (dVar 6) (dC (.int 1)))))
def C_is_graph_7_t : DenT := dYes
theorem C_is_graph_7_l (s0 s1 s2 s3 : PV) (xs : List PV) : lcF (.nm 6) C_is_graph_7_t C_is_graph_7_e [6] xs [.val s0, .val s1, .val s2, .val s3, .no, .no, .no] = (cmpM (fun (x34 : PV) => (getF s3 x34).bind fun t39 => (addF x34 (.int 1)).bind fun t40 => (getF s3 t40).bind fun t41 => (ltF t39 t41).bind fun t42 => some t42) xs).bind fun ys => some (ys, [.val s0, .val s1, .val s2, .val s3, .no, .no, .no]) := by
  refine lc_M (e := [.val s0, .val s1, .val s2, .val s3, .no, .no, .no]) _ ?_ xs
  intro x; refine Eq.trans ?_ (mTail_eq _ _); simp! only [C_is_graph_7_e, C_is_graph_7_t, q_is_number, q_is_scope, q_is_edge, T_is_graph_1_q, V_is_graph_3_q, T_is_graph_2_q, C_is_graph_4_l, C_is_graph_4_q, C_is_graph_6_l, C_is_graph_6_q, T_is_graph_5_q]
def C_is_graph_7 : Den := dLC (iRange [(dBin subF (dApp lenF [.d (dVar 3)]) (dC (.int 1)))]) [6] (.nm 6) C_is_graph_7_t C_is_graph_7_e
theorem C_is_graph_7_q (s0 s1 s2 s3 : PV) : C_is_graph_7 [.val s0, .val s1, .val s2, .val s3, .no, .no, .no] = ((lenF [s3]).bind fun t36 => (subF t36 (.int 1)).bind fun t37 => (rgO1 t37).bind fun r38 => cmpM (fun (x34 : PV) => (getF s3 x34).bind fun t39 => (addF x34 (.int 1)).bind fun t40 => (getF s3 t40).bind fun t41 => (ltF t39 t41).bind fun t42 => some t42) (rgL r38)).bind fun (k : List PV) => some (.lst k, [.val s0, .val s1, .val s2, .val s3, .no, .no, .no]) := by
  refine Eq.trans ?_ (mTail_eq _ _); simp! only [C_is_graph_7, q_is_number, q_is_scope, q_is_edge, T_is_graph_1_q, V_is_graph_3_q, T_is_graph_2_q, C_is_graph_4_l, C_is_graph_4_q, C_is_graph_6_l, C_is_graph_6_q, T_is_graph_5_q, C_is_graph_7_l]
def d_is_graph : DenS := (sSeq (sIf T_is_graph_1 (sSeq (sRetK [0, 1, 2, 3, 4, 5, 6] (dC (.bl false))) sNil) sNil) (sSeq (sAsg (.tp [(.nm 1), (.nm 2), (.nm 3)]) (dVar 0)) (sSeq (sIf T_is_graph_2 (sSeq (sRetK [0, 1, 2, 3, 4, 5, 6] (dC (.bl false))) sNil) sNil) (sSeq (sIf (dNot (dTruth (.d (dApp allF [.d C_is_graph_4])))) (sSeq (sRetK [0, 1, 2, 3, 4, 5, 6] (dC (.bl false))) sNil) sNil) (sSeq (sIf T_is_graph_5 (sSeq (sRetK [0, 1, 2, 3, 4, 5, 6] (dC (.bl false))) sNil) sNil) (sSeq (sRetK [0, 1, 2, 3, 4, 5, 6] (dApp allF [.d C_is_graph_7])) sNil))))))
def s_is_graph : PP.Sem := runF [] 6 d_is_graph
def m_is_graph (s0 : PV) : Option (PV) := ((truthF (.bl (isTy .tuple s0))).bind fun b1 => if (!b1) = true then some true else (lenF [s0]).bind fun t2 => (neF t2 (.int 3)).bind fun t3 => (asBl t3).bind fun b4 => if b4 = true then some true else (getF s0 (.int 0)).bind fun t5 => (m_is_number t5 (.int 2) (.int 3)).bind fun (t6 : PV) => (truthF t6).bind fun b7 => some (!b7)).bind fun (b8 : Bool) => if b8 = true then some (.bl false) else (un3 s0).bind fun (u9 : PV × PV × PV) => ((truthF (.bl (isTy .tuple u9.2.1))).bind fun b10 => if (!b10) = true then some true else ((lenF [u9.2.1]).bind fun t11 => (leF (.int 1) t11).bind fun t12 => mAV t12 ((leF t11 (.int 5)).bind fun t13 => some t13)).bind fun (t14 : PV) => (asBl t14).bind fun b15 => some (!b15)).bind fun (b16 : Bool) => if b16 = true then some (.bl false) else ((seqOf u9.2.1).bind fun l19 => cmpM (fun (x17 : PV) => (m_is_scope x17).bind fun (t20 : PV) => some t20) l19).bind fun (y21 : List PV) => (allF [(.lst y21)]).bind fun t22 => (truthF t22).bind fun b23 => if (!b23) = true then some (.bl false) else ((truthF (.bl (isTy .tuple u9.2.2))).bind fun b24 => if (!b24) = true then some true else ((seqOf u9.2.2).bind fun l27 => cmpM (fun (x25 : PV) => (lenF [u9.2.1]).bind fun t28 => (m_is_edge x25 t28).bind fun (t29 : PV) => some t29) l27).bind fun (y30 : List PV) => (allF [(.lst y30)]).bind fun t31 => (truthF t31).bind fun b32 => some (!b32)).bind fun (b33 : Bool) => if b33 = true then some (.bl false) else ((lenF [u9.2.2]).bind fun t36 => (subF t36 (.int 1)).bind fun t37 => (rgO1 t37).bind fun r38 => cmpM (fun (x34 : PV) => (getF u9.2.2 x34).bind fun t39 => (addF x34 (.int 1)).bind fun t40 => (getF u9.2.2 t40).bind fun t41 => (ltF t39 t41).bind fun t42 => some t42) (rgL r38)).bind fun (y43 : List PV) => (allF [(.lst y43)]).bind fun t44 => some t44
theorem q_is_graph (s0 : PV) : s_is_graph [s0] = (m_is_graph s0).bind fun (r : PV) => some (r, [s0]) := by
  refine Eq.trans ?_ (mTail_eq _ _); simp! only [s_is_graph, d_is_graph, m_is_graph, runF_ev, q_is_number, q_is_scope, q_is_edge, T_is_graph_1_q, V_is_graph_3_q, T_is_graph_2_q, C_is_graph_4_l, C_is_graph_4_q, C_is_graph_6_l, C_is_graph_6_q, T_is_graph_5_q, C_is_graph_7_l, C_is_graph_7_q]
def d_check_graph : DenS := (sSeq (sIf (dNot (dTruth (.d (dCall s_is_graph [.d (dVar 0)])))) (sSeq sNever sNil) sNil) sNil)
def s_check_graph : PP.Sem := runF [] 0 d_check_graph
def m_check_graph (s0 : PV) : Option (PV) := (m_is_graph s0).bind fun (t1 : PV) => (truthF t1).bind fun b2 => if (!b2) = true then none else some .non
theorem q_check_graph (s0 : PV) : s_check_graph [s0] = (m_check_graph s0).bind fun (r : PV) => some (r, [s0]) := by
  refine Eq.trans ?_ (mTail_eq _ _); simp! only [s_check_graph, d_check_graph, m_check_graph, runF_ev, q_is_graph]
def T_is_row_1 : DenT := (dOr (dNot (dTruth (.d (dIsI .tuple (.d (dVar 2)))))) (dB (dBin neF (dApp lenF [.d (dVar 2)]) (dApp lenF [.d (dVar 1)]))))
theorem T_is_row_1_q (s0 s1 s2 : PV) : T_is_row_1 [.val s0, .val s1, .val s2, .no] = ((truthF (.bl (isTy .tuple s2))).bind fun b1 => if (!b1) = true then some true else (lenF [s2]).bind fun t2 => (lenF [s1]).bind fun t3 => (neF t2 t3).bind fun t4 => (asBl t4).bind fun b5 => some b5).bind fun (k : Bool) => some (k, [.val s0, .val s1, .val s2, .no]) := by
  refine Eq.trans ?_ (mTail_eq _ _); simp! only [T_is_row_1, q_is_whole]
def C_is_row_2_e : Den := (dCall s_is_whole [.d (dVar 3), .d (dC (.int 0)), .d (dBin subF (dVar 0) (dC (.int 1)))])
def C_is_row_2_t : DenT := dYes
theorem C_is_row_2_l (s0 s1 s2 : PV) (xs : List PV) : lcF (.nm 3) C_is_row_2_t C_is_row_2_e [3] xs [.val s0, .val s1, .val s2, .no] = (cmpM (fun (x7 : PV) => (subF s0 (.int 1)).bind fun t10 => (m_is_whole x7 (.int 0) t10).bind fun (t11 : PV) => some t11) xs).bind fun ys => some (ys, [.val s0, .val s1, .val s2, .no]) := by
  refine lc_M (e := [.val s0, .val s1, .val s2, .no]) _ ?_ xs
  intro x; refine Eq.trans ?_ (mTail_eq _ _); simp! only [C_is_row_2_e, C_is_row_2_t, q_is_whole, T_is_row_1_q]
def C_is_row_2 : Den := dLC (iSeq (dVar 2)) [3] (.nm 3) C_is_row_2_t C_is_row_2_e
theorem C_is_row_2_q (s0 s1 s2 : PV) : C_is_row_2 [.val s0, .val s1, .val s2, .no] = ((seqOf s2).bind fun l9 => cmpM (fun (x7 : PV) => (subF s0 (.int 1)).bind fun t10 => (m_is_whole x7 (.int 0) t10).bind fun (t11 : PV) => some t11) l9).bind fun (k : List PV) => some (.lst k, [.val s0, .val s1, .val s2, .no]) := by
  refine Eq.trans ?_ (mTail_eq _ _); simp! only [C_is_row_2, q_is_whole, T_is_row_1_q, C_is_row_2_l]
def d_is_row : DenS := (sSeq (sIf T_is_row_1 (sSeq (sRetK [0, 1, 2, 3] (dC (.bl false))) sNil) sNil) (sSeq (sRetK [0, 1, 2, 3] (dApp allF [.d C_is_row_2])) sNil))
def s_is_row : PP.Sem := runF [] 1 d_is_row
def m_is_row (s0 s1 s2 : PV) : Option (PV) := ((truthF (.bl (isTy .tuple s2))).bind fun b1 => if (!b1) = true then some true else (lenF [s2]).bind fun t2 => (lenF [s1]).bind fun t3 => (neF t2 t3).bind fun t4 => (asBl t4).bind fun b5 => some b5).bind fun (b6 : Bool) => if b6 = true then some (.bl false) else ((seqOf s2).bind fun l9 => cmpM (fun (x7 : PV) => (subF s0 (.int 1)).bind fun t10 => (m_is_whole x7 (.int 0) t10).bind fun (t11 : PV) => some t11) l9).bind fun (y12 : List PV) => (allF [(.lst y12)]).bind fun t13 => some t13
theorem q_is_row (s0 s1 s2 : PV) : s_is_row [s0, s1, s2] = (m_is_row s0 s1 s2).bind fun (r : PV) => some (r, [s0, s1, s2]) := by
  refine Eq.trans ?_ (mTail_eq _ _); simp! only [s_is_row, d_is_row, m_is_row, runF_ev, q_is_whole, T_is_row_1_q, C_is_row_2_l, C_is_row_2_q]
def T_is_table_2 : DenT := (dOr (dNot (dTruth (.d (dIsI .tuple (.d (dVar 3)))))) (dOr (dB (dBin neF (dApp lenF [.d (dVar 3)]) (dC (.int 2)))) (dNot (dTruth (.d (dCall s_is_row [.d (dVar 0), .d (dVar 1), .d (dBin getF (dVar 3) (dC (.int 0)))]))))))
theorem T_is_table_2_q (s0 s1 s2 s3 : PV) : T_is_table_2 [.val s0, .val s1, .val s2, .val s3] = ((truthF (.bl (isTy .tuple s3))).bind fun b5 => if (!b5) = true then some true else (lenF [s3]).bind fun t6 => (neF t6 (.int 2)).bind fun t7 => (asBl t7).bind fun b8 => if b8 = true then some true else (getF s3 (.int 0)).bind fun t9 => (m_is_row s0 s1 t9).bind fun (t10 : PV) => (truthF t10).bind fun b11 => some (!b11)).bind fun (k : Bool) => some (k, [.val s0, .val s1, .val s2, .val s3]) := by
  refine Eq.trans ?_ (mTail_eq _ _); simp! only [T_is_table_2, q_is_row, q_is_whole, q_is_climbing]
def D_is_table_1_b : DenS := sPost [3] (sSeq (sIf T_is_table_2 (sSeq (sRetK [0, 1, 2, 3] (dC (.bl false))) sNil) sNil) (sSeq (sIf (dNot (dTruth (.d (dCall s_is_whole [.d (dBin getF (dVar 3) (dC (.int 1))), .d (dC (.int 0)), .d (dC (.int 100))])))) (sSeq (sRetK [0, 1, 2, 3] (dC (.bl false))) sNil) sNil) sNil))
def D_is_table_1 : DenS := sFor (iSeq (dVar 2)) (.nm 3) D_is_table_1_b
theorem D_is_table_1_l (s0 s1 s2 : PV) (xs : List PV) : forF (.nm 3) D_is_table_1_b xs [.val s0, .val s1, .val s2, .no] = (fldR (S := Unit) (R := PV) (fun (w3 : Unit) (x2 : PV) => ((truthF (.bl (isTy .tuple x2))).bind fun b5 => if (!b5) = true then some true else (lenF [x2]).bind fun t6 => (neF t6 (.int 2)).bind fun t7 => (asBl t7).bind fun b8 => if b8 = true then some true else (getF x2 (.int 0)).bind fun t9 => (m_is_row s0 s1 t9).bind fun (t10 : PV) => (truthF t10).bind fun b11 => some (!b11)).bind fun (b12 : Bool) => if b12 = true then some (.inr (.bl false)) else (getF x2 (.int 1)).bind fun t13 => (m_is_whole t13 (.int 0) (.int 100)).bind fun (t14 : PV) => (truthF t14).bind fun b15 => if (!b15) = true then some (.inr (.bl false)) else some (.inl ())) xs ()).bind fun r => some (flS (fun (k : Unit) => [.val s0, .val s1, .val s2, .no]) (fun (v : PV) => (v, [.no, .no, .no, .no])) r) := by
  refine for_foldR (E := fun (w3 : Unit) => [.val s0, .val s1, .val s2, .no]) (fun (v : PV) => (v, [.no, .no, .no, .no])) _ ?_ xs ()
  intro z x; refine Eq.trans ?_ (mTail_eq _ _); simp! only [D_is_table_1_b, q_is_row, q_is_whole, q_is_climbing, T_is_table_2_q]
theorem D_is_table_1_q (s0 s1 s2 : PV) : D_is_table_1 [.val s0, .val s1, .val s2, .no] = ((seqOf s2).bind fun l4 => fldR (S := Unit) (R := PV) (fun (w3 : Unit) (x2 : PV) => ((truthF (.bl (isTy .tuple x2))).bind fun b5 => if (!b5) = true then some true else (lenF [x2]).bind fun t6 => (neF t6 (.int 2)).bind fun t7 => (asBl t7).bind fun b8 => if b8 = true then some true else (getF x2 (.int 0)).bind fun t9 => (m_is_row s0 s1 t9).bind fun (t10 : PV) => (truthF t10).bind fun b11 => some (!b11)).bind fun (b12 : Bool) => if b12 = true then some (.inr (.bl false)) else (getF x2 (.int 1)).bind fun t13 => (m_is_whole t13 (.int 0) (.int 100)).bind fun (t14 : PV) => (truthF t14).bind fun b15 => if (!b15) = true then some (.inr (.bl false)) else some (.inl ())) l4 ()).bind fun r => some (flS (fun (k : Unit) => [.val s0, .val s1, .val s2, .no]) (fun (v : PV) => (v, [.no, .no, .no, .no])) r) := by
  refine Eq.trans ?_ (mTail_eq _ _); simp! only [D_is_table_1, q_is_row, q_is_whole, q_is_climbing, T_is_table_2_q, D_is_table_1_l]
def C_is_table_3_e : Den := (dBin getF (dVar 3) (dC (.int 0)))
def C_is_table_3_t : DenT := dYes
theorem C_is_table_3_l (s0 s1 s2 : PV) (xs : List PV) : lcF (.nm 3) C_is_table_3_t C_is_table_3_e [3] xs [.val s0, .val s1, .val s2, .no] = (cmpM (fun (x19 : PV) => (getF x19 (.int 0)).bind fun t22 => some t22) xs).bind fun ys => some (ys, [.val s0, .val s1, .val s2, .no]) := by
  refine lc_M (e := [.val s0, .val s1, .val s2, .no]) _ ?_ xs
  intro x; refine Eq.trans ?_ (mTail_eq _ _); simp! only [C_is_table_3_e, C_is_table_3_t, q_is_row, q_is_whole, q_is_climbing, T_is_table_2_q, D_is_table_1_l, D_is_table_1_q]
def C_is_table_3 : Den := dLC (iSeq (dVar 2)) [3] (.nm 3) C_is_table_3_t C_is_table_3_e
theorem C_is_table_3_q (s0 s1 s2 : PV) : C_is_table_3 [.val s0, .val s1, .val s2, .no] = ((seqOf s2).bind fun l21 => cmpM (fun (x19 : PV) => (getF x19 (.int 0)).bind fun t22 => some t22) l21).bind fun (k : List PV) => some (.lst k, [.val s0, .val s1, .val s2, .no]) := by
  refine Eq.trans ?_ (mTail_eq _ _); simp! only [C_is_table_3, q_is_row, q_is_whole, q_is_climbing, T_is_table_2_q, D_is_table_1_l, D_is_table_1_q, C_is_table_3_l]
def d_is_table : DenS := (sSeq (sIf (dNot (dTruth (.d (dIsI .tuple (.d (dVar 2)))))) (sSeq (sRetK [0, 1, 2, 3] (dC (.bl false))) sNil) sNil) (sSeq D_is_table_1 (sSeq (sRetK [0, 1, 2, 3] (dCall s_is_climbing [.d C_is_table_3])) sNil)))
def s_is_table : PP.Sem := runF [] 1 d_is_table
def m_is_table (s0 s1 s2 : PV) : Option (PV) := (truthF (.bl (isTy .tuple s2))).bind fun b1 => if (!b1) = true then some (.bl false) else ((seqOf s2).bind fun l4 => fldR (S := Unit) (R := PV) (fun (w3 : Unit) (x2 : PV) => ((truthF (.bl (isTy .tuple x2))).bind fun b5 => if (!b5) = true then some true else (lenF [x2]).bind fun t6 => (neF t6 (.int 2)).bind fun t7 => (asBl t7).bind fun b8 => if b8 = true then some true else (getF x2 (.int 0)).bind fun t9 => (m_is_row s0 s1 t9).bind fun (t10 : PV) => (truthF t10).bind fun b11 => some (!b11)).bind fun (b12 : Bool) => if b12 = true then some (.inr (.bl false)) else (getF x2 (.int 1)).bind fun t13 => (m_is_whole t13 (.int 0) (.int 100)).bind fun (t14 : PV) => (truthF t14).bind fun b15 => if (!b15) = true then some (.inr (.bl false)) else some (.inl ())) l4 ()).bind fun (r16 : (Unit) ⊕ (PV)) => mSum r16 (fun (k17 : Unit) => ((seqOf s2).bind fun l21 => cmpM (fun (x19 : PV) => (getF x19 (.int 0)).bind fun t22 => some t22) l21).bind fun (y23 : List PV) => (m_is_climbing (.lst y23)).bind fun (t24 : PV) => some t24) (fun (v18 : PV) => some v18)
theorem q_is_table (s0 s1 s2 : PV) : s_is_table [s0, s1, s2] = (m_is_table s0 s1 s2).bind fun (r : PV) => some (r, [s0, s1, s2]) := by
  refine Eq.trans ?_ (mTail_eq _ _); simp! only [s_is_table, d_is_table, m_is_table, runF_ev, q_is_row, q_is_whole, q_is_climbing, T_is_table_2_q, D_is_table_1_l, D_is_table_1_q, C_is_table_3_l, C_is_table_3_q]
def T_are_tables_1 : DenT := (dOr (dNot (dTruth (.d (dIsI .tuple (.d (dVar 1)))))) (dB (dBin neF (dApp lenF [.d (dVar 1)]) (dApp lenF [.d (dBin getF (dVar 0) (dC (.int 1)))]))))
theorem T_are_tables_1_q (s0 s1 : PV) : T_are_tables_1 [.val s0, .val s1, .no, .no] = ((truthF (.bl (isTy .tuple s1))).bind fun b1 => if (!b1) = true then some true else (lenF [s1]).bind fun t2 => (getF s0 (.int 1)).bind fun t3 => (lenF [t3]).bind fun t4 => (neF t2 t4).bind fun t5 => (asBl t5).bind fun b6 => some b6).bind fun (k : Bool) => some (k, [.val s0, .val s1, .no, .no]) := by
  refine Eq.trans ?_ (mTail_eq _ _); simp! only [T_are_tables_1, q_is_table]
def C_are_tables_2_e : Den := (dCall s_is_table [.d (dBin getF (dVar 0) (dC (.int 0))), .d (dVar 2), .d (dVar 3)])
def C_are_tables_2_t : DenT := dYes
theorem C_are_tables_2_l (s0 s1 : PV) (xs : List PV) : lcF (.tp [(.nm 2), (.nm 3)]) C_are_tables_2_t C_are_tables_2_e [2, 3] xs [.val s0, .val s1, .no, .no] = (cmpM (fun (x8 : PV) => (un2 x8).bind fun (u12 : PV × PV) => (getF s0 (.int 0)).bind fun t13 => (m_is_table t13 u12.1 u12.2).bind fun (t14 : PV) => some t14) xs).bind fun ys => some (ys, [.val s0, .val s1, .no, .no]) := by
  refine lc_M (e := [.val s0, .val s1, .no, .no]) _ ?_ xs
  intro x; refine Eq.trans ?_ (mTail_eq _ _); simp! only [C_are_tables_2_e, C_are_tables_2_t, q_is_table, T_are_tables_1_q]
def C_are_tables_2 : Den := dLC (iZip2 (dBin getF (dVar 0) (dC (.int 1))) (dVar 1)) [2, 3] (.tp [(.nm 2), (.nm 3)]) C_are_tables_2_t C_are_tables_2_e
theorem C_are_tables_2_q (s0 s1 : PV) : C_are_tables_2 [.val s0, .val s1, .no, .no] = ((getF s0 (.int 1)).bind fun t10 => (zipF t10 s1).bind fun l11 => cmpM (fun (x8 : PV) => (un2 x8).bind fun (u12 : PV × PV) => (getF s0 (.int 0)).bind fun t13 => (m_is_table t13 u12.1 u12.2).bind fun (t14 : PV) => some t14) l11).bind fun (k : List PV) => some (.lst k, [.val s0, .val s1, .no, .no]) := by
  refine Eq.trans ?_ (mTail_eq _ _); simp! only [C_are_tables_2, q_is_table, T_are_tables_1_q, C_are_tables_2_l]
def d_are_tables : DenS := (sSeq (sIf T_are_tables_1 (sSeq (sRetK [0, 1, 2, 3] (dC (.bl false))) sNil) sNil) (sSeq (sRetK [0, 1, 2, 3] (dApp allF [.d C_are_tables_2])) sNil))
def s_are_tables : PP.Sem := runF [] 2 d_are_tables
def m_are_tables (s0 s1 : PV) : Option (PV) := ((truthF (.bl (isTy .tuple s1))).bind fun b1 => if (!b1) = true then some true else (lenF [s1]).bind fun t2 => (getF s0 (.int 1)).bind fun t3 => (lenF [t3]).bind fun t4 => (neF t2 t4).bind fun t5 => (asBl t5).bind fun b6 => some b6).bind fun (b7 : Bool) => if b7 = true then some (.bl false) else ((getF s0 (.int 1)).bind fun t10 => (zipF t10 s1).bind fun l11 => cmpM (fun (x8 : PV) => (un2 x8).bind fun (u12 : PV × PV) => (getF s0 (.int 0)).bind fun t13 => (m_is_table t13 u12.1 u12.2).bind fun (t14 : PV) => some t14) l11).bind fun (y15 : List PV) => (allF [(.lst y15)]).bind fun t16 => some t16
theorem q_are_tables (s0 s1 : PV) : s_are_tables [s0, s1] = (m_are_tables s0 s1).bind fun (r : PV) => some (r, [s0, s1]) := by
  refine Eq.trans ?_ (mTail_eq _ _); simp! only [s_are_tables, d_are_tables, m_are_tables, runF_ev, q_is_table, T_are_tables_1_q, C_are_tables_2_l, C_are_tables_2_q]
def d_check_tables : DenS := (sSeq (sDrop (dCall s_check_graph [.d (dVar 0)])) (sSeq (sIf (dNot (dTruth (.d (dCall s_are_tables [.d (dVar 0), .d (dVar 1)])))) (sSeq sNever sNil) sNil) sNil))
def s_check_tables : PP.Sem := runF [] 0 d_check_tables
def m_check_tables (s0 s1 : PV) : Option (PV) := (m_check_graph s0).bind fun (t1 : PV) => (m_are_tables s0 s1).bind fun (t2 : PV) => (truthF t2).bind fun b3 => if (!b3) = true then none else some .non
theorem q_check_tables (s0 s1 : PV) : s_check_tables [s0, s1] = (m_check_tables s0 s1).bind fun (r : PV) => some (r, [s0, s1]) := by
  refine Eq.trans ?_ (mTail_eq _ _); simp! only [s_check_tables, d_check_tables, m_check_tables, runF_ev, q_check_graph, q_are_tables]
def C_rows_of_2_e : Den := (dBin addF (dVar 4) (dTup [(dVar 5)]))
def C_rows_of_2_t : DenT := dYes
def C_rows_of_2_u : DenT := dYes
def C_rows_of_2_i : DenI := (iRange [(dVar 0)])
theorem C_rows_of_2_k (s0 s1 s2 s3 s4 : PV) (xs : List PV) : lcF (.nm 5) C_rows_of_2_u C_rows_of_2_e [5] xs [.val s0, .val s1, .val s2, .val s3, .val s4, .no] = (cmpM (fun (x5 : PV) => (addF s4 (.tup [x5])).bind fun t8 => some t8) xs).bind fun ys => some (ys, [.val s0, .val s1, .val s2, .val s3, .val s4, .no]) := by
  refine lc_M (e := [.val s0, .val s1, .val s2, .val s3, .val s4, .no]) _ ?_ xs
  intro x; refine Eq.trans ?_ (mTail_eq _ _); simp! only [C_rows_of_2_e, C_rows_of_2_t, C_rows_of_2_u, C_rows_of_2_i]
theorem C_rows_of_2_l (s0 s1 s2 s3 : PV) (xs : List PV) : lc2F (.nm 4) C_rows_of_2_t C_rows_of_2_i [5] (.nm 5) C_rows_of_2_u C_rows_of_2_e [4, 5] xs [.val s0, .val s1, .val s2, .val s3, .no, .no] = (cmpB (fun (x4 : PV) => (rgO1 s0).bind fun r7 => cmpM (fun (x5 : PV) => (addF x4 (.tup [x5])).bind fun t8 => some t8) (rgL r7)) xs).bind fun ys => some (ys, [.val s0, .val s1, .val s2, .val s3, .no, .no]) := by
  refine lc_B (e := [.val s0, .val s1, .val s2, .val s3, .no, .no]) _ ?_ xs
  intro x; refine Eq.trans ?_ (mTail_eq _ _); simp! only [C_rows_of_2_t, C_rows_of_2_i, C_rows_of_2_k]
def C_rows_of_2 : Den := dLC2 (iSeq (dVar 2)) [4, 5] (.nm 4) C_rows_of_2_t C_rows_of_2_i [5] (.nm 5) C_rows_of_2_u C_rows_of_2_e
theorem C_rows_of_2_q (s0 s1 s2 s3 : PV) : C_rows_of_2 [.val s0, .val s1, .val s2, .val s3, .no, .no] = ((seqOf s2).bind fun l6 => (cmpB (fun (x4 : PV) => (rgO1 s0).bind fun r7 => cmpM (fun (x5 : PV) => (addF x4 (.tup [x5])).bind fun t8 => some t8) (rgL r7)) l6).bind fun ys => (mLim ys).bind fun zs => some zs).bind fun (k : List PV) => some (.lst k, [.val s0, .val s1, .val s2, .val s3, .no, .no]) := by
  refine Eq.trans ?_ (mTail_eq _ _); simp! only [C_rows_of_2, C_rows_of_2_k, C_rows_of_2_l]
def D_rows_of_1_b : DenS := sPost [3] (sSeq (sFz 2 (sOwn 2 C_rows_of_2)) sNil)
def D_rows_of_1 : DenS := sFor (iRange [(dVar 1)]) (.nm 3) D_rows_of_1_b
theorem D_rows_of_1_l (s0 s1 : PV) (z2 : PV) (xs : List PV) : forF (.nm 3) D_rows_of_1_b xs [.val s0, .val s1, .val z2, .no, .no, .no] = (fldM (fun (w2 : PV) (x1 : PV) => ((seqOf w2).bind fun l6 => (cmpB (fun (x4 : PV) => (rgO1 s0).bind fun r7 => cmpM (fun (x5 : PV) => (addF x4 (.tup [x5])).bind fun t8 => some t8) (rgL r7)) l6).bind fun ys => (mLim ys).bind fun zs => some zs).bind fun (y9 : List PV) => some (.lst y9)) xs z2).bind fun (k : PV) => some (.nx [.val s0, .val s1, .val k, .no, .no, .no]) := by
  refine for_fold (E := fun (w2 : PV) => [.val s0, .val s1, .val w2, .no, .no, .no]) _ ?_ xs z2
  intro z x; refine Eq.trans ?_ (mTail_eq _ _); simp! only [D_rows_of_1_b, C_rows_of_2_k, C_rows_of_2_l, C_rows_of_2_q]
theorem D_rows_of_1_q (s0 s1 s2 : PV) : D_rows_of_1 [.val s0, .val s1, .val s2, .no, .no, .no] = ((rgO1 s1).bind fun r3 => fldM (fun (w2 : PV) (x1 : PV) => ((seqOf w2).bind fun l6 => (cmpB (fun (x4 : PV) => (rgO1 s0).bind fun r7 => cmpM (fun (x5 : PV) => (addF x4 (.tup [x5])).bind fun t8 => some t8) (rgL r7)) l6).bind fun ys => (mLim ys).bind fun zs => some zs).bind fun (y9 : List PV) => some (.lst y9)) (rgL r3) s2).bind fun (k : PV) => some (.nx [.val s0, .val s1, .val k, .no, .no, .no]) := by
  refine Eq.trans ?_ (mTail_eq _ _); simp! only [D_rows_of_1, C_rows_of_2_k, C_rows_of_2_l, C_rows_of_2_q, D_rows_of_1_l]
def d_rows_of : DenS := (sSeq (sAsg (.nm 2) (dLst [(dTup [])])) (sSeq D_rows_of_1 (sSeq (sRetK [0, 1, 2, 3, 4, 5] (dVar 2)) sNil)))
def s_rows_of : PP.Sem := runF [] 4 d_rows_of
def m_rows_of (s0 s1 : PV) : Option (PV) := ((rgO1 s1).bind fun r3 => fldM (fun (w2 : PV) (x1 : PV) => ((seqOf w2).bind fun l6 => (cmpB (fun (x4 : PV) => (rgO1 s0).bind fun r7 => cmpM (fun (x5 : PV) => (addF x4 (.tup [x5])).bind fun t8 => some t8) (rgL r7)) l6).bind fun ys => (mLim ys).bind fun zs => some zs).bind fun (y9 : List PV) => some (.lst y9)) (rgL r3) (.lst [(.tup [])])).bind fun (k10 : PV) => some k10
theorem q_rows_of (s0 s1 : PV) : s_rows_of [s0, s1] = (m_rows_of s0 s1).bind fun (r : PV) => some (r, [s0, s1]) := by
  refine Eq.trans ?_ (mTail_eq _ _); simp! only [s_rows_of, d_rows_of, m_rows_of, runF_ev, C_rows_of_2_k, C_rows_of_2_l, C_rows_of_2_q, D_rows_of_1_l, D_rows_of_1_q]
def D_scope_of_2_b : DenS := sPost [4] (sSeq (sStore 2 (dVar 4) (dC (.bl true))) sNil)
def D_scope_of_2 : DenS := sFor (iSeq (dBin getF (dBin getF (dVar 0) (dC (.int 1))) (dVar 3))) (.nm 4) D_scope_of_2_b
theorem D_scope_of_2_l (s0 s1 s3 : PV) (z2 : PV) (xs : List PV) : forF (.nm 4) D_scope_of_2_b xs [.val s0, .val s1, .own z2, .val s3, .no] = (fldM (fun (w5 : PV) (x4 : PV) => (setF w5 x4 (.bl true)).bind fun d9 => some d9) xs z2).bind fun (k : PV) => some (.nx [.val s0, .val s1, .own k, .val s3, .no]) := by
  refine for_fold (E := fun (w5 : PV) => [.val s0, .val s1, .own w5, .val s3, .no]) _ ?_ xs z2
  intro z x; refine Eq.trans ?_ (mTail_eq _ _); simp! only [D_scope_of_2_b]
theorem D_scope_of_2_q (s0 s1 s2 s3 : PV) : D_scope_of_2 [.val s0, .val s1, .own s2, .val s3, .no] = ((getF s0 (.int 1)).bind fun t6 => (getF t6 s3).bind fun t7 => (seqOf t7).bind fun l8 => fldM (fun (w5 : PV) (x4 : PV) => (setF w5 x4 (.bl true)).bind fun d9 => some d9) l8 s2).bind fun (k : PV) => some (.nx [.val s0, .val s1, .own k, .val s3, .no]) := by
  refine Eq.trans ?_ (mTail_eq _ _); simp! only [D_scope_of_2, D_scope_of_2_l]
def D_scope_of_1_b : DenS := sPost [3, 4] (sSeq D_scope_of_2 sNil)
def D_scope_of_1 : DenS := sFor (iSeq (dVar 1)) (.nm 3) D_scope_of_1_b
theorem D_scope_of_1_l (s0 s1 : PV) (z2 : PV) (xs : List PV) : forF (.nm 3) D_scope_of_1_b xs [.val s0, .val s1, .own z2, .no, .no] = (fldM (fun (w2 : PV) (x1 : PV) => ((getF s0 (.int 1)).bind fun t6 => (getF t6 x1).bind fun t7 => (seqOf t7).bind fun l8 => fldM (fun (w5 : PV) (x4 : PV) => (setF w5 x4 (.bl true)).bind fun d9 => some d9) l8 w2).bind fun (k10 : PV) => some k10) xs z2).bind fun (k : PV) => some (.nx [.val s0, .val s1, .own k, .no, .no]) := by
  refine for_fold (E := fun (w2 : PV) => [.val s0, .val s1, .own w2, .no, .no]) _ ?_ xs z2
  intro z x; refine Eq.trans ?_ (mTail_eq _ _); simp! only [D_scope_of_1_b, D_scope_of_2_l, D_scope_of_2_q]
theorem D_scope_of_1_q (s0 s1 s2 : PV) : D_scope_of_1 [.val s0, .val s1, .own s2, .no, .no] = ((seqOf s1).bind fun l3 => fldM (fun (w2 : PV) (x1 : PV) => ((getF s0 (.int 1)).bind fun t6 => (getF t6 x1).bind fun t7 => (seqOf t7).bind fun l8 => fldM (fun (w5 : PV) (x4 : PV) => (setF w5 x4 (.bl true)).bind fun d9 => some d9) l8 w2).bind fun (k10 : PV) => some k10) l3 s2).bind fun (k : PV) => some (.nx [.val s0, .val s1, .own k, .no, .no]) := by
  refine Eq.trans ?_ (mTail_eq _ _); simp! only [D_scope_of_1, D_scope_of_2_l, D_scope_of_2_q, D_scope_of_1_l]
def d_scope_of : DenS := (sSeq (sOwn 2 (dC (.dk []))) (sSeq D_scope_of_1 (sSeq (sRetK [0, 1, 2, 3, 4] (dApp tupleF [.d (dApp sortedDF [.b 2])])) sNil)))
def s_scope_of : PP.Sem := runF [] 3 d_scope_of
def m_scope_of (s0 s1 : PV) : Option (PV) := ((seqOf s1).bind fun l3 => fldM (fun (w2 : PV) (x1 : PV) => ((getF s0 (.int 1)).bind fun t6 => (getF t6 x1).bind fun t7 => (seqOf t7).bind fun l8 => fldM (fun (w5 : PV) (x4 : PV) => (setF w5 x4 (.bl true)).bind fun d9 => some d9) l8 w2).bind fun (k10 : PV) => some k10) l3 (.dk [])).bind fun (k11 : PV) => (sortedDF [k11]).bind fun t12 => (tupleF [t12]).bind fun t13 => some t13
theorem q_scope_of (s0 s1 : PV) : s_scope_of [s0, s1] = (m_scope_of s0 s1).bind fun (r : PV) => some (r, [s0, s1]) := by
  refine Eq.trans ?_ (mTail_eq _ _); simp! only [s_scope_of, d_scope_of, m_scope_of, runF_ev, D_scope_of_2_l, D_scope_of_2_q, D_scope_of_1_l, D_scope_of_1_q]
def C_cut_to_1_e : Den := (dVar 4)
def C_cut_to_1_t : DenT := (dB (dBin inF (dVar 3) (dVar 2)))
theorem C_cut_to_1_l (s0 s1 s2 : PV) (xs : List PV) : lcF (.tp [(.nm 3), (.nm 4)]) C_cut_to_1_t C_cut_to_1_e [3, 4] xs [.val s0, .val s1, .val s2, .no, .no] = (cmpG (fun (x1 : PV) => (un2 x1).bind fun (u4 : PV × PV) => (inF u4.1 s2).bind fun t5 => (asBl t5).bind fun b6 => if b6 = true then some (some u4.2) else some none) xs).bind fun ys => some (ys, [.val s0, .val s1, .val s2, .no, .no]) := by
  refine lc_G (e := [.val s0, .val s1, .val s2, .no, .no]) _ ?_ xs
  intro x; refine Eq.trans ?_ (mTail_eq _ _); simp! only [C_cut_to_1_e, C_cut_to_1_t]
def C_cut_to_1 : Den := dLC (iZip2 (dVar 1) (dVar 0)) [3, 4] (.tp [(.nm 3), (.nm 4)]) C_cut_to_1_t C_cut_to_1_e
theorem C_cut_to_1_q (s0 s1 s2 : PV) : C_cut_to_1 [.val s0, .val s1, .val s2, .no, .no] = ((zipF s1 s0).bind fun l3 => cmpG (fun (x1 : PV) => (un2 x1).bind fun (u4 : PV × PV) => (inF u4.1 s2).bind fun t5 => (asBl t5).bind fun b6 => if b6 = true then some (some u4.2) else some none) l3).bind fun (k : List PV) => some (.lst k, [.val s0, .val s1, .val s2, .no, .no]) := by
  refine Eq.trans ?_ (mTail_eq _ _); simp! only [C_cut_to_1, C_cut_to_1_l]
def d_cut_to : DenS := (sSeq (sRetK [0, 1, 2, 3, 4] (dApp tupleF [.d C_cut_to_1])) sNil)
def s_cut_to : PP.Sem := runF [] 2 d_cut_to
def m_cut_to (s0 s1 s2 : PV) : Option (PV) := ((zipF s1 s0).bind fun l3 => cmpG (fun (x1 : PV) => (un2 x1).bind fun (u4 : PV × PV) => (inF u4.1 s2).bind fun t5 => (asBl t5).bind fun b6 => if b6 = true then some (some u4.2) else some none) l3).bind fun (y7 : List PV) => (tupleF [(.lst y7)]).bind fun t8 => some t8
theorem q_cut_to (s0 s1 s2 : PV) : s_cut_to [s0, s1, s2] = (m_cut_to s0 s1 s2).bind fun (r : PV) => some (r, [s0, s1, s2]) := by
  refine Eq.trans ?_ (mTail_eq _ _); simp! only [s_cut_to, d_cut_to, m_cut_to, runF_ev, C_cut_to_1_l, C_cut_to_1_q]
def C_first_rejecting_2_e : Den := (dBin eqF (dVar 7) (dVar 6))
def C_first_rejecting_2_t : DenT := dYes
theorem C_first_rejecting_2_l (s0 s1 s2 s3 s4 s5 s6 : PV) (xs : List PV) : lcF (.tp [(.nm 7), (.nm 8)]) C_first_rejecting_2_t C_first_rejecting_2_e [7, 8] xs [.val s0, .val s1, .val s2, .val s3, .val s4, .val s5, .val s6, .no, .no] = (cmpM (fun (x8 : PV) => (un2 x8).bind fun (u12 : PV × PV) => (eqF u12.1 s6).bind fun t13 => some t13) xs).bind fun ys => some (ys, [.val s0, .val s1, .val s2, .val s3, .val s4, .val s5, .val s6, .no, .no]) := by
  refine lc_M (e := [.val s0, .val s1, .val s2, .val s3, .val s4, .val s5, .val s6, .no, .no]) _ ?_ xs
  intro x; refine Eq.trans ?_ (mTail_eq _ _); simp! only [C_first_rejecting_2_e, C_first_rejecting_2_t, q_scope_of, q_cut_to]
def C_first_rejecting_2 : Den := dLC (iSeq (dBin getF (dVar 1) (dVar 5))) [7, 8] (.tp [(.nm 7), (.nm 8)]) C_first_rejecting_2_t C_first_rejecting_2_e
theorem C_first_rejecting_2_q (s0 s1 s2 s3 s4 s5 s6 : PV) : C_first_rejecting_2 [.val s0, .val s1, .val s2, .val s3, .val s4, .val s5, .val s6, .no, .no] = ((getF s1 s5).bind fun t10 => (seqOf t10).bind fun l11 => cmpM (fun (x8 : PV) => (un2 x8).bind fun (u12 : PV × PV) => (eqF u12.1 s6).bind fun t13 => some t13) l11).bind fun (k : List PV) => some (.lst k, [.val s0, .val s1, .val s2, .val s3, .val s4, .val s5, .val s6, .no, .no]) := by
  refine Eq.trans ?_ (mTail_eq _ _); simp! only [C_first_rejecting_2, q_scope_of, q_cut_to, C_first_rejecting_2_l]
def D_first_rejecting_1_b : DenS := sPost [5, 6] (sSeq (sAsg (.nm 6) (dCall s_cut_to [.d (dVar 3), .d (dVar 4), .d (dBin getF (dBin getF (dVar 0) (dC (.int 1))) (dVar 5))])) (sSeq (sIf (dNot (dTruth (.d (dApp anyF [.d C_first_rejecting_2])))) (sSeq (sRetK [0, 1, 2, 3, 4, 5, 6, 7, 8] (dVar 5)) sNil) sNil) sNil))
def D_first_rejecting_1 : DenS := sFor (iSeq (dVar 2)) (.nm 5) D_first_rejecting_1_b
theorem D_first_rejecting_1_l (s0 s1 s2 s3 s4 : PV) (xs : List PV) : forF (.nm 5) D_first_rejecting_1_b xs [.val s0, .val s1, .val s2, .val s3, .val s4, .no, .no, .no, .no] = (fldR (S := Unit) (R := PV) (fun (w3 : Unit) (x2 : PV) => (getF s0 (.int 1)).bind fun t5 => (getF t5 x2).bind fun t6 => (m_cut_to s3 s4 t6).bind fun (t7 : PV) => ((getF s1 x2).bind fun t10 => (seqOf t10).bind fun l11 => cmpM (fun (x8 : PV) => (un2 x8).bind fun (u12 : PV × PV) => (eqF u12.1 t7).bind fun t13 => some t13) l11).bind fun (y14 : List PV) => (anyF [(.lst y14)]).bind fun t15 => (truthF t15).bind fun b16 => if (!b16) = true then some (.inr x2) else some (.inl ())) xs ()).bind fun r => some (flS (fun (k : Unit) => [.val s0, .val s1, .val s2, .val s3, .val s4, .no, .no, .no, .no]) (fun (v : PV) => (v, [.no, .no, .no, .no, .no, .no, .no, .no, .no])) r) := by
  refine for_foldR (E := fun (w3 : Unit) => [.val s0, .val s1, .val s2, .val s3, .val s4, .no, .no, .no, .no]) (fun (v : PV) => (v, [.no, .no, .no, .no, .no, .no, .no, .no, .no])) _ ?_ xs ()
  intro z x; refine Eq.trans ?_ (mTail_eq _ _); simp! only [D_first_rejecting_1_b, q_scope_of, q_cut_to, C_first_rejecting_2_l, C_first_rejecting_2_q]
theorem D_first_rejecting_1_q (s0 s1 s2 s3 s4 : PV) : D_first_rejecting_1 [.val s0, .val s1, .val s2, .val s3, .val s4, .no, .no, .no, .no] = ((seqOf s2).bind fun l4 => fldR (S := Unit) (R := PV) (fun (w3 : Unit) (x2 : PV) => (getF s0 (.int 1)).bind fun t5 => (getF t5 x2).bind fun t6 => (m_cut_to s3 s4 t6).bind fun (t7 : PV) => ((getF s1 x2).bind fun t10 => (seqOf t10).bind fun l11 => cmpM (fun (x8 : PV) => (un2 x8).bind fun (u12 : PV × PV) => (eqF u12.1 t7).bind fun t13 => some t13) l11).bind fun (y14 : List PV) => (anyF [(.lst y14)]).bind fun t15 => (truthF t15).bind fun b16 => if (!b16) = true then some (.inr x2) else some (.inl ())) l4 ()).bind fun r => some (flS (fun (k : Unit) => [.val s0, .val s1, .val s2, .val s3, .val s4, .no, .no, .no, .no]) (fun (v : PV) => (v, [.no, .no, .no, .no, .no, .no, .no, .no, .no])) r) := by
  refine Eq.trans ?_ (mTail_eq _ _); simp! only [D_first_rejecting_1, q_scope_of, q_cut_to, C_first_rejecting_2_l, C_first_rejecting_2_q, D_first_rejecting_1_l]
def d_first_rejecting : DenS := (sSeq (sAsg (.nm 4) (dCall s_scope_of [.d (dVar 0), .d (dVar 2)])) (sSeq D_first_rejecting_1 (sSeq (sRetK [0, 1, 2, 3, 4, 5, 6, 7, 8] (dC .non)) sNil)))
def s_first_rejecting : PP.Sem := runF [] 5 d_first_rejecting
def m_first_rejecting (s0 s1 s2 s3 : PV) : Option (PV) := (m_scope_of s0 s2).bind fun (t1 : PV) => ((seqOf s2).bind fun l4 => fldR (S := Unit) (R := PV) (fun (w3 : Unit) (x2 : PV) => (getF s0 (.int 1)).bind fun t5 => (getF t5 x2).bind fun t6 => (m_cut_to s3 t1 t6).bind fun (t7 : PV) => ((getF s1 x2).bind fun t10 => (seqOf t10).bind fun l11 => cmpM (fun (x8 : PV) => (un2 x8).bind fun (u12 : PV × PV) => (eqF u12.1 t7).bind fun t13 => some t13) l11).bind fun (y14 : List PV) => (anyF [(.lst y14)]).bind fun t15 => (truthF t15).bind fun b16 => if (!b16) = true then some (.inr x2) else some (.inl ())) l4 ()).bind fun (r17 : (Unit) ⊕ (PV)) => mSum r17 (fun (k18 : Unit) => some .non) (fun (v19 : PV) => some v19)
theorem q_first_rejecting (s0 s1 s2 s3 : PV) : s_first_rejecting [s0, s1, s2, s3] = (m_first_rejecting s0 s1 s2 s3).bind fun (r : PV) => some (r, [s0, s1, s2, s3]) := by
  refine Eq.trans ?_ (mTail_eq _ _); simp! only [s_first_rejecting, d_first_rejecting, m_first_rejecting, runF_ev, q_scope_of, q_cut_to, C_first_rejecting_2_l, C_first_rejecting_2_q, D_first_rejecting_1_l, D_first_rejecting_1_q]
def C_price_of_2_e : Den := (dVar 9)
def C_price_of_2_t : DenT := (dB (dBin eqF (dVar 8) (dVar 7)))
theorem C_price_of_2_l (s0 s1 s2 s3 s4 s5 s6 s7 : PV) (xs : List PV) : lcF (.tp [(.nm 8), (.nm 9)]) C_price_of_2_t C_price_of_2_e [8, 9] xs [.val s0, .val s1, .val s2, .val s3, .val s4, .val s5, .val s6, .val s7, .no, .no] = (cmpG (fun (x8 : PV) => (un2 x8).bind fun (u12 : PV × PV) => (eqF u12.1 s7).bind fun t13 => (asBl t13).bind fun b14 => if b14 = true then some (some u12.2) else some none) xs).bind fun ys => some (ys, [.val s0, .val s1, .val s2, .val s3, .val s4, .val s5, .val s6, .val s7, .no, .no]) := by
  refine lc_G (e := [.val s0, .val s1, .val s2, .val s3, .val s4, .val s5, .val s6, .val s7, .no, .no]) _ ?_ xs
  intro x; refine Eq.trans ?_ (mTail_eq _ _); simp! only [C_price_of_2_e, C_price_of_2_t, q_scope_of, q_cut_to]
def C_price_of_2 : Den := dLC (iSeq (dBin getF (dVar 1) (dVar 6))) [8, 9] (.tp [(.nm 8), (.nm 9)]) C_price_of_2_t C_price_of_2_e
theorem C_price_of_2_q (s0 s1 s2 s3 s4 s5 s6 s7 : PV) : C_price_of_2 [.val s0, .val s1, .val s2, .val s3, .val s4, .val s5, .val s6, .val s7, .no, .no] = ((getF s1 s6).bind fun t10 => (seqOf t10).bind fun l11 => cmpG (fun (x8 : PV) => (un2 x8).bind fun (u12 : PV × PV) => (eqF u12.1 s7).bind fun t13 => (asBl t13).bind fun b14 => if b14 = true then some (some u12.2) else some none) l11).bind fun (k : List PV) => some (.lst k, [.val s0, .val s1, .val s2, .val s3, .val s4, .val s5, .val s6, .val s7, .no, .no]) := by
  refine Eq.trans ?_ (mTail_eq _ _); simp! only [C_price_of_2, q_scope_of, q_cut_to, C_price_of_2_l]
def D_price_of_1_b : DenS := sPost [6, 7] (sSeq (sAsg (.nm 7) (dCall s_cut_to [.d (dVar 3), .d (dVar 4), .d (dBin getF (dBin getF (dVar 0) (dC (.int 1))) (dVar 6))])) (sSeq (sAsg (.nm 5) (dBin addF (dVar 5) (dBin getF C_price_of_2 (dC (.int 0))))) sNil))
def D_price_of_1 : DenS := sFor (iSeq (dVar 2)) (.nm 6) D_price_of_1_b
theorem D_price_of_1_l (s0 s1 s2 s3 s4 : PV) (z5 : PV) (xs : List PV) : forF (.nm 6) D_price_of_1_b xs [.val s0, .val s1, .val s2, .val s3, .val s4, .val z5, .no, .no, .no, .no] = (fldM (fun (w3 : PV) (x2 : PV) => (getF s0 (.int 1)).bind fun t5 => (getF t5 x2).bind fun t6 => (m_cut_to s3 s4 t6).bind fun (t7 : PV) => ((getF s1 x2).bind fun t10 => (seqOf t10).bind fun l11 => cmpG (fun (x8 : PV) => (un2 x8).bind fun (u12 : PV × PV) => (eqF u12.1 t7).bind fun t13 => (asBl t13).bind fun b14 => if b14 = true then some (some u12.2) else some none) l11).bind fun (y15 : List PV) => (getF (.lst y15) (.int 0)).bind fun t16 => (addF w3 t16).bind fun t17 => some t17) xs z5).bind fun (k : PV) => some (.nx [.val s0, .val s1, .val s2, .val s3, .val s4, .val k, .no, .no, .no, .no]) := by
  refine for_fold (E := fun (w3 : PV) => [.val s0, .val s1, .val s2, .val s3, .val s4, .val w3, .no, .no, .no, .no]) _ ?_ xs z5
  intro z x; refine Eq.trans ?_ (mTail_eq _ _); simp! only [D_price_of_1_b, q_scope_of, q_cut_to, C_price_of_2_l, C_price_of_2_q]
theorem D_price_of_1_q (s0 s1 s2 s3 s4 s5 : PV) : D_price_of_1 [.val s0, .val s1, .val s2, .val s3, .val s4, .val s5, .no, .no, .no, .no] = ((seqOf s2).bind fun l4 => fldM (fun (w3 : PV) (x2 : PV) => (getF s0 (.int 1)).bind fun t5 => (getF t5 x2).bind fun t6 => (m_cut_to s3 s4 t6).bind fun (t7 : PV) => ((getF s1 x2).bind fun t10 => (seqOf t10).bind fun l11 => cmpG (fun (x8 : PV) => (un2 x8).bind fun (u12 : PV × PV) => (eqF u12.1 t7).bind fun t13 => (asBl t13).bind fun b14 => if b14 = true then some (some u12.2) else some none) l11).bind fun (y15 : List PV) => (getF (.lst y15) (.int 0)).bind fun t16 => (addF w3 t16).bind fun t17 => some t17) l4 s5).bind fun (k : PV) => some (.nx [.val s0, .val s1, .val s2, .val s3, .val s4, .val k, .no, .no, .no, .no]) := by
  refine Eq.trans ?_ (mTail_eq _ _); simp! only [D_price_of_1, q_scope_of, q_cut_to, C_price_of_2_l, C_price_of_2_q, D_price_of_1_l]
def d_price_of : DenS := (sSeq (sAsg (.nm 4) (dCall s_scope_of [.d (dVar 0), .d (dVar 2)])) (sSeq (sAsg (.nm 5) (dC (.int 0))) (sSeq D_price_of_1 (sSeq (sRetK [0, 1, 2, 3, 4, 5, 6, 7, 8, 9] (dVar 5)) sNil))))
def s_price_of : PP.Sem := runF [] 6 d_price_of
def m_price_of (s0 s1 s2 s3 : PV) : Option (PV) := (m_scope_of s0 s2).bind fun (t1 : PV) => ((seqOf s2).bind fun l4 => fldM (fun (w3 : PV) (x2 : PV) => (getF s0 (.int 1)).bind fun t5 => (getF t5 x2).bind fun t6 => (m_cut_to s3 t1 t6).bind fun (t7 : PV) => ((getF s1 x2).bind fun t10 => (seqOf t10).bind fun l11 => cmpG (fun (x8 : PV) => (un2 x8).bind fun (u12 : PV × PV) => (eqF u12.1 t7).bind fun t13 => (asBl t13).bind fun b14 => if b14 = true then some (some u12.2) else some none) l11).bind fun (y15 : List PV) => (getF (.lst y15) (.int 0)).bind fun t16 => (addF w3 t16).bind fun t17 => some t17) l4 (.int 0)).bind fun (k18 : PV) => some k18
theorem q_price_of (s0 s1 s2 s3 : PV) : s_price_of [s0, s1, s2, s3] = (m_price_of s0 s1 s2 s3).bind fun (r : PV) => some (r, [s0, s1, s2, s3]) := by
  refine Eq.trans ?_ (mTail_eq _ _); simp! only [s_price_of, d_price_of, m_price_of, runF_ev, q_scope_of, q_cut_to, C_price_of_2_l, C_price_of_2_q, D_price_of_1_l, D_price_of_1_q]
def D_solutions_by_2 : DenS := (sIf (dB (dBin isNF (dCall s_first_rejecting [.d (dVar 0), .d (dVar 1), .d (dVar 2), .d (dVar 4)]) (dC .non))) (sSeq (sDrop (dMut appendF 3 [(dTup [(dVar 4), (dCall s_price_of [.d (dVar 0), .d (dVar 1), .d (dVar 2), .d (dVar 4)])])])) sNil) sNil)
theorem D_solutions_by_2_q (s0 s1 s2 s3 s4 : PV) : D_solutions_by_2 [.val s0, .val s1, .val s2, .own s3, .val s4] = ((m_first_rejecting s0 s1 s2 s4).bind fun (t8 : PV) => (isNF t8 .non).bind fun t9 => (asBl t9).bind fun b10 => if b10 = true then (asL s3).bind fun _ => (m_price_of s0 s1 s2 s4).bind fun (t11 : PV) => (asL s3).bind fun l12 => (appendF l12 [(.tup [s4, t11])]).bind fun (z13 : PV × List PV) => some (.lst z13.2) else some s3).bind fun (k : PV) => some (.nx [.val s0, .val s1, .val s2, .own k, .val s4]) := by
  refine Eq.trans ?_ (mTail_eq _ _); simp! only [D_solutions_by_2, q_rows_of, q_scope_of, q_first_rejecting, q_price_of]
def D_solutions_by_1_b : DenS := sPost [4] (sSeq D_solutions_by_2 sNil)
def D_solutions_by_1 : DenS := sFor (iSeq (dCall s_rows_of [.d (dBin getF (dVar 0) (dC (.int 0))), .d (dApp lenF [.d (dCall s_scope_of [.d (dVar 0), .d (dVar 2)])])])) (.nm 4) D_solutions_by_1_b
theorem D_solutions_by_1_l (s0 s1 s2 : PV) (z3 : PV) (xs : List PV) : forF (.nm 4) D_solutions_by_1_b xs [.val s0, .val s1, .val s2, .own z3, .no] = (fldM (fun (w2 : PV) (x1 : PV) => ((m_first_rejecting s0 s1 s2 x1).bind fun (t8 : PV) => (isNF t8 .non).bind fun t9 => (asBl t9).bind fun b10 => if b10 = true then (asL w2).bind fun _ => (m_price_of s0 s1 s2 x1).bind fun (t11 : PV) => (asL w2).bind fun l12 => (appendF l12 [(.tup [x1, t11])]).bind fun (z13 : PV × List PV) => some (.lst z13.2) else some w2).bind fun (k14 : PV) => some k14) xs z3).bind fun (k : PV) => some (.nx [.val s0, .val s1, .val s2, .own k, .no]) := by
  refine for_fold (E := fun (w2 : PV) => [.val s0, .val s1, .val s2, .own w2, .no]) _ ?_ xs z3
  intro z x; refine Eq.trans ?_ (mTail_eq _ _); simp! only [D_solutions_by_1_b, q_rows_of, q_scope_of, q_first_rejecting, q_price_of, D_solutions_by_2_q]
theorem D_solutions_by_1_q (s0 s1 s2 s3 : PV) : D_solutions_by_1 [.val s0, .val s1, .val s2, .own s3, .no] = ((getF s0 (.int 0)).bind fun t3 => (m_scope_of s0 s2).bind fun (t4 : PV) => (lenF [t4]).bind fun t5 => (m_rows_of t3 t5).bind fun (t6 : PV) => (seqOf t6).bind fun l7 => fldM (fun (w2 : PV) (x1 : PV) => ((m_first_rejecting s0 s1 s2 x1).bind fun (t8 : PV) => (isNF t8 .non).bind fun t9 => (asBl t9).bind fun b10 => if b10 = true then (asL w2).bind fun _ => (m_price_of s0 s1 s2 x1).bind fun (t11 : PV) => (asL w2).bind fun l12 => (appendF l12 [(.tup [x1, t11])]).bind fun (z13 : PV × List PV) => some (.lst z13.2) else some w2).bind fun (k14 : PV) => some k14) l7 s3).bind fun (k : PV) => some (.nx [.val s0, .val s1, .val s2, .own k, .no]) := by
  refine Eq.trans ?_ (mTail_eq _ _); simp! only [D_solutions_by_1, q_rows_of, q_scope_of, q_first_rejecting, q_price_of, D_solutions_by_2_q, D_solutions_by_1_l]
def d_solutions_by : DenS := (sSeq (sOwn 3 (dLst [])) (sSeq D_solutions_by_1 (sSeq (sRetK [0, 1, 2, 3, 4] (dVar 3)) sNil)))
def s_solutions_by : PP.Sem := runF [] 2 d_solutions_by
def m_solutions_by (s0 s1 s2 : PV) : Option (PV) := ((getF s0 (.int 0)).bind fun t3 => (m_scope_of s0 s2).bind fun (t4 : PV) => (lenF [t4]).bind fun t5 => (m_rows_of t3 t5).bind fun (t6 : PV) => (seqOf t6).bind fun l7 => fldM (fun (w2 : PV) (x1 : PV) => ((m_first_rejecting s0 s1 s2 x1).bind fun (t8 : PV) => (isNF t8 .non).bind fun t9 => (asBl t9).bind fun b10 => if b10 = true then (asL w2).bind fun _ => (m_price_of s0 s1 s2 x1).bind fun (t11 : PV) => (asL w2).bind fun l12 => (appendF l12 [(.tup [x1, t11])]).bind fun (z13 : PV × List PV) => some (.lst z13.2) else some w2).bind fun (k14 : PV) => some k14) l7 (.lst [])).bind fun (k15 : PV) => some k15
theorem q_solutions_by (s0 s1 s2 : PV) : s_solutions_by [s0, s1, s2] = (m_solutions_by s0 s1 s2).bind fun (r : PV) => some (r, [s0, s1, s2]) := by
  refine Eq.trans ?_ (mTail_eq _ _); simp! only [s_solutions_by, d_solutions_by, m_solutions_by, runF_ev, q_rows_of, q_scope_of, q_first_rejecting, q_price_of, D_solutions_by_2_q, D_solutions_by_1_l, D_solutions_by_1_q]
def d_solutions_of : DenS := (sSeq (sRetK [0, 1] (dCall s_solutions_by [.d (dVar 0), .d (dVar 1), .d (dListRg [(dApp lenF [.d (dBin getF (dVar 0) (dC (.int 1)))])])])) sNil)
def s_solutions_of : PP.Sem := runF [] 0 d_solutions_of
def m_solutions_of (s0 s1 : PV) : Option (PV) := (getF s0 (.int 1)).bind fun t1 => (lenF [t1]).bind fun t2 => (rgO1 t2).bind fun r3 => (m_solutions_by s0 s1 (.lst (rgL r3))).bind fun (t4 : PV) => some t4
theorem q_solutions_of (s0 s1 : PV) : s_solutions_of [s0, s1] = (m_solutions_of s0 s1).bind fun (r : PV) => some (r, [s0, s1]) := by
  refine Eq.trans ?_ (mTail_eq _ _); simp! only [s_solutions_of, d_solutions_of, m_solutions_of, runF_ev, q_solutions_by]
def d_count_solutions : DenS := (sSeq (sDrop (dCall s_check_tables [.d (dVar 0), .d (dVar 1)])) (sSeq (sRetK [0, 1] (dApp lenF [.d (dCall s_solutions_of [.d (dVar 0), .d (dVar 1)])])) sNil))
def s_count_solutions : PP.Sem := runF [] 0 d_count_solutions
def m_count_solutions (s0 s1 : PV) : Option (PV) := (m_check_tables s0 s1).bind fun (t1 : PV) => (m_solutions_of s0 s1).bind fun (t2 : PV) => (lenF [t2]).bind fun t3 => some t3
theorem q_count_solutions (s0 s1 : PV) : s_count_solutions [s0, s1] = (m_count_solutions s0 s1).bind fun (r : PV) => some (r, [s0, s1]) := by
  refine Eq.trans ?_ (mTail_eq _ _); simp! only [s_count_solutions, d_count_solutions, m_count_solutions, runF_ev, q_check_tables, q_solutions_of]
def d_variables_of : DenS := (sSeq (sRetK [0] (dCall s_scope_of [.d (dVar 0), .d (dListRg [(dApp lenF [.d (dBin getF (dVar 0) (dC (.int 1)))])])])) sNil)
def s_variables_of : PP.Sem := runF [] 0 d_variables_of
def m_variables_of (s0 : PV) : Option (PV) := (getF s0 (.int 1)).bind fun t1 => (lenF [t1]).bind fun t2 => (rgO1 t2).bind fun r3 => (m_scope_of s0 (.lst (rgL r3))).bind fun (t4 : PV) => some t4
theorem q_variables_of (s0 : PV) : s_variables_of [s0] = (m_variables_of s0).bind fun (r : PV) => some (r, [s0]) := by
  refine Eq.trans ?_ (mTail_eq _ _); simp! only [s_variables_of, d_variables_of, m_variables_of, runF_ev, q_scope_of]
def d_variables : DenS := (sSeq (sDrop (dCall s_check_graph [.d (dVar 0)])) (sSeq (sRetK [0] (dCall s_variables_of [.d (dVar 0)])) sNil))
def s_variables : PP.Sem := runF [] 0 d_variables
def m_variables (s0 : PV) : Option (PV) := (m_check_graph s0).bind fun (t1 : PV) => (m_variables_of s0).bind fun (t2 : PV) => some t2
theorem q_variables (s0 : PV) : s_variables [s0] = (m_variables s0).bind fun (r : PV) => some (r, [s0]) := by
  refine Eq.trans ?_ (mTail_eq _ _); simp! only [s_variables, d_variables, m_variables, runF_ev, q_check_graph, q_variables_of]
def V__law_is_integer_1 : Den := (dAndV (dIsI .int (.d (dVar 0))) (dUn notF (dIsI .bool (.d (dVar 0)))))
theorem V__law_is_integer_1_q (s0 : PV) : V__law_is_integer_1 [.val s0] = (mAV (.bl (isTy .int s0)) ((notF (.bl (isTy .bool s0))).bind fun t1 => some t1)).bind fun (k : PV) => some (k, [.val s0]) := by
  refine Eq.trans ?_ (mTail_eq _ _); simp! only [V__law_is_integer_1]
def d__law_is_integer : DenS := (sSeq (sRetK [0] V__law_is_integer_1) sNil)
def s__law_is_integer : PP.Sem := runF [] 0 d__law_is_integer
def m__law_is_integer (s0 : PV) : Option (PV) := (mAV (.bl (isTy .int s0)) ((notF (.bl (isTy .bool s0))).bind fun t1 => some t1)).bind fun (t2 : PV) => some t2
theorem q__law_is_integer (s0 : PV) : s__law_is_integer [s0] = (m__law_is_integer s0).bind fun (r : PV) => some (r, [s0]) := by
  refine Eq.trans ?_ (mTail_eq _ _); simp! only [s__law_is_integer, d__law_is_integer, m__law_is_integer, runF_ev, V__law_is_integer_1_q]
def T_is_row_of_1 : DenT := (dOr (dNot (dTruth (.d (dIsI .tuple (.d (dVar 1)))))) (dB (dBin neF (dApp lenF [.d (dVar 1)]) (dVar 2))))
theorem T_is_row_of_1_q (s0 s1 s2 : PV) : T_is_row_of_1 [.val s0, .val s1, .val s2, .no] = ((truthF (.bl (isTy .tuple s1))).bind fun b1 => if (!b1) = true then some true else (lenF [s1]).bind fun t2 => (neF t2 s2).bind fun t3 => (asBl t3).bind fun b4 => some b4).bind fun (k : Bool) => some (k, [.val s0, .val s1, .val s2, .no]) := by
  refine Eq.trans ?_ (mTail_eq _ _); simp! only [T_is_row_of_1, q_is_number]
def C_is_row_of_2_e : Den := (dCall s_is_number [.d (dVar 3), .d (dC (.int 0)), .d (dBin subF (dVar 0) (dC (.int 1)))])
def C_is_row_of_2_t : DenT := dYes
theorem C_is_row_of_2_l (s0 s1 s2 : PV) (xs : List PV) : lcF (.nm 3) C_is_row_of_2_t C_is_row_of_2_e [3] xs [.val s0, .val s1, .val s2, .no] = (cmpM (fun (x6 : PV) => (subF s0 (.int 1)).bind fun t9 => (m_is_number x6 (.int 0) t9).bind fun (t10 : PV) => some t10) xs).bind fun ys => some (ys, [.val s0, .val s1, .val s2, .no]) := by
  refine lc_M (e := [.val s0, .val s1, .val s2, .no]) _ ?_ xs
  intro x; refine Eq.trans ?_ (mTail_eq _ _); simp! only [C_is_row_of_2_e, C_is_row_of_2_t, q_is_number, T_is_row_of_1_q]
def C_is_row_of_2 : Den := dLC (iSeq (dVar 1)) [3] (.nm 3) C_is_row_of_2_t C_is_row_of_2_e
theorem C_is_row_of_2_q (s0 s1 s2 : PV) : C_is_row_of_2 [.val s0, .val s1, .val s2, .no] = ((seqOf s1).bind fun l8 => cmpM (fun (x6 : PV) => (subF s0 (.int 1)).bind fun t9 => (m_is_number x6 (.int 0) t9).bind fun (t10 : PV) => some t10) l8).bind fun (k : List PV) => some (.lst k, [.val s0, .val s1, .val s2, .no]) := by
  refine Eq.trans ?_ (mTail_eq _ _); simp! only [C_is_row_of_2, q_is_number, T_is_row_of_1_q, C_is_row_of_2_l]
def d_is_row_of : DenS := (sSeq (sIf T_is_row_of_1 (sSeq (sRetK [0, 1, 2, 3] (dC (.bl false))) sNil) sNil) (sSeq (sRetK [0, 1, 2, 3] (dApp allF [.d C_is_row_of_2])) sNil))
def s_is_row_of : PP.Sem := runF [] 1 d_is_row_of
def m_is_row_of (s0 s1 s2 : PV) : Option (PV) := ((truthF (.bl (isTy .tuple s1))).bind fun b1 => if (!b1) = true then some true else (lenF [s1]).bind fun t2 => (neF t2 s2).bind fun t3 => (asBl t3).bind fun b4 => some b4).bind fun (b5 : Bool) => if b5 = true then some (.bl false) else ((seqOf s1).bind fun l8 => cmpM (fun (x6 : PV) => (subF s0 (.int 1)).bind fun t9 => (m_is_number x6 (.int 0) t9).bind fun (t10 : PV) => some t10) l8).bind fun (y11 : List PV) => (allF [(.lst y11)]).bind fun t12 => some t12
theorem q_is_row_of (s0 s1 s2 : PV) : s_is_row_of [s0, s1, s2] = (m_is_row_of s0 s1 s2).bind fun (r : PV) => some (r, [s0, s1, s2]) := by
  refine Eq.trans ?_ (mTail_eq _ _); simp! only [s_is_row_of, d_is_row_of, m_is_row_of, runF_ev, q_is_number, T_is_row_of_1_q, C_is_row_of_2_l, C_is_row_of_2_q]
def d_check_row : DenS := (sSeq (sIf (dNot (dTruth (.d (dCall s_is_row_of [.d (dBin getF (dVar 0) (dC (.int 0))), .d (dVar 1), .d (dApp lenF [.d (dCall s_variables_of [.d (dVar 0)])])])))) (sSeq sNever sNil) sNil) sNil)
def s_check_row : PP.Sem := runF [] 0 d_check_row
def m_check_row (s0 s1 : PV) : Option (PV) := (getF s0 (.int 0)).bind fun t1 => (m_variables_of s0).bind fun (t2 : PV) => (lenF [t2]).bind fun t3 => (m_is_row_of t1 s1 t3).bind fun (t4 : PV) => (truthF t4).bind fun b5 => if (!b5) = true then none else some .non
theorem q_check_row (s0 s1 : PV) : s_check_row [s0, s1] = (m_check_row s0 s1).bind fun (r : PV) => some (r, [s0, s1]) := by
  refine Eq.trans ?_ (mTail_eq _ _); simp! only [s_check_row, d_check_row, m_check_row, runF_ev, q_is_row_of, q_variables_of]
def C_index_of_solution_1_e : Den := (dVar 4)
def C_index_of_solution_1_t : DenT := dYes
theorem C_index_of_solution_1_l (s0 s1 s2 : PV) (xs : List PV) : lcF (.tp [(.nm 4), (.nm 5)]) C_index_of_solution_1_t C_index_of_solution_1_e [4, 5] xs [.val s0, .val s1, .val s2, .no, .no, .no] = (cmpM (fun (x3 : PV) => (un2 x3).bind fun (u7 : PV × PV) => some u7.1) xs).bind fun ys => some (ys, [.val s0, .val s1, .val s2, .no, .no, .no]) := by
  refine lc_M (e := [.val s0, .val s1, .val s2, .no, .no, .no]) _ ?_ xs
  intro x; refine Eq.trans ?_ (mTail_eq _ _); simp! only [C_index_of_solution_1_e, C_index_of_solution_1_t, q_check_tables, q_check_row, q_solutions_of]
def C_index_of_solution_1 : Den := dLC (iSeq (dCall s_solutions_of [.d (dVar 0), .d (dVar 1)])) [4, 5] (.tp [(.nm 4), (.nm 5)]) C_index_of_solution_1_t C_index_of_solution_1_e
theorem C_index_of_solution_1_q (s0 s1 s2 : PV) : C_index_of_solution_1 [.val s0, .val s1, .val s2, .no, .no, .no] = ((m_solutions_of s0 s1).bind fun (t5 : PV) => (seqOf t5).bind fun l6 => cmpM (fun (x3 : PV) => (un2 x3).bind fun (u7 : PV × PV) => some u7.1) l6).bind fun (k : List PV) => some (.lst k, [.val s0, .val s1, .val s2, .no, .no, .no]) := by
  refine Eq.trans ?_ (mTail_eq _ _); simp! only [C_index_of_solution_1, q_check_tables, q_check_row, q_solutions_of, C_index_of_solution_1_l]
def V_index_of_solution_2 : Den := dIf (dB (dBin inF (dVar 2) (dVar 3))) (dRecv isSeqI (.d (dVar 3)) [(dVar 2)] indexF) (dC .non)
theorem V_index_of_solution_2_q (s0 s1 s2 s3 : PV) : V_index_of_solution_2 [.val s0, .val s1, .val s2, .val s3, .no, .no] = ((inF s2 s3).bind fun t9 => (asBl t9).bind fun b10 => if b10 = true then (guard1 (isSeqI s3)).bind fun _ => (indexF s3 [s2]).bind fun t11 => some t11 else some .non).bind fun (k : PV) => some (k, [.val s0, .val s1, .val s2, .val s3, .no, .no]) := by
  refine Eq.trans ?_ (mTail_eq _ _); simp! only [V_index_of_solution_2, q_check_tables, q_check_row, q_solutions_of, C_index_of_solution_1_l, C_index_of_solution_1_q]
def d_index_of_solution : DenS := (sSeq (sDrop (dCall s_check_tables [.d (dVar 0), .d (dVar 1)])) (sSeq (sDrop (dCall s_check_row [.d (dVar 0), .d (dVar 2)])) (sSeq (sFz 3 (sOwn 3 C_index_of_solution_1)) (sSeq (sRetK [0, 1, 2, 3, 4, 5] V_index_of_solution_2) sNil))))
def s_index_of_solution : PP.Sem := runF [] 3 d_index_of_solution
def m_index_of_solution (s0 s1 s2 : PV) : Option (PV) := (m_check_tables s0 s1).bind fun (t1 : PV) => (m_check_row s0 s2).bind fun (t2 : PV) => ((m_solutions_of s0 s1).bind fun (t5 : PV) => (seqOf t5).bind fun l6 => cmpM (fun (x3 : PV) => (un2 x3).bind fun (u7 : PV × PV) => some u7.1) l6).bind fun (y8 : List PV) => ((inF s2 (.lst y8)).bind fun t9 => (asBl t9).bind fun b10 => if b10 = true then (guard1 (isSeqI (.lst y8))).bind fun _ => (indexF (.lst y8) [s2]).bind fun t11 => some t11 else some .non).bind fun (t12 : PV) => some t12
theorem q_index_of_solution (s0 s1 s2 : PV) : s_index_of_solution [s0, s1, s2] = (m_index_of_solution s0 s1 s2).bind fun (r : PV) => some (r, [s0, s1, s2]) := by
  refine Eq.trans ?_ (mTail_eq _ _); simp! only [s_index_of_solution, d_index_of_solution, m_index_of_solution, runF_ev, q_check_tables, q_check_row, q_solutions_of, C_index_of_solution_1_l, C_index_of_solution_1_q, V_index_of_solution_2_q]
def d_nth_solution : DenS := (sSeq (sDrop (dCall s_check_tables [.d (dVar 0), .d (dVar 1)])) (sSeq (sAsg (.nm 3) (dCall s_solutions_of [.d (dVar 0), .d (dVar 1)])) (sSeq (sIf (dNot (dTruth (.d (dCall s_is_number [.d (dVar 2), .d (dC (.int 0)), .d (dBin subF (dApp lenF [.d (dVar 3)]) (dC (.int 1)))])))) (sSeq sNever sNil) sNil) (sSeq (sRetK [0, 1, 2, 3] (dBin getF (dVar 3) (dVar 2))) sNil))))
def s_nth_solution : PP.Sem := runF [] 1 d_nth_solution
def m_nth_solution (s0 s1 s2 : PV) : Option (PV) := (m_check_tables s0 s1).bind fun (t1 : PV) => (m_solutions_of s0 s1).bind fun (t2 : PV) => (lenF [t2]).bind fun t3 => (subF t3 (.int 1)).bind fun t4 => (m_is_number s2 (.int 0) t4).bind fun (t5 : PV) => (truthF t5).bind fun b6 => if (!b6) = true then none else (getF t2 s2).bind fun t7 => some t7
theorem q_nth_solution (s0 s1 s2 : PV) : s_nth_solution [s0, s1, s2] = (m_nth_solution s0 s1 s2).bind fun (r : PV) => some (r, [s0, s1, s2]) := by
  refine Eq.trans ?_ (mTail_eq _ _); simp! only [s_nth_solution, d_nth_solution, m_nth_solution, runF_ev, q_check_tables, q_solutions_of, q_is_number]
def d_rejecting : DenS := (sSeq (sDrop (dCall s_check_tables [.d (dVar 0), .d (dVar 1)])) (sSeq (sDrop (dCall s_check_row [.d (dVar 0), .d (dVar 2)])) (sSeq (sRetK [0, 1, 2] (dCall s_first_rejecting [.d (dVar 0), .d (dVar 1), .d (dListRg [(dApp lenF [.d (dBin getF (dVar 0) (dC (.int 1)))])]), .d (dVar 2)])) sNil)))
def s_rejecting : PP.Sem := runF [] 0 d_rejecting
def m_rejecting (s0 s1 s2 : PV) : Option (PV) := (m_check_tables s0 s1).bind fun (t1 : PV) => (m_check_row s0 s2).bind fun (t2 : PV) => (getF s0 (.int 1)).bind fun t3 => (lenF [t3]).bind fun t4 => (rgO1 t4).bind fun r5 => (m_first_rejecting s0 s1 (.lst (rgL r5)) s2).bind fun (t6 : PV) => some t6
theorem q_rejecting (s0 s1 s2 : PV) : s_rejecting [s0, s1, s2] = (m_rejecting s0 s1 s2).bind fun (r : PV) => some (r, [s0, s1, s2]) := by
  refine Eq.trans ?_ (mTail_eq _ _); simp! only [s_rejecting, d_rejecting, m_rejecting, runF_ev, q_check_tables, q_check_row, q_first_rejecting]
def V_is_part_3 : Den := (dAndV (dCall s_is_number [.d (dVar 2), .d (dC (.int 0)), .d (dC (.int 5))]) (dBin inF (dVar 2) (dVar 1)))
theorem V_is_part_3_q (s0 s1 s2 : PV) : V_is_part_3 [.val s0, .val s1, .val s2, .no] = ((m_is_number s2 (.int 0) (.int 5)).bind fun (t5 : PV) => mAV t5 ((inF s2 s1).bind fun t6 => some t6)).bind fun (k : PV) => some (k, [.val s0, .val s1, .val s2, .no]) := by
  refine Eq.trans ?_ (mTail_eq _ _); simp! only [V_is_part_3, q_is_number]
def C_is_part_2_e : Den := V_is_part_3
def C_is_part_2_t : DenT := dYes
theorem C_is_part_2_l (s0 s1 : PV) (xs : List PV) : lcF (.nm 2) C_is_part_2_t C_is_part_2_e [2] xs [.val s0, .val s1, .no, .no] = (cmpM (fun (x2 : PV) => ((m_is_number x2 (.int 0) (.int 5)).bind fun (t5 : PV) => mAV t5 ((inF x2 s1).bind fun t6 => some t6)).bind fun (t7 : PV) => some t7) xs).bind fun ys => some (ys, [.val s0, .val s1, .no, .no]) := by
  refine lc_M (e := [.val s0, .val s1, .no, .no]) _ ?_ xs
  intro x; refine Eq.trans ?_ (mTail_eq _ _); simp! only [C_is_part_2_e, C_is_part_2_t, q_is_number, V_is_part_3_q]
def C_is_part_2 : Den := dLC (iSeq (dVar 0)) [2] (.nm 2) C_is_part_2_t C_is_part_2_e
theorem C_is_part_2_q (s0 s1 : PV) : C_is_part_2 [.val s0, .val s1, .no, .no] = ((seqOf s0).bind fun l4 => cmpM (fun (x2 : PV) => ((m_is_number x2 (.int 0) (.int 5)).bind fun (t5 : PV) => mAV t5 ((inF x2 s1).bind fun t6 => some t6)).bind fun (t7 : PV) => some t7) l4).bind fun (k : List PV) => some (.lst k, [.val s0, .val s1, .no, .no]) := by
  refine Eq.trans ?_ (mTail_eq _ _); simp! only [C_is_part_2, q_is_number, V_is_part_3_q, C_is_part_2_l]
def T_is_part_1 : DenT := (dOr (dNot (dTruth (.d (dIsI .tuple (.d (dVar 0)))))) (dNot (dTruth (.d (dApp allF [.d C_is_part_2])))))
theorem T_is_part_1_q (s0 s1 : PV) : T_is_part_1 [.val s0, .val s1, .no, .no] = ((truthF (.bl (isTy .tuple s0))).bind fun b1 => if (!b1) = true then some true else ((seqOf s0).bind fun l4 => cmpM (fun (x2 : PV) => ((m_is_number x2 (.int 0) (.int 5)).bind fun (t5 : PV) => mAV t5 ((inF x2 s1).bind fun t6 => some t6)).bind fun (t7 : PV) => some t7) l4).bind fun (y8 : List PV) => (allF [(.lst y8)]).bind fun t9 => (truthF t9).bind fun b10 => some (!b10)).bind fun (k : Bool) => some (k, [.val s0, .val s1, .no, .no]) := by
  refine Eq.trans ?_ (mTail_eq _ _); simp! only [T_is_part_1, q_is_number, V_is_part_3_q, C_is_part_2_l, C_is_part_2_q]
def C_is_part_4_e : Den := (dBin ltF (dBin getF (dVar 0) (dVar 3)) (dBin getF (dVar 0) (dBin addF (dVar 3) (dC (.int 1)))))
def C_is_part_4_t : DenT := dYes
theorem C_is_part_4_l (s0 s1 : PV) (xs : List PV) : lcF (.nm 3) C_is_part_4_t C_is_part_4_e [3] xs [.val s0, .val s1, .no, .no] = (cmpM (fun (x12 : PV) => (getF s0 x12).bind fun t17 => (addF x12 (.int 1)).bind fun t18 => (getF s0 t18).bind fun t19 => (ltF t17 t19).bind fun t20 => some t20) xs).bind fun ys => some (ys, [.val s0, .val s1, .no, .no]) := by
  refine lc_M (e := [.val s0, .val s1, .no, .no]) _ ?_ xs
  intro x; refine Eq.trans ?_ (mTail_eq _ _); simp! only [C_is_part_4_e, C_is_part_4_t, q_is_number, V_is_part_3_q, C_is_part_2_l, C_is_part_2_q, T_is_part_1_q]
def C_is_part_4 : Den := dLC (iRange [(dBin subF (dApp lenF [.d (dVar 0)]) (dC (.int 1)))]) [3] (.nm 3) C_is_part_4_t C_is_part_4_e
theorem C_is_part_4_q (s0 s1 : PV) : C_is_part_4 [.val s0, .val s1, .no, .no] = ((lenF [s0]).bind fun t14 => (subF t14 (.int 1)).bind fun t15 => (rgO1 t15).bind fun r16 => cmpM (fun (x12 : PV) => (getF s0 x12).bind fun t17 => (addF x12 (.int 1)).bind fun t18 => (getF s0 t18).bind fun t19 => (ltF t17 t19).bind fun t20 => some t20) (rgL r16)).bind fun (k : List PV) => some (.lst k, [.val s0, .val s1, .no, .no]) := by
  refine Eq.trans ?_ (mTail_eq _ _); simp! only [C_is_part_4, q_is_number, V_is_part_3_q, C_is_part_2_l, C_is_part_2_q, T_is_part_1_q, C_is_part_4_l]
def d_is_part : DenS := (sSeq (sIf T_is_part_1 (sSeq (sRetK [0, 1, 2, 3] (dC (.bl false))) sNil) sNil) (sSeq (sRetK [0, 1, 2, 3] (dApp allF [.d C_is_part_4])) sNil))
def s_is_part : PP.Sem := runF [] 2 d_is_part
def m_is_part (s0 s1 : PV) : Option (PV) := ((truthF (.bl (isTy .tuple s0))).bind fun b1 => if (!b1) = true then some true else ((seqOf s0).bind fun l4 => cmpM (fun (x2 : PV) => ((m_is_number x2 (.int 0) (.int 5)).bind fun (t5 : PV) => mAV t5 ((inF x2 s1).bind fun t6 => some t6)).bind fun (t7 : PV) => some t7) l4).bind fun (y8 : List PV) => (allF [(.lst y8)]).bind fun t9 => (truthF t9).bind fun b10 => some (!b10)).bind fun (b11 : Bool) => if b11 = true then some (.bl false) else ((lenF [s0]).bind fun t14 => (subF t14 (.int 1)).bind fun t15 => (rgO1 t15).bind fun r16 => cmpM (fun (x12 : PV) => (getF s0 x12).bind fun t17 => (addF x12 (.int 1)).bind fun t18 => (getF s0 t18).bind fun t19 => (ltF t17 t19).bind fun t20 => some t20) (rgL r16)).bind fun (y21 : List PV) => (allF [(.lst y21)]).bind fun t22 => some t22
theorem q_is_part (s0 s1 : PV) : s_is_part [s0, s1] = (m_is_part s0 s1).bind fun (r : PV) => some (r, [s0, s1]) := by
  refine Eq.trans ?_ (mTail_eq _ _); simp! only [s_is_part, d_is_part, m_is_part, runF_ev, q_is_number, V_is_part_3_q, C_is_part_2_l, C_is_part_2_q, T_is_part_1_q, C_is_part_4_l, C_is_part_4_q]
def D_gathered_1_b : DenS := sPost [3, 4, 5] (sSeq (sStore 1 (dVar 3) (dBin addF (dRecv isDic (.b 1) [(dVar 3), (dC (.int 0))] mgetF) (dVar 4))) (sSeq (sStore 2 (dVar 3) (dApp minF [.d (dRecv isDic (.b 2) [(dVar 3), (dVar 5)] mgetF), .d (dVar 5)])) sNil))
def D_gathered_1 : DenS := sFor (iSeq (dVar 0)) (.tp [(.nm 3), (.nm 4), (.nm 5)]) D_gathered_1_b
theorem D_gathered_1_l (s0 : PV) (z1 z2 : PV) (xs : List PV) : forF (.tp [(.nm 3), (.nm 4), (.nm 5)]) D_gathered_1_b xs [.val s0, .own z1, .own z2, .no, .no, .no] = (fldM (fun (w2 : PV × PV) (x1 : PV) => (un3 x1).bind fun (u4 : PV × PV × PV) => (guard1 (isDic w2.1)).bind fun _ => (mgetF w2.1 [u4.1, (.int 0)]).bind fun t5 => (addF t5 u4.2.1).bind fun t6 => (setF w2.1 u4.1 t6).bind fun d7 => (guard1 (isDic w2.2)).bind fun _ => (mgetF w2.2 [u4.1, u4.2.2]).bind fun t8 => (minF [t8, u4.2.2]).bind fun t9 => (setF w2.2 u4.1 t9).bind fun d10 => some (d7, d10)) xs (z1, z2)).bind fun (k : PV × PV) => some (.nx [.val s0, .own k.1, .own k.2, .no, .no, .no]) := by
  refine for_fold (E := fun (w2 : PV × PV) => [.val s0, .own w2.1, .own w2.2, .no, .no, .no]) _ ?_ xs (z1, z2)
  intro z x; refine Eq.trans ?_ (mTail_eq _ _); simp! only [D_gathered_1_b]
theorem D_gathered_1_q (s0 s1 s2 : PV) : D_gathered_1 [.val s0, .own s1, .own s2, .no, .no, .no] = ((seqOf s0).bind fun l3 => fldM (fun (w2 : PV × PV) (x1 : PV) => (un3 x1).bind fun (u4 : PV × PV × PV) => (guard1 (isDic w2.1)).bind fun _ => (mgetF w2.1 [u4.1, (.int 0)]).bind fun t5 => (addF t5 u4.2.1).bind fun t6 => (setF w2.1 u4.1 t6).bind fun d7 => (guard1 (isDic w2.2)).bind fun _ => (mgetF w2.2 [u4.1, u4.2.2]).bind fun t8 => (minF [t8, u4.2.2]).bind fun t9 => (setF w2.2 u4.1 t9).bind fun d10 => some (d7, d10)) l3 (s1, s2)).bind fun (k : PV × PV) => some (.nx [.val s0, .own k.1, .own k.2, .no, .no, .no]) := by
  refine Eq.trans ?_ (mTail_eq _ _); simp! only [D_gathered_1, D_gathered_1_l]
def C_gathered_2_e : Den := (dTup [(dVar 3), (dBinL getF 1 (dVar 3)), (dBinL getF 2 (dVar 3))])
def C_gathered_2_t : DenT := dYes
theorem C_gathered_2_l (s0 s1 s2 : PV) (xs : List PV) : lcF (.nm 3) C_gathered_2_t C_gathered_2_e [3] xs [.val s0, .own s1, .own s2, .no, .no, .no] = (cmpM (fun (x12 : PV) => (getF s1 x12).bind fun t16 => (getF s2 x12).bind fun t17 => some (.tup [x12, t16, t17])) xs).bind fun ys => some (ys, [.val s0, .own s1, .own s2, .no, .no, .no]) := by
  refine lc_M (e := [.val s0, .own s1, .own s2, .no, .no, .no]) _ ?_ xs
  intro x; refine Eq.trans ?_ (mTail_eq _ _); simp! only [C_gathered_2_e, C_gathered_2_t, D_gathered_1_l, D_gathered_1_q]
def C_gathered_2 : Den := dLC (iSeq (dApp sortedTF [.b 1])) [3] (.nm 3) C_gathered_2_t C_gathered_2_e
theorem C_gathered_2_q (s0 s1 s2 : PV) : C_gathered_2 [.val s0, .own s1, .own s2, .no, .no, .no] = ((sortedTF [s1]).bind fun t14 => (seqOf t14).bind fun l15 => cmpM (fun (x12 : PV) => (getF s1 x12).bind fun t16 => (getF s2 x12).bind fun t17 => some (.tup [x12, t16, t17])) l15).bind fun (k : List PV) => some (.lst k, [.val s0, .own s1, .own s2, .no, .no, .no]) := by
  refine Eq.trans ?_ (mTail_eq _ _); simp! only [C_gathered_2, D_gathered_1_l, D_gathered_1_q, C_gathered_2_l]
def d_gathered : DenS := (sSeq (sOwn 1 (dC (.dt []))) (sSeq (sOwn 2 (dC (.dt []))) (sSeq D_gathered_1 (sSeq (sRetK [0, 1, 2, 3, 4, 5] (dApp tupleF [.d C_gathered_2])) sNil))))
def s_gathered : PP.Sem := runF [] 5 d_gathered
def m_gathered (s0 : PV) : Option (PV) := ((seqOf s0).bind fun l3 => fldM (fun (w2 : PV × PV) (x1 : PV) => (un3 x1).bind fun (u4 : PV × PV × PV) => (guard1 (isDic w2.1)).bind fun _ => (mgetF w2.1 [u4.1, (.int 0)]).bind fun t5 => (addF t5 u4.2.1).bind fun t6 => (setF w2.1 u4.1 t6).bind fun d7 => (guard1 (isDic w2.2)).bind fun _ => (mgetF w2.2 [u4.1, u4.2.2]).bind fun t8 => (minF [t8, u4.2.2]).bind fun t9 => (setF w2.2 u4.1 t9).bind fun d10 => some (d7, d10)) l3 ((.dt []), (.dt []))).bind fun (k11 : PV × PV) => ((sortedTF [k11.1]).bind fun t14 => (seqOf t14).bind fun l15 => cmpM (fun (x12 : PV) => (getF k11.1 x12).bind fun t16 => (getF k11.2 x12).bind fun t17 => some (.tup [x12, t16, t17])) l15).bind fun (y18 : List PV) => (tupleF [(.lst y18)]).bind fun t19 => some t19
theorem q_gathered (s0 : PV) : s_gathered [s0] = (m_gathered s0).bind fun (r : PV) => some (r, [s0]) := by
  refine Eq.trans ?_ (mTail_eq _ _); simp! only [s_gathered, d_gathered, m_gathered, runF_ev, D_gathered_1_l, D_gathered_1_q, C_gathered_2_l, C_gathered_2_q]
def C_cut_down_1_e : Den := (dTup [(dCall s_cut_to [.d (dVar 3), .d (dVar 1), .d (dVar 2)]), (dC (.int 1)), (dVar 4)])
def C_cut_down_1_t : DenT := dYes
theorem C_cut_down_1_l (s0 s1 s2 : PV) (xs : List PV) : lcF (.tp [(.nm 3), (.nm 4)]) C_cut_down_1_t C_cut_down_1_e [3, 4] xs [.val s0, .val s1, .val s2, .no, .no] = (cmpM (fun (x1 : PV) => (un2 x1).bind fun (u4 : PV × PV) => (m_cut_to u4.1 s1 s2).bind fun (t5 : PV) => some (.tup [t5, (.int 1), u4.2])) xs).bind fun ys => some (ys, [.val s0, .val s1, .val s2, .no, .no]) := by
  refine lc_M (e := [.val s0, .val s1, .val s2, .no, .no]) _ ?_ xs
  intro x; refine Eq.trans ?_ (mTail_eq _ _); simp! only [C_cut_down_1_e, C_cut_down_1_t, q_gathered, q_cut_to]
def C_cut_down_1 : Den := dLC (iSeq (dVar 0)) [3, 4] (.tp [(.nm 3), (.nm 4)]) C_cut_down_1_t C_cut_down_1_e
theorem C_cut_down_1_q (s0 s1 s2 : PV) : C_cut_down_1 [.val s0, .val s1, .val s2, .no, .no] = ((seqOf s0).bind fun l3 => cmpM (fun (x1 : PV) => (un2 x1).bind fun (u4 : PV × PV) => (m_cut_to u4.1 s1 s2).bind fun (t5 : PV) => some (.tup [t5, (.int 1), u4.2])) l3).bind fun (k : List PV) => some (.lst k, [.val s0, .val s1, .val s2, .no, .no]) := by
  refine Eq.trans ?_ (mTail_eq _ _); simp! only [C_cut_down_1, q_gathered, q_cut_to, C_cut_down_1_l]
def d_cut_down : DenS := (sSeq (sRetK [0, 1, 2, 3, 4] (dCall s_gathered [.d C_cut_down_1])) sNil)
def s_cut_down : PP.Sem := runF [] 2 d_cut_down
def m_cut_down (s0 s1 s2 : PV) : Option (PV) := ((seqOf s0).bind fun l3 => cmpM (fun (x1 : PV) => (un2 x1).bind fun (u4 : PV × PV) => (m_cut_to u4.1 s1 s2).bind fun (t5 : PV) => some (.tup [t5, (.int 1), u4.2])) l3).bind fun (y6 : List PV) => (m_gathered (.lst y6)).bind fun (t7 : PV) => some t7
theorem q_cut_down (s0 s1 s2 : PV) : s_cut_down [s0, s1, s2] = (m_cut_down s0 s1 s2).bind fun (r : PV) => some (r, [s0, s1, s2]) := by
  refine Eq.trans ?_ (mTail_eq _ _); simp! only [s_cut_down, d_cut_down, m_cut_down, runF_ev, q_gathered, q_cut_to, C_cut_down_1_l, C_cut_down_1_q]
def d_projected : DenS := (sSeq (sRetK [0, 1, 2] (dCall s_cut_down [.d (dCall s_solutions_of [.d (dVar 0), .d (dVar 1)]), .d (dCall s_variables_of [.d (dVar 0)]), .d (dVar 2)])) sNil)
def s_projected : PP.Sem := runF [] 0 d_projected
def m_projected (s0 s1 s2 : PV) : Option (PV) := (m_solutions_of s0 s1).bind fun (t1 : PV) => (m_variables_of s0).bind fun (t2 : PV) => (m_cut_down t1 t2 s2).bind fun (t3 : PV) => some t3
theorem q_projected (s0 s1 s2 : PV) : s_projected [s0, s1, s2] = (m_projected s0 s1 s2).bind fun (r : PV) => some (r, [s0, s1, s2]) := by
  refine Eq.trans ?_ (mTail_eq _ _); simp! only [s_projected, d_projected, m_projected, runF_ev, q_cut_down, q_solutions_of, q_variables_of]
def d_projection : DenS := (sSeq (sDrop (dCall s_check_tables [.d (dVar 0), .d (dVar 1)])) (sSeq (sIf (dNot (dTruth (.d (dCall s_is_part [.d (dVar 2), .d (dCall s_variables_of [.d (dVar 0)])])))) (sSeq sNever sNil) sNil) (sSeq (sRetK [0, 1, 2] (dCall s_projected [.d (dVar 0), .d (dVar 1), .d (dVar 2)])) sNil)))
def s_projection : PP.Sem := runF [] 0 d_projection
def m_projection (s0 s1 s2 : PV) : Option (PV) := (m_check_tables s0 s1).bind fun (t1 : PV) => (m_variables_of s0).bind fun (t2 : PV) => (m_is_part s2 t2).bind fun (t3 : PV) => (truthF t3).bind fun b4 => if (!b4) = true then none else (m_projected s0 s1 s2).bind fun (t5 : PV) => some t5
theorem q_projection (s0 s1 s2 : PV) : s_projection [s0, s1, s2] = (m_projection s0 s1 s2).bind fun (r : PV) => some (r, [s0, s1, s2]) := by
  refine Eq.trans ?_ (mTail_eq _ _); simp! only [s_projection, d_projection, m_projection, runF_ev, q_check_tables, q_is_part, q_variables_of, q_projected]
def D__law_left_2 : DenS := (sIf (dB (dBinR inF (dVar 6) 3)) (sSeq (sStore 3 (dVar 6) (dTup [(dBin addF (dBin getF (dBinL getF 3 (dVar 6)) (dC (.int 0))) (dC (.int 1))), (dApp minF [.d (dBin getF (dBinL getF 3 (dVar 6)) (dC (.int 1))), .d (dVar 5)])])) sNil) (sSeq (sStore 3 (dVar 6) (dTup [(dC (.int 1)), (dVar 5)])) sNil))
theorem D__law_left_2_q (s0 s1 s2 s3 s4 s5 s6 : PV) : D__law_left_2 [.val s0, .val s1, .val s2, .own s3, .val s4, .val s5, .val s6] = ((inF s6 s3).bind fun t6 => (asBl t6).bind fun b7 => if b7 = true then (getF s3 s6).bind fun t8 => (getF t8 (.int 0)).bind fun t9 => (addF t9 (.int 1)).bind fun t10 => (getF s3 s6).bind fun t11 => (getF t11 (.int 1)).bind fun t12 => (minF [t12, s5]).bind fun t13 => (setF s3 s6 (.tup [t10, t13])).bind fun d14 => some d14 else (setF s3 s6 (.tup [(.int 1), s5])).bind fun d15 => some d15).bind fun (k : PV) => some (.nx [.val s0, .val s1, .val s2, .own k, .val s4, .val s5, .val s6]) := by
  refine Eq.trans ?_ (mTail_eq _ _); simp! only [D__law_left_2, q__law_cut]
def D__law_left_1_b : DenS := sPost [4, 5, 6] (sSeq (sAsg (.nm 6) (dCall s__law_cut [.d (dVar 4), .d (dVar 1), .d (dVar 2)])) (sSeq D__law_left_2 sNil))
def D__law_left_1 : DenS := sFor (iSeq (dVar 0)) (.tp [(.nm 4), (.nm 5)]) D__law_left_1_b
theorem D__law_left_1_l (s0 s1 s2 : PV) (z3 : PV) (xs : List PV) : forF (.tp [(.nm 4), (.nm 5)]) D__law_left_1_b xs [.val s0, .val s1, .val s2, .own z3, .no, .no, .no] = (fldM (fun (w2 : PV) (x1 : PV) => (un2 x1).bind fun (u4 : PV × PV) => (m__law_cut u4.1 s1 s2).bind fun (t5 : PV) => ((inF t5 w2).bind fun t6 => (asBl t6).bind fun b7 => if b7 = true then (getF w2 t5).bind fun t8 => (getF t8 (.int 0)).bind fun t9 => (addF t9 (.int 1)).bind fun t10 => (getF w2 t5).bind fun t11 => (getF t11 (.int 1)).bind fun t12 => (minF [t12, u4.2]).bind fun t13 => (setF w2 t5 (.tup [t10, t13])).bind fun d14 => some d14 else (setF w2 t5 (.tup [(.int 1), u4.2])).bind fun d15 => some d15).bind fun (k16 : PV) => some k16) xs z3).bind fun (k : PV) => some (.nx [.val s0, .val s1, .val s2, .own k, .no, .no, .no]) := by
  refine for_fold (E := fun (w2 : PV) => [.val s0, .val s1, .val s2, .own w2, .no, .no, .no]) _ ?_ xs z3
  intro z x; refine Eq.trans ?_ (mTail_eq _ _); simp! only [D__law_left_1_b, q__law_cut, D__law_left_2_q]
theorem D__law_left_1_q (s0 s1 s2 s3 : PV) : D__law_left_1 [.val s0, .val s1, .val s2, .own s3, .no, .no, .no] = ((seqOf s0).bind fun l3 => fldM (fun (w2 : PV) (x1 : PV) => (un2 x1).bind fun (u4 : PV × PV) => (m__law_cut u4.1 s1 s2).bind fun (t5 : PV) => ((inF t5 w2).bind fun t6 => (asBl t6).bind fun b7 => if b7 = true then (getF w2 t5).bind fun t8 => (getF t8 (.int 0)).bind fun t9 => (addF t9 (.int 1)).bind fun t10 => (getF w2 t5).bind fun t11 => (getF t11 (.int 1)).bind fun t12 => (minF [t12, u4.2]).bind fun t13 => (setF w2 t5 (.tup [t10, t13])).bind fun d14 => some d14 else (setF w2 t5 (.tup [(.int 1), u4.2])).bind fun d15 => some d15).bind fun (k16 : PV) => some k16) l3 s3).bind fun (k : PV) => some (.nx [.val s0, .val s1, .val s2, .own k, .no, .no, .no]) := by
  refine Eq.trans ?_ (mTail_eq _ _); simp! only [D__law_left_1, q__law_cut, D__law_left_2_q, D__law_left_1_l]
def C__law_left_3_e : Den := (dTup [(dVar 6), (dBin getF (dBinL getF 3 (dVar 6)) (dC (.int 0))), (dBin getF (dBinL getF 3 (dVar 6)) (dC (.int 1)))])
def C__law_left_3_t : DenT := dYes
theorem C__law_left_3_l (s0 s1 s2 s3 : PV) (xs : List PV) : lcF (.nm 6) C__law_left_3_t C__law_left_3_e [6] xs [.val s0, .val s1, .val s2, .own s3, .no, .no, .no] = (cmpM (fun (x18 : PV) => (getF s3 x18).bind fun t22 => (getF t22 (.int 0)).bind fun t23 => (getF s3 x18).bind fun t24 => (getF t24 (.int 1)).bind fun t25 => some (.tup [x18, t23, t25])) xs).bind fun ys => some (ys, [.val s0, .val s1, .val s2, .own s3, .no, .no, .no]) := by
  refine lc_M (e := [.val s0, .val s1, .val s2, .own s3, .no, .no, .no]) _ ?_ xs
  intro x; refine Eq.trans ?_ (mTail_eq _ _); simp! only [C__law_left_3_e, C__law_left_3_t, q__law_cut, D__law_left_2_q, D__law_left_1_l, D__law_left_1_q]
def C__law_left_3 : Den := dLC (iSeq (dApp sortedTF [.b 3])) [6] (.nm 6) C__law_left_3_t C__law_left_3_e
theorem C__law_left_3_q (s0 s1 s2 s3 : PV) : C__law_left_3 [.val s0, .val s1, .val s2, .own s3, .no, .no, .no] = ((sortedTF [s3]).bind fun t20 => (seqOf t20).bind fun l21 => cmpM (fun (x18 : PV) => (getF s3 x18).bind fun t22 => (getF t22 (.int 0)).bind fun t23 => (getF s3 x18).bind fun t24 => (getF t24 (.int 1)).bind fun t25 => some (.tup [x18, t23, t25])) l21).bind fun (k : List PV) => some (.lst k, [.val s0, .val s1, .val s2, .own s3, .no, .no, .no]) := by
  refine Eq.trans ?_ (mTail_eq _ _); simp! only [C__law_left_3, q__law_cut, D__law_left_2_q, D__law_left_1_l, D__law_left_1_q, C__law_left_3_l]
def d__law_left : DenS := (sSeq (sOwn 3 (dC (.dt []))) (sSeq D__law_left_1 (sSeq (sRetK [0, 1, 2, 3, 4, 5, 6] (dApp tupleF [.d C__law_left_3])) sNil)))
def s__law_left : PP.Sem := runF [] 4 d__law_left
def m__law_left (s0 s1 s2 : PV) : Option (PV) := ((seqOf s0).bind fun l3 => fldM (fun (w2 : PV) (x1 : PV) => (un2 x1).bind fun (u4 : PV × PV) => (m__law_cut u4.1 s1 s2).bind fun (t5 : PV) => ((inF t5 w2).bind fun t6 => (asBl t6).bind fun b7 => if b7 = true then (getF w2 t5).bind fun t8 => (getF t8 (.int 0)).bind fun t9 => (addF t9 (.int 1)).bind fun t10 => (getF w2 t5).bind fun t11 => (getF t11 (.int 1)).bind fun t12 => (minF [t12, u4.2]).bind fun t13 => (setF w2 t5 (.tup [t10, t13])).bind fun d14 => some d14 else (setF w2 t5 (.tup [(.int 1), u4.2])).bind fun d15 => some d15).bind fun (k16 : PV) => some k16) l3 (.dt [])).bind fun (k17 : PV) => ((sortedTF [k17]).bind fun t20 => (seqOf t20).bind fun l21 => cmpM (fun (x18 : PV) => (getF k17 x18).bind fun t22 => (getF t22 (.int 0)).bind fun t23 => (getF k17 x18).bind fun t24 => (getF t24 (.int 1)).bind fun t25 => some (.tup [x18, t23, t25])) l21).bind fun (y26 : List PV) => (tupleF [(.lst y26)]).bind fun t27 => some t27
theorem q__law_left (s0 s1 s2 : PV) : s__law_left [s0, s1, s2] = (m__law_left s0 s1 s2).bind fun (r : PV) => some (r, [s0, s1, s2]) := by
  refine Eq.trans ?_ (mTail_eq _ _); simp! only [s__law_left, d__law_left, m__law_left, runF_ev, q__law_cut, D__law_left_2_q, D__law_left_1_l, D__law_left_1_q, C__law_left_3_l, C__law_left_3_q]
def T_are_nodes_1 : DenT := (dOr (dNot (dTruth (.d (dIsI .tuple (.d (dVar 1)))))) (dNot (dTruth (.d (dVar 1)))))
theorem T_are_nodes_1_q (s0 s1 : PV) : T_are_nodes_1 [.val s0, .val s1, .no, .no] = ((truthF (.bl (isTy .tuple s1))).bind fun b1 => if (!b1) = true then some true else (truthF s1).bind fun b2 => some (!b2)).bind fun (k : Bool) => some (k, [.val s0, .val s1, .no, .no]) := by
  refine Eq.trans ?_ (mTail_eq _ _); simp! only [T_are_nodes_1, q_is_number]
def C_are_nodes_2_e : Den := (dCall s_is_number [.d (dVar 2), .d (dC (.int 0)), .d (dBin subF (dApp lenF [.d (dBin getF (dVar 0) (dC (.int 1)))]) (dC (.int 1)))])
def C_are_nodes_2_t : DenT := dYes
theorem C_are_nodes_2_l (s0 s1 : PV) (xs : List PV) : lcF (.nm 2) C_are_nodes_2_t C_are_nodes_2_e [2] xs [.val s0, .val s1, .no, .no] = (cmpM (fun (x4 : PV) => (getF s0 (.int 1)).bind fun t7 => (lenF [t7]).bind fun t8 => (subF t8 (.int 1)).bind fun t9 => (m_is_number x4 (.int 0) t9).bind fun (t10 : PV) => some t10) xs).bind fun ys => some (ys, [.val s0, .val s1, .no, .no]) := by
  refine lc_M (e := [.val s0, .val s1, .no, .no]) _ ?_ xs
  intro x; refine Eq.trans ?_ (mTail_eq _ _); simp! only [C_are_nodes_2_e, C_are_nodes_2_t, q_is_number, T_are_nodes_1_q]
def C_are_nodes_2 : Den := dLC (iSeq (dVar 1)) [2] (.nm 2) C_are_nodes_2_t C_are_nodes_2_e
theorem C_are_nodes_2_q (s0 s1 : PV) : C_are_nodes_2 [.val s0, .val s1, .no, .no] = ((seqOf s1).bind fun l6 => cmpM (fun (x4 : PV) => (getF s0 (.int 1)).bind fun t7 => (lenF [t7]).bind fun t8 => (subF t8 (.int 1)).bind fun t9 => (m_is_number x4 (.int 0) t9).bind fun (t10 : PV) => some t10) l6).bind fun (k : List PV) => some (.lst k, [.val s0, .val s1, .no, .no]) := by
  refine Eq.trans ?_ (mTail_eq _ _); simp! only [C_are_nodes_2, q_is_number, T_are_nodes_1_q, C_are_nodes_2_l]
def C_are_nodes_3_e : Den := (dBin ltF (dBin getF (dVar 1) (dVar 3)) (dBin getF (dVar 1) (dBin addF (dVar 3) (dC (.int 1)))))
def C_are_nodes_3_t : DenT := dYes
theorem C_are_nodes_3_l (s0 s1 : PV) (xs : List PV) : lcF (.nm 3) C_are_nodes_3_t C_are_nodes_3_e [3] xs [.val s0, .val s1, .no, .no] = (cmpM (fun (x14 : PV) => (getF s1 x14).bind fun t19 => (addF x14 (.int 1)).bind fun t20 => (getF s1 t20).bind fun t21 => (ltF t19 t21).bind fun t22 => some t22) xs).bind fun ys => some (ys, [.val s0, .val s1, .no, .no]) := by
  refine lc_M (e := [.val s0, .val s1, .no, .no]) _ ?_ xs
  intro x; refine Eq.trans ?_ (mTail_eq _ _); simp! only [C_are_nodes_3_e, C_are_nodes_3_t, q_is_number, T_are_nodes_1_q, C_are_nodes_2_l, C_are_nodes_2_q]
def C_are_nodes_3 : Den := dLC (iRange [(dBin subF (dApp lenF [.d (dVar 1)]) (dC (.int 1)))]) [3] (.nm 3) C_are_nodes_3_t C_are_nodes_3_e
theorem C_are_nodes_3_q (s0 s1 : PV) : C_are_nodes_3 [.val s0, .val s1, .no, .no] = ((lenF [s1]).bind fun t16 => (subF t16 (.int 1)).bind fun t17 => (rgO1 t17).bind fun r18 => cmpM (fun (x14 : PV) => (getF s1 x14).bind fun t19 => (addF x14 (.int 1)).bind fun t20 => (getF s1 t20).bind fun t21 => (ltF t19 t21).bind fun t22 => some t22) (rgL r18)).bind fun (k : List PV) => some (.lst k, [.val s0, .val s1, .no, .no]) := by
  refine Eq.trans ?_ (mTail_eq _ _); simp! only [C_are_nodes_3, q_is_number, T_are_nodes_1_q, C_are_nodes_2_l, C_are_nodes_2_q, C_are_nodes_3_l]
def d_are_nodes : DenS := (sSeq (sIf T_are_nodes_1 (sSeq (sRetK [0, 1, 2, 3] (dC (.bl false))) sNil) sNil) (sSeq (sIf (dNot (dTruth (.d (dApp allF [.d C_are_nodes_2])))) (sSeq (sRetK [0, 1, 2, 3] (dC (.bl false))) sNil) sNil) (sSeq (sRetK [0, 1, 2, 3] (dApp allF [.d C_are_nodes_3])) sNil)))
def s_are_nodes : PP.Sem := runF [] 2 d_are_nodes
def m_are_nodes (s0 s1 : PV) : Option (PV) := ((truthF (.bl (isTy .tuple s1))).bind fun b1 => if (!b1) = true then some true else (truthF s1).bind fun b2 => some (!b2)).bind fun (b3 : Bool) => if b3 = true then some (.bl false) else ((seqOf s1).bind fun l6 => cmpM (fun (x4 : PV) => (getF s0 (.int 1)).bind fun t7 => (lenF [t7]).bind fun t8 => (subF t8 (.int 1)).bind fun t9 => (m_is_number x4 (.int 0) t9).bind fun (t10 : PV) => some t10) l6).bind fun (y11 : List PV) => (allF [(.lst y11)]).bind fun t12 => (truthF t12).bind fun b13 => if (!b13) = true then some (.bl false) else ((lenF [s1]).bind fun t16 => (subF t16 (.int 1)).bind fun t17 => (rgO1 t17).bind fun r18 => cmpM (fun (x14 : PV) => (getF s1 x14).bind fun t19 => (addF x14 (.int 1)).bind fun t20 => (getF s1 t20).bind fun t21 => (ltF t19 t21).bind fun t22 => some t22) (rgL r18)).bind fun (y23 : List PV) => (allF [(.lst y23)]).bind fun t24 => some t24
theorem q_are_nodes (s0 s1 : PV) : s_are_nodes [s0, s1] = (m_are_nodes s0 s1).bind fun (r : PV) => some (r, [s0, s1]) := by
  refine Eq.trans ?_ (mTail_eq _ _); simp! only [s_are_nodes, d_are_nodes, m_are_nodes, runF_ev, q_is_number, T_are_nodes_1_q, C_are_nodes_2_l, C_are_nodes_2_q, C_are_nodes_3_l, C_are_nodes_3_q]
def d_part_projection : DenS := (sSeq (sDrop (dCall s_check_tables [.d (dVar 0), .d (dVar 1)])) (sSeq (sIf (dNot (dTruth (.d (dCall s_are_nodes [.d (dVar 0), .d (dVar 2)])))) (sSeq sNever sNil) sNil) (sSeq (sAsg (.nm 4) (dCall s_scope_of [.d (dVar 0), .d (dVar 2)])) (sSeq (sIf (dNot (dTruth (.d (dCall s_is_part [.d (dVar 3), .d (dVar 4)])))) (sSeq sNever sNil) sNil) (sSeq (sRetK [0, 1, 2, 3, 4] (dCall s_cut_down [.d (dCall s_solutions_by [.d (dVar 0), .d (dVar 1), .d (dVar 2)]), .d (dVar 4), .d (dVar 3)])) sNil)))))
def s_part_projection : PP.Sem := runF [] 1 d_part_projection
def m_part_projection (s0 s1 s2 s3 : PV) : Option (PV) := (m_check_tables s0 s1).bind fun (t1 : PV) => (m_are_nodes s0 s2).bind fun (t2 : PV) => (truthF t2).bind fun b3 => if (!b3) = true then none else (m_scope_of s0 s2).bind fun (t4 : PV) => (m_is_part s3 t4).bind fun (t5 : PV) => (truthF t5).bind fun b6 => if (!b6) = true then none else (m_solutions_by s0 s1 s2).bind fun (t7 : PV) => (m_cut_down t7 t4 s3).bind fun (t8 : PV) => some t8
theorem q_part_projection (s0 s1 s2 s3 : PV) : s_part_projection [s0, s1, s2, s3] = (m_part_projection s0 s1 s2 s3).bind fun (r : PV) => some (r, [s0, s1, s2, s3]) := by
  refine Eq.trans ?_ (mTail_eq _ _); simp! only [s_part_projection, d_part_projection, m_part_projection, runF_ev, q_check_tables, q_are_nodes, q_scope_of, q_is_part, q_cut_down, q_solutions_by]
def C__law_told_1_e : Den := (dCall s_nth_solution [.d (dVar 0), .d (dVar 1), .d (dVar 2)])
def C__law_told_1_t : DenT := dYes
theorem C__law_told_1_l (s0 s1 : PV) (xs : List PV) : lcF (.nm 2) C__law_told_1_t C__law_told_1_e [2] xs [.val s0, .val s1, .no] = (cmpM (fun (x1 : PV) => (m_nth_solution s0 s1 x1).bind fun (t6 : PV) => some t6) xs).bind fun ys => some (ys, [.val s0, .val s1, .no]) := by
  refine lc_M (e := [.val s0, .val s1, .no]) _ ?_ xs
  intro x; refine Eq.trans ?_ (mTail_eq _ _); simp! only [C__law_told_1_e, C__law_told_1_t, q_nth_solution, q_count_solutions]
def C__law_told_1 : Den := dLC (iRange [(dApp minF [.d (dC (.int 20)), .d (dCall s_count_solutions [.d (dVar 0), .d (dVar 1)])])]) [2] (.nm 2) C__law_told_1_t C__law_told_1_e
theorem C__law_told_1_q (s0 s1 : PV) : C__law_told_1 [.val s0, .val s1, .no] = ((m_count_solutions s0 s1).bind fun (t3 : PV) => (minF [(.int 20), t3]).bind fun t4 => (rgO1 t4).bind fun r5 => cmpM (fun (x1 : PV) => (m_nth_solution s0 s1 x1).bind fun (t6 : PV) => some t6) (rgL r5)).bind fun (k : List PV) => some (.lst k, [.val s0, .val s1, .no]) := by
  refine Eq.trans ?_ (mTail_eq _ _); simp! only [C__law_told_1, q_nth_solution, q_count_solutions, C__law_told_1_l]
def d__law_told : DenS := (sSeq (sRetK [0, 1, 2] C__law_told_1) sNil)
def s__law_told : PP.Sem := runF [] 1 d__law_told
def m__law_told (s0 s1 : PV) : Option (PV) := ((m_count_solutions s0 s1).bind fun (t3 : PV) => (minF [(.int 20), t3]).bind fun t4 => (rgO1 t4).bind fun r5 => cmpM (fun (x1 : PV) => (m_nth_solution s0 s1 x1).bind fun (t6 : PV) => some t6) (rgL r5)).bind fun (y7 : List PV) => some (.lst y7)
theorem q__law_told (s0 s1 : PV) : s__law_told [s0, s1] = (m__law_told s0 s1).bind fun (r : PV) => some (r, [s0, s1]) := by
  refine Eq.trans ?_ (mTail_eq _ _); simp! only [s__law_told, d__law_told, m__law_told, runF_ev, q_nth_solution, q_count_solutions, C__law_told_1_l, C__law_told_1_q]
def C_law_1_e : Den := (dVar 6)
def C_law_1_t : DenT := (dB (dBin eqF (dCall s__law_next [.b 1, .d (dC (.int 2))]) (dC (.int 0))))
theorem C_law_1_l (s0 s2 s3 s4 : PV) (z1 : PV) (xs : List PV) : lcF (.nm 6) C_law_1_t C_law_1_e [6] xs [.val s0, .own z1, .val s2, .val s3, .val s4, .no, .no, .no, .no, .no, .no, .no, .no, .no, .no, .no, .no, .no, .no, .no, .no, .no, .no] = (cmpS (fun (w14 : PV) (x13 : PV) => (m__law_next w14 (.int 2)).bind fun (t16 : PV × PV) => (eqF t16.1 (.int 0)).bind fun t17 => (asBl t17).bind fun b18 => if b18 = true then some (some x13, t16.2) else some (none, t16.2)) xs z1).bind fun q => some (q.1, [.val s0, .own q.2, .val s2, .val s3, .val s4, .no, .no, .no, .no, .no, .no, .no, .no, .no, .no, .no, .no, .no, .no, .no, .no, .no, .no]) := by
  refine lc_S (E := fun (w14 : PV) => [.val s0, .own w14, .val s2, .val s3, .val s4, .no, .no, .no, .no, .no, .no, .no, .no, .no, .no, .no, .no, .no, .no, .no, .no, .no, .no]) _ ?_ xs z1
  intro z x; refine Eq.trans ?_ (mTail_eq _ _); simp! only [C_law_1_e, C_law_1_t, q__law_stream, q__law_graph, q__law_tree, q__law_next, q__law_tables, q__law_variables, q_part_projection, q__law_left, q__law_solutions, q_projection]
def C_law_1 : Den := dLC (iSeq (dVar 4)) [6] (.nm 6) C_law_1_t C_law_1_e
theorem C_law_1_q (s0 s1 s2 s3 s4 : PV) : C_law_1 [.val s0, .own s1, .val s2, .val s3, .val s4, .no, .no, .no, .no, .no, .no, .no, .no, .no, .no, .no, .no, .no, .no, .no, .no, .no, .no] = ((seqOf s4).bind fun l15 => cmpS (fun (w14 : PV) (x13 : PV) => (m__law_next w14 (.int 2)).bind fun (t16 : PV × PV) => (eqF t16.1 (.int 0)).bind fun t17 => (asBl t17).bind fun b18 => if b18 = true then some (some x13, t16.2) else some (none, t16.2)) l15 s1).bind fun (k : List PV × PV) => some (.lst k.1, [.val s0, .own k.2, .val s2, .val s3, .val s4, .no, .no, .no, .no, .no, .no, .no, .no, .no, .no, .no, .no, .no, .no, .no, .no, .no, .no]) := by
  refine Eq.trans ?_ (mTail_eq _ _); simp! only [C_law_1, q__law_stream, q__law_graph, q__law_tree, q__law_next, q__law_tables, q__law_variables, q_part_projection, q__law_left, q__law_solutions, q_projection, C_law_1_l]
def D_law_2 : DenS := (sIf (dB (dBin inF (dApp lenF [.d (dVar 5)]) (dLst [(dC (.int 0)), (dApp lenF [.d (dVar 4)])]))) (sSeq (sAsg (.nm 5) (dTup [(dBin subF (dApp lenF [.d (dVar 4)]) (dC (.int 1)))])) sNil) sNil)
theorem D_law_2_q (s0 s1 s2 s3 s4 s5 : PV) : D_law_2 [.val s0, .own s1, .val s2, .val s3, .val s4, .val s5, .no, .no, .no, .no, .no, .no, .no, .no, .no, .no, .no, .no, .no, .no, .no, .no, .no] = ((lenF [s5]).bind fun t21 => (lenF [s4]).bind fun t22 => (inF t21 (.lst [(.int 0), t22])).bind fun t23 => (asBl t23).bind fun b24 => if b24 = true then (lenF [s4]).bind fun t25 => (subF t25 (.int 1)).bind fun t26 => some (.tup [t26]) else some s5).bind fun (k : PV) => some (.nx [.val s0, .own s1, .val s2, .val s3, .val s4, .val k, .no, .no, .no, .no, .no, .no, .no, .no, .no, .no, .no, .no, .no, .no, .no, .no, .no]) := by
  refine Eq.trans ?_ (mTail_eq _ _); simp! only [D_law_2, q__law_stream, q__law_graph, q__law_tree, q__law_next, q__law_tables, q__law_variables, q_part_projection, q__law_left, q__law_solutions, q_projection, C_law_1_l, C_law_1_q]
def C_law_3_e : Den := (dVar 6)
def C_law_3_t : DenT := (dB (dBin notInF (dVar 6) (dVar 5)))
theorem C_law_3_l (s0 s1 s2 s3 s4 s5 : PV) (xs : List PV) : lcF (.nm 6) C_law_3_t C_law_3_e [6] xs [.val s0, .own s1, .val s2, .val s3, .val s4, .val s5, .no, .no, .no, .no, .no, .no, .no, .no, .no, .no, .no, .no, .no, .no, .no, .no, .no] = (cmpG (fun (x28 : PV) => (notInF x28 s5).bind fun t31 => (asBl t31).bind fun b32 => if b32 = true then some (some x28) else some none) xs).bind fun ys => some (ys, [.val s0, .own s1, .val s2, .val s3, .val s4, .val s5, .no, .no, .no, .no, .no, .no, .no, .no, .no, .no, .no, .no, .no, .no, .no, .no, .no]) := by
  refine lc_G (e := [.val s0, .own s1, .val s2, .val s3, .val s4, .val s5, .no, .no, .no, .no, .no, .no, .no, .no, .no, .no, .no, .no, .no, .no, .no, .no, .no]) _ ?_ xs
  intro x; refine Eq.trans ?_ (mTail_eq _ _); simp! only [C_law_3_e, C_law_3_t, q__law_stream, q__law_graph, q__law_tree, q__law_next, q__law_tables, q__law_variables, q_part_projection, q__law_left, q__law_solutions, q_projection, C_law_1_l, C_law_1_q, D_law_2_q]
def C_law_3 : Den := dLC (iSeq (dVar 4)) [6] (.nm 6) C_law_3_t C_law_3_e
theorem C_law_3_q (s0 s1 s2 s3 s4 s5 : PV) : C_law_3 [.val s0, .own s1, .val s2, .val s3, .val s4, .val s5, .no, .no, .no, .no, .no, .no, .no, .no, .no, .no, .no, .no, .no, .no, .no, .no, .no] = ((seqOf s4).bind fun l30 => cmpG (fun (x28 : PV) => (notInF x28 s5).bind fun t31 => (asBl t31).bind fun b32 => if b32 = true then some (some x28) else some none) l30).bind fun (k : List PV) => some (.lst k, [.val s0, .own s1, .val s2, .val s3, .val s4, .val s5, .no, .no, .no, .no, .no, .no, .no, .no, .no, .no, .no, .no, .no, .no, .no, .no, .no]) := by
  refine Eq.trans ?_ (mTail_eq _ _); simp! only [C_law_3, q__law_stream, q__law_graph, q__law_tree, q__law_next, q__law_tables, q__law_variables, q_part_projection, q__law_left, q__law_solutions, q_projection, C_law_1_l, C_law_1_q, D_law_2_q, C_law_3_l]
def C_law_4_e : Den := (dVar 9)
def C_law_4_t : DenT := (dB (dBin inF (dVar 9) (dCall s__law_variables [.d (dVar 2), .d (dVar 7)])))
theorem C_law_4_l (s0 s1 s2 s3 s4 s5 s7 : PV) (xs : List PV) : lcF (.nm 9) C_law_4_t C_law_4_e [9] xs [.val s0, .own s1, .val s2, .val s3, .val s4, .val s5, .no, .val s7, .no, .no, .no, .no, .no, .no, .no, .no, .no, .no, .no, .no, .no, .no, .no] = (cmpG (fun (x35 : PV) => (m__law_variables s2 s7).bind fun (t39 : PV) => (inF x35 t39).bind fun t40 => (asBl t40).bind fun b41 => if b41 = true then some (some x35) else some none) xs).bind fun ys => some (ys, [.val s0, .own s1, .val s2, .val s3, .val s4, .val s5, .no, .val s7, .no, .no, .no, .no, .no, .no, .no, .no, .no, .no, .no, .no, .no, .no, .no]) := by
  refine lc_G (e := [.val s0, .own s1, .val s2, .val s3, .val s4, .val s5, .no, .val s7, .no, .no, .no, .no, .no, .no, .no, .no, .no, .no, .no, .no, .no, .no, .no]) _ ?_ xs
  intro x; refine Eq.trans ?_ (mTail_eq _ _); simp! only [C_law_4_e, C_law_4_t, q__law_stream, q__law_graph, q__law_tree, q__law_next, q__law_tables, q__law_variables, q_part_projection, q__law_left, q__law_solutions, q_projection, C_law_1_l, C_law_1_q, D_law_2_q, C_law_3_l, C_law_3_q]
def C_law_4 : Den := dLC (iSeq (dCall s__law_variables [.d (dVar 2), .d (dVar 5)])) [9] (.nm 9) C_law_4_t C_law_4_e
theorem C_law_4_q (s0 s1 s2 s3 s4 s5 s7 : PV) : C_law_4 [.val s0, .own s1, .val s2, .val s3, .val s4, .val s5, .no, .val s7, .no, .no, .no, .no, .no, .no, .no, .no, .no, .no, .no, .no, .no, .no, .no] = ((m__law_variables s2 s5).bind fun (t37 : PV) => (seqOf t37).bind fun l38 => cmpG (fun (x35 : PV) => (m__law_variables s2 s7).bind fun (t39 : PV) => (inF x35 t39).bind fun t40 => (asBl t40).bind fun b41 => if b41 = true then some (some x35) else some none) l38).bind fun (k : List PV) => some (.lst k, [.val s0, .own s1, .val s2, .val s3, .val s4, .val s5, .no, .val s7, .no, .no, .no, .no, .no, .no, .no, .no, .no, .no, .no, .no, .no, .no, .no]) := by
  refine Eq.trans ?_ (mTail_eq _ _); simp! only [C_law_4, q__law_stream, q__law_graph, q__law_tree, q__law_next, q__law_tables, q__law_variables, q_part_projection, q__law_left, q__law_solutions, q_projection, C_law_1_l, C_law_1_q, D_law_2_q, C_law_3_l, C_law_3_q, C_law_4_l]
def C_law_6_e : Den := (dVar 15)
def C_law_6_t : DenT := (dB (dBin eqF (dCall s__law_next [.b 1, .d (dC (.int 2))]) (dC (.int 0))))
theorem C_law_6_l (s0 s2 s3 s4 s5 s7 s8 s10 s11 s12 s13 : PV) (z1 : PV) (xs : List PV) : lcF (.nm 15) C_law_6_t C_law_6_e [15] xs [.val s0, .own z1, .val s2, .val s3, .val s4, .val s5, .no, .val s7, .val s8, .no, .own s10, .val s11, .val s12, .val s13, .no, .no, .no, .no, .no, .no, .no, .no, .no] = (cmpS (fun (w54 : PV) (x53 : PV) => (m__law_next w54 (.int 2)).bind fun (t56 : PV × PV) => (eqF t56.1 (.int 0)).bind fun t57 => (asBl t57).bind fun b58 => if b58 = true then some (some x53, t56.2) else some (none, t56.2)) xs z1).bind fun q => some (q.1, [.val s0, .own q.2, .val s2, .val s3, .val s4, .val s5, .no, .val s7, .val s8, .no, .own s10, .val s11, .val s12, .val s13, .no, .no, .no, .no, .no, .no, .no, .no, .no]) := by
  refine lc_S (E := fun (w54 : PV) => [.val s0, .own w54, .val s2, .val s3, .val s4, .val s5, .no, .val s7, .val s8, .no, .own s10, .val s11, .val s12, .val s13, .no, .no, .no, .no, .no, .no, .no, .no, .no]) _ ?_ xs z1
  intro z x; refine Eq.trans ?_ (mTail_eq _ _); simp! only [C_law_6_e, C_law_6_t, q__law_stream, q__law_graph, q__law_tree, q__law_next, q__law_tables, q__law_variables, q_part_projection, q__law_left, q__law_solutions, q_projection, C_law_1_l, C_law_1_q, D_law_2_q, C_law_3_l, C_law_3_q, C_law_4_l, C_law_4_q]
def C_law_6 : Den := dLC (iSeq (dVar 13)) [15] (.nm 15) C_law_6_t C_law_6_e
theorem C_law_6_q (s0 s1 s2 s3 s4 s5 s7 s8 s10 s11 s12 s13 : PV) : C_law_6 [.val s0, .own s1, .val s2, .val s3, .val s4, .val s5, .no, .val s7, .val s8, .no, .own s10, .val s11, .val s12, .val s13, .no, .no, .no, .no, .no, .no, .no, .no, .no] = ((seqOf s13).bind fun l55 => cmpS (fun (w54 : PV) (x53 : PV) => (m__law_next w54 (.int 2)).bind fun (t56 : PV × PV) => (eqF t56.1 (.int 0)).bind fun t57 => (asBl t57).bind fun b58 => if b58 = true then some (some x53, t56.2) else some (none, t56.2)) l55 s1).bind fun (k : List PV × PV) => some (.lst k.1, [.val s0, .own k.2, .val s2, .val s3, .val s4, .val s5, .no, .val s7, .val s8, .no, .own s10, .val s11, .val s12, .val s13, .no, .no, .no, .no, .no, .no, .no, .no, .no]) := by
  refine Eq.trans ?_ (mTail_eq _ _); simp! only [C_law_6, q__law_stream, q__law_graph, q__law_tree, q__law_next, q__law_tables, q__law_variables, q_part_projection, q__law_left, q__law_solutions, q_projection, C_law_1_l, C_law_1_q, D_law_2_q, C_law_3_l, C_law_3_q, C_law_4_l, C_law_4_q, C_law_6_l]
def D_law_5_b : DenS := sPost [11, 12, 13, 14] (sSeq (sAsg (.nm 12) (dCall s_part_projection [.d (dVar 2), .d (dVar 3), .d (dVar 11), .d (dVar 8)])) (sSeq (sAsg (.nm 13) (dCall s__law_variables [.d (dVar 2), .d (dVar 11)])) (sSeq (sIf (dB (dBin neF (dVar 12) (dCall s__law_left [.d (dCall s__law_solutions [.d (dVar 2), .d (dVar 3), .d (dVar 11)]), .d (dVar 13), .d (dVar 8)]))) (sSeq (sRetK [0, 1, 2, 3, 4, 5, 6, 7, 8, 9, 10, 11, 12, 13, 14, 15, 16, 17, 18, 19, 20, 21, 22] (dC (.bl false))) sNil) sNil) (sSeq (sAsg (.nm 14) (dApp tupleF [.d C_law_6])) (sSeq (sIf (dB (dBin neF (dCall s_part_projection [.d (dVar 2), .d (dVar 3), .d (dVar 11), .d (dVar 14)]) (dCall s__law_left [.d (dCall s__law_solutions [.d (dVar 2), .d (dVar 3), .d (dVar 11)]), .d (dVar 13), .d (dVar 14)]))) (sSeq (sRetK [0, 1, 2, 3, 4, 5, 6, 7, 8, 9, 10, 11, 12, 13, 14, 15, 16, 17, 18, 19, 20, 21, 22] (dC (.bl false))) sNil) sNil) (sSeq (sDrop (dMut appendF 10 [(dVar 12)])) sNil))))))
def D_law_5 : DenS := sFor (iSeq (dLst [(dVar 5), (dVar 7)])) (.nm 11) D_law_5_b
theorem D_law_5_l (s0 s2 s3 s4 s5 s7 s8 : PV) (z1 z10 : PV) (xs : List PV) : forF (.nm 11) D_law_5_b xs [.val s0, .own z1, .val s2, .val s3, .val s4, .val s5, .no, .val s7, .val s8, .no, .own z10, .no, .no, .no, .no, .no, .no, .no, .no, .no, .no, .no, .no] = (fldR (S := PV × PV) (R := PV) (fun (w45 : PV × PV) (x44 : PV) => (m_part_projection s2 s3 x44 s8).bind fun (t47 : PV) => (m__law_variables s2 x44).bind fun (t48 : PV) => (m__law_solutions s2 s3 x44).bind fun (t49 : PV) => (m__law_left t49 t48 s8).bind fun (t50 : PV) => (neF t47 t50).bind fun t51 => (asBl t51).bind fun b52 => if b52 = true then some (.inr (.bl false)) else ((seqOf t48).bind fun l55 => cmpS (fun (w54 : PV) (x53 : PV) => (m__law_next w54 (.int 2)).bind fun (t56 : PV × PV) => (eqF t56.1 (.int 0)).bind fun t57 => (asBl t57).bind fun b58 => if b58 = true then some (some x53, t56.2) else some (none, t56.2)) l55 w45.1).bind fun (y59 : List PV × PV) => (tupleF [(.lst y59.1)]).bind fun t60 => (m_part_projection s2 s3 x44 t60).bind fun (t61 : PV) => (m__law_solutions s2 s3 x44).bind fun (t62 : PV) => (m__law_left t62 t48 t60).bind fun (t63 : PV) => (neF t61 t63).bind fun t64 => (asBl t64).bind fun b65 => if b65 = true then some (.inr (.bl false)) else (asL w45.2).bind fun _ => (asL w45.2).bind fun l66 => (appendF l66 [t47]).bind fun (z67 : PV × List PV) => some (.inl (y59.2, (.lst z67.2)))) xs (z1, z10)).bind fun r => some (flS (fun (k : PV × PV) => [.val s0, .own k.1, .val s2, .val s3, .val s4, .val s5, .no, .val s7, .val s8, .no, .own k.2, .no, .no, .no, .no, .no, .no, .no, .no, .no, .no, .no, .no]) (fun (v : PV) => (v, [.no, .no, .no, .no, .no, .no, .no, .no, .no, .no, .no, .no, .no, .no, .no, .no, .no, .no, .no, .no, .no, .no, .no])) r) := by
  refine for_foldR (E := fun (w45 : PV × PV) => [.val s0, .own w45.1, .val s2, .val s3, .val s4, .val s5, .no, .val s7, .val s8, .no, .own w45.2, .no, .no, .no, .no, .no, .no, .no, .no, .no, .no, .no, .no]) (fun (v : PV) => (v, [.no, .no, .no, .no, .no, .no, .no, .no, .no, .no, .no, .no, .no, .no, .no, .no, .no, .no, .no, .no, .no, .no, .no])) _ ?_ xs (z1, z10)
  intro z x; refine Eq.trans ?_ (mTail_eq _ _); simp! only [D_law_5_b, q__law_stream, q__law_graph, q__law_tree, q__law_next, q__law_tables, q__law_variables, q_part_projection, q__law_left, q__law_solutions, q_projection, C_law_1_l, C_law_1_q, D_law_2_q, C_law_3_l, C_law_3_q, C_law_4_l, C_law_4_q, C_law_6_l, C_law_6_q]
theorem D_law_5_q (s0 s1 s2 s3 s4 s5 s7 s8 s10 : PV) : D_law_5 [.val s0, .own s1, .val s2, .val s3, .val s4, .val s5, .no, .val s7, .val s8, .no, .own s10, .no, .no, .no, .no, .no, .no, .no, .no, .no, .no, .no, .no] = ((seqOf (.lst [s5, s7])).bind fun l46 => fldR (S := PV × PV) (R := PV) (fun (w45 : PV × PV) (x44 : PV) => (m_part_projection s2 s3 x44 s8).bind fun (t47 : PV) => (m__law_variables s2 x44).bind fun (t48 : PV) => (m__law_solutions s2 s3 x44).bind fun (t49 : PV) => (m__law_left t49 t48 s8).bind fun (t50 : PV) => (neF t47 t50).bind fun t51 => (asBl t51).bind fun b52 => if b52 = true then some (.inr (.bl false)) else ((seqOf t48).bind fun l55 => cmpS (fun (w54 : PV) (x53 : PV) => (m__law_next w54 (.int 2)).bind fun (t56 : PV × PV) => (eqF t56.1 (.int 0)).bind fun t57 => (asBl t57).bind fun b58 => if b58 = true then some (some x53, t56.2) else some (none, t56.2)) l55 w45.1).bind fun (y59 : List PV × PV) => (tupleF [(.lst y59.1)]).bind fun t60 => (m_part_projection s2 s3 x44 t60).bind fun (t61 : PV) => (m__law_solutions s2 s3 x44).bind fun (t62 : PV) => (m__law_left t62 t48 t60).bind fun (t63 : PV) => (neF t61 t63).bind fun t64 => (asBl t64).bind fun b65 => if b65 = true then some (.inr (.bl false)) else (asL w45.2).bind fun _ => (asL w45.2).bind fun l66 => (appendF l66 [t47]).bind fun (z67 : PV × List PV) => some (.inl (y59.2, (.lst z67.2)))) l46 (s1, s10)).bind fun r => some (flS (fun (k : PV × PV) => [.val s0, .own k.1, .val s2, .val s3, .val s4, .val s5, .no, .val s7, .val s8, .no, .own k.2, .no, .no, .no, .no, .no, .no, .no, .no, .no, .no, .no, .no]) (fun (v : PV) => (v, [.no, .no, .no, .no, .no, .no, .no, .no, .no, .no, .no, .no, .no, .no, .no, .no, .no, .no, .no, .no, .no, .no, .no])) r) := by
  refine Eq.trans ?_ (mTail_eq _ _); simp! only [D_law_5, q__law_stream, q__law_graph, q__law_tree, q__law_next, q__law_tables, q__law_variables, q_part_projection, q__law_left, q__law_solutions, q_projection, C_law_1_l, C_law_1_q, D_law_2_q, C_law_3_l, C_law_3_q, C_law_4_l, C_law_4_q, C_law_6_l, C_law_6_q, D_law_5_l]
def C_law_8_e : Den := (dTup [(dVar 17), (dBin mulF (dVar 18) (dVar 21)), (dBin addF (dVar 19) (dVar 22))])
def C_law_8_t : DenT := (dB (dBin eqF (dVar 20) (dVar 17)))
theorem C_law_8_l (s0 s1 s2 s3 s4 s5 s7 s8 s10 s16 s17 s18 s19 : PV) (xs : List PV) : lcF (.tp [(.nm 20), (.nm 21), (.nm 22)]) C_law_8_t C_law_8_e [20, 21, 22] xs [.val s0, .own s1, .val s2, .val s3, .val s4, .val s5, .no, .val s7, .val s8, .no, .own s10, .no, .no, .no, .no, .no, .val s16, .val s17, .val s18, .val s19, .no, .no, .no] = (cmpG (fun (x76 : PV) => (un3 x76).bind fun (u80 : PV × PV × PV) => (eqF u80.1 s17).bind fun t81 => (asBl t81).bind fun b82 => if b82 = true then (mulF s18 u80.2.1).bind fun t83 => (addF s19 u80.2.2).bind fun t84 => some (some (.tup [s17, t83, t84])) else some none) xs).bind fun ys => some (ys, [.val s0, .own s1, .val s2, .val s3, .val s4, .val s5, .no, .val s7, .val s8, .no, .own s10, .no, .no, .no, .no, .no, .val s16, .val s17, .val s18, .val s19, .no, .no, .no]) := by
  refine lc_G (e := [.val s0, .own s1, .val s2, .val s3, .val s4, .val s5, .no, .val s7, .val s8, .no, .own s10, .no, .no, .no, .no, .no, .val s16, .val s17, .val s18, .val s19, .no, .no, .no]) _ ?_ xs
  intro x; refine Eq.trans ?_ (mTail_eq _ _); simp! only [C_law_8_e, C_law_8_t, q__law_stream, q__law_graph, q__law_tree, q__law_next, q__law_tables, q__law_variables, q_part_projection, q__law_left, q__law_solutions, q_projection, C_law_1_l, C_law_1_q, D_law_2_q, C_law_3_l, C_law_3_q, C_law_4_l, C_law_4_q, C_law_6_l, C_law_6_q, D_law_5_l, D_law_5_q]
def C_law_8 : Den := dLC (iSeq (dBinL getF 10 (dC (.int 1)))) [20, 21, 22] (.tp [(.nm 20), (.nm 21), (.nm 22)]) C_law_8_t C_law_8_e
theorem C_law_8_q (s0 s1 s2 s3 s4 s5 s7 s8 s10 s16 s17 s18 s19 : PV) : C_law_8 [.val s0, .own s1, .val s2, .val s3, .val s4, .val s5, .no, .val s7, .val s8, .no, .own s10, .no, .no, .no, .no, .no, .val s16, .val s17, .val s18, .val s19, .no, .no, .no] = ((getF s10 (.int 1)).bind fun t78 => (seqOf t78).bind fun l79 => cmpG (fun (x76 : PV) => (un3 x76).bind fun (u80 : PV × PV × PV) => (eqF u80.1 s17).bind fun t81 => (asBl t81).bind fun b82 => if b82 = true then (mulF s18 u80.2.1).bind fun t83 => (addF s19 u80.2.2).bind fun t84 => some (some (.tup [s17, t83, t84])) else some none) l79).bind fun (k : List PV) => some (.lst k, [.val s0, .own s1, .val s2, .val s3, .val s4, .val s5, .no, .val s7, .val s8, .no, .own s10, .no, .no, .no, .no, .no, .val s16, .val s17, .val s18, .val s19, .no, .no, .no]) := by
  refine Eq.trans ?_ (mTail_eq _ _); simp! only [C_law_8, q__law_stream, q__law_graph, q__law_tree, q__law_next, q__law_tables, q__law_variables, q_part_projection, q__law_left, q__law_solutions, q_projection, C_law_1_l, C_law_1_q, D_law_2_q, C_law_3_l, C_law_3_q, C_law_4_l, C_law_4_q, C_law_6_l, C_law_6_q, D_law_5_l, D_law_5_q, C_law_8_l]
def D_law_7_b : DenS := sPost [17, 18, 19] (sSeq (sAsg (.nm 16) (dBin addF (dVar 16) C_law_8)) sNil)
def D_law_7 : DenS := sFor (iSeq (dBinL getF 10 (dC (.int 0)))) (.tp [(.nm 17), (.nm 18), (.nm 19)]) D_law_7_b
theorem D_law_7_l (s0 s1 s2 s3 s4 s5 s7 s8 s10 : PV) (z16 : PV) (xs : List PV) : forF (.tp [(.nm 17), (.nm 18), (.nm 19)]) D_law_7_b xs [.val s0, .own s1, .val s2, .val s3, .val s4, .val s5, .no, .val s7, .val s8, .no, .own s10, .no, .no, .no, .no, .no, .val z16, .no, .no, .no, .no, .no, .no] = (fldM (fun (w72 : PV) (x71 : PV) => (un3 x71).bind fun (u75 : PV × PV × PV) => ((getF s10 (.int 1)).bind fun t78 => (seqOf t78).bind fun l79 => cmpG (fun (x76 : PV) => (un3 x76).bind fun (u80 : PV × PV × PV) => (eqF u80.1 u75.1).bind fun t81 => (asBl t81).bind fun b82 => if b82 = true then (mulF u75.2.1 u80.2.1).bind fun t83 => (addF u75.2.2 u80.2.2).bind fun t84 => some (some (.tup [u75.1, t83, t84])) else some none) l79).bind fun (y85 : List PV) => (addF w72 (.lst y85)).bind fun t86 => some t86) xs z16).bind fun (k : PV) => some (.nx [.val s0, .own s1, .val s2, .val s3, .val s4, .val s5, .no, .val s7, .val s8, .no, .own s10, .no, .no, .no, .no, .no, .val k, .no, .no, .no, .no, .no, .no]) := by
  refine for_fold (E := fun (w72 : PV) => [.val s0, .own s1, .val s2, .val s3, .val s4, .val s5, .no, .val s7, .val s8, .no, .own s10, .no, .no, .no, .no, .no, .val w72, .no, .no, .no, .no, .no, .no]) _ ?_ xs z16
  intro z x; refine Eq.trans ?_ (mTail_eq _ _); simp! only [D_law_7_b, q__law_stream, q__law_graph, q__law_tree, q__law_next, q__law_tables, q__law_variables, q_part_projection, q__law_left, q__law_solutions, q_projection, C_law_1_l, C_law_1_q, D_law_2_q, C_law_3_l, C_law_3_q, C_law_4_l, C_law_4_q, C_law_6_l, C_law_6_q, D_law_5_l, D_law_5_q, C_law_8_l, C_law_8_q]
theorem D_law_7_q (s0 s1 s2 s3 s4 s5 s7 s8 s10 s16 : PV) : D_law_7 [.val s0, .own s1, .val s2, .val s3, .val s4, .val s5, .no, .val s7, .val s8, .no, .own s10, .no, .no, .no, .no, .no, .val s16, .no, .no, .no, .no, .no, .no] = ((getF s10 (.int 0)).bind fun t73 => (seqOf t73).bind fun l74 => fldM (fun (w72 : PV) (x71 : PV) => (un3 x71).bind fun (u75 : PV × PV × PV) => ((getF s10 (.int 1)).bind fun t78 => (seqOf t78).bind fun l79 => cmpG (fun (x76 : PV) => (un3 x76).bind fun (u80 : PV × PV × PV) => (eqF u80.1 u75.1).bind fun t81 => (asBl t81).bind fun b82 => if b82 = true then (mulF u75.2.1 u80.2.1).bind fun t83 => (addF u75.2.2 u80.2.2).bind fun t84 => some (some (.tup [u75.1, t83, t84])) else some none) l79).bind fun (y85 : List PV) => (addF w72 (.lst y85)).bind fun t86 => some t86) l74 s16).bind fun (k : PV) => some (.nx [.val s0, .own s1, .val s2, .val s3, .val s4, .val s5, .no, .val s7, .val s8, .no, .own s10, .no, .no, .no, .no, .no, .val k, .no, .no, .no, .no, .no, .no]) := by
  refine Eq.trans ?_ (mTail_eq _ _); simp! only [D_law_7, q__law_stream, q__law_graph, q__law_tree, q__law_next, q__law_tables, q__law_variables, q_part_projection, q__law_left, q__law_solutions, q_projection, C_law_1_l, C_law_1_q, D_law_2_q, C_law_3_l, C_law_3_q, C_law_4_l, C_law_4_q, C_law_6_l, C_law_6_q, D_law_5_l, D_law_5_q, C_law_8_l, C_law_8_q, D_law_7_l]
def d_law : DenS := (sSeq (sOwn 1 (dCallN s__law_stream [(dVar 0)])) (sSeq (sAsg (.nm 2) (dBin getF (dLst [(dCall s__law_graph [.b 1, .d (dC (.int 4))]), (dCall s__law_tree [.b 1, .d (dC (.int 4))])]) (dCall s__law_next [.b 1, .d (dC (.int 2))]))) (sSeq (sAsg (.nm 3) (dCall s__law_tables [.b 1, .d (dVar 2)])) (sSeq (sAsg (.nm 4) (dListRg [(dApp lenF [.d (dBin getF (dVar 2) (dC (.int 1)))])])) (sSeq (sIf (dB (dBin ltF (dApp lenF [.d (dVar 4)]) (dC (.int 2)))) (sSeq (sRetK [0, 1, 2, 3, 4, 5, 6, 7, 8, 9, 10, 11, 12, 13, 14, 15, 16, 17, 18, 19, 20, 21, 22] (dC (.bl true))) sNil) sNil) (sSeq (sAsg (.nm 5) (dApp tupleF [.d C_law_1])) (sSeq D_law_2 (sSeq (sAsg (.nm 7) (dApp tupleF [.d C_law_3])) (sSeq (sAsg (.nm 8) (dApp tupleF [.d C_law_4])) (sSeq (sOwn 10 (dLst [])) (sSeq D_law_5 (sSeq (sAsg (.nm 16) (dLst [])) (sSeq D_law_7 (sSeq (sRetK [0, 1, 2, 3, 4, 5, 6, 7, 8, 9, 10, 11, 12, 13, 14, 15, 16, 17, 18, 19, 20, 21, 22] (dBin eqF (dCall s_projection [.d (dVar 2), .d (dVar 3), .d (dVar 8)]) (dApp tupleF [.d (dVar 16)]))) sNil))))))))))))))
def s_law : PP.Sem := runF [] 22 d_law
def m_law (s0 : PV) : Option (PV) := (m__law_stream s0).bind fun t1 => (m__law_graph t1 (.int 4)).bind fun (t2 : PV × PV) => (m__law_tree t2.2 (.int 4)).bind fun (t3 : PV × PV) => (m__law_next t3.2 (.int 2)).bind fun (t4 : PV × PV) => (getF (.lst [t2.1, t3.1]) t4.1).bind fun t5 => (m__law_tables t4.2 t5).bind fun (t6 : PV × PV) => (getF t5 (.int 1)).bind fun t7 => (lenF [t7]).bind fun t8 => (rgO1 t8).bind fun r9 => (lenF [(.lst (rgL r9))]).bind fun t10 => (ltF t10 (.int 2)).bind fun t11 => (asBl t11).bind fun b12 => if b12 = true then some (.bl true) else ((seqOf (.lst (rgL r9))).bind fun l15 => cmpS (fun (w14 : PV) (x13 : PV) => (m__law_next w14 (.int 2)).bind fun (t16 : PV × PV) => (eqF t16.1 (.int 0)).bind fun t17 => (asBl t17).bind fun b18 => if b18 = true then some (some x13, t16.2) else some (none, t16.2)) l15 t6.2).bind fun (y19 : List PV × PV) => (tupleF [(.lst y19.1)]).bind fun t20 => ((lenF [t20]).bind fun t21 => (lenF [(.lst (rgL r9))]).bind fun t22 => (inF t21 (.lst [(.int 0), t22])).bind fun t23 => (asBl t23).bind fun b24 => if b24 = true then (lenF [(.lst (rgL r9))]).bind fun t25 => (subF t25 (.int 1)).bind fun t26 => some (.tup [t26]) else some t20).bind fun (k27 : PV) => ((seqOf (.lst (rgL r9))).bind fun l30 => cmpG (fun (x28 : PV) => (notInF x28 k27).bind fun t31 => (asBl t31).bind fun b32 => if b32 = true then some (some x28) else some none) l30).bind fun (y33 : List PV) => (tupleF [(.lst y33)]).bind fun t34 => ((m__law_variables t5 k27).bind fun (t37 : PV) => (seqOf t37).bind fun l38 => cmpG (fun (x35 : PV) => (m__law_variables t5 t34).bind fun (t39 : PV) => (inF x35 t39).bind fun t40 => (asBl t40).bind fun b41 => if b41 = true then some (some x35) else some none) l38).bind fun (y42 : List PV) => (tupleF [(.lst y42)]).bind fun t43 => ((seqOf (.lst [k27, t34])).bind fun l46 => fldR (S := PV × PV) (R := PV) (fun (w45 : PV × PV) (x44 : PV) => (m_part_projection t5 t6.1 x44 t43).bind fun (t47 : PV) => (m__law_variables t5 x44).bind fun (t48 : PV) => (m__law_solutions t5 t6.1 x44).bind fun (t49 : PV) => (m__law_left t49 t48 t43).bind fun (t50 : PV) => (neF t47 t50).bind fun t51 => (asBl t51).bind fun b52 => if b52 = true then some (.inr (.bl false)) else ((seqOf t48).bind fun l55 => cmpS (fun (w54 : PV) (x53 : PV) => (m__law_next w54 (.int 2)).bind fun (t56 : PV × PV) => (eqF t56.1 (.int 0)).bind fun t57 => (asBl t57).bind fun b58 => if b58 = true then some (some x53, t56.2) else some (none, t56.2)) l55 w45.1).bind fun (y59 : List PV × PV) => (tupleF [(.lst y59.1)]).bind fun t60 => (m_part_projection t5 t6.1 x44 t60).bind fun (t61 : PV) => (m__law_solutions t5 t6.1 x44).bind fun (t62 : PV) => (m__law_left t62 t48 t60).bind fun (t63 : PV) => (neF t61 t63).bind fun t64 => (asBl t64).bind fun b65 => if b65 = true then some (.inr (.bl false)) else (asL w45.2).bind fun _ => (asL w45.2).bind fun l66 => (appendF l66 [t47]).bind fun (z67 : PV × List PV) => some (.inl (y59.2, (.lst z67.2)))) l46 (y19.2, (.lst []))).bind fun (r68 : (PV × PV) ⊕ (PV)) => mSum r68 (fun (k69 : PV × PV) => ((getF k69.2 (.int 0)).bind fun t73 => (seqOf t73).bind fun l74 => fldM (fun (w72 : PV) (x71 : PV) => (un3 x71).bind fun (u75 : PV × PV × PV) => ((getF k69.2 (.int 1)).bind fun t78 => (seqOf t78).bind fun l79 => cmpG (fun (x76 : PV) => (un3 x76).bind fun (u80 : PV × PV × PV) => (eqF u80.1 u75.1).bind fun t81 => (asBl t81).bind fun b82 => if b82 = true then (mulF u75.2.1 u80.2.1).bind fun t83 => (addF u75.2.2 u80.2.2).bind fun t84 => some (some (.tup [u75.1, t83, t84])) else some none) l79).bind fun (y85 : List PV) => (addF w72 (.lst y85)).bind fun t86 => some t86) l74 (.lst [])).bind fun (k87 : PV) => (m_projection t5 t6.1 t43).bind fun (t88 : PV) => (tupleF [k87]).bind fun t89 => (eqF t88 t89).bind fun t90 => some t90) (fun (v70 : PV) => some v70)
theorem q_law (s0 : PV) : s_law [s0] = (m_law s0).bind fun (r : PV) => some (r, [s0]) := by
  refine Eq.trans ?_ (mTail_eq _ _); simp! only [s_law, d_law, m_law, runF_ev, q__law_stream, q__law_graph, q__law_tree, q__law_next, q__law_tables, q__law_variables, q_part_projection, q__law_left, q__law_solutions, q_projection, C_law_1_l, C_law_1_q, D_law_2_q, C_law_3_l, C_law_3_q, C_law_4_l, C_law_4_q, C_law_6_l, C_law_6_q, D_law_5_l, D_law_5_q, C_law_8_l, C_law_8_q, D_law_7_l, D_law_7_q]
end WK
namespace QQ
open PP WK
/-! ### the stream -/
def stP (ns : List Int) (c k : Int) : PV := .lst [.lst (ns.map PV.int), .int c, .int k]
@[simp] theorem st0 {ns : List Int} {c k : Int} : getF (stP ns c k) (.int 0) = some (.lst (ns.map PV.int)) := getF_l0 _ _
@[simp] theorem st1 {ns : List Int} {c k : Int} : getF (stP ns c k) (.int 1) = some (.int c) := getF_l1 _ _ _
@[simp] theorem st2 {ns : List Int} {c k : Int} : getF (stP ns c k) (.int 2) = some (.int k) := getF_l2 _ _ _ _
@[simp] theorem st_s1 {ns : List Int} {c k d : Int} : setF (stP ns c k) (.int 1) (.int d) = some (stP ns d k) := setF_l1 _ _ _ _
@[simp] theorem st_s2 {ns : List Int} {c k d : Int} : setF (stP ns c k) (.int 2) (.int d) = some (stP ns c d) := setF_l2 _ _ _ _ _
theorem cell_nn (x k : Int) : ∃ u v, 0 ≤ u ∧ 0 ≤ v ∧ (x * 48271 + k * 69621 + 11) % 2147483647 = u ∧ (u * 16807 + 13) % 2147483647 = v := ⟨_, _, Int.emod_nonneg _ (by decide), Int.emod_nonneg _ (by decide), rfl, rfl⟩
structure St where
  ns : List Int
  c : Int
  k : Nat
  hc : 0 ≤ c
def St.p (s : St) : PV := stP s.ns s.c s.k
theorem next_ok (s : St) (many : Int) (h : 0 < many) (hm : many < 1000000) : ∃ (d : Int) (s' : St), 0 ≤ d ∧ d < many ∧ m__law_next s.p (.int many) = some (.int d, s'.p) := by
  obtain ⟨ns, c, k, hc⟩ := s
  have e1 : ∀ x : Int, modF (.int x) (.int many) = some (.int (x % many)) := fun x => modF_int x many h
  have e2 : ∀ x : Int, divF (.int x) (.int many) = some (.int (x / many)) := fun x => divF_int x many ⟨h, by omega⟩
  have e3 : ∀ x : Int, modF (.int x) (.int 2147483647) = some (.int (x % 2147483647)) := fun x => modF_int x _ (by decide)
  have e4 : ∀ x : Int, mulF (.int x) (.int 48271) = some (.int (x * 48271)) := fun x => mulF_int _ _ (.inr (by decide))
  have e5 : ∀ x : Int, mulF (.int x) (.int 69621) = some (.int (x * 69621)) := fun x => mulF_int _ _ (.inr (by decide))
  have e6 : ∀ x : Int, mulF (.int x) (.int 16807) = some (.int (x * 16807)) := fun x => mulF_int _ _ (.inr (by decide))
  have e7 : ∀ x : Int, mulF (.int x) (.int 65537) = some (.int (x * 65537)) := fun x => mulF_int _ _ (.inr (by decide))
  unfold m__law_next St.p
  by_cases h0 : c = 0
  · subst h0
    -- the cell
    have hx : ∃ x : Int, 0 ≤ x ∧ (((getF (stP ns 0 k) (.int 0)).bind fun t6 => (lenF [t6]).bind fun t7 => (ltF (.int k) t7).bind fun t8 => (asBl t8).bind fun b9 => if b9 = true then (getF (stP ns 0 k) (.int 0)).bind fun t10 => (getF t10 (.int k)).bind fun t11 => (absF [t11]).bind fun t12 => some t12 else some (.int (7 + k))) : Option PV) = some (.int x) := by
      by_cases hk : (k : Int) < ns.length
      · have g := getF_at ns k (by omega)
        exact ⟨if ns[k] < 0 then -ns[k] else ns[k], by split <;> omega, by simp [hk, g, absF]⟩
      · exact ⟨7 + k, by omega, by simp [hk]⟩
    obtain ⟨x, hx0, hx⟩ := hx
    simp only [st1, st2, eqF_int, Option.bind_some, asBl_ev, decide_true, if_true, addF_int, hx]
    by_cases hb : x < 1000000000000000000
    · obtain ⟨u, v, hu, hv, q1, q2⟩ := cell_nn x k
      refine ⟨(v * 65537 + u) % many, ⟨ns, (v * 65537 + u) / many, k + 1, Int.ediv_nonneg (Int.add_nonneg (Int.mul_nonneg hv (by decide)) hu) (by omega)⟩, Int.emod_nonneg _ (by omega), Int.emod_lt_of_pos _ h, ?_⟩
      simp [pow18, hb, e1, e2, e3, e4, e5, e6, e7, q1, q2]
    · refine ⟨x % many, ⟨ns, x / many, k + 1, Int.ediv_nonneg hx0 (by omega)⟩, Int.emod_nonneg _ (by omega), Int.emod_lt_of_pos _ h, ?_⟩
      simp [pow18, hb, e1, e2]
  · refine ⟨c % many, ⟨ns, c / many, k, Int.ediv_nonneg hc (by omega)⟩, Int.emod_nonneg _ (by omega), Int.emod_lt_of_pos _ h, ?_⟩
    simp [h0, e1, e2]
theorem stream_ok (ns : List Int) : m__law_stream (.lst (ns.map PV.int)) = some (St.p ⟨ns, 0, 0, by decide⟩) := by
  simp [m__law_stream, St.p, stP]
@[simp] theorem isInt_ok (i : Int) : m__law_is_integer (.int i) = some (.bl true) := by simp [m__law_is_integer]
@[simp] theorem isInt_non : m__law_is_integer .non = some (.bl false) := by simp [m__law_is_integer]
/-! ### scopes -/
def OkS (l : List Int) : Prop := l.Pairwise (· < ·) ∧ (∀ x ∈ l, 0 ≤ x ∧ x < 6) ∧ l.length ≤ 3
theorem nextOk (s : St) (many : Int) (h : 0 < many) (hm : many < 1000000) : Ok (m__law_next s.p (.int many)) fun r => ∃ (d : Int) (s' : St), 0 ≤ d ∧ d < many ∧ r = (.int d, s'.p) := by
  obtain ⟨d, s', h0, h1, e⟩ := next_ok s many h hm
  exact ⟨_, e, d, s', h0, h1, rfl⟩
theorem some_ok (s : St) (most : Int) (high : Nat) (hm : 0 ≤ most) (hh : high ≤ 1000) : Ok (m__law_some s.p (.int most) (.int high)) fun r => ∃ (l : List Int) (s' : St), r = (tI l, s'.p) ∧ l.Pairwise (· < ·) ∧ (∀ x ∈ l, 0 ≤ x ∧ x < high) ∧ (l.length : Int) ≤ most := by
  unfold m__law_some
  rw [rgO1_nat (by omega)]
  simp only [Option.bind_some, rgL_nat, rgN_rng]
  refine Ok.bind (Ok.fld (P := fun rem w => ∃ (s : St) (l : List Int) (i : Int) (k : Nat), w = (s.p, .lst (l.map PV.int)) ∧ rem = rngP i k ∧ i + k = high ∧ 0 ≤ i ∧ l.Pairwise (· < ·) ∧ (∀ x ∈ l, 0 ≤ x ∧ x < i) ∧ (l.length : Int) ≤ most ∧ (l.length : Int) ≤ i) ?_ ?_ ?_)
  · exact ⟨s, [], 0, high, rfl, rfl, by omega, by omega, .nil, by simp, by simpa using hm, by simp⟩
  · rintro x xs w ⟨s, l, i, k, hw, hr, hk, h0, hp, hb, hl, hli⟩
    subst hw
    obtain ⟨k', rfl, rfl, rfl⟩ := rngP_cons hr
    by_cases hlt : (l.length : Int) < most
    · obtain ⟨d, s', hd0, hd, e⟩ := next_ok s 2 (by decide) (by decide)
      by_cases hz : d = 0
      · subst hz
        have ha := appendF_ok (l.map PV.int) (.int i) (by simp; omega)
        refine Ok.of (v := (s'.p, .lst ((l ++ [i]).map PV.int))) (by simp [hlt, e, ha]) ⟨s', l ++ [i], i + 1, k', rfl, rfl, by omega, by omega, ?_, ?_, ?_, ?_⟩
        · rw [List.pairwise_append]
          exact ⟨hp, by simp, fun a hma b hmb => by simp at hmb; subst hmb; exact (hb a hma).2⟩
        · intro x hx
          rcases List.mem_append.mp hx with hx | hx
          · have := hb x hx; omega
          · simp at hx; omega
        · rw [List.length_append]; simp; omega
        · rw [List.length_append]; simp; omega
      · exact Ok.of (v := (s'.p, .lst (l.map PV.int))) (by simp [hlt, e, hz]) ⟨s', l, i + 1, k', rfl, rfl, by omega, by omega, hp, fun x hx => by have := hb x hx; omega, hl, by omega⟩
    · exact Ok.of (v := (s.p, .lst (l.map PV.int))) (by simp [hlt]) ⟨s, l, i + 1, k', rfl, rfl, by omega, by omega, hp, fun x hx => by have := hb x hx; omega, hl, by omega⟩
  · rintro w ⟨s', l, i, k, rfl, hr, hk, h0, hp, hb, hl, _⟩
    have hz := rngP_nil hr
    subst hz
    exact Ok.of (v := (tI l, s'.p)) (by simp) ⟨l, s', rfl, hp, fun x hx => by have := hb x hx; omega, hl⟩
/-! ### graphs -/
def lt2 (p q : Int × Int) : Prop := p.1 < q.1 ∨ (p.1 = q.1 ∧ p.2 < q.2)
def pE (p : Int × Int) : PV := .tup [.int p.1, .int p.2]
abbrev scP (sc : List (List Int)) : PV := .tup (sc.map tI)
abbrev edP (ed : List (Int × Int)) : PV := .tup (ed.map pE)
def gP (v : Int) (sc : List (List Int)) (ed : List (Int × Int)) : PV := .tup [.int v, scP sc, edP ed]
@[simp] theorem g_0 {v : Int} {sc : List (List Int)} {ed : List (Int × Int)} : getF (gP v sc ed) (.int 0) = some (.int v) := getF_t0 _ _
@[simp] theorem g_1 {v : Int} {sc : List (List Int)} {ed : List (Int × Int)} : getF (gP v sc ed) (.int 1) = some (scP sc) := getF_t1 _ _ _
@[simp] theorem g_2 {v : Int} {sc : List (List Int)} {ed : List (Int × Int)} : getF (gP v sc ed) (.int 2) = some (edP ed) := getF_t2 _ _ _ _
@[simp] theorem g_u {v : Int} {sc : List (List Int)} {ed : List (Int × Int)} : un3 (gP v sc ed) = some (.int v, scP sc, edP ed) := id rfl
@[simp] theorem g_l {v : Int} {sc : List (List Int)} {ed : List (Int × Int)} : lenF [gP v sc ed] = some (.int 3) := id rfl
@[simp] theorem g_t {v : Int} {sc : List (List Int)} {ed : List (Int × Int)} : isTy .tuple (gP v sc ed) = true := id rfl
@[simp] theorem pE_0 {p : Int × Int} : getF (pE p) (.int 0) = some (.int p.1) := getF_t0 _ _
@[simp] theorem pE_1 {p : Int × Int} : getF (pE p) (.int 1) = some (.int p.2) := getF_t1 _ _ _
@[simp] theorem pE_u {p : Int × Int} : un2 (pE p) = some (.int p.1, .int p.2) := id rfl
@[simp] theorem pE_q {p : Int × Int} : seqOf (pE p) = some [.int p.1, .int p.2] := id rfl
@[simp] theorem pE_l {p : Int × Int} : lenF [pE p] = some (.int 2) := id rfl
@[simp] theorem pE_t {p : Int × Int} : isTy .tuple (pE p) = true := id rfl
structure OkG (v : Int) (sc : List (List Int)) (ed : List (Int × Int)) : Prop where
  v : v = 2 ∨ v = 3
  n0 : 1 ≤ sc.length
  n1 : sc.length ≤ 5
  ss : ∀ l ∈ sc, OkS l
  es : ∀ p ∈ ed, 0 ≤ p.1 ∧ p.1 < p.2 ∧ p.2 < sc.length
  eo : ed.Pairwise lt2
  el : ed.length ≤ 100
theorem graph_ok (s : St) (nodes : Nat) (hn : 1 ≤ nodes ∧ nodes ≤ 5) : Ok (m__law_graph s.p (.int nodes)) fun r => ∃ (v : Int) (sc : List (List Int)) (ed : List (Int × Int)) (s' : St), r = (gP v sc ed, s'.p) ∧ OkG v sc ed ∧ sc.length ≤ nodes := by
  unfold m__law_graph
  refine Ok.then (nextOk s 5 (by decide) (by decide)) ?_
  rintro _ ⟨d1, s1, h10, h1, rfl⟩
  have hv : ∃ v : Int, (v = 2 ∨ v = 3) ∧ 2 + (if d1 = 0 then (1 : Int) else 0) = v := ⟨_, by split <;> simp, rfl⟩
  obtain ⟨v, hv, ev⟩ := hv
  simp only [eqF_int, Option.bind_some, intTF_bl, addF_int, decide_eq_true_eq, ev]
  refine Ok.then (nextOk s1 nodes (by omega) (by omega)) ?_
  rintro _ ⟨d2, s2, h20, h2, rfl⟩
  obtain ⟨m, em, hm1, hm4⟩ : ∃ m : Nat, 1 + d2 = m ∧ 1 ≤ m ∧ m ≤ nodes := ⟨(1 + d2).toNat, by omega, by omega, by omega⟩
  obtain ⟨k, hk2, hk3, ek⟩ : ∃ k : Int, 2 ≤ k ∧ k ≤ 3 ∧ 2 + (if v = 2 then (1 : Int) else 0) = k := ⟨_, by split <;> simp, by split <;> simp, rfl⟩
  simp only [addF_int, Option.bind_some, em]
  rw [rgO1_nat (by omega)]
  simp only [Option.bind_some, rgL_nat, rgN_rng]
  refine Ok.bind (Ok.cmpT (P := fun w => ∃ s : St, w = s.p) (G := fun x y => ∃ l, y = tI l ∧ OkS l) ⟨s2, rfl⟩ ?_ ?_)
  · rintro x _ _ ⟨s, rfl⟩
    obtain ⟨_, e, l, s', rfl, g2, g3, g4⟩ := some_ok s k 4 (by omega) (by omega)
    simp only [eqF_int, Option.bind_some, intTF_bl, addF_int, decide_eq_true_eq, ek]
    exact Ok.of (v := (tI l, s'.p)) (by have e' : m__law_some s.p (.int k) (.int 4) = _ := e; simp [e']) ⟨⟨l, rfl, g2, fun x hx => by have := g3 x hx; omega, by omega⟩, s', rfl⟩
  rintro ys _ ⟨s3, rfl⟩ c3
  obtain ⟨sc, rfl, c5, c6⟩ := each_map (f := tI) (Q := OkS) (fun x y h => h) c3
  rw [rngP_len] at c6
  simp only [tupleF_lst, Option.bind_some]
  refine Ok.bind (Ok.fld (P := fun rem w => ∃ (s : St) (ed : List (Int × Int)) (i : Int) (k : Nat), w = (s.p, .lst (ed.map pE)) ∧ rem = rngP i k ∧ i + k = m ∧ 0 ≤ i ∧ (∀ p ∈ ed, 0 ≤ p.1 ∧ p.1 < p.2 ∧ p.2 < m) ∧ ed.Pairwise lt2 ∧ (∀ p ∈ ed, p.1 < i) ∧ (ed.length : Int) ≤ i * 5) ?_ ?_ ?_)
  · exact ⟨s3, [], 0, m, rfl, rfl, by omega, by omega, by simp, .nil, by simp, by simp⟩
  · rintro x xs w ⟨s, ed, i, k, rfl, hr, hk, hi, q1, q2, q3, q4⟩
    obtain ⟨k', rfl, rfl, rfl⟩ := rngP_cons hr
    simp only [addF_int, Option.bind_some]
    rw [rgO2_ok (by omega) (by omega)]
    simp only [Option.bind_some, rgL_def]
    rw [show ((m : Int) - (i + 1)).toNat = k' by omega]
    refine Ok.bind (Ok.fld (P := fun rem w => ∃ (s' : St) (ed' : List (Int × Int)) (j : Int) (k : Nat), w = (s'.p, .lst (ed'.map pE)) ∧ rem = rngP j k ∧ j + k = m ∧ i < j ∧
      (∀ p ∈ ed', 0 ≤ p.1 ∧ p.1 < p.2 ∧ p.2 < m) ∧ ed'.Pairwise lt2 ∧ (∀ p ∈ ed', p.1 < i ∨ p.1 = i ∧ p.2 < j) ∧ (ed'.length : Int) ≤ i * 5 + (j - i - 1)) ?_ ?_ ?_)
    · exact ⟨s, ed, i + 1, k', rfl, rfl, by omega, by omega, q1, q2, fun p hp => .inl (q3 p hp), by omega⟩
    · rintro x xs w ⟨s, ed, j, k, rfl, hr, hk, hi, q1, q2, q3, q4⟩
      obtain ⟨k', rfl, rfl, rfl⟩ := rngP_cons hr
      obtain ⟨d, s', hd0, hd, e⟩ := next_ok s 2 (by decide) (by decide)
      by_cases hz : d = 0
      · subst hz
        have ha := appendF_ok (ed.map pE) (.tup [.int i, .int j]) (by simp; omega)
        refine Ok.of (v := (s'.p, .lst ((ed ++ [(i, j)]).map pE))) (by simp [e, ha, pE]) ⟨s', _, j + 1, k', rfl, rfl, by omega, by omega, ?_, ?_, ?_, ?_⟩
        · intro p hp
          rcases List.mem_append.mp hp with hp | hp
          · exact q1 p hp
          · simp at hp; subst hp; exact ⟨by assumption, hi, by show j < m; omega⟩
        · rw [List.pairwise_append]
          refine ⟨q2, by simp, fun p hp q hq => ?_⟩
          simp at hq
          subst hq
          rcases q3 p hp with z | ⟨z, z2⟩
          · exact .inl z
          · exact .inr ⟨z, z2⟩
        · intro p hp
          rcases List.mem_append.mp hp with hp | hp
          · rcases q3 p hp with z | ⟨z, z2⟩
            · exact .inl z
            · exact .inr ⟨z, by omega⟩
          · simp at hp; subst hp; exact .inr ⟨rfl, by show j < j + 1; omega⟩
        · rw [List.length_append]; simp; omega
      · refine Ok.of (v := (s'.p, .lst (ed.map pE))) (by simp [e, hz]) ⟨s', ed, j + 1, k', rfl, rfl, by omega, by omega, q1, q2, fun p hp => ?_, by omega⟩
        rcases q3 p hp with z | ⟨z, z2⟩
        · exact .inl z
        · exact .inr ⟨z, by omega⟩
    · rintro w ⟨s', ed', j, k, rfl, hr, hk, _, q1, q2, q3, q4⟩
      have hz := rngP_nil hr
      subst hz
      refine Ok.s ⟨s', ed', i + 1, k', rfl, rfl, by omega, by omega, q1, q2, fun p hp => ?_, by omega⟩
      rcases q3 p hp with z | ⟨z, z2⟩ <;> omega
  · rintro w ⟨s', ed, i, k, rfl, hr, hk, _, q1, q2, q3, q4⟩
    have hz := rngP_nil hr
    subst hz
    exact Ok.of (v := (gP v sc ed, s'.p)) (by simp [gP]) ⟨v, sc, ed, s', rfl, ⟨hv, by omega, by omega, c5, by rw [c6]; exact q1, q2, by omega⟩, by omega⟩
end QQ

namespace QQ
open PP WK
/-! ### trees -/
/-- scopes below a fresh variable -/
def OkT (fr : Int) (l : List Int) : Prop := l.Pairwise (· < ·) ∧ (∀ x ∈ l, 0 ≤ x ∧ x < fr) ∧ l.length ≤ 2
theorem OkT.mono {a b : Int} {l : List Int} (h : OkT a l) (hb : a ≤ b) : OkT b l := ⟨h.1, fun x hx => by have := h.2.1 x hx; omega, h.2.2⟩
/-- what is known of a drawn tree: each node but the first has an edge from one before it, and variables go along the edges -/
structure TreeOk (sc : List (List Int)) (ed : List (Int × Int)) : Prop where
  len : ed.length + 1 = sc.length
  up : ∀ i : Nat, 1 ≤ i → i < sc.length → ∃ a : Nat, a < i ∧ ((a : Int), (i : Int)) ∈ ed ∧ ∀ x ∈ sc.getD i [], ∀ j : Nat, j < i → x ∈ sc.getD j [] → x ∈ sc.getD a []
def unE : PV → Int × Int
  | .tup [.int a, .int b] => (a, b)
  | _ => (0, 0)
theorem sorted_edges (ed : List (Int × Int)) (h : ed.Pairwise fun p q => p ≠ q) : ∃ ed' : List (Int × Int), sortedF [.lst (ed.map pE)] = some (.lst (ed'.map pE)) ∧ ed'.Perm ed ∧ ed'.Pairwise lt2 := by
  obtain ⟨h1, h2⟩ := perm_map (f := pE) (g := unE) (fun p => rfl) (sortL_perm (ed.map pE))
  have pw := sortL_pw (ed.map pE)
  have e1 : ed.map pE = (ed.map fun p => [p.1, p.2]).map fun a => .tup (a.map PV.int) := by
    rw [List.map_map]; rfl
  refine ⟨(sortL (ed.map pE)).map unE, ?_, h2, ?_⟩
  · simp only [sortedF]
    rw [show comparable (ed.map pE) = true by rw [e1]; exact comparable_tups _, show sortable (ed.map pE) = true by rw [e1]; exact sortable_tups _ (fun a ha => by obtain ⟨p, _, rfl⟩ := List.mem_map.mp ha; simp), ← h1]
    rfl
  · rw [h1, List.pairwise_map] at pw
    have nd : ((sortL (ed.map pE)).map unE).Pairwise fun p q => p ≠ q := (h2.pairwise_iff (fun {p q} z => fun e => z e.symm)).mpr h
    refine (pw.and nd).imp fun {p q} z => ?_
    have e2 : leP (pE p) (pE q) = !HT.lexLt [q.1, q.2] [p.1, p.2] := leP_tup [p.1, p.2] [q.1, q.2]
    have z1 := z.1
    rw [e2] at z1
    simp only [HT.lexLt, Bool.not_eq_true'] at z1
    by_cases h3 : q.1 = p.1
    · rw [if_pos h3] at z1
      by_cases h4 : q.2 = p.2
      · exact absurd (Prod.ext h3.symm h4.symm) z.2
      · rw [if_neg h4] at z1
        have : ¬ q.2 < p.2 := by simpa using z1
        exact .inr ⟨h3.symm, by omega⟩
    · rw [if_neg h3] at z1
      have : ¬ q.1 < p.1 := by simpa using z1
      exact .inl (by omega)
theorem getD_app {l : List (List Int)} {k : List Int} {i : Nat} : (l ++ [k]).getD i [] = if i < l.length then l.getD i [] else if i = l.length then k else [] := by
  simp only [List.getD_eq_getElem?_getD]
  by_cases h : i < l.length
  · rw [if_pos h, List.getElem?_append_left h]
  · rw [if_neg h, List.getElem?_append_right (by omega)]
    by_cases h2 : i = l.length
    · rw [if_pos h2]; subst h2; simp
    · rw [if_neg h2, List.getElem?_eq_none (by simp; omega)]; rfl
theorem tree_ok (s : St) (nodes : Nat) (hn : 1 ≤ nodes ∧ nodes ≤ 4) : Ok (m__law_tree s.p (.int nodes)) fun r => ∃ (v : Int) (sc : List (List Int)) (ed : List (Int × Int)) (s' : St), r = (gP v sc ed, s'.p) ∧ OkG v sc ed ∧ sc.length ≤ nodes ∧ TreeOk sc ed := by
  unfold m__law_tree
  refine Ok.then (nextOk s 5 (by decide) (by decide)) ?_
  rintro _ ⟨d1, s1, h10, h1, rfl⟩
  obtain ⟨v, hv, ev⟩ : ∃ v : Int, (v = 2 ∨ v = 3) ∧ 2 + (if d1 = 0 then (1 : Int) else 0) = v := ⟨_, by split <;> simp, rfl⟩
  simp only [eqF_int, Option.bind_some, intTF_bl, addF_int, decide_eq_true_eq, ev]
  refine Ok.then (some_ok s1 2 4 (by decide) (by decide)) ?_
  rintro _ ⟨l0, s2, rfl, a1, a2, a3⟩
  refine Ok.bind ?_
  refine Ok.then (nextOk s2 nodes (by omega) (by omega)) ?_
  rintro _ ⟨d3, s3, h30, h3, rfl⟩
  obtain ⟨m, em, hm3⟩ : ∃ m : Nat, 1 + d3 = 1 + (m : Int) ∧ m + 1 ≤ nodes := ⟨d3.toNat, by omega, by omega⟩
  simp -implicitDefEqProofs only [addF_int, Option.bind_some, em]
  rw [rgO2_ok (by omega) (by omega)]
  simp only [Option.bind_some, rgL_def]
  rw [show (1 + (m : Int) - 1).toNat = m by omega]
  refine (Ok.fld (P := fun rem w => ∃ (s' : St) (sc : List (List Int)) (ed : List (Int × Int)) (fr : Int) (i : Nat) (k : Nat), w = (s'.p, .lst (sc.map tI), .lst (ed.map pE), .int fr) ∧ rem = rngP i k ∧ i + k = m + 1 ∧ 1 ≤ i ∧
    sc.length = i ∧ 4 ≤ fr ∧ fr ≤ 6 ∧ (∀ l ∈ sc, OkT fr l) ∧ (∀ p ∈ ed, 0 ≤ p.1 ∧ p.1 < p.2 ∧ p.2 < i) ∧ ed.Pairwise (fun p q => p.2 < q.2) ∧ TreeOk sc ed) ?_ ?_ ?_)
  · refine ⟨s3, [l0], [], 4, 1, m, rfl, rfl, by omega, by omega, rfl, by omega, by omega, fun l hl => by simp at hl; subst hl; exact ⟨a1, a2, by omega⟩, by simp, .nil, ⟨rfl, fun i h1 h2 => ?_⟩⟩
    simp at h2; omega
  · rintro x xs w ⟨s, sc, ed, fr, i, k, rfl, hr, hk, hi, q1, q2, q3, q4, q5, q6, q7⟩
    obtain ⟨k', rfl, rfl, rfl⟩ := rngP_cons hr
    refine Ok.then (nextOk s i (by omega) (by omega)) ?_
    rintro _ ⟨a, s1, ha0, ha, rfl⟩
    obtain ⟨l, hl1, hla, hg⟩ := getF_mid (d := .lst (sc.map tI)) (f := tI) (l := sc) rfl a ha0 (by omega)
    refine Ok.bind ?_
    simp only [hg, Option.bind_some, seqOf_tup]
    refine (Ok.cmpS (P := fun w => ∃ s : St, w = s.p) (G := fun x y => y = x) ⟨s1, rfl⟩ ?_ ?_)
    · rintro x _ _ ⟨s, rfl⟩
      obtain ⟨d, s', hd0, hd, e⟩ := next_ok s 3 (by decide) (by decide)
      by_cases hz : 0 < d
      · exact Ok.of (v := (some x, s'.p)) (by simp [e, hz]) ⟨⟨s', rfl⟩, fun y hy => by cases hy; rfl⟩
      · exact Ok.of (v := (none, s'.p)) (by simp [e, hz]) ⟨⟨s', rfl⟩, fun y hy => by cases hy⟩
    rintro ys _ ⟨s2, rfl⟩ c3
    obtain ⟨kk, rfl, c5⟩ := made_same (f := PV.int) (fun a y g => g) c3
    have hk1 : OkT fr kk := ⟨(q4 l hl1).1.sublist c5, fun x hx => (q4 l hl1).2.1 x (c5.subset hx), Nat.le_trans c5.length_le (q4 l hl1).2.2⟩
    obtain ⟨an, rfl⟩ : ∃ an : Nat, a = an := ⟨a.toNat, by omega⟩
    have han : sc.getD an [] = l := by rw [List.getD_eq_getElem?_getD]; simpa using congrArg (·.getD []) hla
    -- what comes behind the choice
    have fin : ∀ (s3 : St) (fr' : Int) (k2 : List Int), fr ≤ fr' → fr' ≤ 6 → OkT fr' k2 → (∀ x ∈ k2, x ∈ kk ∨ x = fr) → ∃ (s' : St) (sc' : List (List Int)) (ed' : List (Int × Int)) (fr'' : Int) (i' k'' : Nat), (s3.p, PV.lst (sc.map tI ++ [tI k2]), PV.lst (ed.map pE ++ [.tup [.int an, .int i]]), PV.int fr') = (St.p s', PV.lst (List.map tI sc'), PV.lst (List.map pE ed'), PV.int fr'') ∧ rngP ((i : Int) + 1) k' = rngP (i' : Int) k'' ∧ i' + k'' = m + 1 ∧ 1 ≤ i' ∧ sc'.length = i' ∧ 4 ≤ fr'' ∧ fr'' ≤ 6 ∧ (∀ l ∈ sc', OkT fr'' l) ∧ (∀ p ∈ ed', 0 ≤ p.1 ∧ p.1 < p.2 ∧ p.2 < i') ∧ ed'.Pairwise (fun p q => p.2 < q.2) ∧ TreeOk sc' ed' := by
      intro s3 fr' k2 b1 b2 b3 b4
      refine ⟨s3, sc ++ [k2], ed ++ [((an : Int), (i : Int))], fr', i + 1, k', by simp [pE], by simp, by omega, by omega, by simp [q1], by omega, by omega, fun l hl => ?_, fun p hp => ?_, ?_, ⟨by simp [q7.len, q1], ?_⟩⟩
      · rcases List.mem_append.mp hl with hl | hl
        · exact (q4 l hl).mono b1
        · simp at hl; subst hl; exact b3
      · rcases List.mem_append.mp hp with hp | hp
        · have := q5 p hp; omega
        · simp at hp; subst hp; refine ⟨ha0, ha, ?_⟩; show (i : Int) < (i + 1 : Nat); omega
      · rw [List.pairwise_append]
        exact ⟨q6, by simp, fun p hp q hq => by simp at hq; subst hq; exact (q5 p hp).2.2⟩
      · intro j hj1 hj2
        rw [List.length_append, List.length_singleton, q1] at hj2
        by_cases hji : j < i
        · obtain ⟨b, c1, c2, c3⟩ := q7.up j hj1 (by omega)
          refine ⟨b, c1, List.mem_append_left _ c2, fun x hx j' hj' hx' => ?_⟩
          rw [getD_app, if_pos (by omega)] at hx hx' ⊢
          exact c3 x hx j' hj' hx'
        · have : j = i := by omega
          subst this
          refine ⟨an, by omega, List.mem_append_right _ (by simp), fun x hx j' hj' hx' => ?_⟩
          rw [getD_app, if_neg (by omega), if_pos (by omega)] at hx
          rw [getD_app, if_pos (by omega)] at hx' ⊢
          rw [han]
          rcases b4 x hx with z | z
          · exact c5.subset z
          · subst z
            have hmem : sc.getD j' [] ∈ sc := by rw [List.getD_eq_getElem?_getD, List.getElem?_eq_getElem (by omega)]; exact List.getElem_mem _
            have := (q4 _ hmem).2.1 x hx'
            omega
    have a3 := fun y => appendF_ok (sc.map tI) y (by simp; omega)
    have a4 := fun y => appendF_ok (ed.map pE) y (by simp; have := q7.len; omega)
    have a8 := appendF_ok (kk.map PV.int) (.int fr) (by simp; have := hk1.2.2; omega)
    by_cases h5 : fr < 6
    · obtain ⟨d, s3, hd0, hd, e2⟩ := next_ok s2 2 (by decide) (by decide)
      by_cases hz : d = 0
      · subst hz
        by_cases h8 : kk.length < 2
        · have h8' : (kk.length : Int) < 2 := by omega
          refine Ok.of (v := (s3.p, .lst (sc.map tI ++ [tI (kk ++ [fr])]), .lst (ed.map pE ++ [.tup [.int an, .int i]]), .int (fr + 1))) (by simp [h5, e2, h8', a8, a3, a4]) (fin s3 (fr + 1) (kk ++ [fr]) (by omega) (by omega) ⟨?_, fun x hx => ?_, by rw [List.length_append]; simp; omega⟩ fun x hx => by simpa using hx)
          · rw [List.pairwise_append]
            exact ⟨hk1.1, by simp, fun x hx y hy => by simp at hy; subst hy; exact (hk1.2.1 x hx).2⟩
          · rcases List.mem_append.mp hx with hx | hx
            · have := hk1.2.1 x hx; omega
            · simp at hx; omega
        · have h8' : ¬ (kk.length : Int) < 2 := by omega
          exact Ok.of (v := (s3.p, .lst (sc.map tI ++ [tI kk]), .lst (ed.map pE ++ [.tup [.int an, .int i]]), .int fr)) (by simp [h5, e2, h8', a3, a4]) (fin s3 fr kk (by omega) (by omega) hk1 fun x hx => .inl hx)
      · exact Ok.of (v := (s3.p, .lst (sc.map tI ++ [tI kk]), .lst (ed.map pE ++ [.tup [.int an, .int i]]), .int fr)) (by simp [h5, e2, hz, a3, a4]) (fin s3 fr kk (by omega) (by omega) hk1 fun x hx => .inl hx)
    · exact Ok.of (v := (s2.p, .lst (sc.map tI ++ [tI kk]), .lst (ed.map pE ++ [.tup [.int an, .int i]]), .int fr)) (by simp [h5, a3, a4]) (fin s2 fr kk (by omega) (by omega) hk1 fun x hx => .inl hx)
  · rintro w ⟨s4, sc, ed, fr, i, k, rfl, hr, hk, hi, q1, q2, q3, q4, q5, q6, q7⟩
    have hz := rngP_nil hr
    subst hz
    obtain ⟨ed', c1, c2, c3⟩ := sorted_edges ed (q6.imp fun {p q} h e => by rw [e] at h; omega)
    refine Ok.of (v := (gP v sc ed', s4.p)) (by simp [c1, gP]) ⟨v, sc, ed', s4, rfl, ⟨hv, by omega, by omega, fun l hl => ⟨(q4 l hl).1, fun x hx => by have := (q4 l hl).2.1 x hx; omega, by have := (q4 l hl).2.2; omega⟩, fun p hp => by have := q5 p (c2.mem_iff.mp hp); omega, c3, by have := c2.length_eq; have := q7.len; omega⟩, by omega, ⟨by rw [c2.length_eq]; exact q7.len, fun i h1 h2 => ?_⟩⟩
    obtain ⟨a, b1, b2, b3⟩ := q7.up i h1 h2
    exact ⟨a, b1, c2.mem_iff.mpr b2, b3⟩
/-! ### rows, tables -/
theorem rows_ok (v n : Nat) (hv : v ≤ 3) (hn : n ≤ 6) : m__law_rows (.int v) (.int n) = some (.lst ((rowsL v n).map tI)) := by
  unfold m__law_rows
  rw [rgO1_nat (by omega)]
  simp only [Option.bind_some, rgL_nat]
  have key : ∀ m, m ≤ n → ∀ (f : PV → PV → Option PV), (∀ i x, i < n → f (.lst ((rowsL v i).map tI)) x = some (.lst ((rowsL v (i + 1)).map tI))) → fldM f (rgN m) (.lst [.tup []]) = some (.lst ((rowsL v m).map tI)) := by
    intro m
    induction m with
    | zero => intro _ f _; rfl
    | succ m ih =>
      intro hm f hf
      have e : ∀ (l : List PV) (y s : PV), fldM f (l ++ [y]) s = (fldM f l s).bind fun s' => f s' y := by
        intro l y
        induction l with
        | nil => intro s; simp [fldM]
        | cons a l ih2 =>
          intro s
          rw [List.cons_append, fldM, fldM, Option.bind_assoc]
          congr 1; funext s'
          exact ih2 s'
      rw [show rgN (m + 1) = rgN m ++ [.int (m : Int)] by simp [rgN, List.range_succ], e, ih (by omega) f hf, Option.bind_some]
      exact hf m _ (by omega)
  rw [key n (Nat.le_refl _) _ fun i x hi => ?_]
  · rfl
  · have hb := rowsL_len v i
    have h3 := pow3 (v := v) (n := i + 1) hv (by omega)
    rw [Nat.pow_succ] at h3
    simp only [seqOf_lst, Option.bind_some]
    rw [rgO1_nat (by omega)]
    simp only [Option.bind_some, rgL_nat]
    have := (fldM_map (f := fun (w5 : PV) (x4 : PV) => (cmpM (fun (x7 : PV) => (addF x4 (.tup [x7])).bind fun t10 => some t10) (rgN v)).bind fun (y11 : List PV) => (addF w5 (.lst y11)).bind fun t12 => some t12)
      (E := fun acc : List (List Int) => .lst (acc.map tI)) (g := tI) (k := fun acc r => acc ++ extL v r) (fun j acc => acc.length = j * v) (rowsL v i) 0 [] (fun j acc r hr _ hj hI => by
        have hrl := (rowsL_mem hr).1
        have c := cmpM_list (f := fun (x7 : PV) => (addF (tI r) (.tup [x7])).bind fun t10 => some t10) (h := fun x => PV.tup (r.map PV.int ++ [x])) (xs := rgN v) (fun x _ => by
          have := addT_ok (r.map PV.int) [x] (by simp; omega)
          simp [this])
        rw [rng_ext] at c
        have hj2 : j * v ≤ v ^ i * v := Nat.mul_le_mul_right v (by omega)
        have ha := addL_ok (acc.map tI) ((extL v r).map tI) (by simp [extL_len, hI]; omega)
        refine ⟨by simp only [c, Option.bind_some, ha, List.map_append], by rw [List.length_append, extL_len, hI, Nat.succ_mul]⟩) (by simp)).1
    have e1 : (rowsL v i).foldl (fun acc r => acc ++ extL v r) [] = rowsL v (i + 1) := by
      have : ∀ (l acc : List (List Int)), l.foldl (fun acc r => acc ++ extL v r) acc = acc ++ l.flatMap (extL v) := by
        intro l
        induction l with
        | nil => intro acc; simp
        | cons a l ih => intro acc; rw [List.foldl_cons, ih, List.flatMap_cons, List.append_assoc]
      rw [this]; rfl
    rw [e1] at this
    simp only [List.map_nil] at this
    rw [this]
    rfl
def OkTab (v : Nat) (l : List Int) (t : List (List Int × Int)) : Prop := (t.map (·.1)).Sublist (rowsL v l.length) ∧ ∀ p ∈ t, 0 ≤ p.2 ∧ p.2 ≤ 100
/-- each scope with its table -/
inductive Tabs (v : Nat) : List (List Int) → List (List (List Int × Int)) → Prop
  | nil : Tabs v [] []
  | cons {l : List Int} {t : List (List Int × Int)} {ls : List (List Int)} {ts : List (List (List Int × Int))} : OkTab v l t → Tabs v ls ts → Tabs v (l :: ls) (t :: ts)
theorem Tabs.snoc {v : Nat} {l : List Int} {t : List (List Int × Int)} (h : OkTab v l t) : ∀ {ls : List (List Int)} {ts : List (List (List Int × Int))}, Tabs v ls ts → Tabs v (ls ++ [l]) (ts ++ [t])
  | _, _, .nil => .cons h .nil
  | _, _, .cons g r => .cons g (r.snoc h)
theorem Tabs.length {v : Nat} : ∀ {ls : List (List Int)} {ts : List (List (List Int × Int))}, Tabs v ls ts → ts.length = ls.length
  | _, _, .nil => rfl
  | _, _, .cons _ r => by simp [r.length]
theorem each_pairs {G : PV → PV → Prop} {Q : Int → Prop} (h : ∀ x y, G x y → ∃ c, y = .tup [x, .int c] ∧ Q c) : ∀ {rs : List (List Int)} {ys : List PV}, Each G (rs.map tI) ys → ∃ t : List (List Int × Int), ys = t.map rowP ∧ t.map (·.1) = rs ∧ ∀ p ∈ t, Q p.2
  | [], _, .nil => ⟨[], rfl, rfl, by simp⟩
  | r :: rs, _, .cons g t => by
    obtain ⟨c, e, q⟩ := h _ _ g
    obtain ⟨ts, e1, e2, q2⟩ := each_pairs h t
    subst e e1
    exact ⟨(r, c) :: ts, rfl, by simp [e2], fun p hp => (List.mem_cons.mp hp).elim (fun e => by rw [e]; exact q) (q2 p)⟩
abbrev tbsP (tabs : List (List (List Int × Int))) : PV := .tup (tabs.map tabP)
theorem tables_ok (s : St) (v : Nat) (sc : List (List Int)) (ed : List (Int × Int)) (h : OkG v sc ed) : Ok (m__law_tables s.p (gP v sc ed)) fun r => ∃ (tabs : List (List (List Int × Int))) (s' : St), r = (tbsP tabs, s'.p) ∧ Tabs v sc tabs ∧ ∀ t ∈ tabs, ∀ p ∈ t, p.2 ≤ 11 := by
  have hv : v ≤ 3 := by rcases h.v with h | h <;> omega
  unfold m__law_tables
  simp only [g_1, Option.bind_some, seqOf_tup]
  refine Ok.bind (Ok.fld (P := fun rem w => ∃ (s : St) (a b : List (List Int)) (tabs : List (List (List Int × Int))), w = (s.p, .lst (tabs.map tabP)) ∧ a ++ b = sc ∧ rem = b.map tI ∧ Tabs v a tabs ∧ ∀ t ∈ tabs, ∀ p ∈ t, p.2 ≤ 11) ?_ ?_ ?_)
  · exact ⟨s, [], sc, [], rfl, rfl, rfl, .nil, by simp⟩
  · rintro x xs w ⟨s, a, b, tabs, rfl, hs, hr, ht, hc⟩
    cases b with
    | nil => cases hr
    | cons l b =>
    rw [List.map_cons] at hr
    cases hr
    have hl := (h.ss l (by rw [← hs]; simp)).2.2
    have hlen : a.length ≤ 5 := by have := congrArg List.length hs; have := h.n1; simp at *; omega
    have tl := ht.length
    simp only [g_0, lenF_tup, Option.bind_some, List.length_map]
    rw [rows_ok v l.length hv (by omega)]
    simp only [Option.bind_some, seqOf_lst]
    refine Ok.bind (Ok.cmpS (P := fun w => ∃ s : St, w = s.p) (G := fun x y => y = x) ⟨s, rfl⟩ ?_ ?_)
    · rintro x _ _ ⟨s, rfl⟩
      obtain ⟨d, s', hd0, hd, e⟩ := next_ok s 4 (by decide) (by decide)
      by_cases hz : 0 < d
      · exact Ok.of (v := (some x, s'.p)) (by simp [e, hz]) ⟨⟨s', rfl⟩, fun y hy => by cases hy; rfl⟩
      · exact Ok.of (v := (none, s'.p)) (by simp [e, hz]) ⟨⟨s', rfl⟩, fun y hy => by cases hy⟩
    rintro ys _ ⟨s2, rfl⟩ c3
    obtain ⟨rs0, rfl, c5⟩ := made_same (f := tI) (fun a y g => g) c3
    refine Ok.bind (Ok.imp (Q' := fun r => ∃ (rs : List (List Int)) (s3 : St), r = (s3.p, .lst (rs.map tI)) ∧ rs.Sublist (rowsL v l.length)) ?_ ?_)
    · obtain ⟨d, s3, hd0, hd, e3⟩ := next_ok s2 9 (by decide) (by decide)
      by_cases hz : d = 0
      · subst hz
        exact Ok.of (v := (s3.p, .lst [])) (by simp [e3]) ⟨[], s3, rfl, List.nil_sublist _⟩
      · exact Ok.of (v := (s3.p, .lst (rs0.map tI))) (by simp [e3, hz]) ⟨rs0, s3, rfl, c5⟩
    rintro _ ⟨rs, s3, rfl, hrs⟩
    simp only [asL_l, Option.bind_some, seqOf_lst]
    refine Ok.bind (Ok.cmpT (P := fun w => ∃ s : St, w = s.p) (G := fun x y => ∃ c : Int, y = .tup [x, .int c] ∧ (0 ≤ c ∧ c ≤ 11)) ⟨s3, rfl⟩ ?_ ?_)
    · rintro x _ _ ⟨s, rfl⟩
      obtain ⟨d, s1, hd0, hd, e1⟩ := next_ok s 2 (by decide) (by decide)
      by_cases hz : d = 0
      · subst hz
        obtain ⟨c, s2, hc0, hc, e2⟩ := next_ok s1 4 (by decide) (by decide)
        exact Ok.of (v := (.tup [x, .int c], s2.p)) (by simp [e1, e2]) ⟨⟨c, rfl, hc0, by omega⟩, s2, rfl⟩
      · have h1 : d = 1 := by omega
        subst h1
        obtain ⟨c, s2, hc0, hc, e2⟩ := next_ok s1 12 (by decide) (by decide)
        exact Ok.of (v := (.tup [x, .int c], s2.p)) (by simp [e1, e2]) ⟨⟨c, rfl, hc0, by omega⟩, s2, rfl⟩
    rintro ys _ ⟨s4, rfl⟩ c6
    obtain ⟨t, rfl, d1, d2⟩ := each_pairs (Q := fun c => 0 ≤ c ∧ c ≤ 11) (fun x y h => h) c6
    have ha := appendF_ok (tabs.map tabP) (tabP t) (by simp; omega)
    refine Ok.of (v := (s4.p, .lst ((tabs ++ [t]).map tabP))) (by simp [ha]) ⟨s4, a ++ [l], b, tabs ++ [t], rfl, by rw [List.append_assoc]; exact hs, rfl, ht.snoc ⟨by rw [d1]; exact hrs, fun p hp => by have := d2 p hp; omega⟩, fun t' ht' p hp => ?_⟩
    rcases List.mem_append.mp ht' with z | z
    · exact hc t' z p hp
    · simp at z; subst z; exact (d2 p hp).2
  · rintro w ⟨s', a, b, tabs, rfl, h1, h2, h3, h4⟩
    cases b with
    | cons _ _ => cases h2
    | nil =>
      rw [List.append_nil] at h1
      subst h1
      exact Ok.of (v := (tbsP tabs, s'.p)) (by simp) ⟨tabs, s', rfl, h3, h4⟩
end QQ

namespace QQ
open PP WK
/-! ### the variables of nodes -/
abbrev ndI (ns : List Nat) : List PV := ns.map fun i : Nat => .int (i : Int)
def scA (sc : List (List Int)) (i : Nat) : List Int := sc.getD i []
def nin (acc : List Int) (x : Int) : Bool := !decide (x ∈ acc)
theorem nin_iff {acc : List Int} {x : Int} : nin acc x = true ↔ x ∉ acc := by simp [nin]
def foundL (sc : List (List Int)) : List Nat → List Int → List Int
  | [], acc => acc
  | i :: r, acc => foundL sc r (acc ++ (scA sc i).filter (nin acc))
def varsL (sc : List (List Int)) (ns : List Nat) : List Int := sortI (foundL sc ns [])
theorem scA_mem {sc : List (List Int)} {i : Nat} (h : i < sc.length) : scA sc i ∈ sc := by
  unfold scA; rw [List.getD_eq_getElem?_getD, List.getElem?_eq_getElem h]; exact List.getElem_mem h
theorem sc_at {sc : List (List Int)} {i : Nat} (h : i < sc.length) : getF (scP sc) (.int (i : Int)) = some (tI (scA sc i)) :=
  getF_seq rfl (by unfold scA; simp [List.getElem?_map, List.getElem?_eq_getElem h, List.getD_eq_getElem?_getD])
theorem found_sub (sc : List (List Int)) : ∀ (ns : List Nat) (acc : List Int), (∀ x ∈ acc, x ∈ foundL sc ns acc) ∧ ∀ i ∈ ns, ∀ x ∈ scA sc i, x ∈ foundL sc ns acc
  | [], acc => ⟨fun x h => h, by simp⟩
  | i :: r, acc => by
    obtain ⟨a, b⟩ := found_sub sc r (acc ++ (scA sc i).filter (nin acc))
    refine ⟨fun x h => a x (List.mem_append_left _ h), fun j hj x hx => ?_⟩
    rcases List.mem_cons.mp hj with e | hj
    · subst e
      refine a x ?_
      by_cases h : x ∈ acc
      · exact List.mem_append_left _ h
      · exact List.mem_append_right _ (List.mem_filter.mpr ⟨hx, nin_iff.mpr h⟩)
    · exact b j hj x hx
theorem found_nodup (sc : List (List Int)) (hs : ∀ l ∈ sc, OkS l) : ∀ (ns : List Nat) (acc : List Int), acc.Nodup → (∀ x ∈ acc, 0 ≤ x ∧ x < 6) → (foundL sc ns acc).Nodup ∧ ∀ x ∈ foundL sc ns acc, 0 ≤ x ∧ x < 6
  | [], acc, h, hb => ⟨h, hb⟩
  | i :: r, acc, h, hb => by
    have hok : OkS (scA sc i) := by
      unfold scA
      rw [List.getD_eq_getElem?_getD]
      cases e : sc[i]? with
      | none => exact ⟨.nil, by simp, by simp⟩
      | some l => exact hs l (List.mem_of_getElem? e)
    refine found_nodup sc hs r _ ?_ ?_
    · rw [List.nodup_append]
      refine ⟨h, (hok.1.imp fun {a b} h => by omega).sublist List.filter_sublist, fun a ha b hb e => ?_⟩
      subst e
      exact nin_iff.mp (List.mem_filter.mp hb).2 ha
    · intro x hx
      rcases List.mem_append.mp hx with hx | hx
      · exact hb x hx
      · exact hok.2.1 x (List.mem_filter.mp hx).1
theorem asc_len : ∀ {l : List Int} {a b : Int}, l.Pairwise (· < ·) → (∀ x ∈ l, a ≤ x ∧ x < b) → a ≤ b → (l.length : Int) ≤ b - a
  | [], _, _, _, _, h => by simp; omega
  | x :: r, a, b, h, hb, hab => by
    rw [List.pairwise_cons] at h
    have hx := hb x List.mem_cons_self
    have := asc_len (a := x + 1) (b := b) h.2 (fun y hy => ⟨by have := h.1 y hy; omega, (hb y (List.mem_cons_of_mem _ hy)).2⟩) (by omega)
    rw [List.length_cons]
    omega
theorem vars_asc (sc : List (List Int)) (hs : ∀ l ∈ sc, OkS l) (ns : List Nat) : (varsL sc ns).Pairwise (· < ·) ∧ (∀ x ∈ varsL sc ns, 0 ≤ x ∧ x < 6) ∧ (varsL sc ns).length ≤ 6 := by
  obtain ⟨h1, h2⟩ := found_nodup sc hs ns [] .nil (by simp)
  have p := sortI_perm (foundL sc ns [])
  have nd : (varsL sc ns).Nodup := (p.nodup_iff).mpr h1
  have pw : (varsL sc ns).Pairwise (· < ·) := ((sortI_sorted _).and nd).imp fun {a b} h => by have := h.1; have := h.2; omega
  have b : ∀ x ∈ varsL sc ns, 0 ≤ x ∧ x < 6 := fun x hx => h2 x (p.mem_iff.mp hx)
  refine ⟨pw, b, ?_⟩
  have := asc_len pw b (by decide)
  omega
theorem vars_mem (sc : List (List Int)) (ns : List Nat) (i : Nat) (hi : i ∈ ns) (x : Int) (hx : x ∈ scA sc i) : x ∈ varsL sc ns := (sortI_perm _).mem_iff.mpr ((found_sub sc ns []).2 i hi x hx)
theorem foundL_eq (sc : List (List Int)) : ∀ (ns : List Nat) (acc : List Int), ns.foldl (fun acc i => acc ++ (scA sc i).filter (nin acc)) acc = foundL sc ns acc
  | [], acc => rfl
  | i :: r, acc => by rw [List.foldl_cons, foundL_eq sc r]; rfl
theorem found_len (sc : List (List Int)) (hs : ∀ l ∈ sc, OkS l) (ns : List Nat) : (foundL sc ns []).length ≤ 6 := by
  have := (sortI_perm (foundL sc ns [])).length_eq
  have h6 := (vars_asc sc hs ns).2.2
  unfold varsL at h6
  omega
theorem variables_ok (v : Int) (sc : List (List Int)) (ed : List (Int × Int)) (hs : ∀ l ∈ sc, OkS l) (d : PV) (ns : List Nat) (hd : seqOf d = some (ndI ns)) (hn : ∀ i ∈ ns, i < sc.length) :
    m__law_variables (gP v sc ed) d = some (.fup ((varsL sc ns).map PV.int)) := by
  unfold m__law_variables
  simp only [hd, Option.bind_some]
  have := (fldM_map (f := fun (w2 : PV) (x1 : PV) => ((getF (gP v sc ed) (.int 1)).bind fun t6 => (getF t6 x1).bind fun t7 => (seqOf t7).bind fun l8 => cmpG (fun (x4 : PV) => (notInF x4 w2).bind fun t9 => (asBl t9).bind fun b10 => if b10 = true then some (some x4) else some none) l8).bind fun (y11 : List PV) => (addF w2 (.lst y11)).bind fun t12 => some t12)
    (E := fun acc : List Int => PV.lst (acc.map PV.int)) (g := fun i : Nat => PV.int (i : Int)) (k := fun acc i => acc ++ (scA sc i).filter (nin acc)) (fun _ acc => acc.length ≤ 6 ∧ acc.Nodup ∧ ∀ x ∈ acc, 0 ≤ x ∧ x < 6) ns 0 [] (fun j acc i hi _ _ hI => by
      have hlt := hn i hi
      have e := sc_at hlt
      have c := cmpG_map (f := fun (x4 : PV) => (notInF x4 (.lst (acc.map PV.int))).bind fun t9 => (asBl t9).bind fun b10 => if b10 = true then some (some x4) else some none) (g := PV.int) (h := PV.int) (p := nin acc) (xs := scA sc i) (fun x _ => by simp [nin])
      have h1 := found_nodup sc hs [i] acc hI.2.1 hI.2.2
      have h2 : foundL sc [i] acc = acc ++ (scA sc i).filter (nin acc) := rfl
      rw [h2] at h1
      have hl : (acc ++ (scA sc i).filter (nin acc)).length ≤ 6 := by
        have hs2 : (sortI (acc ++ (scA sc i).filter (nin acc))).Pairwise (· < ·) := ((sortI_sorted _).and ((sortI_perm _).nodup_iff.mpr h1.1)).imp fun {a b} h => by have := h.1; have := h.2; omega
        have := asc_len (a := 0) (b := 6) hs2 (fun x hx => h1.2 x ((sortI_perm _).mem_iff.mp hx)) (by decide)
        rw [(sortI_perm _).length_eq] at this
        omega
      have ha := addL_ok (acc.map PV.int) (((scA sc i).filter (nin acc)).map PV.int) (by rw [List.length_append] at hl; simp only [List.length_map]; omega)
      refine ⟨?_, hl, h1.1, h1.2⟩
      simp only [g_1, Option.bind_some, e, seqOf_tup, c, ha, List.map_append]) ⟨by simp, .nil, by simp⟩).1
  rw [foundL_eq] at this
  simp only [List.map_nil] at this
  rw [this]
  simp only [Option.bind_some, sortedF_ints]
  rfl
/-! scope_of: the same, by a dict -/
def dkP (ks : List Int) : PV := .dk (ks.map fun k => (Sum.inl k, PV.bl true))
def insK (ks : List Int) (x : Int) : List Int := if x ∈ ks then ks else ks ++ [x]
theorem set_dk (ks : List Int) (x : Int) (h : ks.length < 1000) : setF (dkP ks) (.int x) (.bl true) = some (dkP (insK ks x)) := by
  unfold dkP
  simp only [setF, toKey, Option.map_some, List.length_map]
  rw [if_pos (by omega)]
  congr 2
  unfold putP insK
  have e : (ks.map fun k => ((Sum.inl k : L2.Key), PV.bl true)).any (fun kv => decide (kv.1 = Sum.inl x)) = decide (x ∈ ks) := by
    rw [List.any_map]
    by_cases h : x ∈ ks
    · rw [decide_eq_true h, List.any_eq_true]; exact ⟨x, h, by simp⟩
    · rw [decide_eq_false h, List.any_eq_false]
      intro z hz
      simp only [Function.comp, Sum.inl.injEq, decide_eq_true_eq]
      rintro rfl; exact h hz
  rw [e]
  by_cases h : x ∈ ks
  · rw [if_pos (by simpa using h), if_pos h, List.map_map]
    apply List.map_congr_left
    intro k _
    simp only [Function.comp]
    split <;> rfl
  · rw [if_neg (by simpa using h), if_neg h, List.map_append]
    rfl
theorem ins_all : ∀ {l ks : List Int}, l.Nodup → l.foldl insK ks = ks ++ l.filter (nin ks)
  | [], ks, _ => by simp
  | x :: l, ks, h => by
    rw [List.nodup_cons] at h
    rw [List.foldl_cons, ins_all h.2]
    unfold insK
    by_cases hx : x ∈ ks
    · rw [if_pos hx, List.filter_cons_of_neg (by rw [nin_iff]; simpa using hx)]
    · rw [if_neg hx, List.filter_cons_of_pos (nin_iff.mpr hx), List.append_assoc, List.singleton_append]
      congr 2
      apply List.filter_congr
      intro y hy
      have hne : y ≠ x := fun e => h.1 (e ▸ hy)
      unfold nin
      simp [hne]
theorem intKeys_dk : ∀ ks : List Int, intKeys (ks.map fun k => ((Sum.inl k : L2.Key), PV.bl true)) = some ks
  | [] => rfl
  | k :: ks => by simp [intKeys, intKeys_dk ks]
theorem ins_eq (sc : List (List Int)) (hs : ∀ l ∈ sc, OkS l) : ∀ (ns : List Nat) (acc : List Int), (∀ i ∈ ns, i < sc.length) → ns.foldl (fun acc i => (scA sc i).foldl insK acc) acc = foundL sc ns acc
  | [], acc, _ => rfl
  | i :: r, acc, hn => by
    have hok := hs _ (scA_mem (hn i List.mem_cons_self))
    rw [List.foldl_cons, ins_all (hok.1.imp fun {a b} h => by omega), ins_eq sc hs r _ fun j hj => hn j (List.mem_cons_of_mem _ hj)]
    rfl
theorem scope_of_ok (v : Int) (sc : List (List Int)) (ed : List (Int × Int)) (hs : ∀ l ∈ sc, OkS l) (d : PV) (ns : List Nat) (hd : seqOf d = some (ndI ns)) (hn : ∀ i ∈ ns, i < sc.length) (hl : ns.length ≤ 100) :
    m_scope_of (gP v sc ed) d = some (tI (varsL sc ns)) := by
  unfold m_scope_of
  simp only [hd, Option.bind_some]
  have := (fldM_map (f := fun (w2 : PV) (x1 : PV) => ((getF (gP v sc ed) (.int 1)).bind fun t6 => (getF t6 x1).bind fun t7 => (seqOf t7).bind fun l8 => fldM (fun (w5 : PV) (x4 : PV) => (setF w5 x4 (.bl true)).bind fun d9 => some d9) l8 w2).bind fun (k10 : PV) => some k10)
    (E := dkP) (g := fun i : Nat => PV.int (i : Int)) (k := fun acc i => (scA sc i).foldl insK acc) (fun j acc => acc.length ≤ 3 * j) ns 0 [] (fun j acc i hi _ hj hI => by
      have hlt := hn i hi
      have e := sc_at hlt
      have hok := hs _ (scA_mem hlt)
      have hl3 := hok.2.2
      have f1 := fldM_map (f := fun (w5 : PV) (x4 : PV) => (setF w5 x4 (.bl true)).bind fun d9 => some d9) (E := dkP) (g := PV.int) (k := insK) (fun q ks => ks.length ≤ acc.length + q) (scA sc i) 0 acc (fun q ks x _ _ hq hI2 => by
        have hk : (insK ks x).length ≤ ks.length + 1 := by unfold insK; split <;> simp
        exact ⟨by rw [set_dk ks x (by omega)]; rfl, by omega⟩) (by omega)
      refine ⟨?_, by have := f1.2; omega⟩
      simp only [g_1, Option.bind_some, e, seqOf_tup, f1.1]) (by simp)).1
  rw [ins_eq sc hs ns [] hn] at this
  have hd0 : PV.dk [] = dkP [] := rfl
  rw [hd0, this]
  have hlen := found_len sc hs ns
  have hs : sortedDF [dkP (foundL sc ns [])] = some (.lst ((sortI (foundL sc ns [])).map PV.int)) := by
    simp only [sortedDF, dkP, intKeys_dk, Option.bind_some]
    rw [if_pos (by omega)]
  simp only [Option.bind_some, hs, tupleF_lst]
  rfl
/-! ### parts of rows -/
def rA (row : List Int) (i : Nat) : Int := row.getD i 0
def partL (row vars l : List Int) : List Int := l.map fun x => rA row (vars.idxOf x)
theorem index_ok (vars : List Int) (x : Int) (h : x ∈ vars) : indexF (.fup (vars.map PV.int)) [.int x] = some (.int (vars.idxOf x : Nat)) := by
  simp only [indexF, toInts_ints, Option.bind_some]
  rw [if_pos h]
theorem cut_ok (row vars l : List Int) (d : PV) (hd : seqOf d = some (l.map PV.int)) (hl : row.length = vars.length) (hs : ∀ x ∈ l, x ∈ vars) :
    m__law_cut (tI row) (.fup (vars.map PV.int)) d = some (tI (partL row vars l)) := by
  unfold m__law_cut
  simp only [hd, Option.bind_some, isSeqI_f, guard1_true]
  rw [cmpM_map (h := fun x => PV.int (rA row (vars.idxOf x))) fun x hx => by
    have hlt : vars.idxOf x < row.length := by rw [hl]; exact List.idxOf_lt_length_of_mem (hs x hx)
    have hg : getF (tI row) (.int (vars.idxOf x : Nat)) = some (.int (rA row (vars.idxOf x))) := getF_seq rfl (by unfold rA; rw [List.getElem?_map, List.getElem?_eq_getElem hlt, List.getD_eq_getElem?_getD, List.getElem?_eq_getElem hlt]; rfl)
    simp only [index_ok vars x (hs x hx), Option.bind_some, hg]]
  simp [partL, Function.comp_def]
/-- picking by the place is picking by the pairs -/
theorem pick_pairs : ∀ {vars row l : List Int}, vars.Pairwise (· < ·) → l.Pairwise (· < ·) → (∀ x ∈ l, x ∈ vars) → row.length = vars.length → ((vars.zip row).filter fun p => decide (p.1 ∈ l)).map (·.2) = partL row vars l
  | [], _, l, _, _, hs, _ => by
    have : l = [] := by
      cases l with
      | nil => rfl
      | cons x r => exact absurd (hs x List.mem_cons_self) (by simp)
    subst this
    rfl
  | a :: vars, [], _, _, _, _, h => by simp at h
  | a :: vars, x :: row, l, hv, hl, hs, h => by
    rw [List.pairwise_cons] at hv
    have step : ∀ l' : List Int, (∀ y ∈ l', y ∈ vars) → partL (x :: row) (a :: vars) l' = partL row vars l' := fun l' h' => by
      unfold partL
      apply List.map_congr_left
      intro y hy
      have hy' := h' y hy
      have hne : a ≠ y := fun e => by have := hv.1 y hy'; omega
      unfold rA
      have e : List.idxOf y (a :: vars) = List.idxOf y vars + 1 := by
        rw [List.idxOf_cons]
        have hb : (a == y) = false := by simpa using hne
        rw [hb]
        rfl
      rw [e]
      rfl
    by_cases ha : a ∈ l
    · -- it is the first of l
      cases l with
      | nil => cases ha
      | cons b r =>
        rw [List.pairwise_cons] at hl
        have e : a = b := by
          rcases List.mem_cons.mp ha with e | ha
          · exact e
          · have h1 := hl.1 a ha
            rcases List.mem_cons.mp (hs b List.mem_cons_self) with e | hb
            · exact e.symm
            · have := hv.1 b hb; omega
        subst e
        have hr : ∀ y ∈ r, y ∈ vars := fun y hy => by
          rcases List.mem_cons.mp (hs y (List.mem_cons_of_mem _ hy)) with e | h
          · have := hl.1 y hy; omega
          · exact h
        have ih := pick_pairs (l := r) hv.2 hl.2 hr (by simpa using h)
        rw [List.zip_cons_cons, List.filter_cons_of_pos (by simp), List.map_cons]
        have e2 : (vars.zip row).filter (fun p => decide (p.1 ∈ a :: r)) = (vars.zip row).filter fun p => decide (p.1 ∈ r) := by
          apply List.filter_congr
          intro p hp
          have := hv.1 p.1 (List.of_mem_zip hp).1
          have hne : p.1 ≠ a := by omega
          simp [hne]
        rw [e2, ih, ← step r hr]
        unfold partL rA
        simp
    · have hr : ∀ y ∈ l, y ∈ vars := fun y hy => by
        rcases List.mem_cons.mp (hs y hy) with e | h
        · exact absurd (e ▸ hy) ha
        · exact h
      have ih := pick_pairs (l := l) hv.2 hl hr (by simpa using h)
      rw [List.zip_cons_cons, List.filter_cons_of_neg (by simpa using ha), ih, step l hr]
theorem cut_to_ok (row vars l : List Int) (d : PV) (hd : ∀ x : Int, inF (.int x) d = some (.bl (decide (x ∈ l)))) (hv : vars.Pairwise (· < ·)) (hp : l.Pairwise (· < ·)) (hs : ∀ x ∈ l, x ∈ vars) (hl : row.length = vars.length) :
    m_cut_to (tI row) (tI vars) d = some (tI (partL row vars l)) := by
  unfold m_cut_to
  simp only [zipF_tt, Option.bind_some]
  rw [cmpG_map (h := fun p => PV.int p.2) (p := fun p => decide (p.1 ∈ l)) fun p _ => by simp [hd]]
  simp [← pick_pairs hv hp hs hl, Function.comp_def]
end QQ

namespace QQ
open PP WK
/-! ### checks -/
theorem number_ok (i a b : Int) : m_is_number (.int i) (.int a) (.int b) = some (.bl (decide (a ≤ i) && decide (i ≤ b))) := by
  unfold m_is_number
  by_cases h : a ≤ i <;> simp [h]
theorem whole_ok (i a b : Int) : m_is_whole (.int i) (.int a) (.int b) = some (.bl (decide (a ≤ i) && decide (i ≤ b))) := by
  unfold m_is_whole
  by_cases h : a ≤ i <;> simp [h]
theorem rgO1_int (j : Int) (h : -100 ≤ j ∧ j ≤ 16777216) : rgO1 (.int j) = some (0, j) := by
  show (if _ then _ else _) = _
  rw [if_pos (by omega)]
/-- each less than the next -/
theorem climb_ok (d : PV) (xs : List PV) (hs : seqOf d = some xs) (hl : xs.length ≤ 1000000) (h : ∀ (i : Nat) (x y : PV), xs[i]? = some x → xs[i + 1]? = some y → ltF x y = some (.bl true)) : m_is_climbing d = some (.bl true) := by
  have hn : lenF [d] = some (.int xs.length) := by simp [lenF, hs]
  unfold m_is_climbing
  simp only [hn, Option.bind_some, subF_int]
  rw [rgO1_int _ (by omega)]
  simp only [Option.bind_some, rgL_def]
  rw [show ((xs.length : Int) - 1 - 0).toNat = xs.length - 1 by omega]
  rw [← rgN_rng]
  unfold rgN
  rw [cmp_all fun i hi => by
    have hi := List.mem_range.mp hi
    have l1 : i < xs.length := by omega
    have l2 : i + 1 < xs.length := by omega
    have g1 : getF d (.int i) = some xs[i] := getF_seq hs (List.getElem?_eq_getElem l1)
    have g2 : getF d (.int (i + 1)) = some xs[i + 1] := getF_seq (k := i + 1) hs (List.getElem?_eq_getElem l2)
    have g3 := h i _ _ (List.getElem?_eq_getElem l1) (List.getElem?_eq_getElem l2)
    simp [g1, g2, g3]]
  simp only [Option.bind_some, all_true]
theorem pw_at {α : Type} {R : α → α → Prop} {f : α → PV} {l : List α} (h : l.Pairwise R) (hf : ∀ a b, R a b → ltF (f a) (f b) = some (.bl true)) (i : Nat) (x y : PV) (hx : (l.map f)[i]? = some x) (hy : (l.map f)[i + 1]? = some y) : ltF x y = some (.bl true) := by
  rw [List.getElem?_map] at hx hy
  obtain ⟨a, ha, rfl⟩ := Option.map_eq_some_iff.mp hx
  obtain ⟨b, hb, rfl⟩ := Option.map_eq_some_iff.mp hy
  obtain ⟨h1, e1⟩ := List.getElem?_eq_some_iff.mp ha
  obtain ⟨h2, e2⟩ := List.getElem?_eq_some_iff.mp hb
  subst e1 e2
  exact hf _ _ (List.pairwise_iff_getElem.mp h i (i + 1) h1 h2 (by omega))
theorem lt_pE (p q : Int × Int) (h : lt2 p q) : ltF (pE p) (pE q) = some (.bl true) := by
  have e := lt_tI [p.1, p.2] [q.1, q.2]
  have : HT.lexLt [p.1, p.2] [q.1, q.2] = true := by
    simp only [HT.lexLt]
    rcases h with h | ⟨h1, h2⟩
    · rw [if_neg (by omega)]; simpa using h
    · rw [if_pos h1, if_neg (by omega)]; simpa using h2
  rw [this] at e
  exact e
theorem variables_chk (l : List Int) (h : OkS l) : m_are_variables (tI l) = some (.bl true) := by
  have cl := climb_ok (tI l) (l.map PV.int) rfl (by have := h.2.2; simp; omega) (pw_at h.1 fun a b hab => by simp [hab])
  unfold m_are_variables
  simp only [isTy_tt, truthF_bl, Option.bind_some, seqOf_tup]
  rw [cmp_all fun x hx => by have := h.2.1 x hx; simp [whole_ok]; omega]
  simp [all_true, cl]
theorem scope_chk (l : List Int) (h : OkS l) : m_is_scope (tI l) = some (.bl true) := by
  have hl : (l.length : Int) ≤ 3 := by have := h.2.2; omega
  unfold m_is_scope
  simp [variables_chk l h, hl]
theorem edge_chk (p : Int × Int) (m : Int) (h0 : 0 ≤ p.1) (h1 : p.1 < p.2) (h2 : p.2 < m) : m_is_edge (pE p) (.int m) = some (.bl true) := by
  unfold m_is_edge
  simp only [pE_t, truthF_bl, Option.bind_some, pE_l, pE_q, subF_int, number_ok]
  have a1 := all_true [p.1, p.2]
  simp only [List.map_cons, List.map_nil] at a1
  have : p.1 ≤ m - 1 := by omega
  have : p.2 ≤ m - 1 := by omega
  have : 0 ≤ p.2 := by omega
  simp [cmpM, number_ok, *]
theorem graph_chk (v : Int) (sc : List (List Int)) (ed : List (Int × Int)) (h : OkG v sc ed) : m_is_graph (gP v sc ed) = some (.bl true) := by
  have hv := h.v
  have n0 : (1 : Int) ≤ sc.length := by have := h.n0; omega
  have n1 : (sc.length : Int) ≤ 5 := by have := h.n1; omega
  have w1 : decide ((2 : Int) ≤ v) = true := by simp; omega
  have w2 : decide (v ≤ (3 : Int)) = true := by simp; omega
  unfold m_is_graph
  simp only [g_t, truthF_bl, Option.bind_some, g_l, g_0, number_ok, w1, w2, g_u, isTy_tt, lenF_tup, List.length_map, seqOf_tup]
  rw [cmp_all fun l hl => by simp [scope_chk l (h.ss l hl)]]
  simp only [Option.bind_some, all_true, truthF_bl]
  rw [cmp_all fun p hp => by
    obtain ⟨a1, a2, a3⟩ := h.es p hp
    simp [edge_chk p sc.length a1 a2 a3]]
  have el := h.el
  simp only [Option.bind_some, all_true, truthF_bl, subF_int]
  rw [rgO1_int _ (by omega)]
  simp only [Option.bind_some, rgL_def]
  rw [show ((ed.length : Int) - 1 - 0).toNat = ed.length - 1 by omega, ← rgN_rng]
  unfold rgN
  rw [cmp_all fun i hi => by
    have hi := List.mem_range.mp hi
    have l1 : i < (ed.map pE).length := by simp; omega
    have l2 : i + 1 < (ed.map pE).length := by simp; omega
    have g1 : getF (edP ed) (.int i) = some (ed.map pE)[i] := getF_seq rfl (List.getElem?_eq_getElem l1)
    have g2 : getF (edP ed) (.int (i + 1)) = some (ed.map pE)[i + 1] := getF_seq (k := i + 1) rfl (List.getElem?_eq_getElem l2)
    have g3 := pw_at h.eo (fun a b => lt_pE a b) i _ _ (List.getElem?_eq_getElem l1) (List.getElem?_eq_getElem l2)
    simp only [addF_int, Option.bind_some, g1, g2, g3]]
  simp [all_true, n0, n1]
@[simp] theorem checkg_ok {v : Int} {sc : List (List Int)} {ed : List (Int × Int)} (h : OkG v sc ed) : m_check_graph (gP v sc ed) = some .non := by
  simp [m_check_graph, graph_chk v sc ed h]
theorem row_chk (v : Nat) (l r : List Int) (hr : r ∈ rowsL v l.length) : m_is_row (.int v) (tI l) (tI r) = some (.bl true) := by
  obtain ⟨hl, hb⟩ := rowsL_mem hr
  unfold m_is_row
  simp only [isTy_tt, truthF_bl, Option.bind_some, lenF_tup, List.length_map, hl, neF_int, seqOf_tup, subF_int]
  rw [cmp_all fun x hx => by have := hb x hx; simp [whole_ok]; omega]
  simp [all_true]
theorem rowof_chk (v : Nat) (r : List Int) (n : Nat) (hr : r ∈ rowsL v n) : m_is_row_of (.int v) (tI r) (.int n) = some (.bl true) := by
  obtain ⟨hl, hb⟩ := rowsL_mem hr
  unfold m_is_row_of
  simp only [isTy_tt, truthF_bl, Option.bind_some, lenF_tup, List.length_map, hl, neF_int, seqOf_tup, subF_int]
  rw [cmp_all fun x hx => by have := hb x hx; simp [number_ok]; omega]
  simp [all_true]
theorem table_chk (v : Nat) (hv : v ≤ 3) (l : List Int) (hl : l.length ≤ 3) (t : List (List Int × Int)) (h : OkTab v l t) : m_is_table (.int v) (tI l) (tabP t) = some (.bl true) := by
  have hasc : (t.map (·.1)).Pairwise fun a b => HT.lexLt a b = true := (rowsL_asc v l.length).sublist h.1
  have hlen : t.length ≤ 729 := by
    have := h.1.length_le
    rw [rowsL_len, List.length_map] at this
    exact Nat.le_trans this (pow3 hv (by omega))
  have cl := climb_ok (.lst ((t.map (·.1)).map tI)) ((t.map (·.1)).map tI) rfl (by simp; omega) (pw_at hasc fun a b hab => by rw [lt_tI, hab])
  unfold m_is_table
  simp only [isTy_tt, truthF_bl, Option.bind_some, seqOf_tup]
  rw [fldR_find (p := fun _ => false) (v := fun _ => PV.non) fun p hp => by
    have hrow := row_chk v l p.1 (h.1.subset (List.mem_map_of_mem hp))
    obtain ⟨q0, q1⟩ := h.2 p hp
    simp [hrow, whole_ok, q0, q1]]
  have : t.find? (fun _ => false) = none := by simp
  simp only [this]
  rw [cmpM_map (h := fun p : List Int × Int => tI p.1) fun p _ => by simp]
  rw [List.map_map] at cl
  simpa [Function.comp_def] using cl
theorem tabs_mem {v : Nat} : ∀ {sc : List (List Int)} {tabs : List (List (List Int × Int))}, Tabs v sc tabs → ∀ p ∈ sc.zip tabs, OkTab v p.1 p.2 ∧ p.1 ∈ sc
  | _, _, .nil => by simp
  | _, _, .cons (l := l) (t := t) h r => by
    intro p hp
    rw [List.zip_cons_cons, List.mem_cons] at hp
    rcases hp with rfl | hp
    · exact ⟨h, by simp⟩
    · obtain ⟨a, b⟩ := tabs_mem r p hp
      exact ⟨a, List.mem_cons_of_mem _ b⟩
theorem tables_chk (v : Nat) (sc : List (List Int)) (ed : List (Int × Int)) (h : OkG v sc ed) (tabs : List (List (List Int × Int))) (ht : Tabs v sc tabs) : m_are_tables (gP v sc ed) (tbsP tabs) = some (.bl true) := by
  have hv : v ≤ 3 := by rcases h.v with h | h <;> omega
  unfold m_are_tables
  simp only [isTy_tt, truthF_bl, Option.bind_some, lenF_tup, List.length_map, g_1, neF_int, zipF_tt, g_0]
  rw [cmp_all fun p hp => by
    obtain ⟨a, b⟩ := tabs_mem ht p hp
    simp [table_chk v hv p.1 (h.ss _ b).2.2 p.2 a]]
  simp [all_true, ht.length]
@[simp] theorem checkt_ok {v : Nat} {sc : List (List Int)} {ed : List (Int × Int)} (h : OkG v sc ed) {tabs : List (List (List Int × Int))} (ht : Tabs v sc tabs) : m_check_tables (gP v sc ed) (tbsP tabs) = some .non := by
  unfold m_check_tables
  simp [checkg_ok h, tables_chk v sc ed h tabs ht]
/-! ### all nodes -/
def allN (sc : List (List Int)) : List Nat := List.range sc.length
theorem allN_lt {sc : List (List Int)} : ∀ i ∈ allN sc, i < sc.length := fun i hi => by simpa [allN] using hi
theorem rgN_all (sc : List (List Int)) : rgN sc.length = ndI (allN sc) := rfl
abbrev varsA (sc : List (List Int)) : List Int := varsL sc (allN sc)
theorem variables_of_ok {v : Int} {sc : List (List Int)} {ed : List (Int × Int)} (h : OkG v sc ed) : m_variables_of (gP v sc ed) = some (tI (varsA sc)) := by
  have n1 := h.n1
  unfold m_variables_of
  simp only [g_1, Option.bind_some, lenF_tup, List.length_map]
  rw [rgO1_nat (by omega)]
  simp only [Option.bind_some, rgL_nat, rgN_all]
  rw [scope_of_ok v sc ed h.ss _ (allN sc) rfl allN_lt (by simp [allN]; omega)]
  rfl
theorem checkr_ok {v : Nat} {sc : List (List Int)} {ed : List (Int × Int)} (h : OkG v sc ed) {r : List Int} (hr : r ∈ rowsL v (varsA sc).length) : m_check_row (gP v sc ed) (tI r) = some .non := by
  have c := rowof_chk v r _ hr
  unfold m_check_row
  simp [variables_of_ok h, c]
end QQ

namespace QQ
open PP WK
/-! ### solutions -/
def tbA (tabs : List (List (List Int × Int))) (i : Nat) : List (List Int × Int) := tabs.getD i []
theorem tb_at {tabs : List (List (List Int × Int))} {i : Nat} (h : i < tabs.length) : getF (tbsP tabs) (.int (i : Int)) = some (tabP (tbA tabs i)) :=
  getF_seq rfl (by unfold tbA; simp [List.getElem?_map, List.getElem?_eq_getElem h, List.getD_eq_getElem?_getD])
def hasP (t : List (List Int × Int)) (part : List Int) : Bool := t.any fun p => decide (p.1 = part)
/-- the costs of the rows that are the part -/
def prs (t : List (List Int × Int)) (part : List Int) : List Int := (t.filter fun p => decide (p.1 = part)).map (·.2)
theorem prs_nil {t : List (List Int × Int)} {part : List Int} : prs t part = [] ↔ hasP t part = false := by
  unfold prs hasP
  rw [List.map_eq_nil_iff, List.filter_eq_nil_iff, List.any_eq_false]
def partN (sc : List (List Int)) (vars row : List Int) (i : Nat) : List Int := partL row vars (scA sc i)
def badN (sc : List (List Int)) (tabs : List (List (List Int × Int))) (vars row : List Int) (i : Nat) : Bool := !hasP (tbA tabs i) (partN sc vars row i)
/-- a row's cost, none where a node rejects it -/
def costF (sc : List (List Int)) (tabs : List (List (List Int × Int))) (vars row : List Int) : List Nat → Int → Option Int
  | [], c => some c
  | i :: ns, c => match prs (tbA tabs i) (partN sc vars row i) with
    | [] => none
    | q :: _ => costF sc tabs vars row ns (c + q)
def costR (sc : List (List Int)) (tabs : List (List (List Int × Int))) (ns : List Nat) (row : List Int) : Option Int := costF sc tabs (varsL sc ns) row ns 0
theorem cost_none (sc : List (List Int)) (tabs : List (List (List Int × Int))) (vars row : List Int) : ∀ (ns : List Nat) (c : Int), costF sc tabs vars row ns c = none ↔ (ns.find? (badN sc tabs vars row)) ≠ none
  | [], c => by simp [costF]
  | i :: ns, c => by
    unfold costF
    split
    · rename_i h
      have := prs_nil.mp h
      rw [List.find?_cons_of_pos (by unfold badN; rw [this]; rfl)]
      simp
    · rename_i h
      have hb : hasP (tbA tabs i) (partN sc vars row i) = true := by
        cases e : hasP (tbA tabs i) (partN sc vars row i) with
        | true => rfl
        | false => rw [prs_nil.mpr e] at h; cases h
      rw [List.find?_cons_of_neg (by unfold badN; rw [hb]; simp)]
      exact cost_none sc tabs vars row ns _
def optI : Option Int → PV
  | none => .non
  | some i => .int i
def optP : Option Nat → PV
  | none => .non
  | some i => .int (i : Int)
/-- what all walks over solutions know -/
structure Sit (v : Nat) (sc : List (List Int)) (ed : List (Int × Int)) (tabs : List (List (List Int × Int))) (ns : List Nat) (d : PV) : Prop where
  ss : ∀ l ∈ sc, OkS l
  v3 : v ≤ 3
  tl : tabs.length = sc.length
  nq : seqOf d = some (ndI ns)
  nb : ∀ i ∈ ns, i < sc.length
  nl : ns.length ≤ 100
section
variable {v : Nat} {sc : List (List Int)} {ed : List (Int × Int)} {tabs : List (List (List Int × Int))} {ns : List Nat} {d : PV} {row : List Int}
theorem Sit.cut (S : Sit v sc ed tabs ns d) (hr : row.length = (varsL sc ns).length) {i : Nat} (hi : i ∈ ns) : m_cut_to (tI row) (tI (varsL sc ns)) (tI (scA sc i)) = some (tI (partN sc (varsL sc ns) row i)) :=
  cut_to_ok row _ _ _ (fun x => inF_t x _) (vars_asc sc S.ss _).1 (S.ss _ (scA_mem (S.nb i hi))).1 (vars_mem sc ns i hi) hr
theorem Sit.lcut (S : Sit v sc ed tabs ns d) (hr : row.length = (varsL sc ns).length) {i : Nat} (hi : i ∈ ns) : m__law_cut (tI row) (.fup ((varsL sc ns).map PV.int)) (tI (scA sc i)) = some (tI (partN sc (varsL sc ns) row i)) :=
  cut_ok row _ _ _ rfl hr (vars_mem sc ns i hi)
theorem Sit.scp (S : Sit v sc ed tabs ns d) : m_scope_of (gP v sc ed) d = some (tI (varsL sc ns)) := scope_of_ok v sc ed S.ss d ns S.nq S.nb S.nl
theorem Sit.lsc (S : Sit v sc ed tabs ns d) : m__law_variables (gP v sc ed) d = some (.fup ((varsL sc ns).map PV.int)) := variables_ok v sc ed S.ss d ns S.nq S.nb
theorem Sit.tb (S : Sit v sc ed tabs ns d) {i : Nat} (hi : i ∈ ns) : getF (tbsP tabs) (.int (i : Int)) = some (tabP (tbA tabs i)) := tb_at (by rw [S.tl]; exact S.nb i hi)
theorem first_ok (S : Sit v sc ed tabs ns d) (hr : row.length = (varsL sc ns).length) : m_first_rejecting (gP v sc ed) (tbsP tabs) d (tI row) = some (optP (ns.find? (badN sc tabs (varsL sc ns) row))) := by
  unfold m_first_rejecting
  simp only [S.scp, Option.bind_some, S.nq]
  rw [fldR_find (p := badN sc tabs (varsL sc ns) row) (v := fun i : Nat => PV.int (i : Int)) fun i hi => by
    simp only [g_1, Option.bind_some, sc_at (S.nb i hi), S.cut hr hi, S.tb hi, seqOf_tup]
    rw [cmpM_map (h := fun p : List Int × Int => PV.bl (decide (p.1 = partN sc (varsL sc ns) row i))) fun p _ => by simp]
    simp only [Option.bind_some, anyF_map, truthF_bl]
    rfl]
  cases ns.find? (badN sc tabs (varsL sc ns) row) <;> rfl
theorem prices_eq {part : List Int} {t : List (List Int × Int)} : cmpG (fun (x8 : PV) => (un2 x8).bind fun (u12 : PV × PV) => (eqF u12.1 (tI part)).bind fun t13 => (asBl t13).bind fun b14 => if b14 = true then some (some u12.2) else some none) (t.map rowP) = some ((prs t part).map PV.int) := by
  rw [cmpG_map (p := fun p => decide (p.1 = part)) (h := fun p => PV.int p.2) fun p _ => by simp]
  unfold prs
  simp [Function.comp_def]
/-- the program's cost of a row that is accepted -/
theorem price_ok (S : Sit v sc ed tabs ns d) (hr : row.length = (varsL sc ns).length) {c : Int} (hc : costR sc tabs ns row = some c) : m_price_of (gP v sc ed) (tbsP tabs) d (tI row) = some (.int c) := by
  unfold m_price_of
  simp only [S.scp, Option.bind_some, S.nq]
  have key : ∀ (ms : List Nat) (a : Int) (f : PV → PV → Option PV), (∀ i ∈ ms, i ∈ ns) → (∀ (i : Nat) (a : Int), i ∈ ms → ∀ q r, prs (tbA tabs i) (partN sc (varsL sc ns) row i) = q :: r → f (.int a) (.int (i : Int)) = some (.int (a + q))) → costF sc tabs (varsL sc ns) row ms a = some c → fldM f (ndI ms) (.int a) = some (.int c) := by
    intro ms
    induction ms with
    | nil => intro a f _ _ h; cases h; rfl
    | cons i ms ih =>
      intro a f hm hf h
      unfold costF at h
      split at h
      · cases h
      · rename_i q r e
        show fldM f (PV.int (i : Int) :: ndI ms) (.int a) = _
        rw [fldM, hf i a List.mem_cons_self q r e, Option.bind_some]
        exact ih _ f (fun j hj => hm j (List.mem_cons_of_mem _ hj)) (fun j a hj => hf j a (List.mem_cons_of_mem _ hj)) h
  rw [key ns 0 _ (fun i h => h) (fun i a hi q r e => by
    simp only [g_1, Option.bind_some, sc_at (S.nb i hi), S.cut hr hi, S.tb hi, seqOf_tup, prices_eq, e, List.map_cons, getF_l0, addF_int]) hc]
  rfl
/-- the law's -/
theorem lcost_ok (S : Sit v sc ed tabs ns d) (hr : row.length = (varsL sc ns).length) : m__law_cost (gP v sc ed) (tbsP tabs) d (tI row) = some (optI (costR sc tabs ns row)) := by
  unfold m__law_cost
  simp only [S.lsc, Option.bind_some, S.nq]
  have key : ∀ (ms : List Nat) (a : Int) (f : PV → PV → Option (PV ⊕ PV)), (∀ (i : Nat) (a : Int), i ∈ ms → f (.int a) (.int (i : Int)) = some (match prs (tbA tabs i) (partN sc (varsL sc ns) row i) with | [] => .inr .non | q :: _ => .inl (.int (a + q)))) → fldR f (ndI ms) (.int a) = some (match costF sc tabs (varsL sc ns) row ms a with | none => .inr .non | some c => .inl (.int c)) := by
    intro ms
    induction ms with
    | nil => intro a f _; rfl
    | cons i ms ih =>
      intro a f hf
      show fldR f (PV.int (i : Int) :: ndI ms) (.int a) = _
      rw [fldR, hf i a List.mem_cons_self, Option.bind_some]
      unfold costF
      split
      · rename_i s' e1
        split at e1
        · cases e1
        · rename_i q r e
          cases e1
          exact ih _ f fun j a hj => hf j a (List.mem_cons_of_mem _ hj)
      · rename_i s' e1
        split at e1
        · rename_i e
          cases e1
          rfl
        · cases e1
  rw [key ns 0 _ fun i a hi => by
    simp only [g_1, Option.bind_some, sc_at (S.nb i hi), S.lcut hr hi, S.tb hi, seqOf_tup, prices_eq]
    cases e : prs (tbA tabs i) (partN sc (varsL sc ns) row i) with
    | nil => rfl
    | cons q r => simp [truthF]]
  unfold costR
  cases costF sc tabs (varsL sc ns) row ns 0 <;> rfl
/-- all solutions -/
def solsL (v : Nat) (sc : List (List Int)) (tabs : List (List (List Int × Int))) (ns : List Nat) : List (List Int × Int) := (rowsL v (varsL sc ns).length).filterMap fun r => (costR sc tabs ns r).map fun c => (r, c)
theorem rows_of_ok (v n : Nat) (hv : v ≤ 3) (hn : n ≤ 6) : m_rows_of (.int v) (.int n) = some (.lst ((rowsL v n).map tI)) := by
  unfold m_rows_of
  rw [rgO1_nat (by omega)]
  simp only [Option.bind_some, rgL_nat]
  have key : ∀ m, m ≤ n → ∀ (f : PV → PV → Option PV), (∀ i x, i < n → f (.lst ((rowsL v i).map tI)) x = some (.lst ((rowsL v (i + 1)).map tI))) → fldM f (rgN m) (.lst [.tup []]) = some (.lst ((rowsL v m).map tI)) := by
    intro m
    induction m with
    | zero => intro _ f _; rfl
    | succ m ih =>
      intro hm f hf
      have e : ∀ (l : List PV) (y s : PV), fldM f (l ++ [y]) s = (fldM f l s).bind fun s' => f s' y := by
        intro l y
        induction l with
        | nil => intro s; simp [fldM]
        | cons a l ih2 =>
          intro s
          rw [List.cons_append, fldM, fldM, Option.bind_assoc]
          congr 1; funext s'
          exact ih2 s'
      rw [show rgN (m + 1) = rgN m ++ [.int (m : Int)] by simp [rgN, List.range_succ], e, ih (by omega) f hf, Option.bind_some]
      exact hf m _ (by omega)
  rw [key n (Nat.le_refl _) _ fun i x hi => ?_]
  · rfl
  · have hb := rowsL_len v (i + 1)
    have h3 := pow3 (v := v) (n := i + 1) hv (by omega)
    simp only [seqOf_lst, Option.bind_some]
    rw [cmpB_map (h := fun r => (extL v r).map tI) fun r hr => by
      have hrl := (rowsL_mem hr).1
      rw [rgO1_nat (by omega)]
      simp only [Option.bind_some, rgL_nat]
      rw [cmpM_list (h := fun x => PV.tup (r.map PV.int ++ [x])) fun x _ => by
        have := addT_ok (r.map PV.int) [x] (by simp; omega)
        simp [this]]
      rw [rng_ext]]
    have e : (rowsL v i).flatMap (fun r => (extL v r).map tI) = (rowsL v (i + 1)).map tI := by
      rw [rowsL, List.map_flatMap]
    rw [e, Option.bind_some, mLim_ok _ (by rw [List.length_map]; omega)]
    rfl
/-- a fold that keeps some -/
theorem fld_some {β : Type} (f : PV → PV → Option PV) (h : List Int → Option β) (g : List Int × β → PV) : ∀ (rs : List (List Int)) (acc : List (List Int × β)), (∀ r ∈ rs, ∀ acc : List (List Int × β), acc.length ≤ 1000 → f (.lst (acc.map g)) (tI r) = some (.lst ((acc ++ (match h r with | none => [] | some c => [(r, c)])).map g))) → acc.length + rs.length ≤ 1000 →
    fldM f (rs.map tI) (.lst (acc.map g)) = some (.lst ((acc ++ rs.filterMap fun r => (h r).map fun c => (r, c)).map g))
  | [], acc, _, _ => by simp [fldM]
  | r :: rs, acc, hf, hl => by
    rw [List.length_cons] at hl
    rw [List.map_cons, fldM, hf r List.mem_cons_self acc (by omega), Option.bind_some, fld_some f h g rs _ (fun q hq => hf q (List.mem_cons_of_mem _ hq)) (by rw [List.length_append]; split <;> simp <;> omega), List.filterMap_cons]
    cases h r <;> simp
theorem Sit.vl (S : Sit v sc ed tabs ns d) : (varsL sc ns).length ≤ 6 := (vars_asc sc S.ss ns).2.2
theorem sols_ok (S : Sit v sc ed tabs ns d) : m_solutions_by (gP v sc ed) (tbsP tabs) d = some (.lst ((solsL v sc tabs ns).map rowP)) := by
  have h3 := pow3 S.v3 S.vl
  unfold m_solutions_by
  simp only [g_0, Option.bind_some, S.scp, lenF_tup, List.length_map]
  rw [rows_of_ok v _ S.v3 S.vl]
  simp only [Option.bind_some, seqOf_lst]
  have := fld_some (f := fun (w2 : PV) (x1 : PV) => ((m_first_rejecting (gP v sc ed) (tbsP tabs) d x1).bind fun (t8 : PV) => (isNF t8 .non).bind fun t9 => (asBl t9).bind fun b10 => if b10 = true then (asL w2).bind fun _ => (m_price_of (gP v sc ed) (tbsP tabs) d x1).bind fun (t11 : PV) => (asL w2).bind fun l12 => (appendF l12 [(.tup [x1, t11])]).bind fun (z13 : PV × List PV) => some (.lst z13.2) else some w2).bind fun (k14 : PV) => some k14)
    (costR sc tabs ns) rowP (rowsL v (varsL sc ns).length) [] (fun r hr acc ha => by
      have hl := (rowsL_mem hr).1
      have a := appendF_ok (acc.map rowP)
      cases hc : costR sc tabs ns r with
      | none =>
        have := (cost_none sc tabs (varsL sc ns) r ns 0).mp hc
        obtain ⟨i, hi⟩ := Option.ne_none_iff_exists'.mp this
        simp [first_ok S hl, hi, optP]
      | some c =>
        have hn : ns.find? (badN sc tabs (varsL sc ns) r) = none := by
          by_cases h : ns.find? (badN sc tabs (varsL sc ns) r) = none
          · exact h
          · have := (cost_none sc tabs (varsL sc ns) r ns 0).mpr h
            unfold costR at hc
            rw [this] at hc; cases hc
        have a := appendF_ok (acc.map rowP) (.tup [tI r, .int c]) (by simp; omega)
        simp [first_ok S hl, hn, optP, price_ok S hl hc, a, rowP]) (by rw [rowsL_len]; simp; omega)
  simp only [List.map_nil, List.nil_append] at this
  rw [this]
  rfl
theorem lsols_ok (S : Sit v sc ed tabs ns d) : m__law_solutions (gP v sc ed) (tbsP tabs) d = some (.lst ((solsL v sc tabs ns).map rowP)) := by
  have h3 := pow3 S.v3 S.vl
  unfold m__law_solutions
  simp only [g_0, Option.bind_some, S.lsc, lenF_fup, List.length_map]
  rw [rows_ok v _ S.v3 S.vl]
  simp only [Option.bind_some, seqOf_lst]
  have := fld_some (f := fun (w2 : PV) (x1 : PV) => (m__law_cost (gP v sc ed) (tbsP tabs) d x1).bind fun (t8 : PV) => ((notNF t8 .non).bind fun t9 => (asBl t9).bind fun b10 => if b10 = true then (asL w2).bind fun _ => (asL w2).bind fun l11 => (appendF l11 [(.tup [x1, t8])]).bind fun (z12 : PV × List PV) => some (.lst z12.2) else some w2).bind fun (k13 : PV) => some k13)
    (costR sc tabs ns) rowP (rowsL v (varsL sc ns).length) [] (fun r hr acc ha => by
      have hl := (rowsL_mem hr).1
      cases hc : costR sc tabs ns r with
      | none => simp [lcost_ok S hl, hc, optI]
      | some c =>
        have a := appendF_ok (acc.map rowP) (.tup [tI r, .int c]) (by simp; omega)
        simp [lcost_ok S hl, hc, optI, a, rowP]) (by rw [rowsL_len]; simp; omega)
  simp only [List.map_nil, List.nil_append] at this
  rw [this]
  rfl
end
end QQ

namespace QQ
open PP WK
/-! ### equality -/
def eqvs (xs ys : List PV) : Bool := PySem.PyData.eqvAll (toDs xs) (toDs ys)
theorem eqv_tt (xs ys : List PV) : eqv (.tup xs) (.tup ys) = eqvs xs ys := by simp only [eqv, eqvs, toD, PySem.PyData.eqv]
theorem eqv_tf (xs ys : List PV) : eqv (.tup xs) (.fup ys) = eqvs xs ys := by simp only [eqv, eqvs, toD, PySem.PyData.eqv]
theorem eqv_ft (xs ys : List PV) : eqv (.fup xs) (.tup ys) = eqvs xs ys := by simp only [eqv, eqvs, toD, PySem.PyData.eqv]
theorem eqv_ff (xs ys : List PV) : eqv (.fup xs) (.fup ys) = eqvs xs ys := by simp only [eqv, eqvs, toD, PySem.PyData.eqv]
theorem eqv_ll (xs ys : List PV) : eqv (.lst xs) (.lst ys) = eqvs xs ys := by simp only [eqv, eqvs, toD, PySem.PyData.eqv]
theorem eqvs_nil : eqvs [] [] = true := by simp [eqvs, toDs, PySem.PyData.eqvAll]
theorem eqvs_nc (y : PV) (ys : List PV) : eqvs [] (y :: ys) = false := by simp [eqvs, toDs, PySem.PyData.eqvAll]
theorem eqvs_cn (y : PV) (ys : List PV) : eqvs (y :: ys) [] = false := by simp [eqvs, toDs, PySem.PyData.eqvAll]
theorem eqvs_cons (x y : PV) (xs ys : List PV) : eqvs (x :: xs) (y :: ys) = (eqv x y && eqvs xs ys) := by simp [eqvs, eqv, toDs, PySem.PyData.eqvAll]
theorem eqvs_map {α : Type} [DecidableEq α] {f : α → PV} (h : ∀ a b, eqv (f a) (f b) = decide (a = b)) : ∀ xs ys : List α, eqvs (xs.map f) (ys.map f) = decide (xs = ys)
  | [], [] => by simp [eqvs_nil]
  | [], y :: ys => by simp [eqvs_nc]
  | x :: xs, [] => by simp [eqvs_cn]
  | x :: xs, y :: ys => by
    rw [List.map_cons, List.map_cons, eqvs_cons, h, eqvs_map h xs ys]
    by_cases h1 : x = y <;> by_cases h2 : xs = ys <;> simp [h1, h2]
theorem eqv_row (p q : List Int × Int) : eqv (rowP p) (rowP q) = decide (p = q) := by
  unfold rowP
  rw [eqv_tt, eqvs_cons, eqvs_cons, eqvs_nil, eqv_tI, eqv_int]
  by_cases h1 : p.1 = q.1 <;> by_cases h2 : p.2 = q.2 <;> simp [h1, h2, Prod.ext_iff]
theorem all_map {α : Type} {f : α → PV} {n : Nat} {l : List α} (h : ∀ a ∈ l, okD n (f a) = true) : (l.map f).all (okD n) = true := by
  rw [List.all_eq_true]
  intro x hx
  obtain ⟨a, ha, rfl⟩ := List.mem_map.mp hx
  exact h a ha
theorem okD_l {n : Nat} {l : List PV} (h : l.all (okD n) = true) : okD (n + 1) (.lst l) = true := by simpa [okD] using h
@[simp] theorem okD_row (n : Nat) (p : List Int × Int) : okD (n + 2) (rowP p) = true := by
  unfold rowP
  exact okD_tup (by simp [okD_tI, okD_int])
theorem eqF_ok {p q : PV} (h : okD 60 p = true) (h2 : okD 60 q = true) : eqF p q = some (.bl (eqv p q)) := by
  unfold eqF
  rw [h, h2]
  rfl
theorem neF_ok {p q : PV} (h : okD 60 p = true) (h2 : okD 60 q = true) : neF p q = some (.bl (!eqv p q)) := by
  unfold neF
  rw [h, h2]
  rfl
@[simp] theorem neF_row (p q : List Int × Int) : neF (rowP p) (rowP q) = some (.bl (!decide (p = q))) := by
  rw [neF_ok (okD_row 58 p) (okD_row 58 q), eqv_row]
theorem any_map_eqv {α : Type} [DecidableEq α] {f : α → PV} (h : ∀ a b, eqv (f a) (f b) = decide (a = b)) (x : α) (l : List α) : (l.map f).any (fun z => eqv z (f x)) = decide (x ∈ l) := by
  rw [List.any_map]
  have e : ((fun z => eqv z (f x)) ∘ f) = fun z => decide (z = x) := by funext z; exact h z x
  rw [e]
  by_cases hx : x ∈ l
  · rw [decide_eq_true hx, List.any_eq_true]; exact ⟨x, hx, by simp⟩
  · rw [decide_eq_false hx, List.any_eq_false]
    intro z hz
    simp only [decide_eq_true_eq]
    rintro rfl
    exact hx hz
theorem inF_rows (r : List Int) (l : List (List Int)) : inF (tI r) (.lst (l.map tI)) = some (.bl (decide (r ∈ l))) := by
  simp only [inF, seqOf_lst]
  rw [okD_tI 59, okD_l (all_map fun a _ => okD_tI 58 a), any_map_eqv eqv_tI]
  simp
theorem findIdx_eqv {α : Type} [DecidableEq α] [BEq α] [LawfulBEq α] {f : α → PV} (h : ∀ a b, eqv (f a) (f b) = decide (a = b)) (x : α) : ∀ (l : List α), x ∈ l → (l.map f).findIdx? (fun y => eqv y (f x)) = some (l.idxOf x)
  | [], hx => by simp at hx
  | a :: l, hx => by
    rw [List.map_cons, List.findIdx?_cons, h, List.idxOf_cons]
    by_cases e : a = x
    · subst e; simp
    · have hx' : x ∈ l := by
        rcases List.mem_cons.mp hx with z | z
        · exact absurd z.symm e
        · exact z
      have hb : (a == x) = false := by simpa using e
      rw [findIdx_eqv h x l hx', hb]
      simp [e]
theorem indexF_rows (r : List Int) (l : List (List Int)) (h : r ∈ l) : indexF (.lst (l.map tI)) [tI r] = some (.int (l.idxOf r : Nat)) := by
  simp only [indexF]
  rw [okD_l (n := 59) (all_map fun a _ => okD_tI 58 a), okD_tI 59, findIdx_eqv eqv_tI r l h]
  simp
@[simp] theorem neF_bl (a b : Bool) : neF (.bl a) (.bl b) = some (.bl (!decide (a = b))) := by cases a <;> cases b <;> rfl
@[simp] theorem eqF_bl (a b : Bool) : eqF (.bl a) (.bl b) = some (.bl (decide (a = b))) := by cases a <;> cases b <;> rfl
/-! ### what all laws begin with -/
theorem start_ok {β : Type} {Q : β → Prop} {k : PV → PV × PV → Option β} (ns : List Int)
    (h : ∀ (v : Nat) (sc : List (List Int)) (ed : List (Int × Int)) (tabs : List (List (List Int × Int))) (s : St), OkG v sc ed → sc.length ≤ 4 → Tabs v sc tabs → (∀ t ∈ tabs, ∀ p ∈ t, p.2 ≤ 11) → Ok (k (gP v sc ed) (tbsP tabs, s.p)) Q) :
    Ok ((m__law_stream (.lst (ns.map PV.int))).bind fun t1 => (m__law_graph t1 (.int 4)).bind fun (t2 : PV × PV) => (m__law_tree t2.2 (.int 4)).bind fun (t3 : PV × PV) => (m__law_next t3.2 (.int 2)).bind fun (t4 : PV × PV) => (getF (.lst [t2.1, t3.1]) t4.1).bind fun t5 => (m__law_tables t4.2 t5).bind fun (t6 : PV × PV) => k t5 t6) Q := by
  refine Ok.bind (Ok.of (stream_ok ns) ?_)
  have g1 : Ok (m__law_graph (St.p ⟨ns, 0, 0, by decide⟩) (.int 4)) _ := graph_ok ⟨ns, 0, 0, by decide⟩ 4 (by decide)
  refine Ok.then g1 ?_
  rintro _ ⟨v1, sc1, ed1, s1, rfl, o1, l1⟩
  have g2 : Ok (m__law_tree s1.p (.int 4)) _ := tree_ok s1 4 (by decide)
  refine Ok.then g2 ?_
  rintro _ ⟨v2, sc2, ed2, s2, rfl, o2, l2, _⟩
  refine Ok.then (nextOk s2 2 (by decide) (by decide)) ?_
  rintro _ ⟨d, s3, hd0, hd, rfl⟩
  obtain ⟨v, sc, ed, o, l, hg⟩ : ∃ v sc ed, OkG v sc ed ∧ sc.length ≤ 4 ∧ getF (.lst [gP v1 sc1 ed1, gP v2 sc2 ed2]) (.int d) = some (gP v sc ed) := by
    by_cases hz : d = 0
    · subst hz; exact ⟨v1, sc1, ed1, o1, l1, by simp⟩
    · have h1 : d = 1 := by omega
      subst h1; exact ⟨v2, sc2, ed2, o2, l2, by simp⟩
  refine Ok.bind (Ok.of hg ?_)
  obtain ⟨vn, rfl⟩ : ∃ vn : Nat, v = vn := by
    rcases o.v with h | h
    · exact ⟨2, h⟩
    · exact ⟨3, h⟩
  refine Ok.then (tables_ok s3 vn sc ed o) ?_
  rintro _ ⟨tabs, s4, rfl, ht, hc⟩
  exact h vn sc ed tabs s4 o l ht hc
section
variable {v : Nat} {sc : List (List Int)} {ed : List (Int × Int)} {tabs : List (List (List Int × Int))}
theorem sit (o : OkG v sc ed) (ht : Tabs v sc tabs) {ns : List Nat} {d : PV} (nq : seqOf d = some (ndI ns)) (nb : ∀ i ∈ ns, i < sc.length) (nl : ns.length ≤ 100) : Sit v sc ed tabs ns d :=
  ⟨o.ss, by rcases o.v with h | h <;> omega, ht.length, nq, nb, nl⟩
theorem sitA (o : OkG v sc ed) (ht : Tabs v sc tabs) : Sit v sc ed tabs (allN sc) (.lst (ndI (allN sc))) := sit o ht rfl allN_lt (by have := o.n1; simp [allN]; omega)
/-- list(range(len(graph[1]))) -/
theorem nodes_rg (o : OkG v sc ed) : rgO1 (.int (sc.length : Nat)) = some (0, (sc.length : Int)) := rgO1_nat (by have := o.n1; omega)
abbrev solsA (v : Nat) (sc : List (List Int)) (tabs : List (List (List Int × Int))) : List (List Int × Int) := solsL v sc tabs (allN sc)
theorem sols_of_ok (o : OkG v sc ed) (ht : Tabs v sc tabs) : m_solutions_of (gP v sc ed) (tbsP tabs) = some (.lst ((solsA v sc tabs).map rowP)) := by
  unfold m_solutions_of
  simp only [g_1, Option.bind_some, lenF_tup, List.length_map, nodes_rg o, rgL_nat, rgN_all, sols_ok (sitA o ht)]
theorem count_ok (o : OkG v sc ed) (ht : Tabs v sc tabs) : m_count_solutions (gP v sc ed) (tbsP tabs) = some (.int ((solsA v sc tabs).length : Nat)) := by
  unfold m_count_solutions
  simp [checkt_ok o ht, sols_of_ok o ht]
theorem sols_at (i : Nat) (h : i < (solsA v sc tabs).length) : getF (.lst ((solsA v sc tabs).map rowP)) (.int (i : Int)) = some (rowP (solsA v sc tabs)[i]) := getF_seq rfl (by simp [h])
theorem nth_ok (o : OkG v sc ed) (ht : Tabs v sc tabs) (i : Nat) (h : i < (solsA v sc tabs).length) : m_nth_solution (gP v sc ed) (tbsP tabs) (.int (i : Int)) = some (rowP (solsA v sc tabs)[i]) := by
  unfold m_nth_solution
  have h1 : (i : Int) ≤ ((solsA v sc tabs).length : Int) - 1 := by omega
  simp [checkt_ok o ht, sols_of_ok o ht, number_ok, h1, sols_at i h]
theorem sols_rows (v : Nat) (sc : List (List Int)) (tabs : List (List (List Int × Int))) (ns : List Nat) : ((solsL v sc tabs ns).map (·.1)).Sublist (rowsL v (varsL sc ns).length) := by
  unfold solsL
  induction rowsL v (varsL sc ns).length with
  | nil => exact .slnil
  | cons r rs ih =>
    rw [List.filterMap_cons]
    cases costR sc tabs ns r with
    | none => exact ih.cons r
    | some c => exact ih.cons₂ r
theorem sols_mem {ns : List Nat} {p : List Int × Int} : p ∈ solsL v sc tabs ns ↔ p.1 ∈ rowsL v (varsL sc ns).length ∧ costR sc tabs ns p.1 = some p.2 := by
  unfold solsL
  rw [List.mem_filterMap]
  constructor
  · rintro ⟨r, hr, e⟩
    obtain ⟨c, hc, rfl⟩ := Option.map_eq_some_iff.mp e
    exact ⟨hr, hc⟩
  · rintro ⟨h1, h2⟩
    exact ⟨p.1, h1, by rw [h2]; rfl⟩
theorem lex_irr (a : List Int) : HT.lexLt a a = false := by
  induction a with
  | nil => rfl
  | cons x r ih => rw [HT.lexLt_cons, if_pos rfl]; exact ih
theorem rowsL_nodup (v n : Nat) : (rowsL v n).Nodup := (rowsL_asc v n).imp fun {a b} h e => by subst e; rw [lex_irr] at h; cases h
theorem sols_nodup (v : Nat) (sc : List (List Int)) (tabs : List (List (List Int × Int))) (ns : List Nat) : ((solsL v sc tabs ns).map (·.1)).Nodup := (rowsL_nodup v _).sublist (sols_rows v sc tabs ns)
theorem index_of_ok (o : OkG v sc ed) (ht : Tabs v sc tabs) (r : List Int) (hr : r ∈ rowsL v (varsA sc).length) : m_index_of_solution (gP v sc ed) (tbsP tabs) (tI r) = some (match costR sc tabs (allN sc) r with | none => .non | some _ => .int ((((solsA v sc tabs).map (·.1)).idxOf r : Nat) : Int)) := by
  unfold m_index_of_solution
  simp only [checkt_ok o ht, Option.bind_some, checkr_ok o hr, sols_of_ok o ht, seqOf_lst]
  rw [cmpM_map (h := fun p : List Int × Int => tI p.1) fun p _ => by simp]
  have e : (solsA v sc tabs).map (fun p : List Int × Int => tI p.1) = ((solsA v sc tabs).map (·.1)).map tI := by rw [List.map_map]; rfl
  rw [e]
  simp only [Option.bind_some, inF_rows, asBl_ev]
  have key : r ∈ (solsA v sc tabs).map (·.1) ↔ costR sc tabs (allN sc) r ≠ none := by
    rw [List.mem_map]
    constructor
    · rintro ⟨p, hp, rfl⟩
      rw [(sols_mem.mp hp).2]; simp
    · intro h
      obtain ⟨c, hc⟩ := Option.ne_none_iff_exists'.mp h
      exact ⟨(r, c), sols_mem.mpr ⟨hr, hc⟩, rfl⟩
  cases hc : costR sc tabs (allN sc) r with
  | none =>
    have : ¬ r ∈ (solsA v sc tabs).map (·.1) := fun h => key.mp h hc
    simp [this]
  | some c =>
    have : r ∈ (solsA v sc tabs).map (·.1) := key.mpr (by rw [hc]; simp)
    rw [decide_eq_true this]
    simp only [if_true, isSeqI_l, guard1_true, Option.bind_some, indexF_rows r _ this]
end
end QQ

namespace QQ
open PP WK
/-! ### the order of rows -/
theorem lex_asym : ∀ {a b : List Int}, HT.lexLt a b = true → HT.lexLt b a = true → False
  | [], [], h, _ => by simp [HT.lexLt] at h
  | [], _ :: _, _, h => by simp [HT.lexLt] at h
  | _ :: _, [], h, _ => by simp [HT.lexLt] at h
  | x :: xs, y :: ys, h1, h2 => by
    rw [HT.lexLt_cons] at h1 h2
    by_cases e : x = y
    · rw [if_pos e] at h1; rw [if_pos e.symm] at h2
      exact lex_asym h1 h2
    · rw [if_neg e] at h1; rw [if_neg fun z => e z.symm] at h2
      simp at h1 h2; omega
theorem lex_tot : ∀ (a b : List Int), a ≠ b → HT.lexLt a b = true ∨ HT.lexLt b a = true
  | [], [], h => absurd rfl h
  | [], _ :: _, _ => .inl rfl
  | _ :: _, [], _ => .inr rfl
  | x :: xs, y :: ys, h => by
    rw [HT.lexLt_cons, HT.lexLt_cons]
    by_cases e : x = y
    · subst e
      have := lex_tot xs ys fun z => h (by rw [z])
      simpa using this
    · rw [if_neg e, if_neg fun z => e z.symm]
      simp; omega
abbrev LxR (a b : List Int) : Prop := HT.lexLt a b = true
theorem lx_uniq {l k : List (List Int)} (p : l.Perm k) (h1 : l.Pairwise LxR) (h2 : k.Pairwise LxR) : l = k := p.eq_of_pairwise (fun a b _ _ h1 h2 => (lex_asym h1 h2).elim) h1 h2
theorem lx_uniq1 {α : Type} {l k : List (List Int × α)} (p : l.Perm k) (h1 : l.Pairwise fun a b => LxR a.1 b.1) (h2 : k.Pairwise fun a b => LxR a.1 b.1) : l = k := p.eq_of_pairwise (fun a b _ _ h1 h2 => (lex_asym h1 h2).elim) h1 h2
theorem leP_of_dataLt (x y : PV) : leP x y = !PySem.W.dataLt (toD y) (toD x) := rfl
def unT : PV → List Int
  | .tup xs => xs.map unI
  | _ => []
theorem unT_tI (l : List Int) : unT (tI l) = l := by simp [unT, unI, Function.comp_def]
/-- rows, sorted -/
def srt (ks : List (List Int)) : List (List Int) := (sortL (ks.map tI)).map unT
theorem srt_eq (ks : List (List Int)) : sortL (ks.map tI) = (srt ks).map tI := (perm_map (f := tI) (g := unT) unT_tI (sortL_perm (ks.map tI))).1
theorem srt_perm (ks : List (List Int)) : (srt ks).Perm ks := (perm_map (f := tI) (g := unT) unT_tI (sortL_perm (ks.map tI))).2
theorem srt_asc {ks : List (List Int)} (h : ks.Nodup) : (srt ks).Pairwise LxR := by
  have pw := sortL_pw (ks.map tI)
  rw [srt_eq, List.pairwise_map] at pw
  have nd : (srt ks).Nodup := (srt_perm ks).nodup_iff.mpr h
  refine (pw.and nd).imp fun {a b} z => ?_
  have z1 : leP (tI a) (tI b) = true := z.1
  rw [leP_tup] at z1
  rcases lex_tot a b z.2 with h | h
  · exact h
  · rw [h] at z1; cases z1
theorem srt_uniq {ks l : List (List Int)} (h : ks.Nodup) (p : l.Perm ks) (a : l.Pairwise LxR) : srt ks = l := lx_uniq ((srt_perm ks).trans p.symm) (srt_asc h) a
/-! rows with costs, sorted -/
def unR : PV → List Int × Int
  | .tup [a, .int c] => (unT a, c)
  | _ => ([], 0)
theorem unR_row (p : List Int × Int) : unR (rowP p) = p := by
  show (unT (tI p.1), p.2) = p
  rw [unT_tI]
theorem alike_row (p q : List Int × Int) : PySem.W.alike (toD (rowP p)) (toD (rowP q)) = true := by
  simp only [rowP, toD, toDs, PySem.W.alike, PySem.W.alikeAll, toDs_ints, alikeAll_ints, Bool.and_self]
theorem comparable_rows (L : List (List Int × Int)) : comparable (L.map rowP) = true := by
  unfold comparable
  simp only [Bool.and_eq_true, List.all_eq_true, List.mem_map]
  refine ⟨⟨⟨?_, ?_⟩, ?_⟩, ?_⟩
  · rintro x ⟨p, _, rfl⟩; exact okD_row 58 p
  · unfold alikeB
    simp only [List.all_eq_true, List.mem_map]
    rintro x ⟨p, _, rfl⟩ y ⟨q, _, rfl⟩
    exact alike_row p q
  · rw [plainPs_all]
    simp only [List.all_eq_true, List.mem_map]
    rintro x ⟨p, _, rfl⟩
    simp [rowP, plainP, plainPs, plainPs_ints]
  · rintro x ⟨p, _, rfl⟩; rfl
theorem sortable_rows (L : List (List Int × Int)) : sortable (L.map rowP) = true := by
  unfold sortable
  simp only [Bool.or_eq_true, List.all_eq_true, List.mem_map]
  left; left
  rintro x ⟨p, _, rfl⟩
  rfl
theorem leP_row (p q : List Int × Int) (h : p.1 ≠ q.1) : leP (rowP p) (rowP q) = HT.lexLt p.1 q.1 := by
  have e1 : PySem.W.dataLt (toD (rowP q)) (toD (rowP p)) = HT.lexLt q.1 p.1 := by
    simp only [rowP, toD, toDs]
    rw [PySem.W.dataLt_pair (by simp only [PySem.W.alike, toDs_ints, alikeAll_ints]) (by simp [PySem.W.alike])]
    have ne : PySem.PyData.eqv (.tuple (toDs (q.1.map PV.int))) (.tuple (toDs (p.1.map PV.int))) = false := by
      have := eqv_tI q.1 p.1
      simp only [eqv, toD] at this
      rw [this]
      simpa using fun z => h z.symm
    rw [ne, if_neg (by simp)]
    have := leP_tup p.1 q.1
    rw [leP_of_dataLt] at this
    simp only [toD] at this
    have := congrArg (!·) this
    simpa using this
  rw [leP_of_dataLt, e1]
  rcases lex_tot p.1 q.1 h with z | z
  · rw [z]
    cases e : HT.lexLt q.1 p.1 with
    | false => rfl
    | true => exact (lex_asym z e).elim
  · rw [z]
    cases e : HT.lexLt p.1 q.1 with
    | false => rfl
    | true => exact (lex_asym e z).elim
theorem sortedF_rows (L : List (List Int × Int)) (h : (L.map (·.1)).Nodup) : ∃ M : List (List Int × Int), sortedF [.lst (L.map rowP)] = some (.lst (M.map rowP)) ∧ M.Perm L ∧ M.Pairwise fun a b => LxR a.1 b.1 := by
  obtain ⟨h1, h2⟩ := perm_map (f := rowP) (g := unR) unR_row (sortL_perm (L.map rowP))
  refine ⟨(sortL (L.map rowP)).map unR, ?_, h2, ?_⟩
  · simp only [sortedF]
    rw [comparable_rows, sortable_rows, ← h1]
    simp
  · have pw := sortL_pw (L.map rowP)
    rw [h1, List.pairwise_map] at pw
    have nd : ((sortL (L.map rowP)).map unR).Pairwise fun p q => p.1 ≠ q.1 := by
      have := ((h2.map (·.1)).nodup_iff).mpr h
      rwa [List.nodup_iff_pairwise_ne, List.pairwise_map] at this
    refine (pw.and nd).imp fun {p q} z => ?_
    have := z.1
    rwa [leP_row p q z.2] at this
/-! ### slices -/
theorem slice_to {α : Type} {f : α → PV} {xs : List α} {k : Nat} (h : k < xs.length) : sliceF (.tup (xs.map f)) none (some (k : Int)) = some (.tup ((xs.take k).map f)) := by
  simp only [sliceF, tupOf_tup, Option.bind_some, cutP, HT.sIx_none, HT.sIx_nat, List.length_map]
  rw [if_neg (by omega)]
  simp only [List.drop_zero, Nat.sub_zero, Nat.min_eq_left (Nat.le_of_lt h), List.map_take]
theorem slice_from {α : Type} {f : α → PV} {xs : List α} {k : Nat} (h : 0 < k) (h2 : k ≤ xs.length) : sliceF (.tup (xs.map f)) (some (k : Int)) none = some (.tup ((xs.drop k).map f)) := by
  simp only [sliceF, tupOf_tup, Option.bind_some, cutP, HT.sIx_none, HT.sIx_nat, List.length_map]
  rw [if_neg (by omega)]
  simp only [Nat.min_eq_left h2, List.map_drop]
  rw [List.take_of_length_le (by simp)]
/-! lists of rows compared -/
@[simp] theorem neF_rowsL (L M : List (List Int × Int)) : neF (.lst (L.map rowP)) (.lst (M.map rowP)) = some (.bl (!decide (L = M))) := by
  rw [neF_ok (okD_l (n := 59) (all_map fun a _ => okD_row 57 a)) (okD_l (n := 59) (all_map fun a _ => okD_row 57 a)), eqv_ll, eqvs_map eqv_row]
@[simp] theorem eqF_rowsL (L M : List (List Int × Int)) : eqF (.lst (L.map rowP)) (.lst (M.map rowP)) = some (.bl (decide (L = M))) := by
  rw [eqF_ok (okD_l (n := 59) (all_map fun a _ => okD_row 57 a)) (okD_l (n := 59) (all_map fun a _ => okD_row 57 a)), eqv_ll, eqvs_map eqv_row]
theorem notInF_rows (p : List Int × Int) (L : List (List Int × Int)) : notInF (rowP p) (.tup (L.map rowP)) = some (.bl (!decide (p ∈ L))) := by
  simp only [notInF, seqOf_tup]
  rw [okD_row 58, okD_tup (n := 59) (all_map fun a _ => okD_row 57 a), any_map_eqv eqv_row]
  simp
end QQ

namespace QQ
open PP WK
/-! ### dicts whose keys are rows -/
def kT (l : List Int) : List L2.Key := l.map Sum.inl
theorem kT_inj {a b : List Int} : kT a = kT b ↔ a = b := by
  constructor
  · intro h
    unfold kT at h
    exact (List.map_inj_right (fun _ _ e => Sum.inl.inj e)).mp h
  · rintro rfl; rfl
theorem toKeys_ints : ∀ l : List Int, toKeys (l.map PV.int) = some (kT l)
  | [] => rfl
  | x :: l => by
    rw [List.map_cons, toKeys, toKeys_ints l]
    rfl
def dtP (ks : List (List Int)) (g : List Int → PV) : PV := .dt (ks.map fun k => (kT k, g k))
def addK (ks : List (List Int)) (k : List Int) : List (List Int) := if k ∈ ks then ks else ks ++ [k]
def updK (g : List Int → PV) (k : List Int) (v : PV) (x : List Int) : PV := if x = k then v else g x
theorem look_dt (g : List Int → PV) (k : List Int) : ∀ ks : List (List Int), lookP (ks.map fun k => (kT k, g k)) (kT k) = if k ∈ ks then some (g k) else none
  | [] => rfl
  | q :: ks => by
    have ih := look_dt g k ks
    unfold lookP at *
    rw [List.map_cons, List.find?_cons]
    by_cases e : q = k
    · subst e
      simp
    · have e1 : decide (kT q = kT k) = false := by simpa [kT_inj] using e
      rw [e1]
      show Option.map _ (List.find? _ _) = _
      rw [ih]
      have : (k ∈ q :: ks) ↔ k ∈ ks := by rw [List.mem_cons]; exact ⟨fun h => h.elim (fun z => absurd z.symm e) id, .inr⟩
      by_cases h : k ∈ ks
      · rw [if_pos h, if_pos (this.mpr h)]
      · rw [if_neg h, if_neg fun z => h (this.mp z)]
theorem dget_dt (ks : List (List Int)) (g : List Int → PV) (k : List Int) : dgetF (dtP ks g) (tI k) = some (if k ∈ ks then some (g k) else none) := by
  show (toKeys (k.map PV.int)).map _ = _
  rw [toKeys_ints, Option.map_some, look_dt]
@[simp] theorem in_dt (ks : List (List Int)) (g : List Int → PV) (k : List Int) : inF (tI k) (dtP ks g) = some (.bl (decide (k ∈ ks))) := by
  show (dgetF (dtP ks g) (tI k)).map _ = _
  rw [dget_dt]
  by_cases h : k ∈ ks <;> simp [h]
theorem get_dt (ks : List (List Int)) (g : List Int → PV) (k : List Int) (h : k ∈ ks) : getF (dtP ks g) (tI k) = some (g k) := by
  show (dgetF (dtP ks g) (tI k)).bind id = _
  rw [dget_dt, if_pos h]
  rfl
theorem mget_dt (ks : List (List Int)) (g : List Int → PV) (k : List Int) (d : PV) : mgetF (dtP ks g) [tI k, d] = some (if k ∈ ks then g k else d) := by
  show (dgetF (dtP ks g) (tI k)).map _ = _
  rw [dget_dt]
  by_cases h : k ∈ ks <;> simp [h]
theorem set_dt (ks : List (List Int)) (g : List Int → PV) (k : List Int) (v : PV) (h : ks.length < 1000000) : setF (dtP ks g) (tI k) v = some (dtP (addK ks k) (updK g k v)) := by
  unfold dtP tI
  simp only [setF, toKeys_ints, Option.map_some, List.length_map]
  rw [if_pos h]
  congr 2
  unfold putP addK
  have e : (ks.map fun k => (kT k, g k)).any (fun kv => decide (kv.1 = kT k)) = decide (k ∈ ks) := by
    rw [List.any_map]
    by_cases h : k ∈ ks
    · rw [decide_eq_true h, List.any_eq_true]; exact ⟨k, h, by simp⟩
    · rw [decide_eq_false h, List.any_eq_false]
      intro z hz
      simp only [Function.comp, kT_inj, decide_eq_true_eq]
      rintro rfl; exact h hz
  rw [e]
  by_cases h : k ∈ ks
  · rw [if_pos (by simpa using h), if_pos h, List.map_map]
    apply List.map_congr_left
    intro q _
    simp only [Function.comp, kT_inj, updK]
    split <;> rfl
  · rw [if_neg (by simpa using h), if_neg h, List.map_append, List.map_singleton]
    congr 1
    · apply List.map_congr_left
      intro q hq
      have : q ≠ k := fun z => h (z ▸ hq)
      simp [updK, this]
    · simp [updK]
@[simp] theorem isDic_dt (ks : List (List Int)) (g : List Int → PV) : isDic (dtP ks g) = true := rfl
theorem dt_nil (g : List Int → PV) : PV.dt [] = dtP [] g := rfl
theorem dt_ext {ks : List (List Int)} {g h : List Int → PV} (e : ∀ k ∈ ks, g k = h k) : dtP ks g = dtP ks h := by
  unfold dtP
  congr 1
  apply List.map_congr_left
  intro k hk
  rw [e k hk]
theorem comparable_tIs (L : List (List Int)) : comparable (L.map tI) = true := by
  unfold comparable
  simp only [Bool.and_eq_true, List.all_eq_true, List.mem_map]
  refine ⟨⟨⟨?_, ?_⟩, ?_⟩, ?_⟩
  · rintro x ⟨p, _, rfl⟩; exact okD_tI 59 p
  · unfold alikeB
    simp only [List.all_eq_true, List.mem_map]
    rintro x ⟨p, _, rfl⟩ y ⟨q, _, rfl⟩
    simp only [tI, toD, PySem.W.alike, toDs_ints, alikeAll_ints]
  · rw [plainPs_all]
    simp only [List.all_eq_true, List.mem_map]
    rintro x ⟨p, _, rfl⟩
    simp [tI, plainP, plainPs_ints]
  · rintro x ⟨p, _, rfl⟩; rfl
theorem sortable_tIs {n : Nat} {L : List (List Int)} (hn : L.Nodup) (h : ∀ k ∈ L, k.length = n) : sortable (L.map tI) = true := by
  unfold sortable
  simp only [Bool.or_eq_true, List.all_eq_true, List.mem_map, decide_eq_true_eq, List.length_map]
  cases n with
  | zero =>
    right
    cases L with
    | nil => simp
    | cons a L =>
      cases L with
      | nil => simp
      | cons b L =>
        have ha := List.length_eq_zero_iff.mp (h a List.mem_cons_self)
        have hb := List.length_eq_zero_iff.mp (h b (List.mem_cons_of_mem _ List.mem_cons_self))
        subst ha hb
        simp at hn
  | succ n =>
    left; left
    rintro x ⟨p, hp, rfl⟩
    cases p with
    | nil => have := h _ hp; simp at this
    | cons a p => rfl
theorem sorted_dt {n : Nat} (ks : List (List Int)) (g : List Int → PV) (hn : ks.Nodup) (h : ∀ k ∈ ks, k.length = n) : sortedTF [dtP ks g] = some (.lst ((srt ks).map tI)) := by
  have e : (ks.map fun k => (kT k, g k)).map (fun p => keyT p.1) = ks.map tI := by
    rw [List.map_map]
    apply List.map_congr_left
    intro k _
    simp only [Function.comp, keyT, kT, List.map_map, tI]
    rfl
  unfold dtP
  simp only [sortedTF, e, comparable_tIs, sortable_tIs hn h, Bool.and_self, if_true, srt_eq]
/-! ### gathered: keys, counts, least costs -/
abbrev Tr := List Int × Int × Int
def trP (t : Tr) : PV := .tup [tI t.1, .int t.2.1, .int t.2.2]
/-- the keys in the order in which they are met -/
def keysL (L : List Tr) : List (List Int) := L.foldl (fun ks t => addK ks t.1) []
def cntL (L : List Tr) (k : List Int) : Int := ((L.filter fun t => decide (t.1 = k)).map (·.2.1)).sum
def mnL : List Int → Int
  | [] => 0
  | x :: xs => xs.foldl (fun a b => if b < a then b else a) x
def lstL (L : List Tr) (k : List Int) : Int := mnL ((L.filter fun t => decide (t.1 = k)).map (·.2.2))
theorem mn_snoc (l : List Int) (x : Int) (h : l ≠ []) : mnL (l ++ [x]) = if x < mnL l then x else mnL l := by
  cases l with
  | nil => exact absurd rfl h
  | cons a l => simp only [List.cons_append, mnL, List.foldl_append, List.foldl_cons, List.foldl_nil]; rfl
theorem fold_min : ∀ (l : List Int) (a : Int), let m := l.foldl (fun a b => if b < a then b else a) a; (m = a ∨ m ∈ l) ∧ m ≤ a ∧ ∀ x ∈ l, m ≤ x
  | [], a => by simp
  | b :: l, a => by
    simp only [List.foldl_cons]
    by_cases hb : b < a
    · have ih := fold_min l b
      simp only [if_pos hb]
      obtain ⟨h1, h2, h3⟩ := ih
      refine ⟨.inr ?_, by omega, ?_⟩
      · rcases h1 with h | h
        · rw [h]; exact List.mem_cons_self
        · exact List.mem_cons_of_mem _ h
      · intro x hx
        rcases List.mem_cons.mp hx with rfl | hx
        · exact h2
        · exact h3 x hx
    · have ih := fold_min l a
      simp only [if_neg hb]
      obtain ⟨h1, h2, h3⟩ := ih
      refine ⟨?_, h2, ?_⟩
      · rcases h1 with h | h
        · exact .inl h
        · exact .inr (List.mem_cons_of_mem _ h)
      · intro x hx
        rcases List.mem_cons.mp hx with rfl | hx
        · omega
        · exact h3 x hx
theorem mn_mem {l : List Int} (h : l ≠ []) : mnL l ∈ l := by
  cases l with
  | nil => exact absurd rfl h
  | cons a l =>
    rcases (fold_min l a).1 with h | h
    · show List.foldl _ a l ∈ _; rw [h]; exact List.mem_cons_self
    · exact List.mem_cons_of_mem _ h
theorem mn_le {l : List Int} {x : Int} (h : x ∈ l) : mnL l ≤ x := by
  cases l with
  | nil => cases h
  | cons a l =>
    rcases List.mem_cons.mp h with rfl | h
    · exact (fold_min l _).2.1
    · exact (fold_min l a).2.2 x h
theorem mn_uniq {l k : List Int} (h : ∀ x ∈ l, ∃ y ∈ k, y ≤ x) (h2 : ∀ x ∈ k, ∃ y ∈ l, y ≤ x) : mnL l = mnL k := by
  by_cases hl : l = []
  · subst hl
    have : k = [] := by
      cases k with
      | nil => rfl
      | cons a k => obtain ⟨y, hy, _⟩ := h2 a List.mem_cons_self; cases hy
    rw [this]
  · have hk : k ≠ [] := by
      rintro rfl
      cases l with
      | nil => exact hl rfl
      | cons a l => obtain ⟨y, hy, _⟩ := h a List.mem_cons_self; cases hy
    obtain ⟨y, hy, h3⟩ := h _ (mn_mem hl)
    obtain ⟨z, hz, h4⟩ := h2 _ (mn_mem hk)
    have := mn_le hy
    have := mn_le hz
    omega
theorem keys_snoc (L : List Tr) (t : Tr) : keysL (L ++ [t]) = addK (keysL L) t.1 := by simp [keysL]
theorem mem_addK {ks : List (List Int)} {k x : List Int} : x ∈ addK ks k ↔ x ∈ ks ∨ x = k := by
  unfold addK
  split
  · rename_i h
    constructor
    · exact .inl
    · rintro (h | rfl) <;> assumption
  · simp
theorem mem_keys : ∀ {L : List Tr} {k : List Int}, k ∈ keysL L ↔ ∃ t ∈ L, t.1 = k := by
  have key : ∀ (L : List Tr) (ks : List (List Int)) (k : List Int), k ∈ L.foldl (fun ks t => addK ks t.1) ks ↔ k ∈ ks ∨ ∃ t ∈ L, t.1 = k := by
    intro L
    induction L with
    | nil => intro ks k; simp
    | cons a L ih =>
      intro ks k
      rw [List.foldl_cons, ih, mem_addK]
      constructor
      · rintro ((h | rfl) | ⟨t, ht, rfl⟩)
        · exact .inl h
        · exact .inr ⟨a, List.mem_cons_self, rfl⟩
        · exact .inr ⟨t, List.mem_cons_of_mem _ ht, rfl⟩
      · rintro (h | ⟨t, ht, rfl⟩)
        · exact .inl (.inl h)
        · rcases List.mem_cons.mp ht with rfl | ht
          · exact .inl (.inr rfl)
          · exact .inr ⟨t, ht, rfl⟩
  intro L k
  unfold keysL
  rw [key]
  simp
theorem nodup_addK {ks : List (List Int)} {k : List Int} (h : ks.Nodup) : (addK ks k).Nodup := by
  unfold addK
  split
  · exact h
  · rename_i hk
    rw [List.nodup_append]
    exact ⟨h, by simp, fun a ha b hb => by rw [List.mem_singleton.mp hb]; rintro rfl; exact hk ha⟩
theorem keys_nodup (L : List Tr) : (keysL L).Nodup := by
  have key : ∀ (L : List Tr) (ks : List (List Int)), ks.Nodup → (L.foldl (fun ks t => addK ks t.1) ks).Nodup := by
    intro L
    induction L with
    | nil => intro ks h; exact h
    | cons a L ih => intro ks h; exact ih _ (nodup_addK h)
  exact key L [] List.nodup_nil
theorem keys_len (L : List Tr) : (keysL L).length ≤ L.length := by
  have key : ∀ (L : List Tr) (ks : List (List Int)), (L.foldl (fun ks t => addK ks t.1) ks).length ≤ ks.length + L.length := by
    intro L
    induction L with
    | nil => intro ks; simp
    | cons a L ih =>
      intro ks
      rw [List.foldl_cons]
      have := ih (addK ks a.1)
      have h2 : (addK ks a.1).length ≤ ks.length + 1 := by unfold addK; split <;> simp
      simp only [List.length_cons]
      omega
  have := key L []
  simpa [keysL] using this
theorem filter_snoc (L : List Tr) (t : Tr) (k : List Int) : (L ++ [t]).filter (fun t => decide (t.1 = k)) = L.filter (fun t => decide (t.1 = k)) ++ if t.1 = k then [t] else [] := by
  rw [List.filter_append]
  congr 1
  by_cases h : t.1 = k <;> simp [h]
theorem cnt_snoc (L : List Tr) (t : Tr) (k : List Int) : cntL (L ++ [t]) k = if t.1 = k then cntL L k + t.2.1 else cntL L k := by
  unfold cntL
  rw [filter_snoc]
  split <;> simp
theorem cnt_none {L : List Tr} {k : List Int} (h : k ∉ keysL L) : cntL L k = 0 := by
  unfold cntL
  rw [List.filter_eq_nil_iff.mpr]
  · rfl
  · intro t ht e
    exact h (mem_keys.mpr ⟨t, ht, by simpa using e⟩)
theorem lst_snoc (L : List Tr) (t : Tr) (k : List Int) : lstL (L ++ [t]) k = if t.1 = k then (if k ∈ keysL L then (if t.2.2 < lstL L k then t.2.2 else lstL L k) else t.2.2) else lstL L k := by
  unfold lstL
  rw [filter_snoc]
  by_cases e : t.1 = k
  · rw [if_pos e, if_pos e, List.map_append]
    by_cases h : k ∈ keysL L
    · rw [if_pos h]
      obtain ⟨t', ht', e'⟩ := mem_keys.mp h
      rw [List.map_singleton, mn_snoc]
      intro z
      have : t' ∈ L.filter fun t => decide (t.1 = k) := List.mem_filter.mpr ⟨ht', by simpa using e'⟩
      rw [List.map_eq_nil_iff.mp z] at this
      cases this
    · rw [if_neg h, List.filter_eq_nil_iff.mpr]
      · rfl
      · intro t' ht' e'
        exact h (mem_keys.mpr ⟨t', ht', by simpa using e'⟩)
  · rw [if_neg e, if_neg e, List.append_nil]
/-- what gathering gives -/
def gath (L : List Tr) : List Tr := (srt (keysL L)).map fun k => (k, cntL L k, lstL L k)
/-- a fold over what was met -/
theorem fld_acc {α S : Type} {f : S → PV → Option S} {g : α → PV} (E : List α → S) : ∀ (xs acc : List α), (∀ a (ys : List α), a ∈ xs → ys.length < acc.length + xs.length → f (E ys) (g a) = some (E (ys ++ [a]))) → fldM f (xs.map g) (E acc) = some (E (acc ++ xs))
  | [], acc, _ => by simp [fldM]
  | x :: xs, acc, h => by
    rw [List.map_cons, fldM, h x acc List.mem_cons_self (by simp), Option.bind_some, fld_acc E xs (acc ++ [x]) fun a ys ha hl => h a ys (List.mem_cons_of_mem _ ha) (by simp at hl ⊢; omega)]
    simp
@[simp] theorem minF_int (i j : Int) : minF [.int i, .int j] = some (.int (if j < i then j else i)) := rfl
@[simp] theorem un3_trP (t : Tr) : un3 (trP t) = some (tI t.1, .int t.2.1, .int t.2.2) := rfl
def dC1 (L : List Tr) : PV := dtP (keysL L) fun k => .int (cntL L k)
def dC2 (L : List Tr) : PV := dtP (keysL L) fun k => .int (lstL L k)
def dC3 (L : List Tr) : PV := dtP (keysL L) fun k => .tup [.int (cntL L k), .int (lstL L k)]
theorem dC1_snoc (L : List Tr) (t : Tr) (h : L.length < 1000000) : setF (dC1 L) (tI t.1) (.int (cntL L t.1 + t.2.1)) = some (dC1 (L ++ [t])) := by
  unfold dC1
  have := keys_len L
  rw [set_dt _ _ _ _ (by omega), keys_snoc]
  congr 1
  apply dt_ext
  intro k _
  unfold updK
  rw [cnt_snoc]
  by_cases e : k = t.1
  · subst e; simp
  · rw [if_neg e, if_neg fun z => e z.symm]
theorem dC2_snoc (L : List Tr) (t : Tr) (h : L.length < 1000000) : setF (dC2 L) (tI t.1) (.int (if t.1 ∈ keysL L then (if t.2.2 < lstL L t.1 then t.2.2 else lstL L t.1) else t.2.2)) = some (dC2 (L ++ [t])) := by
  unfold dC2
  have := keys_len L
  rw [set_dt _ _ _ _ (by omega), keys_snoc]
  congr 1
  apply dt_ext
  intro k _
  unfold updK
  rw [lst_snoc]
  by_cases e : k = t.1
  · subst e; simp
  · rw [if_neg e, if_neg fun z => e z.symm]
theorem dC3_snoc (L : List Tr) (t : Tr) (h : L.length < 1000000) : setF (dC3 L) (tI t.1) (.tup [.int (cntL L t.1 + t.2.1), .int (if t.1 ∈ keysL L then (if t.2.2 < lstL L t.1 then t.2.2 else lstL L t.1) else t.2.2)]) = some (dC3 (L ++ [t])) := by
  unfold dC3
  have := keys_len L
  rw [set_dt _ _ _ _ (by omega), keys_snoc]
  congr 1
  apply dt_ext
  intro k _
  unfold updK
  rw [cnt_snoc, lst_snoc]
  by_cases e : k = t.1
  · subst e; simp
  · rw [if_neg e, if_neg fun z => e z.symm, if_neg fun z => e z.symm]
theorem mem_srt {ks : List (List Int)} {k : List Int} : k ∈ srt ks ↔ k ∈ ks := (srt_perm ks).mem_iff
theorem keys_same {n : Nat} {L : List Tr} (h : ∀ t ∈ L, t.1.length = n) : ∀ k ∈ keysL L, k.length = n := by
  intro k hk
  obtain ⟨t, ht, rfl⟩ := mem_keys.mp hk
  exact h t ht
theorem gathered_ok {n : Nat} (L : List Tr) (d : PV) (hd : seqOf d = some (L.map trP)) (hl : L.length ≤ 1000) (hn : ∀ t ∈ L, t.1.length = n) : m_gathered d = some (.tup ((gath L).map trP)) := by
  unfold m_gathered
  simp only [hd, Option.bind_some]
  have key := fld_acc (f := fun (w2 : PV × PV) (x1 : PV) => (un3 x1).bind fun (u4 : PV × PV × PV) => (guard1 (isDic w2.1)).bind fun _ => (mgetF w2.1 [u4.1, (.int 0)]).bind fun t5 => (addF t5 u4.2.1).bind fun t6 => (setF w2.1 u4.1 t6).bind fun d7 => (guard1 (isDic w2.2)).bind fun _ => (mgetF w2.2 [u4.1, u4.2.2]).bind fun t8 => (minF [t8, u4.2.2]).bind fun t9 => (setF w2.2 u4.1 t9).bind fun d10 => some (d7, d10)) (g := trP) (E := fun L => (dC1 L, dC2 L)) L [] (fun t ys ht hy => by
    simp only [List.length_nil, Nat.zero_add] at hy
    have h1 : mgetF (dC1 ys) [tI t.1, .int 0] = some (.int (cntL ys t.1)) := by
      unfold dC1
      rw [mget_dt]
      split
      · rfl
      · rename_i h; rw [cnt_none h]
    have h2 : mgetF (dC2 ys) [tI t.1, .int t.2.2] = some (.int (if t.1 ∈ keysL ys then lstL ys t.1 else t.2.2)) := by
      unfold dC2
      rw [mget_dt]
      split <;> rfl
    have h3 : (if t.2.2 < (if t.1 ∈ keysL ys then lstL ys t.1 else t.2.2) then t.2.2 else (if t.1 ∈ keysL ys then lstL ys t.1 else t.2.2)) = (if t.1 ∈ keysL ys then (if t.2.2 < lstL ys t.1 then t.2.2 else lstL ys t.1) else t.2.2) := by
      by_cases h : t.1 ∈ keysL ys
      · simp only [if_pos h]
      · simp only [if_neg h]; split <;> rfl
    have e1 : isDic (dC1 ys) = true := rfl
    have e2 : isDic (dC2 ys) = true := rfl
    simp only [un3_trP, Option.bind_some, e1, e2, guard1_t, h1, h2, addF_int, minF_int, h3, dC1_snoc ys t (by omega), dC2_snoc ys t (by omega)])
  simp only [List.nil_append] at key
  have e0 : ((PV.dt [], PV.dt []) : PV × PV) = (dC1 [], dC2 []) := rfl
  rw [e0, key]
  simp only [Option.bind_some]
  rw [show sortedTF [dC1 L] = some (.lst ((srt (keysL L)).map tI)) from sorted_dt _ _ (keys_nodup L) (keys_same hn)]
  simp only [Option.bind_some, seqOf_lst]
  rw [cmpM_map (h := fun k => trP (k, cntL L k, lstL L k)) fun k hk => by
    have hk := mem_srt.mp hk
    rw [show getF (dC1 L) (tI k) = some (.int (cntL L k)) from get_dt _ _ _ hk, show getF (dC2 L) (tI k) = some (.int (lstL L k)) from get_dt _ _ _ hk]
    rfl]
  simp only [Option.bind_some, tupleF_lst]
  unfold gath
  rw [List.map_map]
  rfl
end QQ

namespace QQ
open PP WK
/-! ### the law's own gathering -/
/-- rows, cut to some variables, each counted once -/
def cutsL (vars keep : List Int) (L : List (List Int × Int)) : List Tr := L.map fun p => (partL p.1 vars keep, 1, p.2)
theorem cuts_len (vars keep : List Int) (L : List (List Int × Int)) : ∀ t ∈ cutsL vars keep L, t.1.length = keep.length := by
  intro t ht
  obtain ⟨p, _, rfl⟩ := List.mem_map.mp ht
  simp [partL]
@[simp] theorem un2_rowP (p : List Int × Int) : un2 (rowP p) = some (tI p.1, .int p.2) := rfl
theorem dC3_in (L : List Tr) (k : List Int) : inF (tI k) (dC3 L) = some (.bl (decide (k ∈ keysL L))) := in_dt _ _ _
theorem dC3_get (L : List Tr) (k : List Int) (h : k ∈ keysL L) : getF (dC3 L) (tI k) = some (.tup [.int (cntL L k), .int (lstL L k)]) := get_dt _ _ _ h
/-- one more in the dict of pairs -/
theorem step_ok (L : List Tr) (t : Tr) (h : L.length < 1000000) : (((inF (tI t.1) (dC3 L)).bind fun t6 => (asBl t6).bind fun b7 => if b7 = true then (getF (dC3 L) (tI t.1)).bind fun t8 => (getF t8 (.int 0)).bind fun t9 => (addF t9 (.int t.2.1)).bind fun t10 => (getF (dC3 L) (tI t.1)).bind fun t11 => (getF t11 (.int 1)).bind fun t12 => (minF [t12, .int t.2.2]).bind fun t13 => (setF (dC3 L) (tI t.1) (.tup [t10, t13])).bind fun d14 => some d14 else (setF (dC3 L) (tI t.1) (.tup [.int t.2.1, .int t.2.2])).bind fun d15 => some d15).bind fun (k16 : PV) => some k16) = some (dC3 (L ++ [t])) := by
  have s := dC3_snoc L t h
  by_cases hk : t.1 ∈ keysL L
  · rw [if_pos hk] at s
    simp only [dC3_in, Option.bind_some, asBl_ev, decide_eq_true hk, if_true, dC3_get L t.1 hk, getF_t0, getF_t1, addF_int, minF_int, s]
  · rw [if_neg hk, cnt_none hk, Int.zero_add] at s
    simp only [dC3_in, Option.bind_some, asBl_ev, decide_eq_false hk, Bool.false_eq_true, if_false, s]
theorem lleft_ok {vars keep : List Int} {L : List (List Int × Int)} (hs : ∀ x ∈ keep, x ∈ vars) (hl : ∀ p ∈ L, p.1.length = vars.length) (hn : L.length ≤ 1000) {kd : PV} (hk : seqOf kd = some (keep.map PV.int)) :
    m__law_left (.lst (L.map rowP)) (.fup (vars.map PV.int)) kd = some (.tup ((gath (cutsL vars keep L)).map trP)) := by
  unfold m__law_left
  simp only [seqOf_lst, Option.bind_some]
  have key := fld_acc (f := fun (w2 : PV) (x1 : PV) => (un2 x1).bind fun (u4 : PV × PV) => (m__law_cut u4.1 (.fup (vars.map PV.int)) kd).bind fun (t5 : PV) => ((inF t5 w2).bind fun t6 => (asBl t6).bind fun b7 => if b7 = true then (getF w2 t5).bind fun t8 => (getF t8 (.int 0)).bind fun t9 => (addF t9 (.int 1)).bind fun t10 => (getF w2 t5).bind fun t11 => (getF t11 (.int 1)).bind fun t12 => (minF [t12, u4.2]).bind fun t13 => (setF w2 t5 (.tup [t10, t13])).bind fun d14 => some d14 else (setF w2 t5 (.tup [(.int 1), u4.2])).bind fun d15 => some d15).bind fun (k16 : PV) => some k16) (g := rowP) (E := fun L => dC3 (cutsL vars keep L)) L [] (fun p ys hp hy => by
    simp only [List.length_nil, Nat.zero_add] at hy
    have s := step_ok (cutsL vars keep ys) (partL p.1 vars keep, 1, p.2) (by simp [cutsL]; omega)
    simp only [un2_rowP, Option.bind_some, cut_ok p.1 vars keep kd hk (hl p hp) hs]
    rw [show cutsL vars keep (ys ++ [p]) = cutsL vars keep ys ++ [(partL p.1 vars keep, 1, p.2)] by simp [cutsL], ← s])
  simp only [List.nil_append] at key
  rw [show PV.dt [] = dC3 (cutsL vars keep []) from rfl, key]
  simp only [Option.bind_some]
  rw [show sortedTF [dC3 (cutsL vars keep L)] = some (.lst ((srt (keysL (cutsL vars keep L))).map tI)) from sorted_dt _ _ (keys_nodup _) (keys_same (cuts_len _ _ _))]
  simp only [Option.bind_some, seqOf_lst]
  rw [cmpM_map (h := fun k => trP (k, cntL (cutsL vars keep L) k, lstL (cutsL vars keep L) k)) fun k hk => by
    have hk := mem_srt.mp hk
    simp only [dC3_get _ _ hk, Option.bind_some, getF_t0, getF_t1]
    rfl]
  simp only [Option.bind_some, tupleF_lst]
  unfold gath
  rw [List.map_map]
  rfl
theorem cutdown_ok {vars keep : List Int} {L : List (List Int × Int)} (hv : vars.Pairwise (· < ·)) (hp : keep.Pairwise (· < ·)) (hs : ∀ x ∈ keep, x ∈ vars) (hl : ∀ p ∈ L, p.1.length = vars.length) (hn : L.length ≤ 1000) {kd : PV} (hk : ∀ x : Int, inF (.int x) kd = some (.bl (decide (x ∈ keep)))) :
    m_cut_down (.lst (L.map rowP)) (tI vars) kd = some (.tup ((gath (cutsL vars keep L)).map trP)) := by
  unfold m_cut_down
  simp only [seqOf_lst, Option.bind_some]
  rw [cmpM_map (h := fun p => trP (partL p.1 vars keep, 1, p.2)) fun p hp' => by
    simp only [un2_rowP, Option.bind_some, cut_to_ok p.1 vars keep kd hk hv hp hs (hl p hp')]
    rfl]
  simp only [Option.bind_some]
  rw [gathered_ok (cutsL vars keep L) (.lst (L.map fun p => trP (partL p.1 vars keep, 1, p.2))) (by simp [cutsL, Function.comp_def]) (by simp [cutsL]; omega) (cuts_len _ _ _)]
  rfl
end QQ

namespace QQ
open PP WK
/-! ### gathering what was gathered -/
def reK (h : List Int → List Int) (L : List Tr) : List Tr := L.map fun t => (h t.1, t.2.1, t.2.2)
def sumW {α : Type} (f : α → Int) (l : List α) : Int := (l.map f).sum
theorem sumW_nil {α : Type} (f : α → Int) : sumW f [] = 0 := rfl
theorem sumW_cons {α : Type} (f : α → Int) (a : α) (l : List α) : sumW f (a :: l) = f a + sumW f l := by simp [sumW]
theorem sumW_add {α : Type} (f g : α → Int) : ∀ l : List α, sumW (fun a => f a + g a) l = sumW f l + sumW g l
  | [] => rfl
  | a :: l => by rw [sumW_cons, sumW_cons, sumW_cons, sumW_add f g l]; omega
theorem sumW_zero {α : Type} {f : α → Int} : ∀ {l : List α}, (∀ a ∈ l, f a = 0) → sumW f l = 0
  | [], _ => rfl
  | a :: l, h => by rw [sumW_cons, h a List.mem_cons_self, sumW_zero fun b hb => h b (List.mem_cons_of_mem _ hb)]; rfl
theorem sumW_congr {α : Type} {f g : α → Int} {l : List α} (h : ∀ a ∈ l, f a = g a) : sumW f l = sumW g l := by
  unfold sumW
  rw [List.map_congr_left h]
theorem sumW_one {x : List Int} {c : Int} : ∀ {ks : List (List Int)}, ks.Nodup → x ∈ ks → sumW (fun q => if x = q then c else 0) ks = c
  | [], _, h => by cases h
  | k :: ks, hn, h => by
    rw [List.nodup_cons] at hn
    rw [sumW_cons]
    by_cases e : x = k
    · subst e
      rw [if_pos rfl, sumW_zero (fun a ha => if_neg (fun z : x = a => hn.1 (by rw [z]; exact ha)))]
      omega
    · rw [if_neg e, sumW_one hn.2 ((List.mem_cons.mp h).resolve_left e)]
      omega
theorem sum_filter {α : Type} (p : α → Bool) (f : α → Int) : ∀ l : List α, ((l.filter p).map f).sum = sumW (fun a => if p a = true then f a else 0) l
  | [] => rfl
  | a :: l => by
    rw [sumW_cons, ← sum_filter p f l, List.filter_cons]
    split <;> simp
theorem cnt_eq (L : List Tr) (k : List Int) : cntL L k = sumW (fun t => if t.1 = k then t.2.1 else 0) L := by
  unfold cntL
  rw [sum_filter]
  apply sumW_congr
  intro t _
  simp only [decide_eq_true_eq]
/-- counts gathered by keys, some of the keys counted -/
theorem sum_keys (p : List Int → Bool) {ks : List (List Int)} (hn : ks.Nodup) : ∀ {L : List Tr}, (∀ t ∈ L, t.1 ∈ ks) → sumW (fun q => if p q = true then cntL L q else 0) ks = sumW (fun t => if p t.1 = true then t.2.1 else 0) L
  | [], _ => sumW_zero fun a _ => by simp [cntL]
  | t :: L, h => by
    rw [sumW_cons, ← sum_keys p hn fun s hs => h s (List.mem_cons_of_mem _ hs)]
    have e : ∀ q, (if p q = true then cntL (t :: L) q else 0) = (if t.1 = q then (if p t.1 = true then t.2.1 else 0) else 0) + (if p q = true then cntL L q else 0) := by
      intro q
      rw [cnt_eq, sumW_cons, ← cnt_eq]
      by_cases hq : t.1 = q
      · subst hq; simp only [if_pos rfl]; split <;> simp
      · simp only [if_neg hq]; split <;> simp
    rw [sumW_congr fun q _ => e q, sumW_add, sumW_one hn (h t List.mem_cons_self)]
theorem gath_ext {A B : List Tr} (hk : ∀ k, k ∈ keysL A ↔ k ∈ keysL B) (hc : ∀ k, cntL A k = cntL B k) (hl : ∀ k, lstL A k = lstL B k) : gath A = gath B := by
  have p : (keysL B).Perm (keysL A) := (List.perm_ext_iff_of_nodup (keys_nodup B) (keys_nodup A)).mpr fun k => (hk k).symm
  have e : srt (keysL A) = srt (keysL B) := srt_uniq (keys_nodup A) ((srt_perm _).trans p) (srt_asc (keys_nodup B))
  unfold gath
  rw [e]
  apply List.map_congr_left
  intro k _
  rw [hc, hl]
theorem mem_gath {L : List Tr} {t : Tr} : t ∈ gath L ↔ t.1 ∈ keysL L ∧ t.2.1 = cntL L t.1 ∧ t.2.2 = lstL L t.1 := by
  unfold gath
  rw [List.mem_map]
  constructor
  · rintro ⟨k, hk, rfl⟩
    exact ⟨mem_srt.mp hk, rfl, rfl⟩
  · rintro ⟨h1, h2, h3⟩
    exact ⟨t.1, mem_srt.mpr h1, by rw [← h2, ← h3]⟩
theorem mem_reK {h : List Int → List Int} {L : List Tr} {k : List Int} : k ∈ keysL (reK h L) ↔ ∃ q ∈ keysL L, h q = k := by
  rw [mem_keys]
  unfold reK
  constructor
  · rintro ⟨t, ht, rfl⟩
    obtain ⟨s, hs, rfl⟩ := List.mem_map.mp ht
    exact ⟨s.1, mem_keys.mpr ⟨s, hs, rfl⟩, rfl⟩
  · rintro ⟨q, hq, rfl⟩
    obtain ⟨s, hs, rfl⟩ := mem_keys.mp hq
    exact ⟨_, List.mem_map.mpr ⟨s, hs, rfl⟩, rfl⟩
theorem keys_gath {L : List Tr} {k : List Int} : k ∈ keysL (gath L) ↔ k ∈ keysL L := by
  rw [mem_keys]
  constructor
  · rintro ⟨t, ht, rfl⟩; exact (mem_gath.mp ht).1
  · intro h; exact ⟨(k, cntL L k, lstL L k), mem_gath.mpr ⟨h, rfl, rfl⟩, rfl⟩
theorem cnt_reK (h : List Int → List Int) (L : List Tr) (k : List Int) : cntL (reK h L) k = sumW (fun t => if h t.1 = k then t.2.1 else 0) L := by
  rw [cnt_eq]
  unfold reK sumW
  rw [List.map_map]
  rfl
theorem sum_gath (f : List Int → Bool) (L : List Tr) : sumW (fun t => if f t.1 = true then t.2.1 else 0) (gath L) = sumW (fun t => if f t.1 = true then t.2.1 else 0) L := by
  rw [← sum_keys f (srt_perm _ |>.nodup_iff.mpr (keys_nodup L)) (L := L) fun t ht => mem_srt.mpr (mem_keys.mpr ⟨t, ht, rfl⟩)]
  unfold sumW gath
  rw [List.map_map]
  rfl
theorem gath_re (h : List Int → List Int) (L : List Tr) : gath (reK h (gath L)) = gath (reK h L) := by
  apply gath_ext
  · intro k
    rw [mem_reK, mem_reK]
    constructor
    · rintro ⟨q, hq, e⟩; exact ⟨q, keys_gath.mp hq, e⟩
    · rintro ⟨q, hq, e⟩; exact ⟨q, keys_gath.mpr hq, e⟩
  · intro k
    rw [cnt_reK, cnt_reK]
    have := sum_gath (fun q => decide (h q = k)) L
    simpa using this
  · intro k
    unfold lstL
    apply mn_uniq
    · intro x hx
      obtain ⟨t, ht, rfl⟩ := List.mem_map.mp hx
      obtain ⟨ht, e⟩ := List.mem_filter.mp ht
      obtain ⟨s, hs, rfl⟩ := List.mem_map.mp ht
      obtain ⟨h1, h2, h3⟩ := mem_gath.mp hs
      simp only [decide_eq_true_eq] at e
      have ne : (L.filter fun t => decide (t.1 = s.1)).map (·.2.2) ≠ [] := by
        obtain ⟨u, hu, e2⟩ := mem_keys.mp h1
        intro z
        have : u ∈ L.filter fun t => decide (t.1 = s.1) := List.mem_filter.mpr ⟨hu, by simpa using e2⟩
        rw [List.map_eq_nil_iff.mp z] at this
        cases this
      have mm := mn_mem ne
      obtain ⟨u, hu, e3⟩ := List.mem_map.mp mm
      obtain ⟨hu, e4⟩ := List.mem_filter.mp hu
      simp only [decide_eq_true_eq] at e4
      refine ⟨u.2.2, List.mem_map.mpr ⟨(h u.1, u.2.1, u.2.2), List.mem_filter.mpr ⟨List.mem_map.mpr ⟨u, hu, rfl⟩, by simpa [e4] using e⟩, rfl⟩, ?_⟩
      show u.2.2 ≤ s.2.2
      rw [h3]
      unfold lstL
      rw [e3]
      exact Int.le_refl _
    · intro x hx
      obtain ⟨t, ht, rfl⟩ := List.mem_map.mp hx
      obtain ⟨ht, e⟩ := List.mem_filter.mp ht
      obtain ⟨s, hs, rfl⟩ := List.mem_map.mp ht
      simp only [decide_eq_true_eq] at e
      have hk : s.1 ∈ keysL L := mem_keys.mpr ⟨s, hs, rfl⟩
      refine ⟨lstL L s.1, List.mem_map.mpr ⟨(h s.1, cntL L s.1, lstL L s.1), List.mem_filter.mpr ⟨List.mem_map.mpr ⟨(s.1, cntL L s.1, lstL L s.1), mem_gath.mpr ⟨hk, rfl, rfl⟩, rfl⟩, by simpa using e⟩, rfl⟩, ?_⟩
      exact mn_le (List.mem_map.mpr ⟨s, List.mem_filter.mpr ⟨hs, by simp⟩, rfl⟩)
/-- all counts together -/
theorem total_gath (L : List Tr) : ((gath L).map (·.2.1)).sum = (L.map (·.2.1)).sum := by
  have := sum_gath (fun _ => true) L
  simpa [sumW] using this
theorem part_part {row vars keep told : List Int} (h : ∀ x ∈ told, x ∈ keep) : partL (partL row vars keep) keep told = partL row vars told := by
  unfold partL
  apply List.map_congr_left
  intro x hx
  have hm := h x hx
  have hi : keep.idxOf x < keep.length := List.idxOf_lt_length_of_mem hm
  show rA (keep.map _) _ = _
  unfold rA
  rw [List.getD_eq_getElem?_getD, List.getElem?_map, List.getElem?_eq_getElem hi, List.getElem_idxOf hi]
  rfl
theorem eqv_trP (p q : Tr) : eqv (trP p) (trP q) = decide (p = q) := by
  unfold trP
  rw [eqv_tt, eqvs_cons, eqvs_cons, eqvs_cons, eqvs_nil, eqv_tI, eqv_int, eqv_int]
  by_cases h1 : p.1 = q.1 <;> by_cases h2 : p.2.1 = q.2.1 <;> by_cases h3 : p.2.2 = q.2.2 <;> simp [h1, h2, h3, Prod.ext_iff]
@[simp] theorem okD_trP (n : Nat) (p : Tr) : okD (n + 2) (trP p) = true := by
  unfold trP
  exact okD_tup (by simp [okD_tI, okD_int])
@[simp] theorem neF_trs (L M : List Tr) : neF (.tup (L.map trP)) (.tup (M.map trP)) = some (.bl (!decide (L = M))) := by
  rw [neF_ok (okD_tup (n := 59) (all_map fun a _ => okD_trP 57 a)) (okD_tup (n := 59) (all_map fun a _ => okD_trP 57 a)), eqv_tt, eqvs_map eqv_trP]
@[simp] theorem eqF_trs (L M : List Tr) : eqF (.tup (L.map trP)) (.fup (M.map trP)) = some (.bl (decide (L = M))) := by
  rw [eqF_ok (okD_tup (n := 59) (all_map fun a _ => okD_trP 57 a)) (okD_fup (n := 59) (all_map fun a _ => okD_trP 57 a)), eqv_tf, eqvs_map eqv_trP]
section
variable {v : Nat} {sc : List (List Int)} {ed : List (Int × Int)} {tabs : List (List (List Int × Int))}
theorem ispart_ok {keep vars : List Int} {kd vd : PV} (hty : isTy .tuple kd = true) (hk : seqOf kd = some (keep.map PV.int)) (hlen : lenF [kd] = some (.int (keep.length : Nat))) (hv : ∀ x : Int, inF (.int x) vd = some (.bl (decide (x ∈ vars)))) (hs : ∀ x ∈ keep, x ∈ vars) (h6 : ∀ x ∈ keep, 0 ≤ x ∧ x < 6) (hp : keep.Pairwise (· < ·)) (hl : keep.length ≤ 1000) : m_is_part kd vd = some (.bl true) := by
  unfold m_is_part
  have c := climb_ok kd (keep.map PV.int) hk (by simp; omega) (fun i x y hx hy => pw_at hp (fun a b h => by simp [h]) i x y hx hy)
  unfold m_is_climbing at c
  simp only [hty, truthF_bl, Option.bind_some, Bool.not_true, Bool.false_eq_true, if_false, hk]
  rw [cmp_all fun x hx => by
    have := h6 x hx
    simp [number_ok, hv, hs x hx, this.1, show x ≤ 5 by omega]]
  simp only [Option.bind_some, all_true, truthF_bl, Bool.not_true, Bool.false_eq_true, if_false]
  exact c
end
end QQ

namespace QQ
open PP WK
/-! ### two parts of the nodes -/
theorem mem_found (sc : List (List Int)) (x : Int) : ∀ (ns : List Nat) (acc : List Int), x ∈ foundL sc ns acc → x ∈ acc ∨ ∃ i ∈ ns, x ∈ scA sc i
  | [], acc, h => .inl h
  | i :: r, acc, h => by
    rcases mem_found sc x r (acc ++ (scA sc i).filter (nin acc)) h with h | ⟨j, hj, h⟩
    · rcases List.mem_append.mp h with h | h
      · exact .inl h
      · exact .inr ⟨i, List.mem_cons_self, (List.mem_filter.mp h).1⟩
    · exact .inr ⟨j, List.mem_cons_of_mem _ hj, h⟩
theorem mem_vars {sc : List (List Int)} {ns : List Nat} {x : Int} : x ∈ varsL sc ns ↔ ∃ i ∈ ns, x ∈ scA sc i := by
  constructor
  · intro h
    rcases mem_found sc x ns [] ((sortI_perm _).mem_iff.mp h) with h | h
    · cases h
    · exact h
  · rintro ⟨i, hi, h⟩; exact vars_mem sc ns i hi x h
def prI (sc : List (List Int)) (tabs : List (List (List Int × Int))) (vars row : List Int) (i : Nat) : Int := (prs (tbA tabs i) (partN sc vars row i)).headD 0
theorem costF_eq (sc : List (List Int)) (tabs : List (List (List Int × Int))) (vars row : List Int) : ∀ (ns : List Nat) (c : Int), costF sc tabs vars row ns c = if ∀ i ∈ ns, badN sc tabs vars row i = false then some (c + sumW (prI sc tabs vars row) ns) else none
  | [], c => by simp [costF, sumW]
  | i :: ns, c => by
    unfold costF
    cases e : prs (tbA tabs i) (partN sc vars row i) with
    | nil =>
      have hb : badN sc tabs vars row i = true := by unfold badN; rw [prs_nil.mp e]; rfl
      rw [if_neg fun h => by have := h i List.mem_cons_self; rw [hb] at this; cases this]
    | cons q r =>
      have hb : badN sc tabs vars row i = false := by
        unfold badN
        cases e2 : hasP (tbA tabs i) (partN sc vars row i) with
        | true => rfl
        | false => rw [prs_nil.mpr e2] at e; cases e
      have hq : prI sc tabs vars row i = q := by unfold prI; rw [e]; rfl
      simp only
      rw [costF_eq sc tabs vars row ns, sumW_cons, hq]
      by_cases h : ∀ j ∈ ns, badN sc tabs vars row j = false
      · rw [if_pos h, if_pos fun j hj => (List.mem_cons.mp hj).elim (fun z => z ▸ hb) (h j), Int.add_assoc]
      · rw [if_neg h, if_neg fun z => h fun j hj => z j (List.mem_cons_of_mem _ hj)]
theorem sumW_perm {α : Type} (f : α → Int) {l k : List α} (p : l.Perm k) : sumW f l = sumW f k := by
  induction p with
  | nil => rfl
  | cons a _ ih => rw [sumW_cons, sumW_cons, ih]
  | swap a b l => simp only [sumW_cons]; omega
  | trans _ _ h1 h2 => rw [h1, h2]
theorem sumW_append {α : Type} (f : α → Int) (l k : List α) : sumW f (l ++ k) = sumW f l + sumW f k := by
  induction l with
  | nil => simp [sumW]
  | cons a l ih => rw [List.cons_append, sumW_cons, sumW_cons, ih]; omega
theorem rA_map {f : Int → Int} {l : List Int} {x : Int} (h : x ∈ l) : rA (l.map f) (l.idxOf x) = f x := by
  have hi : l.idxOf x < l.length := List.idxOf_lt_length_of_mem h
  unfold rA
  rw [List.getD_eq_getElem?_getD, List.getElem?_map, List.getElem?_eq_getElem hi, List.getElem_idxOf hi]
  rfl
theorem part_self {l a : List Int} (hn : l.Nodup) (h : a.length = l.length) : partL a l l = a := by
  unfold partL
  apply List.ext_getElem
  · simp [h]
  · intro i h1 h2
    rw [List.getElem_map, hn.idxOf_getElem]
    unfold rA
    rw [List.getD_eq_getElem?_getD, List.getElem?_eq_getElem h2]
    rfl
section
variable {v : Nat} {sc : List (List Int)} {tabs : List (List (List Int × Int))} {N A B : List Nat} {K : List Int}
/-- two parts of the nodes, and what both know -/
structure Two (sc : List (List Int)) (N A B : List Nat) (K : List Int) : Prop where
  hp : (A ++ B).Perm N
  hN : (varsL sc N).Nodup
  hA : (varsL sc A).Nodup
  hB : (varsL sc B).Nodup
  hK : ∀ x, x ∈ K ↔ x ∈ varsL sc A ∧ x ∈ varsL sc B
theorem Two.vars (T : Two sc N A B K) {x : Int} : x ∈ varsL sc N ↔ x ∈ varsL sc A ∨ x ∈ varsL sc B := by
  rw [mem_vars, mem_vars, mem_vars]
  constructor
  · rintro ⟨i, hi, h⟩
    rcases List.mem_append.mp (T.hp.mem_iff.mpr hi) with g | g
    · exact .inl ⟨i, g, h⟩
    · exact .inr ⟨i, g, h⟩
  · rintro (⟨i, hi, h⟩ | ⟨i, hi, h⟩)
    · exact ⟨i, T.hp.mem_iff.mp (List.mem_append.mpr (.inl hi)), h⟩
    · exact ⟨i, T.hp.mem_iff.mp (List.mem_append.mpr (.inr hi)), h⟩
theorem partN_sub {vars row : List Int} {i : Nat} (hi : i ∈ A) : partN sc (varsL sc A) (partL row vars (varsL sc A)) i = partN sc vars row i := part_part (vars_mem sc A i hi)
theorem cost_sub {vars row : List Int} : costR sc tabs A (partL row vars (varsL sc A)) = if ∀ i ∈ A, badN sc tabs vars row i = false then some (sumW (prI sc tabs vars row) A) else none := by
  unfold costR
  rw [costF_eq]
  have h1 : ∀ i ∈ A, badN sc tabs (varsL sc A) (partL row vars (varsL sc A)) i = badN sc tabs vars row i := fun i hi => by unfold badN; rw [partN_sub hi]
  have h2 : sumW (prI sc tabs (varsL sc A) (partL row vars (varsL sc A))) A = sumW (prI sc tabs vars row) A := sumW_congr fun i hi => by unfold prI; rw [partN_sub hi]
  rw [h2, Int.zero_add]
  by_cases h : ∀ i ∈ A, badN sc tabs vars row i = false
  · rw [if_pos h, if_pos fun i hi => by rw [h1 i hi]; exact h i hi]
  · rw [if_neg h, if_neg fun z => h fun i hi => by rw [← h1 i hi]; exact z i hi]
theorem Two.cost (T : Two sc N A B K) {row : List Int} {c : Int} : costR sc tabs N row = some c ↔ ∃ a b, costR sc tabs A (partL row (varsL sc N) (varsL sc A)) = some a ∧ costR sc tabs B (partL row (varsL sc N) (varsL sc B)) = some b ∧ c = a + b := by
  rw [cost_sub, cost_sub]
  unfold costR
  rw [costF_eq, Int.zero_add, ← sumW_perm _ T.hp, sumW_append]
  have hall : (∀ i ∈ N, badN sc tabs (varsL sc N) row i = false) ↔ (∀ i ∈ A, badN sc tabs (varsL sc N) row i = false) ∧ ∀ i ∈ B, badN sc tabs (varsL sc N) row i = false := by
    constructor
    · intro h
      exact ⟨fun i hi => h i (T.hp.mem_iff.mp (List.mem_append.mpr (.inl hi))), fun i hi => h i (T.hp.mem_iff.mp (List.mem_append.mpr (.inr hi)))⟩
    · rintro ⟨h1, h2⟩ i hi
      exact (List.mem_append.mp (T.hp.mem_iff.mpr hi)).elim (h1 i) (h2 i)
  by_cases h1 : ∀ i ∈ A, badN sc tabs (varsL sc N) row i = false
  · by_cases h2 : ∀ i ∈ B, badN sc tabs (varsL sc N) row i = false
    · rw [if_pos h1, if_pos h2, if_pos (hall.mpr ⟨h1, h2⟩)]
      constructor
      · intro h; cases h; exact ⟨_, _, rfl, rfl, rfl⟩
      · rintro ⟨a, b, ha, hb, rfl⟩; cases ha; cases hb; rfl
    · rw [if_neg h2, if_neg fun z => h2 (hall.mp z).2]
      constructor
      · intro h; cases h
      · rintro ⟨a, b, ha, hb, rfl⟩; cases hb
  · rw [if_neg h1, if_neg fun z => h1 (hall.mp z).1]
    constructor
    · intro h; cases h
    · rintro ⟨a, b, ha, hb, rfl⟩; cases ha
/-- a row of all from rows of the two -/
def jn (sc : List (List Int)) (N A B : List Nat) (a b : List Int) : List Int := (varsL sc N).map fun x => if x ∈ varsL sc A then rA a ((varsL sc A).idxOf x) else rA b ((varsL sc B).idxOf x)
theorem Two.jn_A (T : Two sc N A B K) {a b : List Int} (ha : a.length = (varsL sc A).length) : partL (jn sc N A B a b) (varsL sc N) (varsL sc A) = a := by
  have e : partL (jn sc N A B a b) (varsL sc N) (varsL sc A) = partL a (varsL sc A) (varsL sc A) := by
    unfold partL jn
    apply List.map_congr_left
    intro x hx
    rw [rA_map (T.vars.mpr (.inl hx)), if_pos hx]
  rw [e, part_self T.hA ha]
theorem Two.jn_B (T : Two sc N A B K) {a b : List Int} (hb : b.length = (varsL sc B).length) (hk : partL a (varsL sc A) K = partL b (varsL sc B) K) : partL (jn sc N A B a b) (varsL sc N) (varsL sc B) = b := by
  have e : partL (jn sc N A B a b) (varsL sc N) (varsL sc B) = partL b (varsL sc B) (varsL sc B) := by
    unfold partL jn
    apply List.map_congr_left
    intro x hx
    rw [rA_map (T.vars.mpr (.inr hx))]
    by_cases h : x ∈ varsL sc A
    · rw [if_pos h]
      unfold partL at hk
      exact List.map_inj_left.mp hk x ((T.hK x).mpr ⟨h, hx⟩)
    · rw [if_neg h]
  rw [e, part_self T.hB hb]
theorem rA_bnd {r : List Int} {n : Nat} {i : Nat} (hr : r ∈ rowsL v n) (hi : i < n) : 0 ≤ rA r i ∧ rA r i < v := by
  obtain ⟨h1, h2⟩ := rowsL_mem hr
  unfold rA
  rw [List.getD_eq_getElem?_getD, List.getElem?_eq_getElem (by omega)]
  exact h2 _ (List.getElem_mem _)
theorem part_rows {r vars l : List Int} (hr : r ∈ rowsL v vars.length) (hs : ∀ x ∈ l, x ∈ vars) : partL r vars l ∈ rowsL v l.length := by
  refine rowsL_all (by simp [partL]) ?_
  intro y hy
  obtain ⟨x, hx, rfl⟩ := List.mem_map.mp hy
  exact rA_bnd hr (List.idxOf_lt_length_of_mem (hs x hx))
theorem Two.jn_row (T : Two sc N A B K) {a b : List Int} (ha : a ∈ rowsL v (varsL sc A).length) (hb : b ∈ rowsL v (varsL sc B).length) : jn sc N A B a b ∈ rowsL v (varsL sc N).length := by
  refine rowsL_all (by simp [jn]) ?_
  intro y hy
  obtain ⟨x, hx, rfl⟩ := List.mem_map.mp hy
  by_cases h : x ∈ varsL sc A
  · simp only [if_pos h]; exact rA_bnd ha (List.idxOf_lt_length_of_mem h)
  · simp only [if_neg h]; exact rA_bnd hb (List.idxOf_lt_length_of_mem ((T.vars.mp hx).resolve_left h))
theorem Two.inj (T : Two sc N A B K) {r s : List Int} (hr : r.length = (varsL sc N).length) (hs : s.length = (varsL sc N).length) (h1 : partL r (varsL sc N) (varsL sc A) = partL s (varsL sc N) (varsL sc A)) (h2 : partL r (varsL sc N) (varsL sc B) = partL s (varsL sc N) (varsL sc B)) : r = s := by
  rw [← part_self T.hN hr, ← part_self T.hN hs]
  unfold partL at *
  apply List.map_congr_left
  intro x hx
  rcases T.vars.mp hx with h | h
  · exact List.map_inj_left.mp h1 x h
  · exact List.map_inj_left.mp h2 x h
/-- the solutions that are k at the variables K -/
def keyF (vars K : List Int) (L : List (List Int × Int)) (k : List Int) : List (List Int × Int) := L.filter fun p => decide (partL p.1 vars K = k)
theorem cut_filter (vars K : List Int) (L : List (List Int × Int)) (k : List Int) : (cutsL vars K L).filter (fun t => decide (t.1 = k)) = (keyF vars K L k).map fun p => (partL p.1 vars K, 1, p.2) := by
  unfold cutsL keyF
  rw [List.filter_map]
  rfl
theorem cnt_cuts (vars K : List Int) (L : List (List Int × Int)) (k : List Int) : cntL (cutsL vars K L) k = ((keyF vars K L k).length : Nat) := by
  unfold cntL
  rw [cut_filter, List.map_map]
  generalize keyF vars K L k = M
  induction M with
  | nil => rfl
  | cons a M ih =>
    rw [List.map_cons, List.sum_cons, ih, List.length_cons]
    show (1 : Int) + _ = _
    omega
theorem lst_cuts (vars K : List Int) (L : List (List Int × Int)) (k : List Int) : lstL (cutsL vars K L) k = mnL ((keyF vars K L k).map (·.2)) := by
  unfold lstL
  rw [cut_filter, List.map_map]
  rfl
theorem keys_cuts {vars K : List Int} {L : List (List Int × Int)} {k : List Int} : k ∈ keysL (cutsL vars K L) ↔ ∃ p, p ∈ keyF vars K L k := by
  rw [mem_keys]
  unfold cutsL keyF
  constructor
  · rintro ⟨t, ht, rfl⟩
    obtain ⟨p, hp, rfl⟩ := List.mem_map.mp ht
    exact ⟨p, List.mem_filter.mpr ⟨hp, by simp⟩⟩
  · rintro ⟨p, hp⟩
    obtain ⟨hp, e⟩ := List.mem_filter.mp hp
    exact ⟨_, List.mem_map.mpr ⟨p, hp, rfl⟩, by simpa using e⟩
abbrev keyS (v : Nat) (sc : List (List Int)) (tabs : List (List (List Int × Int))) (ns : List Nat) (K k : List Int) := keyF (varsL sc ns) K (solsL v sc tabs ns) k
theorem keyS_nodup (ns : List Nat) (k : List Int) : (keyS v sc tabs ns K k).Nodup := by
  have := sols_nodup v sc tabs ns
  have h : (solsL v sc tabs ns).Nodup := by
    rw [List.nodup_iff_pairwise_ne, List.pairwise_map] at this
    exact List.nodup_iff_pairwise_ne.mpr (this.imp fun {a b} z e => z (by rw [e]))
  exact h.filter _
theorem keyS_mem {ns : List Nat} {k : List Int} {p : List Int × Int} : p ∈ keyS v sc tabs ns K k ↔ p.1 ∈ rowsL v (varsL sc ns).length ∧ costR sc tabs ns p.1 = some p.2 ∧ partL p.1 (varsL sc ns) K = k := by
  unfold keyS keyF
  rw [List.mem_filter, sols_mem, and_assoc, decide_eq_true_eq]
def splitP (sc : List (List Int)) (tabs : List (List (List Int × Int))) (N A B : List Nat) (p : List Int × Int) : (List Int × Int) × (List Int × Int) :=
  ((partL p.1 (varsL sc N) (varsL sc A), (costR sc tabs A (partL p.1 (varsL sc N) (varsL sc A))).getD 0), (partL p.1 (varsL sc N) (varsL sc B), (costR sc tabs B (partL p.1 (varsL sc N) (varsL sc B))).getD 0))
theorem Two.split (T : Two sc N A B K) {k : List Int} {p : List Int × Int} (hp : p ∈ keyS v sc tabs N K k) : (splitP sc tabs N A B p).1 ∈ keyS v sc tabs A K k ∧ (splitP sc tabs N A B p).2 ∈ keyS v sc tabs B K k ∧ p.2 = (splitP sc tabs N A B p).1.2 + (splitP sc tabs N A B p).2.2 := by
  obtain ⟨h1, h2, h3⟩ := keyS_mem.mp hp
  obtain ⟨a, b, ha, hb, hc⟩ := T.cost.mp h2
  unfold splitP
  refine ⟨keyS_mem.mpr ⟨part_rows h1 fun x hx => T.vars.mpr (.inl hx), by simp [ha], ?_⟩, keyS_mem.mpr ⟨part_rows h1 fun x hx => T.vars.mpr (.inr hx), by simp [hb], ?_⟩, by simp [ha, hb, hc]⟩
  · rw [part_part fun x hx => ((T.hK x).mp hx).1, h3]
  · rw [part_part fun x hx => ((T.hK x).mp hx).2, h3]
theorem Two.join (T : Two sc N A B K) {k : List Int} {p q : List Int × Int} (hp : p ∈ keyS v sc tabs A K k) (hq : q ∈ keyS v sc tabs B K k) : (jn sc N A B p.1 q.1, p.2 + q.2) ∈ keyS v sc tabs N K k ∧ splitP sc tabs N A B (jn sc N A B p.1 q.1, p.2 + q.2) = (p, q) := by
  obtain ⟨h1, h2, h3⟩ := keyS_mem.mp hp
  obtain ⟨g1, g2, g3⟩ := keyS_mem.mp hq
  have eA := T.jn_A (a := p.1) (b := q.1) (rowsL_mem h1).1
  have eB := T.jn_B (a := p.1) (b := q.1) (rowsL_mem g1).1 (by rw [h3, g3])
  refine ⟨keyS_mem.mpr ⟨T.jn_row h1 g1, T.cost.mpr ⟨p.2, q.2, by rw [eA]; exact h2, by rw [eB]; exact g2, rfl⟩, ?_⟩, ?_⟩
  · rw [← part_part (row := jn sc N A B p.1 q.1) (vars := varsL sc N) (keep := varsL sc A) fun x hx => ((T.hK x).mp hx).1, eA, h3]
  · unfold splitP
    simp only [eA, eB, h2, g2, Option.getD_some]
theorem len_prod {α β : Type} (B : List β) : ∀ A : List α, (A.flatMap fun a => B.map fun b => (a, b)).length = A.length * B.length
  | [] => by simp
  | a :: A => by rw [List.flatMap_cons, List.length_append, len_prod B A, List.length_map, List.length_cons, Nat.succ_mul]; omega
theorem prod_nodup {α β : Type} {B : List β} (hB : B.Nodup) : ∀ {A : List α}, A.Nodup → (A.flatMap fun a => B.map fun b => (a, b)).Nodup
  | [], _ => by simp
  | a :: A, h => by
    rw [List.nodup_cons] at h
    rw [List.flatMap_cons, List.nodup_append]
    refine ⟨?_, prod_nodup hB h.2, ?_⟩
    · rw [List.nodup_iff_pairwise_ne, List.pairwise_map]
      exact (List.nodup_iff_pairwise_ne.mp hB).imp fun {x y} z e => z (by cases e; rfl)
    · intro x hx y hy
      obtain ⟨b, _, rfl⟩ := List.mem_map.mp hx
      obtain ⟨a', ha', hy⟩ := List.mem_flatMap.mp hy
      obtain ⟨b', _, rfl⟩ := List.mem_map.mp hy
      intro e
      cases e
      exact h.1 ha'
theorem Two.count (T : Two sc N A B K) (k : List Int) : (keyS v sc tabs N K k).length = (keyS v sc tabs A K k).length * (keyS v sc tabs B K k).length := by
  have p : ((keyS v sc tabs N K k).map (splitP sc tabs N A B)).Perm ((keyS v sc tabs A K k).flatMap fun a => (keyS v sc tabs B K k).map fun b => (a, b)) := by
    refine (List.perm_ext_iff_of_nodup ?_ (prod_nodup (keyS_nodup B k) (keyS_nodup A k))).mpr ?_
    · rw [List.nodup_iff_pairwise_ne, List.pairwise_map]
      refine List.Pairwise.imp_of_mem ?_ (List.nodup_iff_pairwise_ne.mp (keyS_nodup (v := v) (sc := sc) (tabs := tabs) (K := K) N k))
      intro x y hx hy ne e
      obtain ⟨x1, x2, x3⟩ := keyS_mem.mp hx
      obtain ⟨y1, y2, y3⟩ := keyS_mem.mp hy
      have r : x.1 = y.1 := T.inj (rowsL_mem x1).1 (rowsL_mem y1).1 (congrArg (fun z => z.1.1) e) (congrArg (fun z => z.2.1) e)
      have c : x.2 = y.2 := by rw [r, y2] at x2; exact (Option.some.inj x2).symm
      exact ne (Prod.ext r c)
    · intro z
      rw [List.mem_map, List.mem_flatMap]
      constructor
      · rintro ⟨p, hp, rfl⟩
        obtain ⟨h1, h2, _⟩ := T.split hp
        exact ⟨_, h1, List.mem_map.mpr ⟨_, h2, rfl⟩⟩
      · rintro ⟨p, hp, hz⟩
        obtain ⟨q, hq, rfl⟩ := List.mem_map.mp hz
        obtain ⟨h1, h2⟩ := T.join hp hq
        exact ⟨_, h1, h2⟩
  have := p.length_eq
  rwa [List.length_map, len_prod] at this
theorem mn_is {l : List Int} {m : Int} (h : m ∈ l) (h2 : ∀ x ∈ l, m ≤ x) : mnL l = m := by
  have h3 := mn_le h
  have h4 := h2 _ (mn_mem (List.ne_nil_of_mem h))
  omega
theorem Two.least (T : Two sc N A B K) {k : List Int} (ha : ∃ p, p ∈ keyS v sc tabs A K k) (hb : ∃ p, p ∈ keyS v sc tabs B K k) : mnL ((keyS v sc tabs N K k).map (·.2)) = mnL ((keyS v sc tabs A K k).map (·.2)) + mnL ((keyS v sc tabs B K k).map (·.2)) := by
  obtain ⟨p0, hp0⟩ := ha
  obtain ⟨q0, hq0⟩ := hb
  have na := mn_mem (List.ne_nil_of_mem (List.mem_map.mpr ⟨p0, hp0, rfl⟩) : (keyS v sc tabs A K k).map (·.2) ≠ [])
  have nb := mn_mem (List.ne_nil_of_mem (List.mem_map.mpr ⟨q0, hq0, rfl⟩) : (keyS v sc tabs B K k).map (·.2) ≠ [])
  apply mn_is
  · obtain ⟨p, hp, e1⟩ := List.mem_map.mp na
    obtain ⟨q, hq, e2⟩ := List.mem_map.mp nb
    rw [← e1, ← e2]
    exact List.mem_map.mpr ⟨_, (T.join hp hq).1, rfl⟩
  · intro x hx
    obtain ⟨p, hp, rfl⟩ := List.mem_map.mp hx
    obtain ⟨h1, h2, h3⟩ := T.split hp
    have m1 : mnL ((keyS v sc tabs A K k).map (·.2)) ≤ (splitP sc tabs N A B p).1.2 := mn_le (List.mem_map.mpr ⟨_, h1, rfl⟩)
    have m2 : mnL ((keyS v sc tabs B K k).map (·.2)) ≤ (splitP sc tabs N A B p).2.2 := mn_le (List.mem_map.mpr ⟨_, h2, rfl⟩)
    omega
abbrev gA (v : Nat) (sc : List (List Int)) (tabs : List (List (List Int × Int))) (ns : List Nat) (K : List Int) : List Tr := cutsL (varsL sc ns) K (solsL v sc tabs ns)
theorem Two.keys (T : Two sc N A B K) {k : List Int} : k ∈ keysL (gA v sc tabs N K) ↔ k ∈ keysL (gA v sc tabs A K) ∧ k ∈ keysL (gA v sc tabs B K) := by
  rw [keys_cuts, keys_cuts, keys_cuts]
  constructor
  · rintro ⟨p, hp⟩
    obtain ⟨h1, h2, _⟩ := T.split hp
    exact ⟨⟨_, h1⟩, ⟨_, h2⟩⟩
  · rintro ⟨⟨p, hp⟩, ⟨q, hq⟩⟩
    exact ⟨_, (T.join hp hq).1⟩
/-- what is gathered of the two, put together -/
theorem Two.main (T : Two sc N A B K) : (gath (gA v sc tabs A K)).flatMap (fun t => ((gath (gA v sc tabs B K)).filter fun u => decide (u.1 = t.1)).map fun u => ((t.1, t.2.1 * u.2.1, t.2.2 + u.2.2) : Tr)) = gath (gA v sc tabs N K) := by
  have one : ∀ k, (gath (gA v sc tabs B K)).filter (fun u => decide (u.1 = k)) = if k ∈ keysL (gA v sc tabs B K) then [(k, cntL (gA v sc tabs B K) k, lstL (gA v sc tabs B K) k)] else [] := by
    intro k
    unfold gath
    rw [List.filter_map]
    have hn := (srt_perm (keysL (gA v sc tabs B K))).nodup_iff.mpr (keys_nodup (gA v sc tabs B K))
    have hm : k ∈ srt (keysL (gA v sc tabs B K)) ↔ k ∈ keysL (gA v sc tabs B K) := mem_srt
    generalize srt (keysL (gA v sc tabs B K)) = S at hn hm
    have : S.filter ((fun u : Tr => decide (u.1 = k)) ∘ fun k => (k, cntL (gA v sc tabs B K) k, lstL (gA v sc tabs B K) k)) = if k ∈ S then [k] else [] := by
      show S.filter (fun q => decide (q = k)) = _
      clear hm
      induction S with
      | nil => rfl
      | cons a S ih =>
        rw [List.nodup_cons] at hn
        have ih := ih hn.2
        by_cases e : a = k
        · subst e
          rw [List.filter_cons_of_pos (by simp), ih, if_neg hn.1, if_pos List.mem_cons_self]
        · rw [List.filter_cons_of_neg (by simpa using e), ih]
          by_cases h : k ∈ S
          · rw [if_pos h, if_pos (List.mem_cons_of_mem _ h)]
          · rw [if_neg h, if_neg fun z => (List.mem_cons.mp z).elim (fun y => e y.symm) h]
    rw [this]
    by_cases h : k ∈ S
    · rw [if_pos h, if_pos (hm.mp h)]; rfl
    · rw [if_neg h, if_neg fun z => h (hm.mpr z)]; rfl
  have hs : srt (keysL (gA v sc tabs N K)) = (srt (keysL (gA v sc tabs A K))).filter fun k => decide (k ∈ keysL (gA v sc tabs B K)) := by
    apply srt_uniq (keys_nodup _)
    · refine (List.perm_ext_iff_of_nodup (((srt_perm _).nodup_iff.mpr (keys_nodup _)).filter _) (keys_nodup _)).mpr ?_
      intro k
      rw [List.mem_filter, mem_srt, T.keys, decide_eq_true_eq]
    · exact (srt_asc (keys_nodup _)).filter _
  have hmem : ∀ k ∈ srt (keysL (gA v sc tabs A K)), k ∈ keysL (gA v sc tabs A K) := fun k h => mem_srt.mp h
  unfold gath at one ⊢
  rw [hs]
  generalize srt (keysL (gA v sc tabs A K)) = S at hmem
  induction S with
  | nil => rfl
  | cons a S ih =>
    rw [List.map_cons, List.flatMap_cons, ih fun k hk => hmem k (List.mem_cons_of_mem _ hk)]
    simp only [one]
    by_cases h : a ∈ keysL (gA v sc tabs B K)
    · rw [if_pos h, List.filter_cons_of_pos (by simpa using h), List.map_cons, List.map_cons, List.map_nil, List.cons_append, List.nil_append]
      have ha := hmem a List.mem_cons_self
      congr 1
      rw [cnt_cuts, cnt_cuts, cnt_cuts, lst_cuts, lst_cuts, lst_cuts]
      have c := T.count (v := v) (tabs := tabs) a
      have m := T.least (keys_cuts.mp ha) (keys_cuts.mp h)
      rw [m, c]
      simp
    · rw [if_neg h, List.filter_cons_of_neg (by simpa using h)]
      rfl
end
end QQ

namespace QQ
open PP WK
/-- some of them, as drawn -/
theorem drawn_gen {α : Type} (f : α → PV) (s : St) (many : Int) (h : 0 < many ∧ many < 1000) (p : PV → PV → Option PV) (hp : ∀ d : Int, ∃ b, p (.int d) (.int 0) = some (.bl b)) (l : List α) : Ok (cmpS (fun (w12 : PV) (x11 : PV) => (m__law_next w12 (.int many)).bind fun (t14 : PV × PV) => (p t14.1 (.int 0)).bind fun t15 => (asBl t15).bind fun b16 => if b16 = true then some (some x11, t14.2) else some (none, t14.2)) (l.map f) s.p) fun q => ∃ (k : List α) (s' : St), q = (k.map f, s'.p) ∧ k.Sublist l := by
  refine Ok.cmpS (P := fun w => ∃ s : St, w = s.p) (G := fun x y => y = x) ⟨s, rfl⟩ ?_ ?_
  · rintro x _ _ ⟨s, rfl⟩
    obtain ⟨d, s', _, _, e⟩ := next_ok s many (by omega) (by omega)
    obtain ⟨b, hb⟩ := hp d
    cases b with
    | true => exact Ok.of (v := (some x, s'.p)) (by simp [e, hb]) ⟨⟨s', rfl⟩, fun y h => by cases h; rfl⟩
    | false => exact Ok.of (v := (none, s'.p)) (by simp [e, hb]) ⟨⟨s', rfl⟩, fun y h => by cases h⟩
  · rintro ys _ ⟨s', rfl⟩ h
    obtain ⟨k, rfl, hs⟩ := made_same (fun a y h => h) h
    exact ⟨k, s', rfl, hs⟩
theorem ndI_ints (F : List Nat) : ndI F = (F.map fun i : Nat => (i : Int)).map PV.int := by simp [ndI, Function.comp_def]
theorem notIn_nd (i : Nat) (F : List Nat) : notInF (.int (i : Int)) (.tup (ndI F)) = some (.bl (!decide (i ∈ F))) := by
  rw [ndI_ints, notInF_t]
  congr 3
  rw [decide_eq_decide, List.mem_map]
  exact ⟨fun ⟨j, hj, e⟩ => by rw [← Int.ofNat_inj.mp e]; exact hj, fun h => ⟨i, h, rfl⟩⟩
theorem in_two (a b : Int) : inF (.int a) (.lst [.int 0, .int b]) = some (.bl (decide (a = 0 ∨ a = b))) := by
  have e : (.lst [.int 0, .int b] : PV) = .lst ([0, b].map PV.int) := rfl
  rw [e]
  simp only [inF, seqOf_lst]
  rw [okD_int, okD_lst (okD_ints 59 _), any_int]
  simp
@[simp] theorem eqF_trt (L M : List Tr) : eqF (.tup (L.map trP)) (.tup (M.map trP)) = some (.bl (decide (L = M))) := by
  rw [eqF_ok (okD_tup (n := 59) (all_map fun a _ => okD_trP 57 a)) (okD_tup (n := 59) (all_map fun a _ => okD_trP 57 a)), eqv_tt, eqvs_map eqv_trP]
section
variable {v : Nat} {sc : List (List Int)} {ed : List (Int × Int)} {tabs : List (List (List Int × Int))} {ns : List Nat}
theorem rows_lt (hv : v ≤ 3) (o : OkG v sc ed) : (solsL v sc tabs ns).length ≤ 729 := by
  have hb := rowsL_len v (varsL sc ns).length
  have h3 := pow3 hv (vars_asc sc o.ss ns).2.2
  have := (sols_rows v sc tabs ns).length_le
  rw [List.length_map] at this
  omega
theorem sol_len {p : List Int × Int} (h : p ∈ solsL v sc tabs ns) : p.1.length = (varsL sc ns).length := (rowsL_mem (sols_mem.mp h).1).1
theorem proj_ok (hv : v ≤ 3) (o : OkG v sc ed) (ht : Tabs v sc tabs) {keep : List Int} (hasc : keep.Pairwise (· < ·)) (hsub : ∀ x ∈ keep, x ∈ varsA sc) : m_projection (gP v sc ed) (tbsP tabs) (tI keep) = some (.tup ((gath (gA v sc tabs (allN sc) keep)).map trP)) := by
  obtain ⟨h1, h2, h3⟩ := vars_asc sc o.ss (allN sc)
  have hle := rows_lt (tabs := tabs) (ns := allN sc) hv o
  have h6 : ∀ x ∈ keep, 0 ≤ x ∧ x < 6 := fun x hx => h2 x (hsub x hx)
  have hkl := asc_len hasc h6 (by decide)
  unfold m_projection m_projected
  simp only [checkt_ok o ht, Option.bind_some, variables_of_ok o]
  rw [ispart_ok (keep := keep) (vars := varsA sc) rfl rfl (by simp) (fun x => inF_t x _) hsub h6 hasc (by omega)]
  simp only [Option.bind_some, truthF_bl, Bool.not_true, Bool.false_eq_true, if_false, sols_of_ok o ht]
  rw [show m_cut_down (.lst ((solsA v sc tabs).map rowP)) (tI (varsA sc)) (tI keep) = _ from cutdown_ok h1 hasc hsub (fun p hp => sol_len hp) (by omega) (fun x => inF_t x keep)]
  rfl
/-- the program's projection of a part -/
theorem nodes_chk (o : OkG v sc ed) (hs : ns.Sublist (allN sc)) (hne : ns ≠ []) : m_are_nodes (gP v sc ed) (.tup (ndI ns)) = some (.bl true) := by
  have hasc : ns.Pairwise (· < ·) := List.Pairwise.sublist hs (List.pairwise_lt_range)
  have hlen : ns.length ≤ sc.length := by have := hs.length_le; simpa [allN] using this
  have h5 := o.n1
  unfold m_are_nodes
  have c := climb_ok (.tup (ndI ns)) (ndI ns) rfl (by simp [ndI]; omega) (fun i x y hx hy => pw_at (f := fun i : Nat => PV.int (i : Int)) hasc (fun a b h => by simp; omega) i x y hx hy)
  unfold m_is_climbing at c
  have hn : truthF (.tup (ndI ns)) = some true := by
    cases ns with
    | nil => exact absurd rfl hne
    | cons a r => rfl
  simp only [isTy_tt, truthF_bl, Option.bind_some, Bool.not_true, Bool.false_eq_true, if_false, hn, seqOf_tup]
  rw [cmp_all (g := fun i : Nat => PV.int (i : Int)) fun i hi => by
    have := allN_lt i (hs.subset hi)
    simp [number_ok, show (i : Int) ≤ (sc.length : Int) - 1 by omega]]
  simp only [Option.bind_some, all_true, truthF_bl, Bool.not_true, Bool.false_eq_true, if_false]
  exact c
theorem pproj_ok (o : OkG v sc ed) (ht : Tabs v sc tabs) (S : Sit v sc ed tabs ns (.tup (ndI ns))) (hs : ns.Sublist (allN sc)) (hne : ns ≠ []) {keep : List Int} (hasc : keep.Pairwise (· < ·)) (hsub : ∀ x ∈ keep, x ∈ varsL sc ns) : m_part_projection (gP v sc ed) (tbsP tabs) (.tup (ndI ns)) (tI keep) = some (.tup ((gath (gA v sc tabs ns keep)).map trP)) := by
  obtain ⟨h1, h2, h3⟩ := vars_asc sc o.ss ns
  have hle := rows_lt (tabs := tabs) (ns := ns) S.v3 o
  have h6 : ∀ x ∈ keep, 0 ≤ x ∧ x < 6 := fun x hx => h2 x (hsub x hx)
  have hkl := asc_len hasc h6 (by decide)
  unfold m_part_projection
  simp only [checkt_ok o ht, Option.bind_some, nodes_chk o hs hne, truthF_bl, Bool.not_true, Bool.false_eq_true, if_false, S.scp]
  rw [ispart_ok (keep := keep) (vars := varsL sc ns) rfl rfl (by simp) (fun x => inF_t x _) hsub h6 hasc (by omega)]
  simp only [Option.bind_some, truthF_bl, Bool.not_true, Bool.false_eq_true, if_false, sols_ok S]
  rw [cutdown_ok h1 hasc hsub (fun p hp => sol_len hp) (by omega) (fun x => inF_t x keep)]
  rfl
theorem lleft2_ok (o : OkG v sc ed) (S : Sit v sc ed tabs ns (.tup (ndI ns))) {keep : List Int} (hsub : ∀ x ∈ keep, x ∈ varsL sc ns) : m__law_left (.lst ((solsL v sc tabs ns).map rowP)) (.fup ((varsL sc ns).map PV.int)) (tI keep) = some (.tup ((gath (gA v sc tabs ns keep)).map trP)) :=
  lleft_ok hsub (fun p hp => sol_len hp) (by have := rows_lt (tabs := tabs) (ns := ns) S.v3 o; omega) rfl
theorem gath_len (L : List Tr) : (gath L).length ≤ L.length := by
  unfold gath
  rw [List.length_map, (srt_perm _).length_eq]
  exact keys_len L
/-- the two put together, as the law does it -/
theorem due_ok (LA LB : List Tr) (hA : LA.length ≤ 1000) (hB : LB.length ≤ 1000) (hc : ∀ t ∈ LB, 0 ≤ t.2.1 ∧ t.2.1 < 1000) : fldM (fun (w72 : PV) (x71 : PV) => (un3 x71).bind fun (u75 : PV × PV × PV) => ((getF (.lst [.tup (LA.map trP), .tup (LB.map trP)]) (.int 1)).bind fun t78 => (seqOf t78).bind fun l79 => cmpG (fun (x76 : PV) => (un3 x76).bind fun (u80 : PV × PV × PV) => (eqF u80.1 u75.1).bind fun t81 => (asBl t81).bind fun b82 => if b82 = true then (mulF u75.2.1 u80.2.1).bind fun t83 => (addF u75.2.2 u80.2.2).bind fun t84 => some (some (.tup [u75.1, t83, t84])) else some none) l79).bind fun (y85 : List PV) => (addF w72 (.lst y85)).bind fun t86 => some t86) (LA.map trP) (.lst []) = some (.lst ((LA.flatMap fun t => (LB.filter fun u => decide (u.1 = t.1)).map fun u => ((t.1, t.2.1 * u.2.1, t.2.2 + u.2.2) : Tr)).map trP)) := by
  have key := fld_acc (f := fun (w72 : PV) (x71 : PV) => (un3 x71).bind fun (u75 : PV × PV × PV) => ((getF (.lst [.tup (LA.map trP), .tup (LB.map trP)]) (.int 1)).bind fun t78 => (seqOf t78).bind fun l79 => cmpG (fun (x76 : PV) => (un3 x76).bind fun (u80 : PV × PV × PV) => (eqF u80.1 u75.1).bind fun t81 => (asBl t81).bind fun b82 => if b82 = true then (mulF u75.2.1 u80.2.1).bind fun t83 => (addF u75.2.2 u80.2.2).bind fun t84 => some (some (.tup [u75.1, t83, t84])) else some none) l79).bind fun (y85 : List PV) => (addF w72 (.lst y85)).bind fun t86 => some t86)
    (g := trP) (E := fun ys : List Tr => .lst ((ys.flatMap fun t => (LB.filter fun u => decide (u.1 = t.1)).map fun u => ((t.1, t.2.1 * u.2.1, t.2.2 + u.2.2) : Tr)).map trP)) LA [] (fun t ys _ hy => by
    simp only [List.length_nil, Nat.zero_add] at hy
    simp only [un3_trP, Option.bind_some, getF_l1, seqOf_tup]
    rw [cmpG_map (p := fun u : Tr => decide (u.1 = t.1)) (h := fun u => trP (t.1, t.2.1 * u.2.1, t.2.2 + u.2.2)) fun u hu => by
      have := hc u hu
      simp only [un3_trP, Option.bind_some, eqF_tI, asBl_ev]
      rw [mulF_int _ _ (.inr (by omega))]
      rfl]
    have hl : ∀ zs : List Tr, (zs.flatMap fun t => (LB.filter fun u => decide (u.1 = t.1)).map fun u => ((t.1, t.2.1 * u.2.1, t.2.2 + u.2.2) : Tr)).length ≤ zs.length * 1000 := by
      intro zs
      induction zs with
      | nil => simp
      | cons z zs ih =>
        rw [List.flatMap_cons, List.length_append, List.length_map, List.length_cons]
        have := List.length_filter_le (fun u : Tr => decide (u.1 = z.1)) LB
        omega
    have h1 := hl ys
    have h2 := List.length_filter_le (fun u : Tr => decide (u.1 = t.1)) LB
    simp only [Option.bind_some]
    rw [addL_ok _ _ (by rw [List.length_map, List.length_map]; omega)]
    simp [List.map_map, Function.comp_def])
  simpa using key
/-- one of the two parts in the law -/
def partF (G TB K : PV) (w45 : PV × PV) (x44 : PV) : Option ((PV × PV) ⊕ PV) := (m_part_projection G TB x44 K).bind fun (t47 : PV) => (m__law_variables G x44).bind fun (t48 : PV) => (m__law_solutions G TB x44).bind fun (t49 : PV) => (m__law_left t49 t48 K).bind fun (t50 : PV) => (neF t47 t50).bind fun t51 => (asBl t51).bind fun b52 => if b52 = true then some (.inr (.bl false)) else ((seqOf t48).bind fun l55 => cmpS (fun (w54 : PV) (x53 : PV) => (m__law_next w54 (.int 2)).bind fun (t56 : PV × PV) => (eqF t56.1 (.int 0)).bind fun t57 => (asBl t57).bind fun b58 => if b58 = true then some (some x53, t56.2) else some (none, t56.2)) l55 w45.1).bind fun (y59 : List PV × PV) => (tupleF [(.lst y59.1)]).bind fun t60 => (m_part_projection G TB x44 t60).bind fun (t61 : PV) => (m__law_solutions G TB x44).bind fun (t62 : PV) => (m__law_left t62 t48 t60).bind fun (t63 : PV) => (neF t61 t63).bind fun t64 => (asBl t64).bind fun b65 => if b65 = true then some (.inr (.bl false)) else (asL w45.2).bind fun _ => (asL w45.2).bind fun l66 => (appendF l66 [t47]).bind fun (z67 : PV × List PV) => some (.inl (y59.2, (.lst z67.2)))
theorem part_step (o : OkG v sc ed) (ht : Tabs v sc tabs) (S : Sit v sc ed tabs ns (.tup (ndI ns))) (hs : ns.Sublist (allN sc)) (hne : ns ≠ []) {K : List Int} (hasc : K.Pairwise (· < ·)) (hsub : ∀ x ∈ K, x ∈ varsL sc ns) (s : St) (acc : List PV) (ha : acc.length ≤ 10) : Ok (partF (gP v sc ed) (tbsP tabs) (tI K) (s.p, .lst acc) (.tup (ndI ns))) fun r => ∃ s' : St, r = .inl (s'.p, .lst (acc ++ [.tup ((gath (gA v sc tabs ns K)).map trP)])) := by
  obtain ⟨h1, h2, h3⟩ := vars_asc sc o.ss ns
  unfold partF
  simp only [pproj_ok o ht S hs hne hasc hsub, S.lsc, lsols_ok S, lleft2_ok o S hsub, Option.bind_some, neF_trs, decide_true, Bool.not_true, asBl_ev, Bool.false_eq_true, if_false, seqOf_fup]
  refine Ok.then (drawn_gen PV.int s 2 (by decide) eqF (fun d => ⟨_, eqF_int d 0⟩) _) ?_
  rintro _ ⟨k, s2, rfl, hk⟩
  have hk2 : ∀ x ∈ k, x ∈ varsL sc ns := fun x hx => hk.subset hx
  have e1 := pproj_ok o ht S hs hne (h1.sublist hk) hk2
  have e2 := lleft2_ok o S hk2
  have e3 := appendF_ok acc (.tup ((gath (gA v sc tabs ns K)).map trP)) (by omega)
  refine Ok.of (v := .inl (s2.p, .lst (acc ++ [.tup ((gath (gA v sc tabs ns K)).map trP)]))) ?_ ⟨s2, rfl⟩
  simp only [tupleF_lst, Option.bind_some]
  rw [show m_part_projection (gP v sc ed) (tbsP tabs) (.tup (ndI ns)) (.tup (k.map PV.int)) = _ from e1]
  simp only [Option.bind_some]
  rw [show m__law_left (.lst ((solsL v sc tabs ns).map rowP)) (.fup ((varsL sc ns).map PV.int)) (.tup (k.map PV.int)) = _ from e2]
  simp only [Option.bind_some, neF_trs, decide_true, Bool.not_true, asBl_ev, Bool.false_eq_true, if_false, asL_l, e3]
end
theorem m_ok (ns : List Int) : Ok (m_law (.lst (ns.map PV.int))) fun r => r = .bl true := by
  unfold m_law
  refine start_ok ns ?_
  intro v sc ed tabs s o l4 ht hc
  have hv : v ≤ 3 := by rcases o.v with h | h <;> omega
  have hn1 := o.n1
  simp only [g_1, Option.bind_some, lenF_tup, List.length_map, nodes_rg o, rgL_nat, rgN_all, lenF_lst]
  have hall : (allN sc).length = sc.length := by simp [allN]
  rw [hall]
  simp only [ltF_int, Option.bind_some, asBl_ev]
  by_cases h2 : (sc.length : Int) < 2
  · rw [decide_eq_true h2, if_pos rfl]
    exact Ok.s rfl
  rw [decide_eq_false h2, if_neg (by simp)]
  simp only [seqOf_lst, Option.bind_some]
  refine Ok.then (drawn_gen (fun i : Nat => PV.int (i : Int)) s 2 (by decide) eqF (fun d => ⟨_, eqF_int d 0⟩) (allN sc)) ?_
  rintro _ ⟨k, s2, rfl, hk⟩
  simp only [tupleF_lst, Option.bind_some, lenF_tup, List.length_map, in_two, asBl_ev]
  refine Ok.then (P := fun r => ∃ F : List Nat, r = .tup (ndI F) ∧ F.Sublist (allN sc) ∧ F ≠ [] ∧ ∃ x ∈ allN sc, x ∉ F) ?_ ?_
  · by_cases hz : (k.length : Int) = 0 ∨ (k.length : Int) = (sc.length : Int)
    · rw [decide_eq_true hz, if_pos rfl]
      refine Ok.of (v := .tup (ndI [sc.length - 1])) ?_ ⟨_, rfl, ?_, by simp, 0, by simp [allN]; omega, by simp; omega⟩
      · simp only [subF_int, Option.bind_some]
        rw [show (sc.length : Int) - 1 = ((sc.length - 1 : Nat) : Int) by omega]
        rfl
      · rw [List.singleton_sublist]; simp [allN]; omega
    · rw [decide_eq_false hz, if_neg (by simp)]
      refine Ok.s ⟨k, rfl, hk, ?_, ?_⟩
      · rintro rfl; exact hz (.inl rfl)
      · by_cases hx : ∃ x ∈ allN sc, x ∉ k
        · exact hx
        · exfalso
          have hsub : allN sc ⊆ k := fun x h => by
            by_cases hxk : x ∈ k
            · exact hxk
            · exact absurd ⟨x, h, hxk⟩ hx
          have nd : (allN sc).Nodup := List.nodup_range
          have h5 : (allN sc).length ≤ k.length := nd.length_le_of_subset hsub
          have h6 := hk.length_le
          exact hz (.inr (by omega))
  rintro _ ⟨F, rfl, hF, hF0, x0, hx0, hx1⟩
  rw [cmpG_map (p := fun i => !decide (i ∈ F)) (h := fun i : Nat => PV.int (i : Int)) fun i _ => by
    rw [notIn_nd]
    cases decide (i ∈ F) <;> rfl]
  simp only [Option.bind_some, tupleF_lst]
  have hS : ((allN sc).filter fun i => !decide (i ∈ F)).Sublist (allN sc) := List.filter_sublist
  have hS0 : ((allN sc).filter fun i => !decide (i ∈ F)) ≠ [] := by
    intro z
    have : x0 ∈ ((allN sc).filter fun i => !decide (i ∈ F)) := List.mem_filter.mpr ⟨hx0, by simpa using hx1⟩
    rw [z] at this; cases this
  have hperm : (F ++ (allN sc).filter fun i => !decide (i ∈ F)).Perm (allN sc) := by
    have nd : (allN sc).Nodup := List.nodup_range
    have p1 : F.Perm ((allN sc).filter fun i => decide (i ∈ F)) := (List.perm_ext_iff_of_nodup (nd.sublist hF) (nd.filter _)).mpr fun i => by
      rw [List.mem_filter, decide_eq_true_eq]
      exact ⟨fun h => ⟨hF.subset h, h⟩, fun h => h.2⟩
    exact (p1.append_right _).trans (List.filter_append_perm _ _)
  generalize hSd : ((allN sc).filter fun i => !decide (i ∈ F)) = S at *
  have SF : Sit v sc ed tabs F (.tup (ndI F)) := sit o ht rfl (fun i hi => allN_lt i (hF.subset hi)) (by have := hF.length_le; omega)
  have SS : Sit v sc ed tabs S (.tup (ndI S)) := sit o ht rfl (fun i hi => allN_lt i (hS.subset hi)) (by have := hS.length_le; omega)
  rw [show (.tup (S.map fun i : Nat => PV.int (i : Int)) : PV) = .tup (ndI S) from rfl]
  simp only [SF.lsc, SS.lsc, Option.bind_some, seqOf_fup]
  rw [cmpG_map (p := fun x => decide (x ∈ varsL sc S)) (h := PV.int) fun x _ => by
    rw [inF_f]
    cases decide (x ∈ varsL sc S) <;> rfl]
  simp only [Option.bind_some, tupleF_lst]
  have T : Two sc (allN sc) F S ((varsL sc F).filter fun x => decide (x ∈ varsL sc S)) := by
    have nd : ∀ m, (varsL sc m).Nodup := fun m => (vars_asc sc o.ss m).1.imp fun {a b} h => by omega
    exact ⟨hperm, nd _, nd _, nd _, fun x => by rw [List.mem_filter, decide_eq_true_eq]⟩
  have hKa : ((varsL sc F).filter fun x => decide (x ∈ varsL sc S)).Pairwise (· < ·) := (vars_asc sc o.ss F).1.filter _
  generalize hK : ((varsL sc F).filter fun x => decide (x ∈ varsL sc S)) = K at *
  refine Ok.then (P := fun r => ∃ s' : St, r = .inl (s'.p, .lst [.tup ((gath (gA v sc tabs F K)).map trP), .tup ((gath (gA v sc tabs S K)).map trP)])) ?_ ?_
  · show Ok (fldR (partF (gP v sc ed) (tbsP tabs) (tI K)) [.tup (ndI F), .tup (ndI S)] (s2.p, .lst [])) _
    obtain ⟨_, e1, s3, rfl⟩ := part_step o ht SF hF hF0 hKa (fun x hx => ((T.hK x).mp hx).1) s2 [] (by simp)
    obtain ⟨_, e2, s4, rfl⟩ := part_step o ht SS hS hS0 hKa (fun x hx => ((T.hK x).mp hx).2) s3 [.tup ((gath (gA v sc tabs F K)).map trP)] (by simp)
    refine ⟨_, ?_, s4, rfl⟩
    simp only [fldR, e1, e2, Option.bind_some, List.nil_append, List.singleton_append]
  rintro _ ⟨s5, rfl⟩
  simp only [mSum_inl, getF_l0, Option.bind_some, seqOf_tup]
  have hlA := rows_lt (tabs := tabs) (ns := F) hv o
  have hlB := rows_lt (tabs := tabs) (ns := S) hv o
  have cl : ∀ m, (gA v sc tabs m K).length = (solsL v sc tabs m).length := fun m => by simp [gA, cutsL]
  have g1 := gath_len (gA v sc tabs F K)
  have g2 := gath_len (gA v sc tabs S K)
  rw [cl] at g1 g2
  have due := due_ok (gath (gA v sc tabs F K)) (gath (gA v sc tabs S K)) (by omega) (by omega) (fun t ht => by
    obtain ⟨_, h, _⟩ := mem_gath.mp ht
    rw [h, cnt_cuts]
    have := List.length_filter_le (fun p => decide (partL p.1 (varsL sc S) K = t.1)) (solsL v sc tabs S)
    unfold keyF
    omega)
  simp only [getF_l1, Option.bind_some, seqOf_tup] at due
  simp only [getF_l1, Option.bind_some, seqOf_tup]
  rw [due, T.main]
  simp only [Option.bind_some, tupleF_lst]
  rw [show m_projection (gP v sc ed) (tbsP tabs) (.tup (K.map PV.int)) = _ from proj_ok hv o ht hKa fun x hx => T.vars.mpr (.inl ((T.hK x).mp hx).1)]
  simp only [Option.bind_some, eqF_trt, decide_true]
  exact Ok.s rfl
theorem plain (ns : List Int) (hns : ns.length ≤ 63) : ∃ ws, s_law [.lst (ns.map PV.int)] = some (.bl true, ws) := by
  obtain ⟨r, e, rfl⟩ := m_ok ns
  exact ⟨_, by rw [q_law, e]; rfl⟩
end QQ

namespace WK
open PySem PySem.Spec PyProof.Rows L2 PP
def top (i : Nat) : Stmt := PySem.Challenge.pw_tabletalk_k11_whole_two_parts.main.body.getD i (.Pass ⟨0, 0, 0, 0⟩)
def FREE : List Str := ["len", "abs", "all", "any", "sum", "min", "max", "sorted", "isinstance", "int", "tuple", "list", "bool", "str", "range", "zip"]
def INTS : List (Str × Int) := [("MOST_VARIABLE", 5), ("WIDEST_SCOPE", 3), ("MOST_COST", 100), ("MOST_NODES", 5)]
/-! _law_stream -/
def N__law_stream : List Str := ["_law_script"]
def e__law_stream : Expr := match defBody (top 38) with | [.Return (some e) _] => e | _ => .Constant .none 0 ⟨0, 0, 0, 0⟩
theorem b__law_stream {X : Cx} (c : Cn X N__law_stream (defScope (top 38)).names (defScope (top 38)).names 0) (g : GF X.mg FREE INTS) : VF X (e__law_stream) d__law_stream := by
  have v1_0 := fun pos => c.var (i := 0) (x := ("_law_script" : Str)) (by decide +kernel) pos
  have b1_list := c.bi g (x := ("list" : Str)) (v := .type "list") (by decide +kernel)
  exact (vf_lst (by decide) (va_cons rfl (b1_list.appTy cr_listF rfl (vab_d rfl (ve_var (v1_0 _)) vab_nil)) (va_cons rfl pe_iv (va_cons rfl pe_iv va_nil))))
/-! _law_next -/
def N__law_next : List Str := ["_law_stream_here", "_law_many", "_law_k", "_law_cell", "_law_digit"]
theorem b__law_next {X : Cx} (c : Cn X N__law_next (defScope (top 39)).names (defScope (top 39)).names 0) (g : GF X.mg FREE INTS) : VSs X [0] (defBody (top 39)) d__law_next := by
  have v1_0 := fun pos => c.var (i := 0) (x := ("_law_stream_here" : Str)) (by decide +kernel) pos
  have v1_2 := fun pos => c.var (i := 2) (x := ("_law_k" : Str)) (by decide +kernel) pos
  have v1_3 := fun pos => c.var (i := 3) (x := ("_law_cell" : Str)) (by decide +kernel) pos
  have v1_1 := fun pos => c.var (i := 1) (x := ("_law_many" : Str)) (by decide +kernel) pos
  have v1_4 := fun pos => c.var (i := 4) (x := ("_law_digit" : Str)) (by decide +kernel) pos
  have b1_len := c.bi g (x := ("len" : Str)) (v := .builtin "len") (by decide +kernel)
  have b1_abs := c.bi g (x := ("abs" : Str)) (v := .builtin "abs") (by decide +kernel)
  have b1_int := c.bi g (x := ("int" : Str)) (v := .type "int") (by decide +kernel)
  exact (vss_cons (vs_post [2, 3] (vs_if (vt_cmp (op_eqF c.hu64) rfl (ve_subL c.hu1 (plainIx trivial) (v1_0 _) pe_iv) pe_iv) (vss_cons (c.set (by decide) (by decide +kernel) (ve_subL c.hu1 (plainIx trivial) (v1_0 _) pe_iv) rfl) (vss_cons (c.set (by decide) (by decide +kernel) (ve_bin op_addF pe_iv (ve_var (v1_2 _))) rfl) (vss_cons (vs_if (vt_cmp (op_ltF c.hu0) rfl (ve_var (v1_2 _)) (b1_len.app cr_lenF rfl (vab_d rfl (ve_subL c.hu1 (plainIx trivial) (v1_0 _) pe_iv) vab_nil))) (vss_cons (c.set (by decide) (by decide +kernel) (b1_abs.app cr_absF rfl (vab_d rfl (ve_sub c.hu1 (plainIx trivial) (ve_subL c.hu1 (plainIx trivial) (v1_0 _) pe_iv) (ve_var (v1_2 _))) vab_nil)) rfl) vss_nil) vss_nil) (vss_cons (vs_if (vt_cmp (op_ltF c.hu0) rfl (ve_var (v1_3 _)) (ve_bin op_powF pe_iv pe_iv)) (vss_cons (c.set (by decide) (by decide +kernel) (ve_bin op_modF (b1_int.appTy cr_intTF rfl (vab_d rfl (ve_bin op_addF (ve_bin op_addF (ve_bin op_mulF (ve_var (v1_3 _)) pe_iv) (ve_bin op_mulF (ve_var (v1_2 _)) pe_iv)) pe_iv) vab_nil)) pe_iv) rfl) (vss_cons (c.set (by decide) (by decide +kernel) (ve_bin op_addF (ve_bin op_mulF (ve_bin op_modF (b1_int.appTy cr_intTF rfl (vab_d rfl (ve_bin op_addF (ve_bin op_mulF (ve_var (v1_3 _)) pe_iv) pe_iv) vab_nil)) pe_iv) pe_iv) (ve_var (v1_3 _))) rfl) vss_nil)) vss_nil) (vss_cons (vs_store c.hu1 (v1_0 _) pe_iv (ve_var (v1_3 _)) rfl rfl rfl (fun _ => rfl)) (vss_cons (vs_store c.hu1 (v1_0 _) pe_iv (ve_bin op_addF (ve_var (v1_2 _)) pe_iv) rfl rfl rfl (fun _ => rfl)) vss_nil)))))) vss_nil)) (vss_cons (c.set (by decide) (by decide +kernel) (ve_bin op_modF (b1_int.appTy cr_intTF rfl (vab_d rfl (ve_subL c.hu1 (plainIx trivial) (v1_0 _) pe_iv) vab_nil)) (ve_var (v1_1 _))) rfl) (vss_cons (vs_store c.hu1 (v1_0 _) pe_iv (ve_bin op_divF (ve_subL c.hu1 (plainIx trivial) (v1_0 _) pe_iv) (ve_var (v1_1 _))) rfl rfl rfl (fun _ => rfl)) (vss_cons (vs_retK [1, 2, 3, 4] (ve_var (v1_4 _))) vss_nil))))
/-! _law_some -/
def N__law_some : List Str := ["_law_stream_here", "_law_most", "_law_high", "_law_found", "_law_variable"]
theorem b__law_some {X : Cx} (c : Cn X N__law_some (defScope (top 41)).names (defScope (top 41)).names 1) (g : GF X.mg FREE INTS) (f__law_next : FavX X 1 "_law_next" 2 [true] s__law_next) : VSs X [0] (defBody (top 41)) d__law_some := by
  have v1_2 := fun pos => c.var (i := 2) (x := ("_law_high" : Str)) (by decide +kernel) pos
  have v1_3 := fun pos => c.var (i := 3) (x := ("_law_found" : Str)) (by decide +kernel) pos
  have v1_1 := fun pos => c.var (i := 1) (x := ("_law_most" : Str)) (by decide +kernel) pos
  have v1_0 := fun pos => c.var (i := 0) (x := ("_law_stream_here" : Str)) (by decide +kernel) pos
  have v1_4 := fun pos => c.var (i := 4) (x := ("_law_variable" : Str)) (by decide +kernel) pos
  have b1_range := c.bi g (x := ("range" : Str)) (v := .type "range") (by decide +kernel)
  have b1_len := c.bi g (x := ("len" : Str)) (v := .builtin "len") (by decide +kernel)
  have b1_tuple := c.bi g (x := ("tuple" : Str)) (v := .type "tuple") (by decide +kernel)
  have t1_4 := fun pos => c.tgt (i := 4) (x := ("_law_variable" : Str)) (by decide +kernel) pos
  exact (vss_cons (c.ownF (by decide) (by decide +kernel) (vf_lst (by decide) va_nil) rfl) (vss_cons (vs_for c.xe c.calm (refs_tgt (by decide)) (b1_range.range1 rfl (ve_var (v1_2 _))) (t1_4 _) (vss_post [4] (vss_cons (vs_if (PW.pt (vw_and (vt_cmp (op_ltF c.hu0) rfl (b1_len.app cr_lenF rfl (vab_b rfl (v1_3 _) vab_nil)) (ve_var (v1_1 _))) (vw_and1 (vt_cmp (op_eqF c.hu64) rfl (c.call f__law_next (by decide) (by decide +kernel) rfl (by rfl) (by decide) (by rfl) (vc_b rfl (v1_0 _) (vc_d rfl pe_iv vc_nil))) pe_iv)))) (vss_cons (vs_drop rfl (ve_mut mm_append (mcall rfl rfl (by decide) (by decide +kernel)) (v1_3 _) (va_cons rfl (ve_var (v1_4 _)) va_nil))) vss_nil) vss_nil) vss_nil)) (fun _ => rfl)) (vss_cons (vs_retK [1, 2, 3, 4] (b1_tuple.appTy cr_tupleF rfl (vab_b rfl (v1_3 _) vab_nil))) vss_nil)))
/-! _law_graph -/
def N__law_graph : List Str := ["_law_stream_here", "_law_nodes", "_law_values", "_law_many", "_law_scopes", "_law_node", "_law_edges", "_law_a", "_law_b"]
theorem b__law_graph {X : Cx} (c : Cn X N__law_graph (defScope (top 42)).names (defScope (top 42)).names 2) (g : GF X.mg FREE INTS) (f__law_next : FavX X 1 "_law_next" 2 [true] s__law_next) (f__law_some : FavX X 2 "_law_some" 3 [true] s__law_some) : VSs X [0] (defBody (top 42)) d__law_graph := by
  have v1_0 := fun pos => c.var (i := 0) (x := ("_law_stream_here" : Str)) (by decide +kernel) pos
  have v1_1 := fun pos => c.var (i := 1) (x := ("_law_nodes" : Str)) (by decide +kernel) pos
  have v1_3 := fun pos => c.var (i := 3) (x := ("_law_many" : Str)) (by decide +kernel) pos
  have v1_7 := fun pos => c.var (i := 7) (x := ("_law_a" : Str)) (by decide +kernel) pos
  have v1_8 := fun pos => c.var (i := 8) (x := ("_law_b" : Str)) (by decide +kernel) pos
  have v1_6 := fun pos => c.var (i := 6) (x := ("_law_edges" : Str)) (by decide +kernel) pos
  have v1_2 := fun pos => c.var (i := 2) (x := ("_law_values" : Str)) (by decide +kernel) pos
  have v1_4 := fun pos => c.var (i := 4) (x := ("_law_scopes" : Str)) (by decide +kernel) pos
  have b1_int := c.bi g (x := ("int" : Str)) (v := .type "int") (by decide +kernel)
  have b1_range := c.bi g (x := ("range" : Str)) (v := .type "range") (by decide +kernel)
  have b1_tuple := c.bi g (x := ("tuple" : Str)) (v := .type "tuple") (by decide +kernel)
  have t1_7 := fun pos => c.tgt (i := 7) (x := ("_law_a" : Str)) (by decide +kernel) pos
  have t1_8 := fun pos => c.tgt (i := 8) (x := ("_law_b" : Str)) (by decide +kernel) pos
  exact (vss_cons (c.set (by decide) (by decide +kernel) (ve_bin op_addF pe_iv (b1_int.appTy cr_intTF rfl (vab_d rfl (ve_cmp (op_eqF c.hu64) rfl (c.call f__law_next (by decide) (by decide +kernel) rfl (by rfl) (by decide) (by rfl) (vc_b rfl (v1_0 _) (vc_d rfl pe_iv vc_nil))) pe_iv) vab_nil))) rfl) (vss_cons (c.set (by decide) (by decide +kernel) (ve_bin op_addF pe_iv (c.call f__law_next (by decide) (by decide +kernel) rfl (by rfl) (by decide) (by rfl) (vc_b rfl (v1_0 _) (vc_d rfl (ve_var (v1_1 _)) vc_nil)))) rfl) (vss_cons (c.set (by decide) (by decide +kernel) (b1_tuple.appTy cr_tupleF rfl (vab_d rfl (vf_ve (c.vf (c.lc (own := [(("_law_node" : Str), 5)]) (b1_range.range1 rfl (ve_var (v1_3 _))) (by decide +kernel) rfl (by decide) (fun _ => rfl) (fun _ _ _ _ _ c2 => by (have v2_0 := fun pos => c2.var (i := 0) (x := ("_law_stream_here" : Str)) (by decide +kernel) pos; have v2_2 := fun pos => c2.var (i := 2) (x := ("_law_values" : Str)) (by decide +kernel) pos; have b2_int := c2.bi g (x := ("int" : Str)) (v := .type "int") (by decide +kernel); have t2_5 := fun pos => c2.tgt (i := 5) (x := ("_law_node" : Str)) (by decide +kernel) pos; exact ⟨(t2_5 _), vts_nil, (c2.call f__law_some (by decide) (by decide +kernel) rfl (by rfl) (by decide) (by rfl) (vc_b rfl (v2_0 _) (vc_d rfl (ve_bin op_addF pe_iv (b2_int.appTy cr_intTF rfl (vab_d rfl (ve_cmp (op_eqF c2.hu64) rfl (ve_var (v2_2 _)) pe_iv) vab_nil))) (vc_d rfl pe_iv vc_nil))))⟩))))) vab_nil)) rfl) (vss_cons (c.ownF (by decide) (by decide +kernel) (vf_lst (by decide) va_nil) rfl) (vss_cons (vs_for c.xe c.calm (refs_tgt (by decide)) (b1_range.range1 rfl (ve_var (v1_3 _))) (t1_7 _) (vss_post [7, 8] (vss_cons (vs_for c.xe c.calm (refs_tgt (by decide)) (b1_range.range2 rfl rfl (ve_bin op_addF (ve_var (v1_7 _)) pe_iv) (ve_var (v1_3 _))) (t1_8 _) (vss_post [8] (vss_cons (vs_if (vt_cmp (op_eqF c.hu64) rfl (c.call f__law_next (by decide) (by decide +kernel) rfl (by rfl) (by decide) (by rfl) (vc_b rfl (v1_0 _) (vc_d rfl pe_iv vc_nil))) pe_iv) (vss_cons (vs_drop rfl (ve_mut mm_append (mcall rfl rfl (by decide) (by decide +kernel)) (v1_6 _) (va_cons rfl (ve_tup (by decide) (va_cons rfl (ve_var (v1_7 _)) (va_cons rfl (ve_var (v1_8 _)) va_nil))) va_nil))) vss_nil) vss_nil) vss_nil)) (fun _ => rfl)) vss_nil)) (fun _ => rfl)) (vss_cons (vs_retK [1, 2, 3, 4, 5, 6, 7, 8] (ve_tup (by decide) (va_cons rfl (ve_var (v1_2 _)) (va_cons rfl (ve_var (v1_4 _)) (va_cons rfl (b1_tuple.appTy cr_tupleF rfl (vab_b rfl (v1_6 _) vab_nil)) va_nil))))) vss_nil))))))
/-! _law_tree -/
def N__law_tree : List Str := ["_law_stream_here", "_law_nodes", "_law_values", "_law_scopes", "_law_edges", "_law_fresh", "_law_node", "_law_above", "_law_kept", "_law_variable"]
theorem b__law_tree {X : Cx} (c : Cn X N__law_tree (defScope (top 43)).names (defScope (top 43)).names 2) (g : GF X.mg FREE INTS) (f__law_next : FavX X 1 "_law_next" 2 [true] s__law_next) (f__law_some : FavX X 2 "_law_some" 3 [true] s__law_some) : VSs X [0] (defBody (top 43)) d__law_tree := by
  have v1_0 := fun pos => c.var (i := 0) (x := ("_law_stream_here" : Str)) (by decide +kernel) pos
  have v1_1 := fun pos => c.var (i := 1) (x := ("_law_nodes" : Str)) (by decide +kernel) pos
  have v1_6 := fun pos => c.var (i := 6) (x := ("_law_node" : Str)) (by decide +kernel) pos
  have v1_7 := fun pos => c.var (i := 7) (x := ("_law_above" : Str)) (by decide +kernel) pos
  have v1_3 := fun pos => c.var (i := 3) (x := ("_law_scopes" : Str)) (by decide +kernel) pos
  have v1_5 := fun pos => c.var (i := 5) (x := ("_law_fresh" : Str)) (by decide +kernel) pos
  have v1_8 := fun pos => c.var (i := 8) (x := ("_law_kept" : Str)) (by decide +kernel) pos
  have v1_4 := fun pos => c.var (i := 4) (x := ("_law_edges" : Str)) (by decide +kernel) pos
  have v1_2 := fun pos => c.var (i := 2) (x := ("_law_values" : Str)) (by decide +kernel) pos
  have b1_int := c.bi g (x := ("int" : Str)) (v := .type "int") (by decide +kernel)
  have b1_range := c.bi g (x := ("range" : Str)) (v := .type "range") (by decide +kernel)
  have b1_len := c.bi g (x := ("len" : Str)) (v := .builtin "len") (by decide +kernel)
  have b1_tuple := c.bi g (x := ("tuple" : Str)) (v := .type "tuple") (by decide +kernel)
  have b1_sorted := c.bi g (x := ("sorted" : Str)) (v := .builtin "sorted") (by decide +kernel)
  have t1_6 := fun pos => c.tgt (i := 6) (x := ("_law_node" : Str)) (by decide +kernel) pos
  exact (vss_cons (c.set (by decide) (by decide +kernel) (ve_bin op_addF pe_iv (b1_int.appTy cr_intTF rfl (vab_d rfl (ve_cmp (op_eqF c.hu64) rfl (c.call f__law_next (by decide) (by decide +kernel) rfl (by rfl) (by decide) (by rfl) (vc_b rfl (v1_0 _) (vc_d rfl pe_iv vc_nil))) pe_iv) vab_nil))) rfl) (vss_cons (c.ownF (by decide) (by decide +kernel) (vf_lst (by decide) (va_cons rfl (c.call f__law_some (by decide) (by decide +kernel) rfl (by rfl) (by decide) (by rfl) (vc_b rfl (v1_0 _) (vc_d rfl pe_iv (vc_d rfl pe_iv vc_nil)))) va_nil)) rfl) (vss_cons (c.ownF (by decide) (by decide +kernel) (vf_lst (by decide) va_nil) rfl) (vss_cons (c.set (by decide) (by decide +kernel) pe_iv rfl) (vss_cons (vs_for c.xe c.calm (refs_tgt (by decide)) (b1_range.range2 rfl rfl pe_iv (ve_bin op_addF pe_iv (c.call f__law_next (by decide) (by decide +kernel) rfl (by rfl) (by decide) (by rfl) (vc_b rfl (v1_0 _) (vc_d rfl (ve_var (v1_1 _)) vc_nil))))) (t1_6 _) (vss_post [6, 7, 8] (vss_cons (c.set (by decide) (by decide +kernel) (c.call f__law_next (by decide) (by decide +kernel) rfl (by rfl) (by decide) (by rfl) (vc_b rfl (v1_0 _) (vc_d rfl (ve_var (v1_6 _)) vc_nil))) rfl) (vss_cons (c.ownLc (by decide) (by decide +kernel) (by decide +kernel) (by decide +kernel) (c.lc (own := [(("_law_variable" : Str), 9)]) (vi_seq (ve_subL c.hu1 (plainIx trivial) (v1_3 _) (ve_var (v1_7 _)))) (by decide +kernel) rfl (by decide) (fun _ => rfl) (fun _ _ _ _ _ c2 => by (have v2_0 := fun pos => c2.var (i := 0) (x := ("_law_stream_here" : Str)) (by decide +kernel) pos; have v2_9 := fun pos => c2.var (i := 9) (x := ("_law_variable" : Str)) (by decide +kernel) pos; have t2_9 := fun pos => c2.tgt (i := 9) (x := ("_law_variable" : Str)) (by decide +kernel) pos; exact ⟨(t2_9 _), (vts_one (vt_cmp op_gtF rfl (c2.call f__law_next (by decide) (by decide +kernel) rfl (by rfl) (by decide) (by rfl) (vc_b rfl (v2_0 _) (vc_d rfl pe_iv vc_nil))) pe_iv)), (ve_var (v2_9 _))⟩)))) (vss_cons (vs_if (PW.pt (vw_and (vt_cmp (op_ltF c.hu0) rfl (ve_var (v1_5 _)) pe_iv) (vw_and (vt_cmp (op_eqF c.hu64) rfl (c.call f__law_next (by decide) (by decide +kernel) rfl (by rfl) (by decide) (by rfl) (vc_b rfl (v1_0 _) (vc_d rfl pe_iv vc_nil))) pe_iv) (vw_and1 (vt_cmp (op_ltF c.hu0) rfl (b1_len.app cr_lenF rfl (vab_b rfl (v1_8 _) vab_nil)) pe_iv))))) (vss_cons (vs_drop rfl (ve_mut mm_append (mcall rfl rfl (by decide) (by decide +kernel)) (v1_8 _) (va_cons rfl (ve_var (v1_5 _)) va_nil))) (vss_cons (c.set (by decide) (by decide +kernel) (ve_bin op_addF (ve_var (v1_5 _)) pe_iv) rfl) vss_nil)) vss_nil) (vss_cons (vs_drop rfl (ve_mut mm_append (mcall rfl rfl (by decide) (by decide +kernel)) (v1_3 _) (va_cons rfl (b1_tuple.appTy cr_tupleF rfl (vab_b rfl (v1_8 _) vab_nil)) va_nil))) (vss_cons (vs_drop rfl (ve_mut mm_append (mcall rfl rfl (by decide) (by decide +kernel)) (v1_4 _) (va_cons rfl (ve_tup (by decide) (va_cons rfl (ve_var (v1_7 _)) (va_cons rfl (ve_var (v1_6 _)) va_nil))) va_nil))) vss_nil)))))) (fun _ => rfl)) (vss_cons (vs_retK [1, 2, 3, 4, 5, 6, 7, 8, 9] (ve_tup (by decide) (va_cons rfl (ve_var (v1_2 _)) (va_cons rfl (b1_tuple.appTy cr_tupleF rfl (vab_b rfl (v1_3 _) vab_nil)) (va_cons rfl (b1_tuple.appTy cr_tupleF rfl (vab_d rfl (b1_sorted.app (cr_sortedF c.hu) rfl (vab_b rfl (v1_4 _) vab_nil)) vab_nil)) va_nil))))) vss_nil))))))
/-! _law_rows -/
def N__law_rows : List Str := ["_law_values", "_law_many", "_law_rows_here", "_law_turn", "_law_longer", "_law_row", "_law_value"]
theorem b__law_rows {X : Cx} (c : Cn X N__law_rows (defScope (top 44)).names (defScope (top 44)).names 0) (g : GF X.mg FREE INTS) : VSs X [] (defBody (top 44)) d__law_rows := by
  have v1_1 := fun pos => c.var (i := 1) (x := ("_law_many" : Str)) (by decide +kernel) pos
  have v1_2 := fun pos => c.var (i := 2) (x := ("_law_rows_here" : Str)) (by decide +kernel) pos
  have v1_4 := fun pos => c.var (i := 4) (x := ("_law_longer" : Str)) (by decide +kernel) pos
  have v1_0 := fun pos => c.var (i := 0) (x := ("_law_values" : Str)) (by decide +kernel) pos
  have b1_range := c.bi g (x := ("range" : Str)) (v := .type "range") (by decide +kernel)
  have t1_3 := fun pos => c.tgt (i := 3) (x := ("_law_turn" : Str)) (by decide +kernel) pos
  have t1_5 := fun pos => c.tgt (i := 5) (x := ("_law_row" : Str)) (by decide +kernel) pos
  exact (vss_cons (c.set (by decide) (by decide +kernel) (ve_lst (by decide) (va_cons rfl (ve_tup (by decide) va_nil) va_nil)) rfl) (vss_cons (vs_for c.xe c.calm (refs_tgt (by decide)) (b1_range.range1 rfl (ve_var (v1_1 _))) (t1_3 _) (vss_post [3, 4, 5] (vss_cons (c.set (by decide) (by decide +kernel) (ve_lst (by decide) va_nil) rfl) (vss_cons (vs_for c.xe c.calm (refs_tgt (by decide)) (vi_seq (ve_var (v1_2 _))) (t1_5 _) (vss_post [5] (vss_cons (c.set (by decide) (by decide +kernel) (ve_bin op_addF (ve_var (v1_4 _)) (vf_ve (c.vf (c.lc (own := [(("_law_value" : Str), 6)]) (b1_range.range1 rfl (ve_var (v1_0 _))) (by decide +kernel) rfl (by decide) (fun _ => rfl) (fun _ _ _ _ _ c2 => by (have v2_5 := fun pos => c2.var (i := 5) (x := ("_law_row" : Str)) (by decide +kernel) pos; have v2_6 := fun pos => c2.var (i := 6) (x := ("_law_value" : Str)) (by decide +kernel) pos; have t2_6 := fun pos => c2.tgt (i := 6) (x := ("_law_value" : Str)) (by decide +kernel) pos; exact ⟨(t2_6 _), vts_nil, (ve_bin op_addF (ve_var (v2_5 _)) (ve_tup (by decide) (va_cons rfl (ve_var (v2_6 _)) va_nil)))⟩)))))) rfl) vss_nil)) (fun _ => rfl)) (vss_cons (c.set (by decide) (by decide +kernel) (ve_var (v1_4 _)) rfl) vss_nil)))) (fun _ => rfl)) (vss_cons (vs_retK [0, 1, 2, 3, 4, 5, 6] (ve_var (v1_2 _))) vss_nil)))
/-! _law_tables -/
def N__law_tables : List Str := ["_law_stream_here", "_law_graph_here", "_law_tables_here", "_law_scope", "_law_rows_here", "_law_row"]
theorem b__law_tables {X : Cx} (c : Cn X N__law_tables (defScope (top 45)).names (defScope (top 45)).names 1) (g : GF X.mg FREE INTS) (f__law_rows : FavX X 1 "_law_rows" 2 [] s__law_rows) (f__law_next : FavX X 1 "_law_next" 2 [true] s__law_next) : VSs X [0] (defBody (top 45)) d__law_tables := by
  have v1_1 := fun pos => c.var (i := 1) (x := ("_law_graph_here" : Str)) (by decide +kernel) pos
  have v1_3 := fun pos => c.var (i := 3) (x := ("_law_scope" : Str)) (by decide +kernel) pos
  have v1_0 := fun pos => c.var (i := 0) (x := ("_law_stream_here" : Str)) (by decide +kernel) pos
  have v1_4 := fun pos => c.var (i := 4) (x := ("_law_rows_here" : Str)) (by decide +kernel) pos
  have v1_2 := fun pos => c.var (i := 2) (x := ("_law_tables_here" : Str)) (by decide +kernel) pos
  have b1_len := c.bi g (x := ("len" : Str)) (v := .builtin "len") (by decide +kernel)
  have b1_tuple := c.bi g (x := ("tuple" : Str)) (v := .type "tuple") (by decide +kernel)
  have t1_3 := fun pos => c.tgt (i := 3) (x := ("_law_scope" : Str)) (by decide +kernel) pos
  exact (vss_cons (c.ownF (by decide) (by decide +kernel) (vf_lst (by decide) va_nil) rfl) (vss_cons (vs_for c.xe c.calm (refs_tgt (by decide)) (vi_seq (ve_sub c.hu1 (plainIx trivial) (ve_var (v1_1 _)) pe_iv)) (t1_3 _) (vss_post [3, 4] (vss_cons (vs_fz 4 (c.ownLc (by decide) (by decide +kernel) (by decide +kernel) (by decide +kernel) (c.lc (own := [(("_law_row" : Str), 5)]) (vi_seq (c.call f__law_rows (by decide) (by decide +kernel) rfl (by rfl) (by decide) (by rfl) (vc_d rfl (ve_sub c.hu1 (plainIx trivial) (ve_var (v1_1 _)) pe_iv) (vc_d rfl (b1_len.app cr_lenF rfl (vab_d rfl (ve_var (v1_3 _)) vab_nil)) vc_nil)))) (by decide +kernel) rfl (by decide) (fun _ => rfl) (fun _ _ _ _ _ c2 => by (have v2_0 := fun pos => c2.var (i := 0) (x := ("_law_stream_here" : Str)) (by decide +kernel) pos; have v2_5 := fun pos => c2.var (i := 5) (x := ("_law_row" : Str)) (by decide +kernel) pos; have t2_5 := fun pos => c2.tgt (i := 5) (x := ("_law_row" : Str)) (by decide +kernel) pos; exact ⟨(t2_5 _), (vts_one (vt_cmp op_gtF rfl (c2.call f__law_next (by decide) (by decide +kernel) rfl (by rfl) (by decide) (by rfl) (vc_b rfl (v2_0 _) (vc_d rfl pe_iv vc_nil))) pe_iv)), (ve_var (v2_5 _))⟩))))) (vss_cons (vs_if (vt_cmp (op_eqF c.hu64) rfl (c.call f__law_next (by decide) (by decide +kernel) rfl (by rfl) (by decide) (by rfl) (vc_b rfl (v1_0 _) (vc_d rfl pe_iv vc_nil))) pe_iv) (vss_cons (c.set (by decide) (by decide +kernel) (ve_lst (by decide) va_nil) rfl) vss_nil) vss_nil) (vss_cons (vs_drop rfl (ve_mut mm_append (mcall rfl rfl (by decide) (by decide +kernel)) (v1_2 _) (va_cons rfl (b1_tuple.appTy cr_tupleF rfl (vab_d rfl (vf_ve (c.vf (c.lc (own := [(("_law_row" : Str), 5)]) (vi_seq (ve_var (v1_4 _))) (by decide +kernel) rfl (by decide) (fun _ => rfl) (fun _ _ _ _ _ c3 => by (have v3_5 := fun pos => c3.var (i := 5) (x := ("_law_row" : Str)) (by decide +kernel) pos; have v3_0 := fun pos => c3.var (i := 0) (x := ("_law_stream_here" : Str)) (by decide +kernel) pos; have t3_5 := fun pos => c3.tgt (i := 5) (x := ("_law_row" : Str)) (by decide +kernel) pos; exact ⟨(t3_5 _), vts_nil, (ve_tup (by decide) (va_cons rfl (ve_var (v3_5 _)) (va_cons rfl (c3.call f__law_next (by decide) (by decide +kernel) rfl (by rfl) (by decide) (by rfl) (vc_b rfl (v3_0 _) (vc_d rfl (ve_sub c3.hu1 (plainIx trivial) (ve_lst (by decide) (va_cons rfl pe_iv (va_cons rfl pe_iv va_nil))) (c3.call f__law_next (by decide) (by decide +kernel) rfl (by rfl) (by decide) (by rfl) (vc_b rfl (v3_0 _) (vc_d rfl pe_iv vc_nil)))) vc_nil))) va_nil)))⟩))))) vab_nil)) va_nil))) vss_nil)))) (fun _ => rfl)) (vss_cons (vs_retK [1, 2, 3, 4, 5] (b1_tuple.appTy cr_tupleF rfl (vab_b rfl (v1_2 _) vab_nil))) vss_nil)))
/-! _law_variables -/
def N__law_variables : List Str := ["_law_graph_here", "_law_nodes", "_law_found", "_law_node", "_law_variable"]
theorem b__law_variables {X : Cx} (c : Cn X N__law_variables (defScope (top 46)).names (defScope (top 46)).names 0) (g : GF X.mg FREE INTS) : VSs X [] (defBody (top 46)) d__law_variables := by
  have v1_1 := fun pos => c.var (i := 1) (x := ("_law_nodes" : Str)) (by decide +kernel) pos
  have v1_2 := fun pos => c.var (i := 2) (x := ("_law_found" : Str)) (by decide +kernel) pos
  have v1_0 := fun pos => c.var (i := 0) (x := ("_law_graph_here" : Str)) (by decide +kernel) pos
  have v1_3 := fun pos => c.var (i := 3) (x := ("_law_node" : Str)) (by decide +kernel) pos
  have b1_sorted := c.bi g (x := ("sorted" : Str)) (v := .builtin "sorted") (by decide +kernel)
  have b1_tuple := c.bi g (x := ("tuple" : Str)) (v := .type "tuple") (by decide +kernel)
  have t1_3 := fun pos => c.tgt (i := 3) (x := ("_law_node" : Str)) (by decide +kernel) pos
  exact (vss_cons (c.set (by decide) (by decide +kernel) (ve_lst (by decide) va_nil) rfl) (vss_cons (vs_for c.xe c.calm (refs_tgt (by decide)) (vi_seq (ve_var (v1_1 _))) (t1_3 _) (vss_post [3] (vss_cons (c.set (by decide) (by decide +kernel) (ve_bin op_addF (ve_var (v1_2 _)) (vf_ve (c.vf (c.lc (own := [(("_law_variable" : Str), 4)]) (vi_seq (ve_sub c.hu1 (plainIx trivial) (ve_sub c.hu1 (plainIx trivial) (ve_var (v1_0 _)) pe_iv) (ve_var (v1_3 _)))) (by decide +kernel) rfl (by decide) (fun _ => rfl) (fun _ _ _ _ _ c2 => by (have v2_4 := fun pos => c2.var (i := 4) (x := ("_law_variable" : Str)) (by decide +kernel) pos; have v2_2 := fun pos => c2.var (i := 2) (x := ("_law_found" : Str)) (by decide +kernel) pos; have t2_4 := fun pos => c2.tgt (i := 4) (x := ("_law_variable" : Str)) (by decide +kernel) pos; exact ⟨(t2_4 _), (vts_one (vt_cmp (op_notInF c2.hu65) rfl (ve_var (v2_4 _)) (ve_var (v2_2 _)))), (ve_var (v2_4 _))⟩)))))) rfl) vss_nil)) (fun _ => rfl)) (vss_cons (vs_retK [0, 1, 2, 3, 4] (b1_tuple.appTy cr_tupleZF rfl (vab_d rfl (b1_sorted.app (cr_sortedF c.hu) rfl (vab_d rfl (ve_var (v1_2 _)) vab_nil)) vab_nil))) vss_nil)))
/-! is_number -/
def N_is_number : List Str := ["value", "low", "high"]
theorem b_is_number {X : Cx} (c : Cn X N_is_number (defScope (top 18)).names (defScope (top 18)).names 0) (g : GF X.mg FREE INTS) : VSs X [] (defBody (top 18)) d_is_number := by
  have v1_0 := fun pos => c.var (i := 0) (x := ("value" : Str)) (by decide +kernel) pos
  have v1_1 := fun pos => c.var (i := 1) (x := ("low" : Str)) (by decide +kernel) pos
  have v1_2 := fun pos => c.var (i := 2) (x := ("high" : Str)) (by decide +kernel) pos
  have b1_isinstance := c.bi g (x := ("isinstance" : Str)) (v := .builtin "isinstance") (by decide +kernel)
  have b1_int := c.bi g (x := ("int" : Str)) (v := .type "int") (by decide +kernel)
  have b1_bool := c.bi g (x := ("bool" : Str)) (v := .type "bool") (by decide +kernel)
  exact (vss_cons (vs_retK [0, 1, 2] (ve_and (b1_isinstance.isi (ty := .int) b1_int rfl (.d (ve_var (v1_0 _)))) (ve_and (ve_not (b1_isinstance.isi (ty := .bool) b1_bool rfl (.d (ve_var (v1_0 _))))) (ve_one (ve_chain op_leF op_leF (ve_var (v1_1 _)) (ve_var (v1_0 _)) (ve_var (v1_2 _)) rfl))))) vss_nil)
/-! is_whole -/
def N_is_whole : List Str := ["value", "low", "high"]
theorem b_is_whole {X : Cx} (c : Cn X N_is_whole (defScope (top 7)).names (defScope (top 7)).names 0) (g : GF X.mg FREE INTS) : VSs X [] (defBody (top 7)) d_is_whole := by
  have v1_0 := fun pos => c.var (i := 0) (x := ("value" : Str)) (by decide +kernel) pos
  have v1_1 := fun pos => c.var (i := 1) (x := ("low" : Str)) (by decide +kernel) pos
  have v1_2 := fun pos => c.var (i := 2) (x := ("high" : Str)) (by decide +kernel) pos
  have b1_isinstance := c.bi g (x := ("isinstance" : Str)) (v := .builtin "isinstance") (by decide +kernel)
  have b1_int := c.bi g (x := ("int" : Str)) (v := .type "int") (by decide +kernel)
  have b1_bool := c.bi g (x := ("bool" : Str)) (v := .type "bool") (by decide +kernel)
  exact (vss_cons (vs_retK [0, 1, 2] (ve_and (b1_isinstance.isi (ty := .int) b1_int rfl (.d (ve_var (v1_0 _)))) (ve_and (ve_not (b1_isinstance.isi (ty := .bool) b1_bool rfl (.d (ve_var (v1_0 _))))) (ve_one (ve_chain op_leF op_leF (ve_var (v1_1 _)) (ve_var (v1_0 _)) (ve_var (v1_2 _)) rfl))))) vss_nil)
/-! is_climbing -/
def N_is_climbing : List Str := ["value", "at"]
theorem b_is_climbing {X : Cx} (c : Cn X N_is_climbing (defScope (top 8)).names (defScope (top 8)).names 0) (g : GF X.mg FREE INTS) : VSs X [] (defBody (top 8)) d_is_climbing := by
  have v1_0 := fun pos => c.var (i := 0) (x := ("value" : Str)) (by decide +kernel) pos
  have b1_range := c.bi g (x := ("range" : Str)) (v := .type "range") (by decide +kernel)
  have b1_len := c.bi g (x := ("len" : Str)) (v := .builtin "len") (by decide +kernel)
  have b1_all := c.bi g (x := ("all" : Str)) (v := .builtin "all") (by decide +kernel)
  exact (vss_cons (vs_retK [0, 1] (b1_all.app (cr_allF c.calm) rfl (vab_d rfl (vf_ve (c.vf (c.lc (own := [(("at" : Str), 1)]) (b1_range.range1 rfl (ve_bin op_subF (b1_len.app cr_lenF rfl (vab_d rfl (ve_var (v1_0 _)) vab_nil)) pe_iv)) (by decide +kernel) rfl (by decide) (fun _ => rfl) (fun _ _ _ _ _ c2 => by (have v2_0 := fun pos => c2.var (i := 0) (x := ("value" : Str)) (by decide +kernel) pos; have v2_1 := fun pos => c2.var (i := 1) (x := ("at" : Str)) (by decide +kernel) pos; have t2_1 := fun pos => c2.tgt (i := 1) (x := ("at" : Str)) (by decide +kernel) pos; exact ⟨(t2_1 _), vts_nil, (ve_cmp (op_ltF c2.hu0) rfl (ve_sub c2.hu1 (plainIx trivial) (ve_var (v2_0 _)) (ve_var (v2_1 _))) (ve_sub c2.hu1 (plainIx trivial) (ve_var (v2_0 _)) (ve_bin op_addF (ve_var (v2_1 _)) pe_iv)))⟩))))) vab_nil))) vss_nil)
/-! are_variables -/
def N_are_variables : List Str := ["value", "one"]
theorem b_are_variables {X : Cx} (c : Cn X N_are_variables (defScope (top 9)).names (defScope (top 9)).names 1) (g : GF X.mg FREE INTS) (f_is_whole : FavX X 1 "is_whole" 3 [] s_is_whole) (f_is_climbing : FavX X 1 "is_climbing" 1 [] s_is_climbing) : VSs X [] (defBody (top 9)) d_are_variables := by
  have v1_0 := fun pos => c.var (i := 0) (x := ("value" : Str)) (by decide +kernel) pos
  have b1_isinstance := c.bi g (x := ("isinstance" : Str)) (v := .builtin "isinstance") (by decide +kernel)
  have b1_tuple := c.bi g (x := ("tuple" : Str)) (v := .type "tuple") (by decide +kernel)
  have b1_all := c.bi g (x := ("all" : Str)) (v := .builtin "all") (by decide +kernel)
  exact (vss_cons (vs_if (PW.pt (vw_or (vt_not (vt_truth (fun _ => rfl) (.d (b1_isinstance.isi (ty := .tuple) b1_tuple rfl (.d (ve_var (v1_0 _))))))) (vw_or1 (vt_not (vt_truth (fun _ => rfl) (.d (b1_all.app (cr_allF c.calm) rfl (vab_d rfl (vf_ve (c.vf (c.lc (own := [(("one" : Str), 1)]) (vi_seq (ve_var (v1_0 _))) (by decide +kernel) rfl (by decide) (fun _ => rfl) (fun _ _ _ _ _ c2 => by (have v2_1 := fun pos => c2.var (i := 1) (x := ("one" : Str)) (by decide +kernel) pos; have i2_MOST_VARIABLE := fun pos => c2.int g (x := ("MOST_VARIABLE" : Str)) (i := 5) (by decide +kernel) pos; have t2_1 := fun pos => c2.tgt (i := 1) (x := ("one" : Str)) (by decide +kernel) pos; exact ⟨(t2_1 _), vts_nil, (c2.call f_is_whole (by decide) (by decide +kernel) rfl (by rfl) (by decide) (by rfl) (vc_d rfl (ve_var (v2_1 _)) (vc_d rfl pe_iv (vc_d rfl (i2_MOST_VARIABLE _) vc_nil))))⟩))))) vab_nil)))))))) (vss_cons (vs_retK [0, 1] pe_bv) vss_nil) vss_nil) (vss_cons (vs_retK [0, 1] (c.call f_is_climbing (by decide) (by decide +kernel) rfl (by rfl) (by decide) (by rfl) (vc_d rfl (ve_var (v1_0 _)) vc_nil))) vss_nil))
/-! is_scope -/
def N_is_scope : List Str := ["value"]
theorem b_is_scope {X : Cx} (c : Cn X N_is_scope (defScope (top 10)).names (defScope (top 10)).names 2) (g : GF X.mg FREE INTS) (f_are_variables : FavX X 2 "are_variables" 1 [] s_are_variables) : VSs X [] (defBody (top 10)) d_is_scope := by
  have v1_0 := fun pos => c.var (i := 0) (x := ("value" : Str)) (by decide +kernel) pos
  have b1_len := c.bi g (x := ("len" : Str)) (v := .builtin "len") (by decide +kernel)
  have i1_WIDEST_SCOPE := fun pos => c.int g (x := ("WIDEST_SCOPE" : Str)) (i := 3) (by decide +kernel) pos
  exact (vss_cons (vs_retK [0] (ve_and (c.call f_are_variables (by decide) (by decide +kernel) rfl (by rfl) (by decide) (by rfl) (vc_d rfl (ve_var (v1_0 _)) vc_nil)) (ve_one (ve_cmp op_leF rfl (b1_len.app cr_lenF rfl (vab_d rfl (ve_var (v1_0 _)) vab_nil)) (i1_WIDEST_SCOPE _))))) vss_nil)
/-! is_edge -/
def N_is_edge : List Str := ["value", "many", "one"]
theorem b_is_edge {X : Cx} (c : Cn X N_is_edge (defScope (top 19)).names (defScope (top 19)).names 1) (g : GF X.mg FREE INTS) (f_is_number : FavX X 1 "is_number" 3 [] s_is_number) : VSs X [] (defBody (top 19)) d_is_edge := by
  have v1_0 := fun pos => c.var (i := 0) (x := ("value" : Str)) (by decide +kernel) pos
  have b1_isinstance := c.bi g (x := ("isinstance" : Str)) (v := .builtin "isinstance") (by decide +kernel)
  have b1_tuple := c.bi g (x := ("tuple" : Str)) (v := .type "tuple") (by decide +kernel)
  have b1_len := c.bi g (x := ("len" : Str)) (v := .builtin "len") (by decide +kernel)
  have b1_all := c.bi g (x := ("all" : Str)) (v := .builtin "all") (by decide +kernel)
  exact (vss_cons (vs_if (PW.pt (vw_or (vt_not (vt_truth (fun _ => rfl) (.d (b1_isinstance.isi (ty := .tuple) b1_tuple rfl (.d (ve_var (v1_0 _))))))) (vw_or (vt_cmp (op_neF c.hu64) rfl (b1_len.app cr_lenF rfl (vab_d rfl (ve_var (v1_0 _)) vab_nil)) pe_iv) (vw_or1 (vt_not (vt_truth (fun _ => rfl) (.d (b1_all.app (cr_allF c.calm) rfl (vab_d rfl (vf_ve (c.vf (c.lc (own := [(("one" : Str), 2)]) (vi_seq (ve_var (v1_0 _))) (by decide +kernel) rfl (by decide) (fun _ => rfl) (fun _ _ _ _ _ c2 => by (have v2_2 := fun pos => c2.var (i := 2) (x := ("one" : Str)) (by decide +kernel) pos; have v2_1 := fun pos => c2.var (i := 1) (x := ("many" : Str)) (by decide +kernel) pos; have t2_2 := fun pos => c2.tgt (i := 2) (x := ("one" : Str)) (by decide +kernel) pos; exact ⟨(t2_2 _), vts_nil, (c2.call f_is_number (by decide) (by decide +kernel) rfl (by rfl) (by decide) (by rfl) (vc_d rfl (ve_var (v2_2 _)) (vc_d rfl pe_iv (vc_d rfl (ve_bin op_subF (ve_var (v2_1 _)) pe_iv) vc_nil))))⟩))))) vab_nil))))))))) (vss_cons (vs_retK [0, 1, 2] pe_bv) vss_nil) vss_nil) (vss_cons (vs_retK [0, 1, 2] (ve_cmp (op_ltF c.hu0) rfl (ve_sub c.hu1 (plainIx trivial) (ve_var (v1_0 _)) pe_iv) (ve_sub c.hu1 (plainIx trivial) (ve_var (v1_0 _)) pe_iv))) vss_nil))
/-! is_graph -/
def N_is_graph : List Str := ["value", "values", "scopes", "edges", "one", "edge", "at"]
theorem b_is_graph {X : Cx} (c : Cn X N_is_graph (defScope (top 20)).names (defScope (top 20)).names 3) (g : GF X.mg FREE INTS) (f_is_number : FavX X 1 "is_number" 3 [] s_is_number) (f_is_scope : FavX X 3 "is_scope" 1 [] s_is_scope) (f_is_edge : FavX X 2 "is_edge" 2 [] s_is_edge) : VSs X [] (defBody (top 20)) d_is_graph := by
  have v1_0 := fun pos => c.var (i := 0) (x := ("value" : Str)) (by decide +kernel) pos
  have v1_2 := fun pos => c.var (i := 2) (x := ("scopes" : Str)) (by decide +kernel) pos
  have v1_3 := fun pos => c.var (i := 3) (x := ("edges" : Str)) (by decide +kernel) pos
  have b1_isinstance := c.bi g (x := ("isinstance" : Str)) (v := .builtin "isinstance") (by decide +kernel)
  have b1_tuple := c.bi g (x := ("tuple" : Str)) (v := .type "tuple") (by decide +kernel)
  have b1_len := c.bi g (x := ("len" : Str)) (v := .builtin "len") (by decide +kernel)
  have b1_all := c.bi g (x := ("all" : Str)) (v := .builtin "all") (by decide +kernel)
  have b1_range := c.bi g (x := ("range" : Str)) (v := .type "range") (by decide +kernel)
  have i1_MOST_NODES := fun pos => c.int g (x := ("MOST_NODES" : Str)) (i := 5) (by decide +kernel) pos
  have t1_3 := fun pos => c.tgt (i := 3) (x := ("edges" : Str)) (by decide +kernel) pos
  have t1_2 := fun pos => c.tgt (i := 2) (x := ("scopes" : Str)) (by decide +kernel) pos
  have t1_1 := fun pos => c.tgt (i := 1) (x := ("values" : Str)) (by decide +kernel) pos
  exact (vss_cons (vs_if (PW.pt (vw_or (vt_not (vt_truth (fun _ => rfl) (.d (b1_isinstance.isi (ty := .tuple) b1_tuple rfl (.d (ve_var (v1_0 _))))))) (vw_or (vt_cmp (op_neF c.hu64) rfl (b1_len.app cr_lenF rfl (vab_d rfl (ve_var (v1_0 _)) vab_nil)) pe_iv) (vw_or1 (vt_not (vt_truth (fun _ => rfl) (.d (c.call f_is_number (by decide) (by decide +kernel) rfl (by rfl) (by decide) (by rfl) (vc_d rfl (ve_sub c.hu1 (plainIx trivial) (ve_var (v1_0 _)) pe_iv) (vc_d rfl pe_iv (vc_d rfl pe_iv vc_nil))))))))))) (vss_cons (vs_retK [0, 1, 2, 3, 4, 5, 6] pe_bv) vss_nil) vss_nil) (vss_cons (vs_asg (refs_tgt (by decide)) (ve_var (v1_0 _)) (vg_tp c.calm rfl rfl (vgs_cons rfl (t1_1 _) (vgs_cons rfl (t1_2 _) (vgs_cons rfl (t1_3 _) vgs_nil)))) rfl rfl rfl) (vss_cons (vs_if (PW.pt (vw_or (vt_not (vt_truth (fun _ => rfl) (.d (b1_isinstance.isi (ty := .tuple) b1_tuple rfl (.d (ve_var (v1_2 _))))))) (vw_or1 (vt_not (vt_chain op_leF op_leF pe_iv (b1_len.app cr_lenF rfl (vab_d rfl (ve_var (v1_2 _)) vab_nil)) (i1_MOST_NODES _) rfl))))) (vss_cons (vs_retK [0, 1, 2, 3, 4, 5, 6] pe_bv) vss_nil) vss_nil) (vss_cons (vs_if (vt_not (vt_truth (fun _ => rfl) (.d (b1_all.app (cr_allF c.calm) rfl (vab_d rfl (vf_ve (c.vf (c.lc (own := [(("one" : Str), 4)]) (vi_seq (ve_var (v1_2 _))) (by decide +kernel) rfl (by decide) (fun _ => rfl) (fun _ _ _ _ _ c2 => by (have v2_4 := fun pos => c2.var (i := 4) (x := ("one" : Str)) (by decide +kernel) pos; have t2_4 := fun pos => c2.tgt (i := 4) (x := ("one" : Str)) (by decide +kernel) pos; exact ⟨(t2_4 _), vts_nil, (c2.call f_is_scope (by decide) (by decide +kernel) rfl (by rfl) (by decide) (by rfl) (vc_d rfl (ve_var (v2_4 _)) vc_nil))⟩))))) vab_nil))))) (vss_cons (vs_retK [0, 1, 2, 3, 4, 5, 6] pe_bv) vss_nil) vss_nil) (vss_cons (vs_if (PW.pt (vw_or (vt_not (vt_truth (fun _ => rfl) (.d (b1_isinstance.isi (ty := .tuple) b1_tuple rfl (.d (ve_var (v1_3 _))))))) (vw_or1 (vt_not (vt_truth (fun _ => rfl) (.d (b1_all.app (cr_allF c.calm) rfl (vab_d rfl (vf_ve (c.vf (c.lc (own := [(("edge" : Str), 5)]) (vi_seq (ve_var (v1_3 _))) (by decide +kernel) rfl (by decide) (fun _ => rfl) (fun _ _ _ _ _ c3 => by (have v3_5 := fun pos => c3.var (i := 5) (x := ("edge" : Str)) (by decide +kernel) pos; have v3_2 := fun pos => c3.var (i := 2) (x := ("scopes" : Str)) (by decide +kernel) pos; have b3_len := c3.bi g (x := ("len" : Str)) (v := .builtin "len") (by decide +kernel); have t3_5 := fun pos => c3.tgt (i := 5) (x := ("edge" : Str)) (by decide +kernel) pos; exact ⟨(t3_5 _), vts_nil, (c3.call f_is_edge (by decide) (by decide +kernel) rfl (by rfl) (by decide) (by rfl) (vc_d rfl (ve_var (v3_5 _)) (vc_d rfl (b3_len.app cr_lenF rfl (vab_d rfl (ve_var (v3_2 _)) vab_nil)) vc_nil)))⟩))))) vab_nil)))))))) (vss_cons (vs_retK [0, 1, 2, 3, 4, 5, 6] pe_bv) vss_nil) vss_nil) (vss_cons (vs_retK [0, 1, 2, 3, 4, 5, 6] (b1_all.app (cr_allF c.calm) rfl (vab_d rfl (vf_ve (c.vf (c.lc (own := [(("at" : Str), 6)]) (b1_range.range1 rfl (ve_bin op_subF (b1_len.app cr_lenF rfl (vab_d rfl (ve_var (v1_3 _)) vab_nil)) pe_iv)) (by decide +kernel) rfl (by decide) (fun _ => rfl) (fun _ _ _ _ _ c4 => by (have v4_3 := fun pos => c4.var (i := 3) (x := ("edges" : Str)) (by decide +kernel) pos; have v4_6 := fun pos => c4.var (i := 6) (x := ("at" : Str)) (by decide +kernel) pos; have t4_6 := fun pos => c4.tgt (i := 6) (x := ("at" : Str)) (by decide +kernel) pos; exact ⟨(t4_6 _), vts_nil, (ve_cmp (op_ltF c4.hu0) rfl (ve_sub c4.hu1 (plainIx trivial) (ve_var (v4_3 _)) (ve_var (v4_6 _))) (ve_sub c4.hu1 (plainIx trivial) (ve_var (v4_3 _)) (ve_bin op_addF (ve_var (v4_6 _)) pe_iv)))⟩))))) vab_nil))) vss_nil))))))
/-! check_graph -/
def N_check_graph : List Str := ["graph"]
theorem b_check_graph {X : Cx} (c : Cn X N_check_graph (defScope (top 24)).names (defScope (top 24)).names 4) (g : GF X.mg FREE INTS) (f_is_graph : FavX X 4 "is_graph" 1 [] s_is_graph) : VSs X [] (defBody (top 24)) d_check_graph := by
  have v1_0 := fun pos => c.var (i := 0) (x := ("graph" : Str)) (by decide +kernel) pos
  exact (vss_cons (vs_if (vt_not (vt_truth (fun _ => rfl) (.d (c.call f_is_graph (by decide) (by decide +kernel) rfl (by rfl) (by decide) (by rfl) (vc_d rfl (ve_var (v1_0 _)) vc_nil))))) (vss_cons vs_never vss_nil) vss_nil) vss_nil)
/-! is_row -/
def N_is_row : List Str := ["values", "some", "value", "one"]
theorem b_is_row {X : Cx} (c : Cn X N_is_row (defScope (top 11)).names (defScope (top 11)).names 1) (g : GF X.mg FREE INTS) (f_is_whole : FavX X 1 "is_whole" 3 [] s_is_whole) : VSs X [] (defBody (top 11)) d_is_row := by
  have v1_2 := fun pos => c.var (i := 2) (x := ("value" : Str)) (by decide +kernel) pos
  have v1_1 := fun pos => c.var (i := 1) (x := ("some" : Str)) (by decide +kernel) pos
  have b1_isinstance := c.bi g (x := ("isinstance" : Str)) (v := .builtin "isinstance") (by decide +kernel)
  have b1_tuple := c.bi g (x := ("tuple" : Str)) (v := .type "tuple") (by decide +kernel)
  have b1_len := c.bi g (x := ("len" : Str)) (v := .builtin "len") (by decide +kernel)
  have b1_all := c.bi g (x := ("all" : Str)) (v := .builtin "all") (by decide +kernel)
  exact (vss_cons (vs_if (PW.pt (vw_or (vt_not (vt_truth (fun _ => rfl) (.d (b1_isinstance.isi (ty := .tuple) b1_tuple rfl (.d (ve_var (v1_2 _))))))) (vw_or1 (vt_cmp (op_neF c.hu64) rfl (b1_len.app cr_lenF rfl (vab_d rfl (ve_var (v1_2 _)) vab_nil)) (b1_len.app cr_lenF rfl (vab_d rfl (ve_var (v1_1 _)) vab_nil)))))) (vss_cons (vs_retK [0, 1, 2, 3] pe_bv) vss_nil) vss_nil) (vss_cons (vs_retK [0, 1, 2, 3] (b1_all.app (cr_allF c.calm) rfl (vab_d rfl (vf_ve (c.vf (c.lc (own := [(("one" : Str), 3)]) (vi_seq (ve_var (v1_2 _))) (by decide +kernel) rfl (by decide) (fun _ => rfl) (fun _ _ _ _ _ c2 => by (have v2_3 := fun pos => c2.var (i := 3) (x := ("one" : Str)) (by decide +kernel) pos; have v2_0 := fun pos => c2.var (i := 0) (x := ("values" : Str)) (by decide +kernel) pos; have t2_3 := fun pos => c2.tgt (i := 3) (x := ("one" : Str)) (by decide +kernel) pos; exact ⟨(t2_3 _), vts_nil, (c2.call f_is_whole (by decide) (by decide +kernel) rfl (by rfl) (by decide) (by rfl) (vc_d rfl (ve_var (v2_3 _)) (vc_d rfl pe_iv (vc_d rfl (ve_bin op_subF (ve_var (v2_0 _)) pe_iv) vc_nil))))⟩))))) vab_nil))) vss_nil))
/-! is_table -/
def N_is_table : List Str := ["values", "scope", "value", "pair"]
theorem b_is_table {X : Cx} (c : Cn X N_is_table (defScope (top 12)).names (defScope (top 12)).names 2) (g : GF X.mg FREE INTS) (f_is_row : FavX X 2 "is_row" 3 [] s_is_row) (f_is_whole : FavX X 1 "is_whole" 3 [] s_is_whole) (f_is_climbing : FavX X 1 "is_climbing" 1 [] s_is_climbing) : VSs X [] (defBody (top 12)) d_is_table := by
  have v1_2 := fun pos => c.var (i := 2) (x := ("value" : Str)) (by decide +kernel) pos
  have v1_3 := fun pos => c.var (i := 3) (x := ("pair" : Str)) (by decide +kernel) pos
  have v1_0 := fun pos => c.var (i := 0) (x := ("values" : Str)) (by decide +kernel) pos
  have v1_1 := fun pos => c.var (i := 1) (x := ("scope" : Str)) (by decide +kernel) pos
  have b1_isinstance := c.bi g (x := ("isinstance" : Str)) (v := .builtin "isinstance") (by decide +kernel)
  have b1_tuple := c.bi g (x := ("tuple" : Str)) (v := .type "tuple") (by decide +kernel)
  have b1_len := c.bi g (x := ("len" : Str)) (v := .builtin "len") (by decide +kernel)
  have i1_MOST_COST := fun pos => c.int g (x := ("MOST_COST" : Str)) (i := 100) (by decide +kernel) pos
  have t1_3 := fun pos => c.tgt (i := 3) (x := ("pair" : Str)) (by decide +kernel) pos
  exact (vss_cons (vs_if (vt_not (vt_truth (fun _ => rfl) (.d (b1_isinstance.isi (ty := .tuple) b1_tuple rfl (.d (ve_var (v1_2 _))))))) (vss_cons (vs_retK [0, 1, 2, 3] pe_bv) vss_nil) vss_nil) (vss_cons (vs_for c.xe c.calm (refs_tgt (by decide)) (vi_seq (ve_var (v1_2 _))) (t1_3 _) (vss_post [3] (vss_cons (vs_if (PW.pt (vw_or (vt_not (vt_truth (fun _ => rfl) (.d (b1_isinstance.isi (ty := .tuple) b1_tuple rfl (.d (ve_var (v1_3 _))))))) (vw_or (vt_cmp (op_neF c.hu64) rfl (b1_len.app cr_lenF rfl (vab_d rfl (ve_var (v1_3 _)) vab_nil)) pe_iv) (vw_or1 (vt_not (vt_truth (fun _ => rfl) (.d (c.call f_is_row (by decide) (by decide +kernel) rfl (by rfl) (by decide) (by rfl) (vc_d rfl (ve_var (v1_0 _)) (vc_d rfl (ve_var (v1_1 _)) (vc_d rfl (ve_sub c.hu1 (plainIx trivial) (ve_var (v1_3 _)) pe_iv) vc_nil))))))))))) (vss_cons (vs_retK [0, 1, 2, 3] pe_bv) vss_nil) vss_nil) (vss_cons (vs_if (vt_not (vt_truth (fun _ => rfl) (.d (c.call f_is_whole (by decide) (by decide +kernel) rfl (by rfl) (by decide) (by rfl) (vc_d rfl (ve_sub c.hu1 (plainIx trivial) (ve_var (v1_3 _)) pe_iv) (vc_d rfl pe_iv (vc_d rfl (i1_MOST_COST _) vc_nil))))))) (vss_cons (vs_retK [0, 1, 2, 3] pe_bv) vss_nil) vss_nil) vss_nil))) (fun _ => rfl)) (vss_cons (vs_retK [0, 1, 2, 3] (c.call f_is_climbing (by decide) (by decide +kernel) rfl (by rfl) (by decide) (by rfl) (vc_d rfl (vf_ve (c.vf (c.lc (own := [(("pair" : Str), 3)]) (vi_seq (ve_var (v1_2 _))) (by decide +kernel) rfl (by decide) (fun _ => rfl) (fun _ _ _ _ _ c2 => by (have v2_3 := fun pos => c2.var (i := 3) (x := ("pair" : Str)) (by decide +kernel) pos; have t2_3 := fun pos => c2.tgt (i := 3) (x := ("pair" : Str)) (by decide +kernel) pos; exact ⟨(t2_3 _), vts_nil, (ve_sub c2.hu1 (plainIx trivial) (ve_var (v2_3 _)) pe_iv)⟩))))) vc_nil))) vss_nil)))
/-! are_tables -/
def N_are_tables : List Str := ["graph", "value", "scope", "table"]
theorem b_are_tables {X : Cx} (c : Cn X N_are_tables (defScope (top 21)).names (defScope (top 21)).names 3) (g : GF X.mg FREE INTS) (f_is_table : FavX X 3 "is_table" 3 [] s_is_table) : VSs X [] (defBody (top 21)) d_are_tables := by
  have v1_1 := fun pos => c.var (i := 1) (x := ("value" : Str)) (by decide +kernel) pos
  have v1_0 := fun pos => c.var (i := 0) (x := ("graph" : Str)) (by decide +kernel) pos
  have b1_isinstance := c.bi g (x := ("isinstance" : Str)) (v := .builtin "isinstance") (by decide +kernel)
  have b1_tuple := c.bi g (x := ("tuple" : Str)) (v := .type "tuple") (by decide +kernel)
  have b1_len := c.bi g (x := ("len" : Str)) (v := .builtin "len") (by decide +kernel)
  have b1_zip := c.bi g (x := ("zip" : Str)) (v := .type "zip") (by decide +kernel)
  have b1_all := c.bi g (x := ("all" : Str)) (v := .builtin "all") (by decide +kernel)
  exact (vss_cons (vs_if (PW.pt (vw_or (vt_not (vt_truth (fun _ => rfl) (.d (b1_isinstance.isi (ty := .tuple) b1_tuple rfl (.d (ve_var (v1_1 _))))))) (vw_or1 (vt_cmp (op_neF c.hu64) rfl (b1_len.app cr_lenF rfl (vab_d rfl (ve_var (v1_1 _)) vab_nil)) (b1_len.app cr_lenF rfl (vab_d rfl (ve_sub c.hu1 (plainIx trivial) (ve_var (v1_0 _)) pe_iv) vab_nil)))))) (vss_cons (vs_retK [0, 1, 2, 3] pe_bv) vss_nil) vss_nil) (vss_cons (vs_retK [0, 1, 2, 3] (b1_all.app (cr_allF c.calm) rfl (vab_d rfl (vf_ve (c.vf (c.lc (own := [(("scope" : Str), 2), (("table" : Str), 3)]) (b1_zip.zip rfl rfl (ve_sub c.hu1 (plainIx trivial) (ve_var (v1_0 _)) pe_iv) (ve_var (v1_1 _))) (by decide +kernel) rfl (by decide) (fun _ => rfl) (fun _ _ _ _ _ c2 => by (have v2_0 := fun pos => c2.var (i := 0) (x := ("graph" : Str)) (by decide +kernel) pos; have v2_2 := fun pos => c2.var (i := 2) (x := ("scope" : Str)) (by decide +kernel) pos; have v2_3 := fun pos => c2.var (i := 3) (x := ("table" : Str)) (by decide +kernel) pos; have t2_3 := fun pos => c2.tgt (i := 3) (x := ("table" : Str)) (by decide +kernel) pos; have t2_2 := fun pos => c2.tgt (i := 2) (x := ("scope" : Str)) (by decide +kernel) pos; exact ⟨(vg_tp c2.calm rfl rfl (vgs_cons rfl (t2_2 _) (vgs_cons rfl (t2_3 _) vgs_nil))), vts_nil, (c2.call f_is_table (by decide) (by decide +kernel) rfl (by rfl) (by decide) (by rfl) (vc_d rfl (ve_sub c2.hu1 (plainIx trivial) (ve_var (v2_0 _)) pe_iv) (vc_d rfl (ve_var (v2_2 _)) (vc_d rfl (ve_var (v2_3 _)) vc_nil))))⟩))))) vab_nil))) vss_nil))
/-! check_tables -/
def N_check_tables : List Str := ["graph", "tables"]
theorem b_check_tables {X : Cx} (c : Cn X N_check_tables (defScope (top 25)).names (defScope (top 25)).names 5) (g : GF X.mg FREE INTS) (f_check_graph : FavX X 5 "check_graph" 1 [] s_check_graph) (f_are_tables : FavX X 4 "are_tables" 2 [] s_are_tables) : VSs X [] (defBody (top 25)) d_check_tables := by
  have v1_0 := fun pos => c.var (i := 0) (x := ("graph" : Str)) (by decide +kernel) pos
  have v1_1 := fun pos => c.var (i := 1) (x := ("tables" : Str)) (by decide +kernel) pos
  exact (vss_cons (vs_drop rfl (c.call f_check_graph (by decide) (by decide +kernel) rfl (by rfl) (by decide) (by rfl) (vc_d rfl (ve_var (v1_0 _)) vc_nil))) (vss_cons (vs_if (vt_not (vt_truth (fun _ => rfl) (.d (c.call f_are_tables (by decide) (by decide +kernel) rfl (by rfl) (by decide) (by rfl) (vc_d rfl (ve_var (v1_0 _)) (vc_d rfl (ve_var (v1_1 _)) vc_nil)))))) (vss_cons vs_never vss_nil) vss_nil) vss_nil))
/-! are_nodes -/
def N_are_nodes : List Str := ["graph", "value", "one", "at"]
theorem b_are_nodes {X : Cx} (c : Cn X N_are_nodes (defScope (top 35)).names (defScope (top 35)).names 1) (g : GF X.mg FREE INTS) (f_is_number : FavX X 1 "is_number" 3 [] s_is_number) : VSs X [] (defBody (top 35)) d_are_nodes := by
  have v1_1 := fun pos => c.var (i := 1) (x := ("value" : Str)) (by decide +kernel) pos
  have b1_isinstance := c.bi g (x := ("isinstance" : Str)) (v := .builtin "isinstance") (by decide +kernel)
  have b1_tuple := c.bi g (x := ("tuple" : Str)) (v := .type "tuple") (by decide +kernel)
  have b1_all := c.bi g (x := ("all" : Str)) (v := .builtin "all") (by decide +kernel)
  have b1_range := c.bi g (x := ("range" : Str)) (v := .type "range") (by decide +kernel)
  have b1_len := c.bi g (x := ("len" : Str)) (v := .builtin "len") (by decide +kernel)
  exact (vss_cons (vs_if (PW.pt (vw_or (vt_not (vt_truth (fun _ => rfl) (.d (b1_isinstance.isi (ty := .tuple) b1_tuple rfl (.d (ve_var (v1_1 _))))))) (vw_or1 (vt_not (vt_truth (fun _ => rfl) (.d (ve_var (v1_1 _)))))))) (vss_cons (vs_retK [0, 1, 2, 3] pe_bv) vss_nil) vss_nil) (vss_cons (vs_if (vt_not (vt_truth (fun _ => rfl) (.d (b1_all.app (cr_allF c.calm) rfl (vab_d rfl (vf_ve (c.vf (c.lc (own := [(("one" : Str), 2)]) (vi_seq (ve_var (v1_1 _))) (by decide +kernel) rfl (by decide) (fun _ => rfl) (fun _ _ _ _ _ c2 => by (have v2_2 := fun pos => c2.var (i := 2) (x := ("one" : Str)) (by decide +kernel) pos; have v2_0 := fun pos => c2.var (i := 0) (x := ("graph" : Str)) (by decide +kernel) pos; have b2_len := c2.bi g (x := ("len" : Str)) (v := .builtin "len") (by decide +kernel); have t2_2 := fun pos => c2.tgt (i := 2) (x := ("one" : Str)) (by decide +kernel) pos; exact ⟨(t2_2 _), vts_nil, (c2.call f_is_number (by decide) (by decide +kernel) rfl (by rfl) (by decide) (by rfl) (vc_d rfl (ve_var (v2_2 _)) (vc_d rfl pe_iv (vc_d rfl (ve_bin op_subF (b2_len.app cr_lenF rfl (vab_d rfl (ve_sub c2.hu1 (plainIx trivial) (ve_var (v2_0 _)) pe_iv) vab_nil)) pe_iv) vc_nil))))⟩))))) vab_nil))))) (vss_cons (vs_retK [0, 1, 2, 3] pe_bv) vss_nil) vss_nil) (vss_cons (vs_retK [0, 1, 2, 3] (b1_all.app (cr_allF c.calm) rfl (vab_d rfl (vf_ve (c.vf (c.lc (own := [(("at" : Str), 3)]) (b1_range.range1 rfl (ve_bin op_subF (b1_len.app cr_lenF rfl (vab_d rfl (ve_var (v1_1 _)) vab_nil)) pe_iv)) (by decide +kernel) rfl (by decide) (fun _ => rfl) (fun _ _ _ _ _ c3 => by (have v3_1 := fun pos => c3.var (i := 1) (x := ("value" : Str)) (by decide +kernel) pos; have v3_3 := fun pos => c3.var (i := 3) (x := ("at" : Str)) (by decide +kernel) pos; have t3_3 := fun pos => c3.tgt (i := 3) (x := ("at" : Str)) (by decide +kernel) pos; exact ⟨(t3_3 _), vts_nil, (ve_cmp (op_ltF c3.hu0) rfl (ve_sub c3.hu1 (plainIx trivial) (ve_var (v3_1 _)) (ve_var (v3_3 _))) (ve_sub c3.hu1 (plainIx trivial) (ve_var (v3_1 _)) (ve_bin op_addF (ve_var (v3_3 _)) pe_iv)))⟩))))) vab_nil))) vss_nil)))
/-! scope_of -/
def N_scope_of : List Str := ["graph", "nodes", "found", "node", "variable"]
theorem b_scope_of {X : Cx} (c : Cn X N_scope_of (defScope (top 23)).names (defScope (top 23)).names 0) (g : GF X.mg FREE INTS) : VSs X [] (defBody (top 23)) d_scope_of := by
  have v1_1 := fun pos => c.var (i := 1) (x := ("nodes" : Str)) (by decide +kernel) pos
  have v1_0 := fun pos => c.var (i := 0) (x := ("graph" : Str)) (by decide +kernel) pos
  have v1_3 := fun pos => c.var (i := 3) (x := ("node" : Str)) (by decide +kernel) pos
  have v1_4 := fun pos => c.var (i := 4) (x := ("variable" : Str)) (by decide +kernel) pos
  have v1_2 := fun pos => c.var (i := 2) (x := ("found" : Str)) (by decide +kernel) pos
  have b1_sorted := c.bi g (x := ("sorted" : Str)) (v := .builtin "sorted") (by decide +kernel)
  have b1_tuple := c.bi g (x := ("tuple" : Str)) (v := .type "tuple") (by decide +kernel)
  have t1_3 := fun pos => c.tgt (i := 3) (x := ("node" : Str)) (by decide +kernel) pos
  have t1_4 := fun pos => c.tgt (i := 4) (x := ("variable" : Str)) (by decide +kernel) pos
  exact (vss_cons (c.ownF (by decide) (by decide +kernel) vf_dk rfl) (vss_cons (vs_for c.xe c.calm (refs_tgt (by decide)) (vi_seq (ve_var (v1_1 _))) (t1_3 _) (vss_post [3, 4] (vss_cons (vs_for c.xe c.calm (refs_tgt (by decide)) (vi_seq (ve_sub c.hu1 (plainIx trivial) (ve_sub c.hu1 (plainIx trivial) (ve_var (v1_0 _)) pe_iv) (ve_var (v1_3 _)))) (t1_4 _) (vss_post [4] (vss_cons (vs_store c.hu1 (v1_2 _) (ve_var (v1_4 _)) pe_bv rfl rfl rfl (fun _ => rfl)) vss_nil)) (fun _ => rfl)) vss_nil)) (fun _ => rfl)) (vss_cons (vs_retK [0, 1, 2, 3, 4] (b1_tuple.appTy cr_tupleF rfl (vab_d rfl (b1_sorted.app (cr_sortedDF c.calm) rfl (vab_b rfl (v1_2 _) vab_nil)) vab_nil))) vss_nil)))
/-! is_part -/
def N_is_part : List Str := ["value", "scope", "one", "at"]
theorem b_is_part {X : Cx} (c : Cn X N_is_part (defScope (top 33)).names (defScope (top 33)).names 1) (g : GF X.mg FREE INTS) (f_is_number : FavX X 1 "is_number" 3 [] s_is_number) : VSs X [] (defBody (top 33)) d_is_part := by
  have v1_0 := fun pos => c.var (i := 0) (x := ("value" : Str)) (by decide +kernel) pos
  have b1_isinstance := c.bi g (x := ("isinstance" : Str)) (v := .builtin "isinstance") (by decide +kernel)
  have b1_tuple := c.bi g (x := ("tuple" : Str)) (v := .type "tuple") (by decide +kernel)
  have b1_all := c.bi g (x := ("all" : Str)) (v := .builtin "all") (by decide +kernel)
  have b1_range := c.bi g (x := ("range" : Str)) (v := .type "range") (by decide +kernel)
  have b1_len := c.bi g (x := ("len" : Str)) (v := .builtin "len") (by decide +kernel)
  exact (vss_cons (vs_if (PW.pt (vw_or (vt_not (vt_truth (fun _ => rfl) (.d (b1_isinstance.isi (ty := .tuple) b1_tuple rfl (.d (ve_var (v1_0 _))))))) (vw_or1 (vt_not (vt_truth (fun _ => rfl) (.d (b1_all.app (cr_allF c.calm) rfl (vab_d rfl (vf_ve (c.vf (c.lc (own := [(("one" : Str), 2)]) (vi_seq (ve_var (v1_0 _))) (by decide +kernel) rfl (by decide) (fun _ => rfl) (fun _ _ _ _ _ c2 => by (have v2_2 := fun pos => c2.var (i := 2) (x := ("one" : Str)) (by decide +kernel) pos; have v2_1 := fun pos => c2.var (i := 1) (x := ("scope" : Str)) (by decide +kernel) pos; have t2_2 := fun pos => c2.tgt (i := 2) (x := ("one" : Str)) (by decide +kernel) pos; exact ⟨(t2_2 _), vts_nil, (ve_and (c2.call f_is_number (by decide) (by decide +kernel) rfl (by rfl) (by decide) (by rfl) (vc_d rfl (ve_var (v2_2 _)) (vc_d rfl pe_iv (vc_d rfl pe_iv vc_nil)))) (ve_one (ve_cmp (op_inF c2.hu65) rfl (ve_var (v2_2 _)) (ve_var (v2_1 _)))))⟩))))) vab_nil)))))))) (vss_cons (vs_retK [0, 1, 2, 3] pe_bv) vss_nil) vss_nil) (vss_cons (vs_retK [0, 1, 2, 3] (b1_all.app (cr_allF c.calm) rfl (vab_d rfl (vf_ve (c.vf (c.lc (own := [(("at" : Str), 3)]) (b1_range.range1 rfl (ve_bin op_subF (b1_len.app cr_lenF rfl (vab_d rfl (ve_var (v1_0 _)) vab_nil)) pe_iv)) (by decide +kernel) rfl (by decide) (fun _ => rfl) (fun _ _ _ _ _ c3 => by (have v3_0 := fun pos => c3.var (i := 0) (x := ("value" : Str)) (by decide +kernel) pos; have v3_3 := fun pos => c3.var (i := 3) (x := ("at" : Str)) (by decide +kernel) pos; have t3_3 := fun pos => c3.tgt (i := 3) (x := ("at" : Str)) (by decide +kernel) pos; exact ⟨(t3_3 _), vts_nil, (ve_cmp (op_ltF c3.hu0) rfl (ve_sub c3.hu1 (plainIx trivial) (ve_var (v3_0 _)) (ve_var (v3_3 _))) (ve_sub c3.hu1 (plainIx trivial) (ve_var (v3_0 _)) (ve_bin op_addF (ve_var (v3_3 _)) pe_iv)))⟩))))) vab_nil))) vss_nil))
/-! gathered -/
def N_gathered : List Str := ["items", "counts", "least", "row", "count", "cost"]
theorem b_gathered {X : Cx} (c : Cn X N_gathered (defScope (top 15)).names (defScope (top 15)).names 0) (g : GF X.mg FREE INTS) : VSs X [] (defBody (top 15)) d_gathered := by
  have v1_0 := fun pos => c.var (i := 0) (x := ("items" : Str)) (by decide +kernel) pos
  have v1_1 := fun pos => c.var (i := 1) (x := ("counts" : Str)) (by decide +kernel) pos
  have v1_3 := fun pos => c.var (i := 3) (x := ("row" : Str)) (by decide +kernel) pos
  have v1_4 := fun pos => c.var (i := 4) (x := ("count" : Str)) (by decide +kernel) pos
  have v1_2 := fun pos => c.var (i := 2) (x := ("least" : Str)) (by decide +kernel) pos
  have v1_5 := fun pos => c.var (i := 5) (x := ("cost" : Str)) (by decide +kernel) pos
  have b1_min := c.bi g (x := ("min" : Str)) (v := .builtin "min") (by decide +kernel)
  have b1_sorted := c.bi g (x := ("sorted" : Str)) (v := .builtin "sorted") (by decide +kernel)
  have b1_tuple := c.bi g (x := ("tuple" : Str)) (v := .type "tuple") (by decide +kernel)
  have t1_5 := fun pos => c.tgt (i := 5) (x := ("cost" : Str)) (by decide +kernel) pos
  have t1_4 := fun pos => c.tgt (i := 4) (x := ("count" : Str)) (by decide +kernel) pos
  have t1_3 := fun pos => c.tgt (i := 3) (x := ("row" : Str)) (by decide +kernel) pos
  exact (vss_cons (c.ownF (by decide) (by decide +kernel) vf_dt rfl) (vss_cons (c.ownF (by decide) (by decide +kernel) vf_dt rfl) (vss_cons (vs_for c.xe c.calm (refs_tgt (by decide)) (vi_seq (ve_var (v1_0 _))) (vg_tp c.calm rfl rfl (vgs_cons rfl (t1_3 _) (vgs_cons rfl (t1_4 _) (vgs_cons rfl (t1_5 _) vgs_nil)))) (vss_post [3, 4, 5] (vss_cons (vs_store c.hu1 (v1_1 _) (ve_var (v1_3 _)) (ve_bin op_addF (ve_meth (m_get c.hu1) (mcall rfl rfl (by decide) (by decide +kernel)) (.b (v1_1 _)) (va_cons rfl (ve_var (v1_3 _)) (va_cons rfl pe_iv va_nil))) (ve_var (v1_4 _))) rfl rfl rfl (fun _ => rfl)) (vss_cons (vs_store c.hu1 (v1_2 _) (ve_var (v1_3 _)) (b1_min.app (cr_minF c.calm c.hu) rfl (vab_d rfl (ve_meth (m_get c.hu1) (mcall rfl rfl (by decide) (by decide +kernel)) (.b (v1_2 _)) (va_cons rfl (ve_var (v1_3 _)) (va_cons rfl (ve_var (v1_5 _)) va_nil))) (vab_d rfl (ve_var (v1_5 _)) vab_nil))) rfl rfl rfl (fun _ => rfl)) vss_nil))) (fun _ => rfl)) (vss_cons (vs_retK [0, 1, 2, 3, 4, 5] (b1_tuple.appTy cr_tupleF rfl (vab_d rfl (vf_ve (c.vf (c.lc (own := [(("row" : Str), 3)]) (vi_seq (b1_sorted.app (cr_sortedTF c.calm c.hu) rfl (vab_b rfl (v1_1 _) vab_nil))) (by decide +kernel) rfl (by decide) (fun _ => rfl) (fun _ _ _ _ _ c2 => by (have v2_3 := fun pos => c2.var (i := 3) (x := ("row" : Str)) (by decide +kernel) pos; have v2_1 := fun pos => c2.var (i := 1) (x := ("counts" : Str)) (by decide +kernel) pos; have v2_2 := fun pos => c2.var (i := 2) (x := ("least" : Str)) (by decide +kernel) pos; have t2_3 := fun pos => c2.tgt (i := 3) (x := ("row" : Str)) (by decide +kernel) pos; exact ⟨(t2_3 _), vts_nil, (ve_tup (by decide) (va_cons rfl (ve_var (v2_3 _)) (va_cons rfl (ve_subL c2.hu1 (plainIx trivial) (v2_1 _) (ve_var (v2_3 _))) (va_cons rfl (ve_subL c2.hu1 (plainIx trivial) (v2_2 _) (ve_var (v2_3 _))) va_nil))))⟩))))) vab_nil))) vss_nil))))
/-! cut_to -/
def N_cut_to : List Str := ["row", "some", "kept", "variable", "one"]
theorem b_cut_to {X : Cx} (c : Cn X N_cut_to (defScope (top 14)).names (defScope (top 14)).names 0) (g : GF X.mg FREE INTS) : VSs X [] (defBody (top 14)) d_cut_to := by
  have v1_1 := fun pos => c.var (i := 1) (x := ("some" : Str)) (by decide +kernel) pos
  have v1_0 := fun pos => c.var (i := 0) (x := ("row" : Str)) (by decide +kernel) pos
  have b1_zip := c.bi g (x := ("zip" : Str)) (v := .type "zip") (by decide +kernel)
  have b1_tuple := c.bi g (x := ("tuple" : Str)) (v := .type "tuple") (by decide +kernel)
  exact (vss_cons (vs_retK [0, 1, 2, 3, 4] (b1_tuple.appTy cr_tupleF rfl (vab_d rfl (vf_ve (c.vf (c.lc (own := [(("variable" : Str), 3), (("one" : Str), 4)]) (b1_zip.zip rfl rfl (ve_var (v1_1 _)) (ve_var (v1_0 _))) (by decide +kernel) rfl (by decide) (fun _ => rfl) (fun _ _ _ _ _ c2 => by (have v2_3 := fun pos => c2.var (i := 3) (x := ("variable" : Str)) (by decide +kernel) pos; have v2_2 := fun pos => c2.var (i := 2) (x := ("kept" : Str)) (by decide +kernel) pos; have v2_4 := fun pos => c2.var (i := 4) (x := ("one" : Str)) (by decide +kernel) pos; have t2_4 := fun pos => c2.tgt (i := 4) (x := ("one" : Str)) (by decide +kernel) pos; have t2_3 := fun pos => c2.tgt (i := 3) (x := ("variable" : Str)) (by decide +kernel) pos; exact ⟨(vg_tp c2.calm rfl rfl (vgs_cons rfl (t2_3 _) (vgs_cons rfl (t2_4 _) vgs_nil))), (vts_one (vt_cmp (op_inF c2.hu65) rfl (ve_var (v2_3 _)) (ve_var (v2_2 _)))), (ve_var (v2_4 _))⟩))))) vab_nil))) vss_nil)
/-! cut_down -/
def N_cut_down : List Str := ["found", "scope", "some", "row", "price"]
theorem b_cut_down {X : Cx} (c : Cn X N_cut_down (defScope (top 31)).names (defScope (top 31)).names 1) (g : GF X.mg FREE INTS) (f_gathered : FavX X 1 "gathered" 1 [] s_gathered) (f_cut_to : FavX X 1 "cut_to" 3 [] s_cut_to) : VSs X [] (defBody (top 31)) d_cut_down := by
  have v1_0 := fun pos => c.var (i := 0) (x := ("found" : Str)) (by decide +kernel) pos
  exact (vss_cons (vs_retK [0, 1, 2, 3, 4] (c.call f_gathered (by decide) (by decide +kernel) rfl (by rfl) (by decide) (by rfl) (vc_d rfl (vf_ve (c.vf (c.lc (own := [(("row" : Str), 3), (("price" : Str), 4)]) (vi_seq (ve_var (v1_0 _))) (by decide +kernel) rfl (by decide) (fun _ => rfl) (fun _ _ _ _ _ c2 => by (have v2_3 := fun pos => c2.var (i := 3) (x := ("row" : Str)) (by decide +kernel) pos; have v2_1 := fun pos => c2.var (i := 1) (x := ("scope" : Str)) (by decide +kernel) pos; have v2_2 := fun pos => c2.var (i := 2) (x := ("some" : Str)) (by decide +kernel) pos; have v2_4 := fun pos => c2.var (i := 4) (x := ("price" : Str)) (by decide +kernel) pos; have t2_4 := fun pos => c2.tgt (i := 4) (x := ("price" : Str)) (by decide +kernel) pos; have t2_3 := fun pos => c2.tgt (i := 3) (x := ("row" : Str)) (by decide +kernel) pos; exact ⟨(vg_tp c2.calm rfl rfl (vgs_cons rfl (t2_3 _) (vgs_cons rfl (t2_4 _) vgs_nil))), vts_nil, (ve_tup (by decide) (va_cons rfl (c2.call f_cut_to (by decide) (by decide +kernel) rfl (by rfl) (by decide) (by rfl) (vc_d rfl (ve_var (v2_3 _)) (vc_d rfl (ve_var (v2_1 _)) (vc_d rfl (ve_var (v2_2 _)) vc_nil)))) (va_cons rfl pe_iv (va_cons rfl (ve_var (v2_4 _)) va_nil))))⟩))))) vc_nil))) vss_nil)
/-! rows_of -/
def N_rows_of : List Str := ["values", "many", "rows", "turn", "row", "one"]
theorem b_rows_of {X : Cx} (c : Cn X N_rows_of (defScope (top 13)).names (defScope (top 13)).names 0) (g : GF X.mg FREE INTS) : VSs X [] (defBody (top 13)) d_rows_of := by
  have v1_1 := fun pos => c.var (i := 1) (x := ("many" : Str)) (by decide +kernel) pos
  have v1_2 := fun pos => c.var (i := 2) (x := ("rows" : Str)) (by decide +kernel) pos
  have b1_range := c.bi g (x := ("range" : Str)) (v := .type "range") (by decide +kernel)
  have t1_3 := fun pos => c.tgt (i := 3) (x := ("turn" : Str)) (by decide +kernel) pos
  exact (vss_cons (c.set (by decide) (by decide +kernel) (ve_lst (by decide) (va_cons rfl (ve_tup (by decide) va_nil) va_nil)) rfl) (vss_cons (vs_for c.xe c.calm (refs_tgt (by decide)) (b1_range.range1 rfl (ve_var (v1_1 _))) (t1_3 _) (vss_post [3] (vss_cons (vs_fz 2 (c.ownLc2 (by decide) (by decide +kernel) (by decide +kernel) (by decide +kernel) (c.lc2 (own := [(("row" : Str), 4), (("one" : Str), 5)]) (vs1 := [5]) (vi_seq (ve_var (v1_2 _))) (by decide +kernel) rfl (by decide) (by decide) (by decide) (fun _ => rfl) (fun _ _ => rfl) (fun _ _ _ _ _ c2 => by (have v2_0 := fun pos => c2.var (i := 0) (x := ("values" : Str)) (by decide +kernel) pos; have v2_4 := fun pos => c2.var (i := 4) (x := ("row" : Str)) (by decide +kernel) pos; have v2_5 := fun pos => c2.var (i := 5) (x := ("one" : Str)) (by decide +kernel) pos; have b2_range := c2.bi g (x := ("range" : Str)) (v := .type "range") (by decide +kernel); have t2_4 := fun pos => c2.tgt (i := 4) (x := ("row" : Str)) (by decide +kernel) pos; have t2_5 := fun pos => c2.tgt (i := 5) (x := ("one" : Str)) (by decide +kernel) pos; exact ⟨(t2_4 _), vts_nil, (b2_range.range1 rfl (ve_var (v2_0 _))), (t2_5 _), vts_nil, (ve_bin op_addF (ve_var (v2_4 _)) (ve_tup (by decide) (va_cons rfl (ve_var (v2_5 _)) va_nil)))⟩))))) vss_nil)) (fun _ => rfl)) (vss_cons (vs_retK [0, 1, 2, 3, 4, 5] (ve_var (v1_2 _))) vss_nil)))
/-! first_rejecting -/
def N_first_rejecting : List Str := ["graph", "tables", "nodes", "row", "some", "node", "part", "own", "price"]
theorem b_first_rejecting {X : Cx} (c : Cn X N_first_rejecting (defScope (top 26)).names (defScope (top 26)).names 1) (g : GF X.mg FREE INTS) (f_scope_of : FavX X 1 "scope_of" 2 [] s_scope_of) (f_cut_to : FavX X 1 "cut_to" 3 [] s_cut_to) : VSs X [] (defBody (top 26)) d_first_rejecting := by
  have v1_0 := fun pos => c.var (i := 0) (x := ("graph" : Str)) (by decide +kernel) pos
  have v1_2 := fun pos => c.var (i := 2) (x := ("nodes" : Str)) (by decide +kernel) pos
  have v1_3 := fun pos => c.var (i := 3) (x := ("row" : Str)) (by decide +kernel) pos
  have v1_4 := fun pos => c.var (i := 4) (x := ("some" : Str)) (by decide +kernel) pos
  have v1_5 := fun pos => c.var (i := 5) (x := ("node" : Str)) (by decide +kernel) pos
  have v1_1 := fun pos => c.var (i := 1) (x := ("tables" : Str)) (by decide +kernel) pos
  have b1_any := c.bi g (x := ("any" : Str)) (v := .builtin "any") (by decide +kernel)
  have t1_5 := fun pos => c.tgt (i := 5) (x := ("node" : Str)) (by decide +kernel) pos
  exact (vss_cons (c.set (by decide) (by decide +kernel) (c.call f_scope_of (by decide) (by decide +kernel) rfl (by rfl) (by decide) (by rfl) (vc_d rfl (ve_var (v1_0 _)) (vc_d rfl (ve_var (v1_2 _)) vc_nil))) rfl) (vss_cons (vs_for c.xe c.calm (refs_tgt (by decide)) (vi_seq (ve_var (v1_2 _))) (t1_5 _) (vss_post [5, 6] (vss_cons (c.set (by decide) (by decide +kernel) (c.call f_cut_to (by decide) (by decide +kernel) rfl (by rfl) (by decide) (by rfl) (vc_d rfl (ve_var (v1_3 _)) (vc_d rfl (ve_var (v1_4 _)) (vc_d rfl (ve_sub c.hu1 (plainIx trivial) (ve_sub c.hu1 (plainIx trivial) (ve_var (v1_0 _)) pe_iv) (ve_var (v1_5 _))) vc_nil)))) rfl) (vss_cons (vs_if (vt_not (vt_truth (fun _ => rfl) (.d (b1_any.app (cr_anyF c.calm) rfl (vab_d rfl (vf_ve (c.vf (c.lc (own := [(("own" : Str), 7), (("price" : Str), 8)]) (vi_seq (ve_sub c.hu1 (plainIx trivial) (ve_var (v1_1 _)) (ve_var (v1_5 _)))) (by decide +kernel) rfl (by decide) (fun _ => rfl) (fun _ _ _ _ _ c2 => by (have v2_7 := fun pos => c2.var (i := 7) (x := ("own" : Str)) (by decide +kernel) pos; have v2_6 := fun pos => c2.var (i := 6) (x := ("part" : Str)) (by decide +kernel) pos; have t2_8 := fun pos => c2.tgt (i := 8) (x := ("price" : Str)) (by decide +kernel) pos; have t2_7 := fun pos => c2.tgt (i := 7) (x := ("own" : Str)) (by decide +kernel) pos; exact ⟨(vg_tp c2.calm rfl rfl (vgs_cons rfl (t2_7 _) (vgs_cons rfl (t2_8 _) vgs_nil))), vts_nil, (ve_cmp (op_eqF c2.hu64) rfl (ve_var (v2_7 _)) (ve_var (v2_6 _)))⟩))))) vab_nil))))) (vss_cons (vs_retK [0, 1, 2, 3, 4, 5, 6, 7, 8] (ve_var (v1_5 _))) vss_nil) vss_nil) vss_nil))) (fun _ => rfl)) (vss_cons (vs_retK [0, 1, 2, 3, 4, 5, 6, 7, 8] pe_nv) vss_nil)))
/-! price_of -/
def N_price_of : List Str := ["graph", "tables", "nodes", "row", "some", "total", "node", "part", "own", "price"]
theorem b_price_of {X : Cx} (c : Cn X N_price_of (defScope (top 27)).names (defScope (top 27)).names 1) (g : GF X.mg FREE INTS) (f_scope_of : FavX X 1 "scope_of" 2 [] s_scope_of) (f_cut_to : FavX X 1 "cut_to" 3 [] s_cut_to) : VSs X [] (defBody (top 27)) d_price_of := by
  have v1_0 := fun pos => c.var (i := 0) (x := ("graph" : Str)) (by decide +kernel) pos
  have v1_2 := fun pos => c.var (i := 2) (x := ("nodes" : Str)) (by decide +kernel) pos
  have v1_3 := fun pos => c.var (i := 3) (x := ("row" : Str)) (by decide +kernel) pos
  have v1_4 := fun pos => c.var (i := 4) (x := ("some" : Str)) (by decide +kernel) pos
  have v1_6 := fun pos => c.var (i := 6) (x := ("node" : Str)) (by decide +kernel) pos
  have v1_5 := fun pos => c.var (i := 5) (x := ("total" : Str)) (by decide +kernel) pos
  have v1_1 := fun pos => c.var (i := 1) (x := ("tables" : Str)) (by decide +kernel) pos
  have t1_6 := fun pos => c.tgt (i := 6) (x := ("node" : Str)) (by decide +kernel) pos
  exact (vss_cons (c.set (by decide) (by decide +kernel) (c.call f_scope_of (by decide) (by decide +kernel) rfl (by rfl) (by decide) (by rfl) (vc_d rfl (ve_var (v1_0 _)) (vc_d rfl (ve_var (v1_2 _)) vc_nil))) rfl) (vss_cons (c.set (by decide) (by decide +kernel) pe_iv rfl) (vss_cons (vs_for c.xe c.calm (refs_tgt (by decide)) (vi_seq (ve_var (v1_2 _))) (t1_6 _) (vss_post [6, 7] (vss_cons (c.set (by decide) (by decide +kernel) (c.call f_cut_to (by decide) (by decide +kernel) rfl (by rfl) (by decide) (by rfl) (vc_d rfl (ve_var (v1_3 _)) (vc_d rfl (ve_var (v1_4 _)) (vc_d rfl (ve_sub c.hu1 (plainIx trivial) (ve_sub c.hu1 (plainIx trivial) (ve_var (v1_0 _)) pe_iv) (ve_var (v1_6 _))) vc_nil)))) rfl) (vss_cons (c.set (by decide) (by decide +kernel) (ve_bin op_addF (ve_var (v1_5 _)) (ve_sub c.hu1 (plainIx trivial) (vf_ve (c.vf (c.lc (own := [(("own" : Str), 8), (("price" : Str), 9)]) (vi_seq (ve_sub c.hu1 (plainIx trivial) (ve_var (v1_1 _)) (ve_var (v1_6 _)))) (by decide +kernel) rfl (by decide) (fun _ => rfl) (fun _ _ _ _ _ c2 => by (have v2_8 := fun pos => c2.var (i := 8) (x := ("own" : Str)) (by decide +kernel) pos; have v2_7 := fun pos => c2.var (i := 7) (x := ("part" : Str)) (by decide +kernel) pos; have v2_9 := fun pos => c2.var (i := 9) (x := ("price" : Str)) (by decide +kernel) pos; have t2_9 := fun pos => c2.tgt (i := 9) (x := ("price" : Str)) (by decide +kernel) pos; have t2_8 := fun pos => c2.tgt (i := 8) (x := ("own" : Str)) (by decide +kernel) pos; exact ⟨(vg_tp c2.calm rfl rfl (vgs_cons rfl (t2_8 _) (vgs_cons rfl (t2_9 _) vgs_nil))), (vts_one (vt_cmp (op_eqF c2.hu64) rfl (ve_var (v2_8 _)) (ve_var (v2_7 _)))), (ve_var (v2_9 _))⟩))))) pe_iv)) rfl) vss_nil))) (fun _ => rfl)) (vss_cons (vs_retK [0, 1, 2, 3, 4, 5, 6, 7, 8, 9] (ve_var (v1_5 _))) vss_nil))))
/-! solutions_by -/
def N_solutions_by : List Str := ["graph", "tables", "nodes", "found", "row"]
theorem b_solutions_by {X : Cx} (c : Cn X N_solutions_by (defScope (top 28)).names (defScope (top 28)).names 2) (g : GF X.mg FREE INTS) (f_rows_of : FavX X 1 "rows_of" 2 [] s_rows_of) (f_scope_of : FavX X 1 "scope_of" 2 [] s_scope_of) (f_first_rejecting : FavX X 2 "first_rejecting" 4 [] s_first_rejecting) (f_price_of : FavX X 2 "price_of" 4 [] s_price_of) : VSs X [] (defBody (top 28)) d_solutions_by := by
  have v1_0 := fun pos => c.var (i := 0) (x := ("graph" : Str)) (by decide +kernel) pos
  have v1_2 := fun pos => c.var (i := 2) (x := ("nodes" : Str)) (by decide +kernel) pos
  have v1_1 := fun pos => c.var (i := 1) (x := ("tables" : Str)) (by decide +kernel) pos
  have v1_4 := fun pos => c.var (i := 4) (x := ("row" : Str)) (by decide +kernel) pos
  have v1_3 := fun pos => c.var (i := 3) (x := ("found" : Str)) (by decide +kernel) pos
  have b1_len := c.bi g (x := ("len" : Str)) (v := .builtin "len") (by decide +kernel)
  have t1_4 := fun pos => c.tgt (i := 4) (x := ("row" : Str)) (by decide +kernel) pos
  exact (vss_cons (c.ownF (by decide) (by decide +kernel) (vf_lst (by decide) va_nil) rfl) (vss_cons (vs_for c.xe c.calm (refs_tgt (by decide)) (vi_seq (c.call f_rows_of (by decide) (by decide +kernel) rfl (by rfl) (by decide) (by rfl) (vc_d rfl (ve_sub c.hu1 (plainIx trivial) (ve_var (v1_0 _)) pe_iv) (vc_d rfl (b1_len.app cr_lenF rfl (vab_d rfl (c.call f_scope_of (by decide) (by decide +kernel) rfl (by rfl) (by decide) (by rfl) (vc_d rfl (ve_var (v1_0 _)) (vc_d rfl (ve_var (v1_2 _)) vc_nil))) vab_nil)) vc_nil)))) (t1_4 _) (vss_post [4] (vss_cons (vs_if (vt_cmp op_isNF rfl (c.call f_first_rejecting (by decide) (by decide +kernel) rfl (by rfl) (by decide) (by rfl) (vc_d rfl (ve_var (v1_0 _)) (vc_d rfl (ve_var (v1_1 _)) (vc_d rfl (ve_var (v1_2 _)) (vc_d rfl (ve_var (v1_4 _)) vc_nil))))) pe_nv) (vss_cons (vs_drop rfl (ve_mut mm_append (mcall rfl rfl (by decide) (by decide +kernel)) (v1_3 _) (va_cons rfl (ve_tup (by decide) (va_cons rfl (ve_var (v1_4 _)) (va_cons rfl (c.call f_price_of (by decide) (by decide +kernel) rfl (by rfl) (by decide) (by rfl) (vc_d rfl (ve_var (v1_0 _)) (vc_d rfl (ve_var (v1_1 _)) (vc_d rfl (ve_var (v1_2 _)) (vc_d rfl (ve_var (v1_4 _)) vc_nil))))) va_nil))) va_nil))) vss_nil) vss_nil) vss_nil)) (fun _ => rfl)) (vss_cons (vs_retK [0, 1, 2, 3, 4] (ve_var (v1_3 _))) vss_nil)))
/-! part_projection -/
def N_part_projection : List Str := ["graph", "tables", "nodes", "some", "scope"]
theorem b_part_projection {X : Cx} (c : Cn X N_part_projection (defScope (top 36)).names (defScope (top 36)).names 6) (g : GF X.mg FREE INTS) (f_check_tables : FavX X 6 "check_tables" 2 [] s_check_tables) (f_are_nodes : FavX X 2 "are_nodes" 2 [] s_are_nodes) (f_scope_of : FavX X 1 "scope_of" 2 [] s_scope_of) (f_is_part : FavX X 2 "is_part" 2 [] s_is_part) (f_cut_down : FavX X 2 "cut_down" 3 [] s_cut_down) (f_solutions_by : FavX X 3 "solutions_by" 3 [] s_solutions_by) : VSs X [] (defBody (top 36)) d_part_projection := by
  have v1_0 := fun pos => c.var (i := 0) (x := ("graph" : Str)) (by decide +kernel) pos
  have v1_1 := fun pos => c.var (i := 1) (x := ("tables" : Str)) (by decide +kernel) pos
  have v1_2 := fun pos => c.var (i := 2) (x := ("nodes" : Str)) (by decide +kernel) pos
  have v1_3 := fun pos => c.var (i := 3) (x := ("some" : Str)) (by decide +kernel) pos
  have v1_4 := fun pos => c.var (i := 4) (x := ("scope" : Str)) (by decide +kernel) pos
  exact (vss_cons (vs_drop rfl (c.call f_check_tables (by decide) (by decide +kernel) rfl (by rfl) (by decide) (by rfl) (vc_d rfl (ve_var (v1_0 _)) (vc_d rfl (ve_var (v1_1 _)) vc_nil)))) (vss_cons (vs_if (vt_not (vt_truth (fun _ => rfl) (.d (c.call f_are_nodes (by decide) (by decide +kernel) rfl (by rfl) (by decide) (by rfl) (vc_d rfl (ve_var (v1_0 _)) (vc_d rfl (ve_var (v1_2 _)) vc_nil)))))) (vss_cons vs_never vss_nil) vss_nil) (vss_cons (c.set (by decide) (by decide +kernel) (c.call f_scope_of (by decide) (by decide +kernel) rfl (by rfl) (by decide) (by rfl) (vc_d rfl (ve_var (v1_0 _)) (vc_d rfl (ve_var (v1_2 _)) vc_nil))) rfl) (vss_cons (vs_if (vt_not (vt_truth (fun _ => rfl) (.d (c.call f_is_part (by decide) (by decide +kernel) rfl (by rfl) (by decide) (by rfl) (vc_d rfl (ve_var (v1_3 _)) (vc_d rfl (ve_var (v1_4 _)) vc_nil)))))) (vss_cons vs_never vss_nil) vss_nil) (vss_cons (vs_retK [0, 1, 2, 3, 4] (c.call f_cut_down (by decide) (by decide +kernel) rfl (by rfl) (by decide) (by rfl) (vc_d rfl (c.call f_solutions_by (by decide) (by decide +kernel) rfl (by rfl) (by decide) (by rfl) (vc_d rfl (ve_var (v1_0 _)) (vc_d rfl (ve_var (v1_1 _)) (vc_d rfl (ve_var (v1_2 _)) vc_nil)))) (vc_d rfl (ve_var (v1_4 _)) (vc_d rfl (ve_var (v1_3 _)) vc_nil))))) vss_nil)))))
/-! _law_cut -/
def N__law_cut : List Str := ["_law_row", "_law_scope", "_law_some_here", "_law_variable"]
theorem b__law_cut {X : Cx} (c : Cn X N__law_cut (defScope (top 47)).names (defScope (top 47)).names 0) (g : GF X.mg FREE INTS) : VSs X [] (defBody (top 47)) d__law_cut := by
  have v1_2 := fun pos => c.var (i := 2) (x := ("_law_some_here" : Str)) (by decide +kernel) pos
  have b1_tuple := c.bi g (x := ("tuple" : Str)) (v := .type "tuple") (by decide +kernel)
  exact (vss_cons (vs_retK [0, 1, 2, 3] (b1_tuple.appTy cr_tupleF rfl (vab_d rfl (vf_ve (c.vf (c.lc (own := [(("_law_variable" : Str), 3)]) (vi_seq (ve_var (v1_2 _))) (by decide +kernel) rfl (by decide) (fun _ => rfl) (fun _ _ _ _ _ c2 => by (have v2_0 := fun pos => c2.var (i := 0) (x := ("_law_row" : Str)) (by decide +kernel) pos; have v2_1 := fun pos => c2.var (i := 1) (x := ("_law_scope" : Str)) (by decide +kernel) pos; have v2_3 := fun pos => c2.var (i := 3) (x := ("_law_variable" : Str)) (by decide +kernel) pos; have t2_3 := fun pos => c2.tgt (i := 3) (x := ("_law_variable" : Str)) (by decide +kernel) pos; exact ⟨(t2_3 _), vts_nil, (ve_sub c2.hu1 (plainIx trivial) (ve_var (v2_0 _)) (ve_meth (m_index c2.hu65) (mcall rfl rfl (by decide) (by decide +kernel)) (.d (ve_var (v2_1 _))) (va_cons rfl (ve_var (v2_3 _)) va_nil)))⟩))))) vab_nil))) vss_nil)
/-! _law_left -/
def N__law_left : List Str := ["_law_found", "_law_scope", "_law_some_here", "_law_told", "_law_row", "_law_price", "_law_part"]
theorem b__law_left {X : Cx} (c : Cn X N__law_left (defScope (top 50)).names (defScope (top 50)).names 1) (g : GF X.mg FREE INTS) (f__law_cut : FavX X 1 "_law_cut" 3 [] s__law_cut) : VSs X [] (defBody (top 50)) d__law_left := by
  have v1_0 := fun pos => c.var (i := 0) (x := ("_law_found" : Str)) (by decide +kernel) pos
  have v1_4 := fun pos => c.var (i := 4) (x := ("_law_row" : Str)) (by decide +kernel) pos
  have v1_1 := fun pos => c.var (i := 1) (x := ("_law_scope" : Str)) (by decide +kernel) pos
  have v1_2 := fun pos => c.var (i := 2) (x := ("_law_some_here" : Str)) (by decide +kernel) pos
  have v1_6 := fun pos => c.var (i := 6) (x := ("_law_part" : Str)) (by decide +kernel) pos
  have v1_3 := fun pos => c.var (i := 3) (x := ("_law_told" : Str)) (by decide +kernel) pos
  have v1_5 := fun pos => c.var (i := 5) (x := ("_law_price" : Str)) (by decide +kernel) pos
  have b1_min := c.bi g (x := ("min" : Str)) (v := .builtin "min") (by decide +kernel)
  have b1_sorted := c.bi g (x := ("sorted" : Str)) (v := .builtin "sorted") (by decide +kernel)
  have b1_tuple := c.bi g (x := ("tuple" : Str)) (v := .type "tuple") (by decide +kernel)
  have t1_5 := fun pos => c.tgt (i := 5) (x := ("_law_price" : Str)) (by decide +kernel) pos
  have t1_4 := fun pos => c.tgt (i := 4) (x := ("_law_row" : Str)) (by decide +kernel) pos
  exact (vss_cons (c.ownF (by decide) (by decide +kernel) vf_dt rfl) (vss_cons (vs_for c.xe c.calm (refs_tgt (by decide)) (vi_seq (ve_var (v1_0 _))) (vg_tp c.calm rfl rfl (vgs_cons rfl (t1_4 _) (vgs_cons rfl (t1_5 _) vgs_nil))) (vss_post [4, 5, 6] (vss_cons (c.set (by decide) (by decide +kernel) (c.call f__law_cut (by decide) (by decide +kernel) rfl (by rfl) (by decide) (by rfl) (vc_d rfl (ve_var (v1_4 _)) (vc_d rfl (ve_var (v1_1 _)) (vc_d rfl (ve_var (v1_2 _)) vc_nil)))) rfl) (vss_cons (vs_if (vt_cmpR (op_inF c.hu65) rfl (ve_var (v1_6 _)) (v1_3 _)) (vss_cons (vs_store c.hu1 (v1_3 _) (ve_var (v1_6 _)) (ve_tup (by decide) (va_cons rfl (ve_bin op_addF (ve_sub c.hu1 (plainIx trivial) (ve_subL c.hu1 (plainIx trivial) (v1_3 _) (ve_var (v1_6 _))) pe_iv) pe_iv) (va_cons rfl (b1_min.app (cr_minF c.calm c.hu) rfl (vab_d rfl (ve_sub c.hu1 (plainIx trivial) (ve_subL c.hu1 (plainIx trivial) (v1_3 _) (ve_var (v1_6 _))) pe_iv) (vab_d rfl (ve_var (v1_5 _)) vab_nil))) va_nil))) rfl rfl rfl (fun _ => rfl)) vss_nil) (vss_cons (vs_store c.hu1 (v1_3 _) (ve_var (v1_6 _)) (ve_tup (by decide) (va_cons rfl pe_iv (va_cons rfl (ve_var (v1_5 _)) va_nil))) rfl rfl rfl (fun _ => rfl)) vss_nil)) vss_nil))) (fun _ => rfl)) (vss_cons (vs_retK [0, 1, 2, 3, 4, 5, 6] (b1_tuple.appTy cr_tupleF rfl (vab_d rfl (vf_ve (c.vf (c.lc (own := [(("_law_part" : Str), 6)]) (vi_seq (b1_sorted.app (cr_sortedTF c.calm c.hu) rfl (vab_b rfl (v1_3 _) vab_nil))) (by decide +kernel) rfl (by decide) (fun _ => rfl) (fun _ _ _ _ _ c2 => by (have v2_6 := fun pos => c2.var (i := 6) (x := ("_law_part" : Str)) (by decide +kernel) pos; have v2_3 := fun pos => c2.var (i := 3) (x := ("_law_told" : Str)) (by decide +kernel) pos; have t2_6 := fun pos => c2.tgt (i := 6) (x := ("_law_part" : Str)) (by decide +kernel) pos; exact ⟨(t2_6 _), vts_nil, (ve_tup (by decide) (va_cons rfl (ve_var (v2_6 _)) (va_cons rfl (ve_sub c2.hu1 (plainIx trivial) (ve_subL c2.hu1 (plainIx trivial) (v2_3 _) (ve_var (v2_6 _))) pe_iv) (va_cons rfl (ve_sub c2.hu1 (plainIx trivial) (ve_subL c2.hu1 (plainIx trivial) (v2_3 _) (ve_var (v2_6 _))) pe_iv) va_nil))))⟩))))) vab_nil))) vss_nil)))
/-! _law_cost -/
def N__law_cost : List Str := ["_law_graph_here", "_law_tables_here", "_law_nodes", "_law_row", "_law_scope", "_law_total", "_law_node", "_law_part", "_law_prices", "_law_own", "_law_price"]
theorem b__law_cost {X : Cx} (c : Cn X N__law_cost (defScope (top 48)).names (defScope (top 48)).names 1) (g : GF X.mg FREE INTS) (f__law_variables : FavX X 1 "_law_variables" 2 [] s__law_variables) (f__law_cut : FavX X 1 "_law_cut" 3 [] s__law_cut) : VSs X [] (defBody (top 48)) d__law_cost := by
  have v1_0 := fun pos => c.var (i := 0) (x := ("_law_graph_here" : Str)) (by decide +kernel) pos
  have v1_2 := fun pos => c.var (i := 2) (x := ("_law_nodes" : Str)) (by decide +kernel) pos
  have v1_3 := fun pos => c.var (i := 3) (x := ("_law_row" : Str)) (by decide +kernel) pos
  have v1_4 := fun pos => c.var (i := 4) (x := ("_law_scope" : Str)) (by decide +kernel) pos
  have v1_6 := fun pos => c.var (i := 6) (x := ("_law_node" : Str)) (by decide +kernel) pos
  have v1_1 := fun pos => c.var (i := 1) (x := ("_law_tables_here" : Str)) (by decide +kernel) pos
  have v1_8 := fun pos => c.var (i := 8) (x := ("_law_prices" : Str)) (by decide +kernel) pos
  have v1_5 := fun pos => c.var (i := 5) (x := ("_law_total" : Str)) (by decide +kernel) pos
  have t1_6 := fun pos => c.tgt (i := 6) (x := ("_law_node" : Str)) (by decide +kernel) pos
  exact (vss_cons (c.set (by decide) (by decide +kernel) (c.call f__law_variables (by decide) (by decide +kernel) rfl (by rfl) (by decide) (by rfl) (vc_d rfl (ve_var (v1_0 _)) (vc_d rfl (ve_var (v1_2 _)) vc_nil))) rfl) (vss_cons (c.set (by decide) (by decide +kernel) pe_iv rfl) (vss_cons (vs_for c.xe c.calm (refs_tgt (by decide)) (vi_seq (ve_var (v1_2 _))) (t1_6 _) (vss_post [6, 7, 8] (vss_cons (c.set (by decide) (by decide +kernel) (c.call f__law_cut (by decide) (by decide +kernel) rfl (by rfl) (by decide) (by rfl) (vc_d rfl (ve_var (v1_3 _)) (vc_d rfl (ve_var (v1_4 _)) (vc_d rfl (ve_sub c.hu1 (plainIx trivial) (ve_sub c.hu1 (plainIx trivial) (ve_var (v1_0 _)) pe_iv) (ve_var (v1_6 _))) vc_nil)))) rfl) (vss_cons (vs_fz 8 (c.ownLc (by decide) (by decide +kernel) (by decide +kernel) (by decide +kernel) (c.lc (own := [(("_law_own" : Str), 9), (("_law_price" : Str), 10)]) (vi_seq (ve_sub c.hu1 (plainIx trivial) (ve_var (v1_1 _)) (ve_var (v1_6 _)))) (by decide +kernel) rfl (by decide) (fun _ => rfl) (fun _ _ _ _ _ c2 => by (have v2_9 := fun pos => c2.var (i := 9) (x := ("_law_own" : Str)) (by decide +kernel) pos; have v2_7 := fun pos => c2.var (i := 7) (x := ("_law_part" : Str)) (by decide +kernel) pos; have v2_10 := fun pos => c2.var (i := 10) (x := ("_law_price" : Str)) (by decide +kernel) pos; have t2_10 := fun pos => c2.tgt (i := 10) (x := ("_law_price" : Str)) (by decide +kernel) pos; have t2_9 := fun pos => c2.tgt (i := 9) (x := ("_law_own" : Str)) (by decide +kernel) pos; exact ⟨(vg_tp c2.calm rfl rfl (vgs_cons rfl (t2_9 _) (vgs_cons rfl (t2_10 _) vgs_nil))), (vts_one (vt_cmp (op_eqF c2.hu64) rfl (ve_var (v2_9 _)) (ve_var (v2_7 _)))), (ve_var (v2_10 _))⟩))))) (vss_cons (vs_if (vt_not (vt_truth (fun _ => rfl) (.d (ve_var (v1_8 _))))) (vss_cons (vs_retK [0, 1, 2, 3, 4, 5, 6, 7, 8, 9, 10] pe_nv) vss_nil) vss_nil) (vss_cons (c.set (by decide) (by decide +kernel) (ve_bin op_addF (ve_var (v1_5 _)) (ve_sub c.hu1 (plainIx trivial) (ve_var (v1_8 _)) pe_iv)) rfl) vss_nil))))) (fun _ => rfl)) (vss_cons (vs_retK [0, 1, 2, 3, 4, 5, 6, 7, 8, 9, 10] (ve_var (v1_5 _))) vss_nil))))
/-! _law_solutions -/
def N__law_solutions : List Str := ["_law_graph_here", "_law_tables_here", "_law_nodes", "_law_found", "_law_row", "_law_price"]
theorem b__law_solutions {X : Cx} (c : Cn X N__law_solutions (defScope (top 49)).names (defScope (top 49)).names 2) (g : GF X.mg FREE INTS) (f__law_rows : FavX X 1 "_law_rows" 2 [] s__law_rows) (f__law_variables : FavX X 1 "_law_variables" 2 [] s__law_variables) (f__law_cost : FavX X 2 "_law_cost" 4 [] s__law_cost) : VSs X [] (defBody (top 49)) d__law_solutions := by
  have v1_0 := fun pos => c.var (i := 0) (x := ("_law_graph_here" : Str)) (by decide +kernel) pos
  have v1_2 := fun pos => c.var (i := 2) (x := ("_law_nodes" : Str)) (by decide +kernel) pos
  have v1_1 := fun pos => c.var (i := 1) (x := ("_law_tables_here" : Str)) (by decide +kernel) pos
  have v1_4 := fun pos => c.var (i := 4) (x := ("_law_row" : Str)) (by decide +kernel) pos
  have v1_5 := fun pos => c.var (i := 5) (x := ("_law_price" : Str)) (by decide +kernel) pos
  have v1_3 := fun pos => c.var (i := 3) (x := ("_law_found" : Str)) (by decide +kernel) pos
  have b1_len := c.bi g (x := ("len" : Str)) (v := .builtin "len") (by decide +kernel)
  have t1_4 := fun pos => c.tgt (i := 4) (x := ("_law_row" : Str)) (by decide +kernel) pos
  exact (vss_cons (c.ownF (by decide) (by decide +kernel) (vf_lst (by decide) va_nil) rfl) (vss_cons (vs_for c.xe c.calm (refs_tgt (by decide)) (vi_seq (c.call f__law_rows (by decide) (by decide +kernel) rfl (by rfl) (by decide) (by rfl) (vc_d rfl (ve_sub c.hu1 (plainIx trivial) (ve_var (v1_0 _)) pe_iv) (vc_d rfl (b1_len.app cr_lenF rfl (vab_d rfl (c.call f__law_variables (by decide) (by decide +kernel) rfl (by rfl) (by decide) (by rfl) (vc_d rfl (ve_var (v1_0 _)) (vc_d rfl (ve_var (v1_2 _)) vc_nil))) vab_nil)) vc_nil)))) (t1_4 _) (vss_post [4, 5] (vss_cons (c.set (by decide) (by decide +kernel) (c.call f__law_cost (by decide) (by decide +kernel) rfl (by rfl) (by decide) (by rfl) (vc_d rfl (ve_var (v1_0 _)) (vc_d rfl (ve_var (v1_1 _)) (vc_d rfl (ve_var (v1_2 _)) (vc_d rfl (ve_var (v1_4 _)) vc_nil))))) rfl) (vss_cons (vs_if (vt_cmp op_notNF rfl (ve_var (v1_5 _)) pe_nv) (vss_cons (vs_drop rfl (ve_mut mm_append (mcall rfl rfl (by decide) (by decide +kernel)) (v1_3 _) (va_cons rfl (ve_tup (by decide) (va_cons rfl (ve_var (v1_4 _)) (va_cons rfl (ve_var (v1_5 _)) va_nil))) va_nil))) vss_nil) vss_nil) vss_nil))) (fun _ => rfl)) (vss_cons (vs_retK [0, 1, 2, 3, 4, 5] (ve_var (v1_3 _))) vss_nil)))
/-! variables_of -/
def N_variables_of : List Str := ["graph"]
theorem b_variables_of {X : Cx} (c : Cn X N_variables_of (defScope (top 22)).names (defScope (top 22)).names 1) (g : GF X.mg FREE INTS) (f_scope_of : FavX X 1 "scope_of" 2 [] s_scope_of) : VSs X [] (defBody (top 22)) d_variables_of := by
  have v1_0 := fun pos => c.var (i := 0) (x := ("graph" : Str)) (by decide +kernel) pos
  have b1_range := c.bi g (x := ("range" : Str)) (v := .type "range") (by decide +kernel)
  have b1_len := c.bi g (x := ("len" : Str)) (v := .builtin "len") (by decide +kernel)
  have b1_list := c.bi g (x := ("list" : Str)) (v := .type "list") (by decide +kernel)
  exact (vss_cons (vs_retK [0] (c.call f_scope_of (by decide) (by decide +kernel) rfl (by rfl) (by decide) (by rfl) (vc_d rfl (ve_var (v1_0 _)) (vc_d rfl (vf_ve (b1_list.listRg c.calm rfl (b1_range.prg1 rfl (b1_len.app cr_lenF rfl (vab_d rfl (ve_sub c.hu1 (plainIx trivial) (ve_var (v1_0 _)) pe_iv) vab_nil))))) vc_nil)))) vss_nil)
/-! solutions_of -/
def N_solutions_of : List Str := ["graph", "tables"]
theorem b_solutions_of {X : Cx} (c : Cn X N_solutions_of (defScope (top 29)).names (defScope (top 29)).names 3) (g : GF X.mg FREE INTS) (f_solutions_by : FavX X 3 "solutions_by" 3 [] s_solutions_by) : VSs X [] (defBody (top 29)) d_solutions_of := by
  have v1_0 := fun pos => c.var (i := 0) (x := ("graph" : Str)) (by decide +kernel) pos
  have v1_1 := fun pos => c.var (i := 1) (x := ("tables" : Str)) (by decide +kernel) pos
  have b1_range := c.bi g (x := ("range" : Str)) (v := .type "range") (by decide +kernel)
  have b1_len := c.bi g (x := ("len" : Str)) (v := .builtin "len") (by decide +kernel)
  have b1_list := c.bi g (x := ("list" : Str)) (v := .type "list") (by decide +kernel)
  exact (vss_cons (vs_retK [0, 1] (c.call f_solutions_by (by decide) (by decide +kernel) rfl (by rfl) (by decide) (by rfl) (vc_d rfl (ve_var (v1_0 _)) (vc_d rfl (ve_var (v1_1 _)) (vc_d rfl (vf_ve (b1_list.listRg c.calm rfl (b1_range.prg1 rfl (b1_len.app cr_lenF rfl (vab_d rfl (ve_sub c.hu1 (plainIx trivial) (ve_var (v1_0 _)) pe_iv) vab_nil))))) vc_nil))))) vss_nil)
/-! projected -/
def N_projected : List Str := ["graph", "tables", "some"]
theorem b_projected {X : Cx} (c : Cn X N_projected (defScope (top 32)).names (defScope (top 32)).names 4) (g : GF X.mg FREE INTS) (f_cut_down : FavX X 2 "cut_down" 3 [] s_cut_down) (f_solutions_of : FavX X 4 "solutions_of" 2 [] s_solutions_of) (f_variables_of : FavX X 2 "variables_of" 1 [] s_variables_of) : VSs X [] (defBody (top 32)) d_projected := by
  have v1_0 := fun pos => c.var (i := 0) (x := ("graph" : Str)) (by decide +kernel) pos
  have v1_1 := fun pos => c.var (i := 1) (x := ("tables" : Str)) (by decide +kernel) pos
  have v1_2 := fun pos => c.var (i := 2) (x := ("some" : Str)) (by decide +kernel) pos
  exact (vss_cons (vs_retK [0, 1, 2] (c.call f_cut_down (by decide) (by decide +kernel) rfl (by rfl) (by decide) (by rfl) (vc_d rfl (c.call f_solutions_of (by decide) (by decide +kernel) rfl (by rfl) (by decide) (by rfl) (vc_d rfl (ve_var (v1_0 _)) (vc_d rfl (ve_var (v1_1 _)) vc_nil))) (vc_d rfl (c.call f_variables_of (by decide) (by decide +kernel) rfl (by rfl) (by decide) (by rfl) (vc_d rfl (ve_var (v1_0 _)) vc_nil)) (vc_d rfl (ve_var (v1_2 _)) vc_nil))))) vss_nil)
/-! projection -/
def N_projection : List Str := ["graph", "tables", "some"]
theorem b_projection {X : Cx} (c : Cn X N_projection (defScope (top 34)).names (defScope (top 34)).names 6) (g : GF X.mg FREE INTS) (f_check_tables : FavX X 6 "check_tables" 2 [] s_check_tables) (f_is_part : FavX X 2 "is_part" 2 [] s_is_part) (f_variables_of : FavX X 2 "variables_of" 1 [] s_variables_of) (f_projected : FavX X 5 "projected" 3 [] s_projected) : VSs X [] (defBody (top 34)) d_projection := by
  have v1_0 := fun pos => c.var (i := 0) (x := ("graph" : Str)) (by decide +kernel) pos
  have v1_1 := fun pos => c.var (i := 1) (x := ("tables" : Str)) (by decide +kernel) pos
  have v1_2 := fun pos => c.var (i := 2) (x := ("some" : Str)) (by decide +kernel) pos
  exact (vss_cons (vs_drop rfl (c.call f_check_tables (by decide) (by decide +kernel) rfl (by rfl) (by decide) (by rfl) (vc_d rfl (ve_var (v1_0 _)) (vc_d rfl (ve_var (v1_1 _)) vc_nil)))) (vss_cons (vs_if (vt_not (vt_truth (fun _ => rfl) (.d (c.call f_is_part (by decide) (by decide +kernel) rfl (by rfl) (by decide) (by rfl) (vc_d rfl (ve_var (v1_2 _)) (vc_d rfl (c.call f_variables_of (by decide) (by decide +kernel) rfl (by rfl) (by decide) (by rfl) (vc_d rfl (ve_var (v1_0 _)) vc_nil)) vc_nil)))))) (vss_cons vs_never vss_nil) vss_nil) (vss_cons (vs_retK [0, 1, 2] (c.call f_projected (by decide) (by decide +kernel) rfl (by rfl) (by decide) (by rfl) (vc_d rfl (ve_var (v1_0 _)) (vc_d rfl (ve_var (v1_1 _)) (vc_d rfl (ve_var (v1_2 _)) vc_nil))))) vss_nil)))
/-! law -/
def N_law : List Str := ["_law_script", "_law_stream_here", "_law_graph_here", "_law_tables_here", "_law_nodes", "_law_first", "_law_node", "_law_second", "_law_both", "_law_one", "_law_rows_here", "_law_part", "_law_told", "_law_scope", "_law_some_here", "_law_variable", "_law_due", "_law_row", "_law_count", "_law_least", "_law_own", "_law_many", "_law_price"]
theorem b_law {X : Cx} (c : Cn X N_law (defScope (top 51)).names (defScope (top 51)).names 7) (g : GF X.mg FREE INTS) (f__law_stream : FavN X.prog X.w X.K X.mg X.base 1 "_law_stream" 1 s__law_stream) (f__law_graph : FavX X 3 "_law_graph" 2 [true] s__law_graph) (f__law_tree : FavX X 3 "_law_tree" 2 [true] s__law_tree) (f__law_next : FavX X 1 "_law_next" 2 [true] s__law_next) (f__law_tables : FavX X 2 "_law_tables" 2 [true] s__law_tables) (f__law_variables : FavX X 1 "_law_variables" 2 [] s__law_variables) (f_part_projection : FavX X 7 "part_projection" 4 [] s_part_projection) (f__law_left : FavX X 2 "_law_left" 3 [] s__law_left) (f__law_solutions : FavX X 3 "_law_solutions" 3 [] s__law_solutions) (f_projection : FavX X 7 "projection" 3 [] s_projection) : VSs X [] (defBody (top 51)) d_law := by
  have v1_0 := fun pos => c.var (i := 0) (x := ("_law_script" : Str)) (by decide +kernel) pos
  have v1_1 := fun pos => c.var (i := 1) (x := ("_law_stream_here" : Str)) (by decide +kernel) pos
  have v1_2 := fun pos => c.var (i := 2) (x := ("_law_graph_here" : Str)) (by decide +kernel) pos
  have v1_4 := fun pos => c.var (i := 4) (x := ("_law_nodes" : Str)) (by decide +kernel) pos
  have v1_5 := fun pos => c.var (i := 5) (x := ("_law_first" : Str)) (by decide +kernel) pos
  have v1_7 := fun pos => c.var (i := 7) (x := ("_law_second" : Str)) (by decide +kernel) pos
  have v1_3 := fun pos => c.var (i := 3) (x := ("_law_tables_here" : Str)) (by decide +kernel) pos
  have v1_11 := fun pos => c.var (i := 11) (x := ("_law_part" : Str)) (by decide +kernel) pos
  have v1_8 := fun pos => c.var (i := 8) (x := ("_law_both" : Str)) (by decide +kernel) pos
  have v1_12 := fun pos => c.var (i := 12) (x := ("_law_told" : Str)) (by decide +kernel) pos
  have v1_13 := fun pos => c.var (i := 13) (x := ("_law_scope" : Str)) (by decide +kernel) pos
  have v1_14 := fun pos => c.var (i := 14) (x := ("_law_some_here" : Str)) (by decide +kernel) pos
  have v1_10 := fun pos => c.var (i := 10) (x := ("_law_rows_here" : Str)) (by decide +kernel) pos
  have v1_16 := fun pos => c.var (i := 16) (x := ("_law_due" : Str)) (by decide +kernel) pos
  have b1_range := c.bi g (x := ("range" : Str)) (v := .type "range") (by decide +kernel)
  have b1_len := c.bi g (x := ("len" : Str)) (v := .builtin "len") (by decide +kernel)
  have b1_list := c.bi g (x := ("list" : Str)) (v := .type "list") (by decide +kernel)
  have b1_tuple := c.bi g (x := ("tuple" : Str)) (v := .type "tuple") (by decide +kernel)
  have t1_11 := fun pos => c.tgt (i := 11) (x := ("_law_part" : Str)) (by decide +kernel) pos
  have t1_19 := fun pos => c.tgt (i := 19) (x := ("_law_least" : Str)) (by decide +kernel) pos
  have t1_18 := fun pos => c.tgt (i := 18) (x := ("_law_count" : Str)) (by decide +kernel) pos
  have t1_17 := fun pos => c.tgt (i := 17) (x := ("_law_row" : Str)) (by decide +kernel) pos
  exact (vss_cons (c.ownF (by decide) (by decide +kernel) (c.callN f__law_stream (by decide) (by decide +kernel) rfl rfl (va_cons rfl (ve_var (v1_0 _)) va_nil)) rfl) (vss_cons (c.set (by decide) (by decide +kernel) (ve_sub c.hu1 (plainIx trivial) (ve_lst (by decide) (va_cons rfl (c.call f__law_graph (by decide) (by decide +kernel) rfl (by rfl) (by decide) (by rfl) (vc_b rfl (v1_1 _) (vc_d rfl pe_iv vc_nil))) (va_cons rfl (c.call f__law_tree (by decide) (by decide +kernel) rfl (by rfl) (by decide) (by rfl) (vc_b rfl (v1_1 _) (vc_d rfl pe_iv vc_nil))) va_nil))) (c.call f__law_next (by decide) (by decide +kernel) rfl (by rfl) (by decide) (by rfl) (vc_b rfl (v1_1 _) (vc_d rfl pe_iv vc_nil)))) rfl) (vss_cons (c.set (by decide) (by decide +kernel) (c.call f__law_tables (by decide) (by decide +kernel) rfl (by rfl) (by decide) (by rfl) (vc_b rfl (v1_1 _) (vc_d rfl (ve_var (v1_2 _)) vc_nil))) rfl) (vss_cons (c.set (by decide) (by decide +kernel) (vf_ve (b1_list.listRg c.calm rfl (b1_range.prg1 rfl (b1_len.app cr_lenF rfl (vab_d rfl (ve_sub c.hu1 (plainIx trivial) (ve_var (v1_2 _)) pe_iv) vab_nil))))) rfl) (vss_cons (vs_if (vt_cmp (op_ltF c.hu0) rfl (b1_len.app cr_lenF rfl (vab_d rfl (ve_var (v1_4 _)) vab_nil)) pe_iv) (vss_cons (vs_retK [0, 1, 2, 3, 4, 5, 6, 7, 8, 9, 10, 11, 12, 13, 14, 15, 16, 17, 18, 19, 20, 21, 22] pe_bv) vss_nil) vss_nil) (vss_cons (c.set (by decide) (by decide +kernel) (b1_tuple.appTy cr_tupleF rfl (vab_d rfl (vf_ve (c.vf (c.lc (own := [(("_law_node" : Str), 6)]) (vi_seq (ve_var (v1_4 _))) (by decide +kernel) rfl (by decide) (fun _ => rfl) (fun _ _ _ _ _ c2 => by (have v2_1 := fun pos => c2.var (i := 1) (x := ("_law_stream_here" : Str)) (by decide +kernel) pos; have v2_6 := fun pos => c2.var (i := 6) (x := ("_law_node" : Str)) (by decide +kernel) pos; have t2_6 := fun pos => c2.tgt (i := 6) (x := ("_law_node" : Str)) (by decide +kernel) pos; exact ⟨(t2_6 _), (vts_one (vt_cmp (op_eqF c2.hu64) rfl (c2.call f__law_next (by decide) (by decide +kernel) rfl (by rfl) (by decide) (by rfl) (vc_b rfl (v2_1 _) (vc_d rfl pe_iv vc_nil))) pe_iv)), (ve_var (v2_6 _))⟩))))) vab_nil)) rfl) (vss_cons (vs_if (vt_cmp (op_inF c.hu65) rfl (b1_len.app cr_lenF rfl (vab_d rfl (ve_var (v1_5 _)) vab_nil)) (ve_lst (by decide) (va_cons rfl pe_iv (va_cons rfl (b1_len.app cr_lenF rfl (vab_d rfl (ve_var (v1_4 _)) vab_nil)) va_nil)))) (vss_cons (c.set (by decide) (by decide +kernel) (ve_tup (by decide) (va_cons rfl (ve_bin op_subF (b1_len.app cr_lenF rfl (vab_d rfl (ve_var (v1_4 _)) vab_nil)) pe_iv) va_nil)) rfl) vss_nil) vss_nil) (vss_cons (c.set (by decide) (by decide +kernel) (b1_tuple.appTy cr_tupleF rfl (vab_d rfl (vf_ve (c.vf (c.lc (own := [(("_law_node" : Str), 6)]) (vi_seq (ve_var (v1_4 _))) (by decide +kernel) rfl (by decide) (fun _ => rfl) (fun _ _ _ _ _ c3 => by (have v3_6 := fun pos => c3.var (i := 6) (x := ("_law_node" : Str)) (by decide +kernel) pos; have v3_5 := fun pos => c3.var (i := 5) (x := ("_law_first" : Str)) (by decide +kernel) pos; have t3_6 := fun pos => c3.tgt (i := 6) (x := ("_law_node" : Str)) (by decide +kernel) pos; exact ⟨(t3_6 _), (vts_one (vt_cmp (op_notInF c3.hu65) rfl (ve_var (v3_6 _)) (ve_var (v3_5 _)))), (ve_var (v3_6 _))⟩))))) vab_nil)) rfl) (vss_cons (c.set (by decide) (by decide +kernel) (b1_tuple.appTy cr_tupleF rfl (vab_d rfl (vf_ve (c.vf (c.lc (own := [(("_law_one" : Str), 9)]) (vi_seq (c.call f__law_variables (by decide) (by decide +kernel) rfl (by rfl) (by decide) (by rfl) (vc_d rfl (ve_var (v1_2 _)) (vc_d rfl (ve_var (v1_5 _)) vc_nil)))) (by decide +kernel) rfl (by decide) (fun _ => rfl) (fun _ _ _ _ _ c4 => by (have v4_9 := fun pos => c4.var (i := 9) (x := ("_law_one" : Str)) (by decide +kernel) pos; have v4_2 := fun pos => c4.var (i := 2) (x := ("_law_graph_here" : Str)) (by decide +kernel) pos; have v4_7 := fun pos => c4.var (i := 7) (x := ("_law_second" : Str)) (by decide +kernel) pos; have t4_9 := fun pos => c4.tgt (i := 9) (x := ("_law_one" : Str)) (by decide +kernel) pos; exact ⟨(t4_9 _), (vts_one (vt_cmp (op_inF c4.hu65) rfl (ve_var (v4_9 _)) (c4.call f__law_variables (by decide) (by decide +kernel) rfl (by rfl) (by decide) (by rfl) (vc_d rfl (ve_var (v4_2 _)) (vc_d rfl (ve_var (v4_7 _)) vc_nil))))), (ve_var (v4_9 _))⟩))))) vab_nil)) rfl) (vss_cons (c.ownF (by decide) (by decide +kernel) (vf_lst (by decide) va_nil) rfl) (vss_cons (vs_for c.xe c.calm (refs_tgt (by decide)) (vi_seq (ve_lst (by decide) (va_cons rfl (ve_var (v1_5 _)) (va_cons rfl (ve_var (v1_7 _)) va_nil)))) (t1_11 _) (vss_post [11, 12, 13, 14] (vss_cons (c.set (by decide) (by decide +kernel) (c.call f_part_projection (by decide) (by decide +kernel) rfl (by rfl) (by decide) (by rfl) (vc_d rfl (ve_var (v1_2 _)) (vc_d rfl (ve_var (v1_3 _)) (vc_d rfl (ve_var (v1_11 _)) (vc_d rfl (ve_var (v1_8 _)) vc_nil))))) rfl) (vss_cons (c.set (by decide) (by decide +kernel) (c.call f__law_variables (by decide) (by decide +kernel) rfl (by rfl) (by decide) (by rfl) (vc_d rfl (ve_var (v1_2 _)) (vc_d rfl (ve_var (v1_11 _)) vc_nil))) rfl) (vss_cons (vs_if (vt_cmp (op_neF c.hu64) rfl (ve_var (v1_12 _)) (c.call f__law_left (by decide) (by decide +kernel) rfl (by rfl) (by decide) (by rfl) (vc_d rfl (c.call f__law_solutions (by decide) (by decide +kernel) rfl (by rfl) (by decide) (by rfl) (vc_d rfl (ve_var (v1_2 _)) (vc_d rfl (ve_var (v1_3 _)) (vc_d rfl (ve_var (v1_11 _)) vc_nil)))) (vc_d rfl (ve_var (v1_13 _)) (vc_d rfl (ve_var (v1_8 _)) vc_nil))))) (vss_cons (vs_retK [0, 1, 2, 3, 4, 5, 6, 7, 8, 9, 10, 11, 12, 13, 14, 15, 16, 17, 18, 19, 20, 21, 22] pe_bv) vss_nil) vss_nil) (vss_cons (c.set (by decide) (by decide +kernel) (b1_tuple.appTy cr_tupleF rfl (vab_d rfl (vf_ve (c.vf (c.lc (own := [(("_law_variable" : Str), 15)]) (vi_seq (ve_var (v1_13 _))) (by decide +kernel) rfl (by decide) (fun _ => rfl) (fun _ _ _ _ _ c5 => by (have v5_1 := fun pos => c5.var (i := 1) (x := ("_law_stream_here" : Str)) (by decide +kernel) pos; have v5_15 := fun pos => c5.var (i := 15) (x := ("_law_variable" : Str)) (by decide +kernel) pos; have t5_15 := fun pos => c5.tgt (i := 15) (x := ("_law_variable" : Str)) (by decide +kernel) pos; exact ⟨(t5_15 _), (vts_one (vt_cmp (op_eqF c5.hu64) rfl (c5.call f__law_next (by decide) (by decide +kernel) rfl (by rfl) (by decide) (by rfl) (vc_b rfl (v5_1 _) (vc_d rfl pe_iv vc_nil))) pe_iv)), (ve_var (v5_15 _))⟩))))) vab_nil)) rfl) (vss_cons (vs_if (vt_cmp (op_neF c.hu64) rfl (c.call f_part_projection (by decide) (by decide +kernel) rfl (by rfl) (by decide) (by rfl) (vc_d rfl (ve_var (v1_2 _)) (vc_d rfl (ve_var (v1_3 _)) (vc_d rfl (ve_var (v1_11 _)) (vc_d rfl (ve_var (v1_14 _)) vc_nil))))) (c.call f__law_left (by decide) (by decide +kernel) rfl (by rfl) (by decide) (by rfl) (vc_d rfl (c.call f__law_solutions (by decide) (by decide +kernel) rfl (by rfl) (by decide) (by rfl) (vc_d rfl (ve_var (v1_2 _)) (vc_d rfl (ve_var (v1_3 _)) (vc_d rfl (ve_var (v1_11 _)) vc_nil)))) (vc_d rfl (ve_var (v1_13 _)) (vc_d rfl (ve_var (v1_14 _)) vc_nil))))) (vss_cons (vs_retK [0, 1, 2, 3, 4, 5, 6, 7, 8, 9, 10, 11, 12, 13, 14, 15, 16, 17, 18, 19, 20, 21, 22] pe_bv) vss_nil) vss_nil) (vss_cons (vs_drop rfl (ve_mut mm_append (mcall rfl rfl (by decide) (by decide +kernel)) (v1_10 _) (va_cons rfl (ve_var (v1_12 _)) va_nil))) vss_nil))))))) (fun _ => rfl)) (vss_cons (c.set (by decide) (by decide +kernel) (ve_lst (by decide) va_nil) rfl) (vss_cons (vs_for c.xe c.calm (refs_tgt (by decide)) (vi_seq (ve_subL c.hu1 (plainIx trivial) (v1_10 _) pe_iv)) (vg_tp c.calm rfl rfl (vgs_cons rfl (t1_17 _) (vgs_cons rfl (t1_18 _) (vgs_cons rfl (t1_19 _) vgs_nil)))) (vss_post [17, 18, 19] (vss_cons (c.set (by decide) (by decide +kernel) (ve_bin op_addF (ve_var (v1_16 _)) (vf_ve (c.vf (c.lc (own := [(("_law_own" : Str), 20), (("_law_many" : Str), 21), (("_law_price" : Str), 22)]) (vi_seq (ve_subL c.hu1 (plainIx trivial) (v1_10 _) pe_iv)) (by decide +kernel) rfl (by decide) (fun _ => rfl) (fun _ _ _ _ _ c6 => by (have v6_20 := fun pos => c6.var (i := 20) (x := ("_law_own" : Str)) (by decide +kernel) pos; have v6_17 := fun pos => c6.var (i := 17) (x := ("_law_row" : Str)) (by decide +kernel) pos; have v6_18 := fun pos => c6.var (i := 18) (x := ("_law_count" : Str)) (by decide +kernel) pos; have v6_21 := fun pos => c6.var (i := 21) (x := ("_law_many" : Str)) (by decide +kernel) pos; have v6_19 := fun pos => c6.var (i := 19) (x := ("_law_least" : Str)) (by decide +kernel) pos; have v6_22 := fun pos => c6.var (i := 22) (x := ("_law_price" : Str)) (by decide +kernel) pos; have t6_22 := fun pos => c6.tgt (i := 22) (x := ("_law_price" : Str)) (by decide +kernel) pos; have t6_21 := fun pos => c6.tgt (i := 21) (x := ("_law_many" : Str)) (by decide +kernel) pos; have t6_20 := fun pos => c6.tgt (i := 20) (x := ("_law_own" : Str)) (by decide +kernel) pos; exact ⟨(vg_tp c6.calm rfl rfl (vgs_cons rfl (t6_20 _) (vgs_cons rfl (t6_21 _) (vgs_cons rfl (t6_22 _) vgs_nil)))), (vts_one (vt_cmp (op_eqF c6.hu64) rfl (ve_var (v6_20 _)) (ve_var (v6_17 _)))), (ve_tup (by decide) (va_cons rfl (ve_var (v6_17 _)) (va_cons rfl (ve_bin op_mulF (ve_var (v6_18 _)) (ve_var (v6_21 _))) (va_cons rfl (ve_bin op_addF (ve_var (v6_19 _)) (ve_var (v6_22 _))) va_nil))))⟩)))))) rfl) vss_nil)) (fun _ => rfl)) (vss_cons (vs_retK [0, 1, 2, 3, 4, 5, 6, 7, 8, 9, 10, 11, 12, 13, 14, 15, 16, 17, 18, 19, 20, 21, 22] (ve_cmp (op_eqF c.hu64) rfl (c.call f_projection (by decide) (by decide +kernel) rfl (by rfl) (by decide) (by rfl) (vc_d rfl (ve_var (v1_2 _)) (vc_d rfl (ve_var (v1_3 _)) (vc_d rfl (ve_var (v1_8 _)) vc_nil)))) (b1_tuple.appTy cr_tupleF rfl (vab_d rfl (ve_var (v1_16 _)) vab_nil)))) vss_nil))))))))))))))
section
variable {P : Program} {w : World} {K : PySem.W.Frag} {mg : Str → Option Value} {base : Heap}
theorem sc__law_stream : FnScope N__law_stream ["_law_script"] (defScope (top 38)) := ⟨by decide +kernel, by decide +kernel, by decide +kernel, by decide +kernel, by decide +kernel, by decide +kernel, by decide +kernel⟩
def r__law_stream : Pos := match defBody (top 38) with | [.Return _ p] => p | _ => ⟨0, 0, 0, 0⟩
theorem a__law_stream {f : Addr} {fd : FuncData} (Fn : FunD K "_law_stream" "_law_stream" (defArgs (top 38)) [.Return (some e__law_stream) r__law_stream] (defScope (top 38)) [] [] f fd) (hm : mg "_law_stream" = some (.ref f)) (g : GF mg FREE INTS) :
    FavN P w K mg base 1 "_law_stream" 1 s__law_stream := favN_of (ps := ["_law_script"]) Fn hm sc__law_stream rfl (fun _ _ _ _ _ _ us hl => match us, hl with | [_], _ => rfl) fun _ _ _ _ _ _ c => b__law_stream c g
theorem sc__law_next : FnScope N__law_next ["_law_stream_here", "_law_many"] (defScope (top 39)) := ⟨by decide +kernel, by decide +kernel, by decide +kernel, by decide +kernel, by decide +kernel, by decide +kernel, by decide +kernel⟩
theorem a__law_next {f : Addr} {fd : FuncData} (Fn : FunD K "_law_next" "_law_next" (defArgs (top 39)) (defBody (top 39)) (defScope (top 39)) [] [] f fd) (hm : mg "_law_next" = some (.ref f)) (g : GF mg FREE INTS) :
    Fav P w K mg base 1 "_law_next" 2 [true] s__law_next := fav_of (ps := ["_law_stream_here", "_law_many"]) (refs := [0]) Fn hm sc__law_next rfl (by decide) (fun _ _ _ _ _ _ us hl => match us, hl with | [_, _], _ => rfl) fun _ _ _ _ _ _ c => b__law_next c g
theorem sc__law_some : FnScope N__law_some ["_law_stream_here", "_law_most", "_law_high"] (defScope (top 41)) := ⟨by decide +kernel, by decide +kernel, by decide +kernel, by decide +kernel, by decide +kernel, by decide +kernel, by decide +kernel⟩
theorem a__law_some {f : Addr} {fd : FuncData} (Fn : FunD K "_law_some" "_law_some" (defArgs (top 41)) (defBody (top 41)) (defScope (top 41)) [] [] f fd) (hm : mg "_law_some" = some (.ref f)) (g : GF mg FREE INTS) (f__law_next : Fav P w K mg base 1 "_law_next" 2 [true] s__law_next) :
    Fav P w K mg base 2 "_law_some" 3 [true] s__law_some := fav_of (ps := ["_law_stream_here", "_law_most", "_law_high"]) (refs := [0]) Fn hm sc__law_some rfl (by decide) (fun _ _ _ _ _ _ us hl => match us, hl with | [_, _, _], _ => rfl) fun _ _ _ _ _ _ c => b__law_some c g f__law_next
theorem sc__law_graph : FnScope N__law_graph ["_law_stream_here", "_law_nodes"] (defScope (top 42)) := ⟨by decide +kernel, by decide +kernel, by decide +kernel, by decide +kernel, by decide +kernel, by decide +kernel, by decide +kernel⟩
theorem a__law_graph {f : Addr} {fd : FuncData} (Fn : FunD K "_law_graph" "_law_graph" (defArgs (top 42)) (defBody (top 42)) (defScope (top 42)) [] [] f fd) (hm : mg "_law_graph" = some (.ref f)) (g : GF mg FREE INTS) (f__law_next : Fav P w K mg base 1 "_law_next" 2 [true] s__law_next) (f__law_some : Fav P w K mg base 2 "_law_some" 3 [true] s__law_some) :
    Fav P w K mg base 3 "_law_graph" 2 [true] s__law_graph := fav_of (ps := ["_law_stream_here", "_law_nodes"]) (refs := [0]) Fn hm sc__law_graph rfl (by decide) (fun _ _ _ _ _ _ us hl => match us, hl with | [_, _], _ => rfl) fun _ _ _ _ _ _ c => b__law_graph c g f__law_next f__law_some
theorem sc__law_tree : FnScope N__law_tree ["_law_stream_here", "_law_nodes"] (defScope (top 43)) := ⟨by decide +kernel, by decide +kernel, by decide +kernel, by decide +kernel, by decide +kernel, by decide +kernel, by decide +kernel⟩
theorem a__law_tree {f : Addr} {fd : FuncData} (Fn : FunD K "_law_tree" "_law_tree" (defArgs (top 43)) (defBody (top 43)) (defScope (top 43)) [] [] f fd) (hm : mg "_law_tree" = some (.ref f)) (g : GF mg FREE INTS) (f__law_next : Fav P w K mg base 1 "_law_next" 2 [true] s__law_next) (f__law_some : Fav P w K mg base 2 "_law_some" 3 [true] s__law_some) :
    Fav P w K mg base 3 "_law_tree" 2 [true] s__law_tree := fav_of (ps := ["_law_stream_here", "_law_nodes"]) (refs := [0]) Fn hm sc__law_tree rfl (by decide) (fun _ _ _ _ _ _ us hl => match us, hl with | [_, _], _ => rfl) fun _ _ _ _ _ _ c => b__law_tree c g f__law_next f__law_some
theorem sc__law_rows : FnScope N__law_rows ["_law_values", "_law_many"] (defScope (top 44)) := ⟨by decide +kernel, by decide +kernel, by decide +kernel, by decide +kernel, by decide +kernel, by decide +kernel, by decide +kernel⟩
theorem a__law_rows {f : Addr} {fd : FuncData} (Fn : FunD K "_law_rows" "_law_rows" (defArgs (top 44)) (defBody (top 44)) (defScope (top 44)) [] [] f fd) (hm : mg "_law_rows" = some (.ref f)) (g : GF mg FREE INTS) :
    Fav P w K mg base 1 "_law_rows" 2 [] s__law_rows := fav_of (ps := ["_law_values", "_law_many"]) (refs := []) Fn hm sc__law_rows rfl (by decide) (fun _ _ _ _ _ _ us hl => match us, hl with | [_, _], _ => rfl) fun _ _ _ _ _ _ c => b__law_rows c g
theorem sc__law_tables : FnScope N__law_tables ["_law_stream_here", "_law_graph_here"] (defScope (top 45)) := ⟨by decide +kernel, by decide +kernel, by decide +kernel, by decide +kernel, by decide +kernel, by decide +kernel, by decide +kernel⟩
theorem a__law_tables {f : Addr} {fd : FuncData} (Fn : FunD K "_law_tables" "_law_tables" (defArgs (top 45)) (defBody (top 45)) (defScope (top 45)) [] [] f fd) (hm : mg "_law_tables" = some (.ref f)) (g : GF mg FREE INTS) (f__law_rows : Fav P w K mg base 1 "_law_rows" 2 [] s__law_rows) (f__law_next : Fav P w K mg base 1 "_law_next" 2 [true] s__law_next) :
    Fav P w K mg base 2 "_law_tables" 2 [true] s__law_tables := fav_of (ps := ["_law_stream_here", "_law_graph_here"]) (refs := [0]) Fn hm sc__law_tables rfl (by decide) (fun _ _ _ _ _ _ us hl => match us, hl with | [_, _], _ => rfl) fun _ _ _ _ _ _ c => b__law_tables c g f__law_rows f__law_next
theorem sc__law_variables : FnScope N__law_variables ["_law_graph_here", "_law_nodes"] (defScope (top 46)) := ⟨by decide +kernel, by decide +kernel, by decide +kernel, by decide +kernel, by decide +kernel, by decide +kernel, by decide +kernel⟩
theorem a__law_variables {f : Addr} {fd : FuncData} (Fn : FunD K "_law_variables" "_law_variables" (defArgs (top 46)) (defBody (top 46)) (defScope (top 46)) [] [] f fd) (hm : mg "_law_variables" = some (.ref f)) (g : GF mg FREE INTS) :
    Fav P w K mg base 1 "_law_variables" 2 [] s__law_variables := fav_of (ps := ["_law_graph_here", "_law_nodes"]) (refs := []) Fn hm sc__law_variables rfl (by decide) (fun _ _ _ _ _ _ us hl => match us, hl with | [_, _], _ => rfl) fun _ _ _ _ _ _ c => b__law_variables c g
theorem sc_is_number : FnScope N_is_number ["value", "low", "high"] (defScope (top 18)) := ⟨by decide +kernel, by decide +kernel, by decide +kernel, by decide +kernel, by decide +kernel, by decide +kernel, by decide +kernel⟩
theorem a_is_number {f : Addr} {fd : FuncData} (Fn : FunD K "is_number" "is_number" (defArgs (top 18)) (defBody (top 18)) (defScope (top 18)) [] [] f fd) (hm : mg "is_number" = some (.ref f)) (g : GF mg FREE INTS) :
    Fav P w K mg base 1 "is_number" 3 [] s_is_number := fav_of (ps := ["value", "low", "high"]) (refs := []) Fn hm sc_is_number rfl (by decide) (fun _ _ _ _ _ _ us hl => match us, hl with | [_, _, _], _ => rfl) fun _ _ _ _ _ _ c => b_is_number c g
theorem sc_is_whole : FnScope N_is_whole ["value", "low", "high"] (defScope (top 7)) := ⟨by decide +kernel, by decide +kernel, by decide +kernel, by decide +kernel, by decide +kernel, by decide +kernel, by decide +kernel⟩
theorem a_is_whole {f : Addr} {fd : FuncData} (Fn : FunD K "is_whole" "is_whole" (defArgs (top 7)) (defBody (top 7)) (defScope (top 7)) [] [] f fd) (hm : mg "is_whole" = some (.ref f)) (g : GF mg FREE INTS) :
    Fav P w K mg base 1 "is_whole" 3 [] s_is_whole := fav_of (ps := ["value", "low", "high"]) (refs := []) Fn hm sc_is_whole rfl (by decide) (fun _ _ _ _ _ _ us hl => match us, hl with | [_, _, _], _ => rfl) fun _ _ _ _ _ _ c => b_is_whole c g
theorem sc_is_climbing : FnScope N_is_climbing ["value"] (defScope (top 8)) := ⟨by decide +kernel, by decide +kernel, by decide +kernel, by decide +kernel, by decide +kernel, by decide +kernel, by decide +kernel⟩
theorem a_is_climbing {f : Addr} {fd : FuncData} (Fn : FunD K "is_climbing" "is_climbing" (defArgs (top 8)) (defBody (top 8)) (defScope (top 8)) [] [] f fd) (hm : mg "is_climbing" = some (.ref f)) (g : GF mg FREE INTS) :
    Fav P w K mg base 1 "is_climbing" 1 [] s_is_climbing := fav_of (ps := ["value"]) (refs := []) Fn hm sc_is_climbing rfl (by decide) (fun _ _ _ _ _ _ us hl => match us, hl with | [_], _ => rfl) fun _ _ _ _ _ _ c => b_is_climbing c g
theorem sc_are_variables : FnScope N_are_variables ["value"] (defScope (top 9)) := ⟨by decide +kernel, by decide +kernel, by decide +kernel, by decide +kernel, by decide +kernel, by decide +kernel, by decide +kernel⟩
theorem a_are_variables {f : Addr} {fd : FuncData} (Fn : FunD K "are_variables" "are_variables" (defArgs (top 9)) (defBody (top 9)) (defScope (top 9)) [] [] f fd) (hm : mg "are_variables" = some (.ref f)) (g : GF mg FREE INTS) (f_is_whole : Fav P w K mg base 1 "is_whole" 3 [] s_is_whole) (f_is_climbing : Fav P w K mg base 1 "is_climbing" 1 [] s_is_climbing) :
    Fav P w K mg base 2 "are_variables" 1 [] s_are_variables := fav_of (ps := ["value"]) (refs := []) Fn hm sc_are_variables rfl (by decide) (fun _ _ _ _ _ _ us hl => match us, hl with | [_], _ => rfl) fun _ _ _ _ _ _ c => b_are_variables c g f_is_whole f_is_climbing
theorem sc_is_scope : FnScope N_is_scope ["value"] (defScope (top 10)) := ⟨by decide +kernel, by decide +kernel, by decide +kernel, by decide +kernel, by decide +kernel, by decide +kernel, by decide +kernel⟩
theorem a_is_scope {f : Addr} {fd : FuncData} (Fn : FunD K "is_scope" "is_scope" (defArgs (top 10)) (defBody (top 10)) (defScope (top 10)) [] [] f fd) (hm : mg "is_scope" = some (.ref f)) (g : GF mg FREE INTS) (f_are_variables : Fav P w K mg base 2 "are_variables" 1 [] s_are_variables) :
    Fav P w K mg base 3 "is_scope" 1 [] s_is_scope := fav_of (ps := ["value"]) (refs := []) Fn hm sc_is_scope rfl (by decide) (fun _ _ _ _ _ _ us hl => match us, hl with | [_], _ => rfl) fun _ _ _ _ _ _ c => b_is_scope c g f_are_variables
theorem sc_is_edge : FnScope N_is_edge ["value", "many"] (defScope (top 19)) := ⟨by decide +kernel, by decide +kernel, by decide +kernel, by decide +kernel, by decide +kernel, by decide +kernel, by decide +kernel⟩
theorem a_is_edge {f : Addr} {fd : FuncData} (Fn : FunD K "is_edge" "is_edge" (defArgs (top 19)) (defBody (top 19)) (defScope (top 19)) [] [] f fd) (hm : mg "is_edge" = some (.ref f)) (g : GF mg FREE INTS) (f_is_number : Fav P w K mg base 1 "is_number" 3 [] s_is_number) :
    Fav P w K mg base 2 "is_edge" 2 [] s_is_edge := fav_of (ps := ["value", "many"]) (refs := []) Fn hm sc_is_edge rfl (by decide) (fun _ _ _ _ _ _ us hl => match us, hl with | [_, _], _ => rfl) fun _ _ _ _ _ _ c => b_is_edge c g f_is_number
theorem sc_is_graph : FnScope N_is_graph ["value"] (defScope (top 20)) := ⟨by decide +kernel, by decide +kernel, by decide +kernel, by decide +kernel, by decide +kernel, by decide +kernel, by decide +kernel⟩
theorem a_is_graph {f : Addr} {fd : FuncData} (Fn : FunD K "is_graph" "is_graph" (defArgs (top 20)) (defBody (top 20)) (defScope (top 20)) [] [] f fd) (hm : mg "is_graph" = some (.ref f)) (g : GF mg FREE INTS) (f_is_number : Fav P w K mg base 1 "is_number" 3 [] s_is_number) (f_is_scope : Fav P w K mg base 3 "is_scope" 1 [] s_is_scope) (f_is_edge : Fav P w K mg base 2 "is_edge" 2 [] s_is_edge) :
    Fav P w K mg base 4 "is_graph" 1 [] s_is_graph := fav_of (ps := ["value"]) (refs := []) Fn hm sc_is_graph rfl (by decide) (fun _ _ _ _ _ _ us hl => match us, hl with | [_], _ => rfl) fun _ _ _ _ _ _ c => b_is_graph c g f_is_number f_is_scope f_is_edge
theorem sc_check_graph : FnScope N_check_graph ["graph"] (defScope (top 24)) := ⟨by decide +kernel, by decide +kernel, by decide +kernel, by decide +kernel, by decide +kernel, by decide +kernel, by decide +kernel⟩
theorem a_check_graph {f : Addr} {fd : FuncData} (Fn : FunD K "check_graph" "check_graph" (defArgs (top 24)) (defBody (top 24)) (defScope (top 24)) [] [] f fd) (hm : mg "check_graph" = some (.ref f)) (g : GF mg FREE INTS) (f_is_graph : Fav P w K mg base 4 "is_graph" 1 [] s_is_graph) :
    Fav P w K mg base 5 "check_graph" 1 [] s_check_graph := fav_of (ps := ["graph"]) (refs := []) Fn hm sc_check_graph rfl (by decide) (fun _ _ _ _ _ _ us hl => match us, hl with | [_], _ => rfl) fun _ _ _ _ _ _ c => b_check_graph c g f_is_graph
theorem sc_is_row : FnScope N_is_row ["values", "some", "value"] (defScope (top 11)) := ⟨by decide +kernel, by decide +kernel, by decide +kernel, by decide +kernel, by decide +kernel, by decide +kernel, by decide +kernel⟩
theorem a_is_row {f : Addr} {fd : FuncData} (Fn : FunD K "is_row" "is_row" (defArgs (top 11)) (defBody (top 11)) (defScope (top 11)) [] [] f fd) (hm : mg "is_row" = some (.ref f)) (g : GF mg FREE INTS) (f_is_whole : Fav P w K mg base 1 "is_whole" 3 [] s_is_whole) :
    Fav P w K mg base 2 "is_row" 3 [] s_is_row := fav_of (ps := ["values", "some", "value"]) (refs := []) Fn hm sc_is_row rfl (by decide) (fun _ _ _ _ _ _ us hl => match us, hl with | [_, _, _], _ => rfl) fun _ _ _ _ _ _ c => b_is_row c g f_is_whole
theorem sc_is_table : FnScope N_is_table ["values", "scope", "value"] (defScope (top 12)) := ⟨by decide +kernel, by decide +kernel, by decide +kernel, by decide +kernel, by decide +kernel, by decide +kernel, by decide +kernel⟩
theorem a_is_table {f : Addr} {fd : FuncData} (Fn : FunD K "is_table" "is_table" (defArgs (top 12)) (defBody (top 12)) (defScope (top 12)) [] [] f fd) (hm : mg "is_table" = some (.ref f)) (g : GF mg FREE INTS) (f_is_row : Fav P w K mg base 2 "is_row" 3 [] s_is_row) (f_is_whole : Fav P w K mg base 1 "is_whole" 3 [] s_is_whole) (f_is_climbing : Fav P w K mg base 1 "is_climbing" 1 [] s_is_climbing) :
    Fav P w K mg base 3 "is_table" 3 [] s_is_table := fav_of (ps := ["values", "scope", "value"]) (refs := []) Fn hm sc_is_table rfl (by decide) (fun _ _ _ _ _ _ us hl => match us, hl with | [_, _, _], _ => rfl) fun _ _ _ _ _ _ c => b_is_table c g f_is_row f_is_whole f_is_climbing
theorem sc_are_tables : FnScope N_are_tables ["graph", "value"] (defScope (top 21)) := ⟨by decide +kernel, by decide +kernel, by decide +kernel, by decide +kernel, by decide +kernel, by decide +kernel, by decide +kernel⟩
theorem a_are_tables {f : Addr} {fd : FuncData} (Fn : FunD K "are_tables" "are_tables" (defArgs (top 21)) (defBody (top 21)) (defScope (top 21)) [] [] f fd) (hm : mg "are_tables" = some (.ref f)) (g : GF mg FREE INTS) (f_is_table : Fav P w K mg base 3 "is_table" 3 [] s_is_table) :
    Fav P w K mg base 4 "are_tables" 2 [] s_are_tables := fav_of (ps := ["graph", "value"]) (refs := []) Fn hm sc_are_tables rfl (by decide) (fun _ _ _ _ _ _ us hl => match us, hl with | [_, _], _ => rfl) fun _ _ _ _ _ _ c => b_are_tables c g f_is_table
theorem sc_check_tables : FnScope N_check_tables ["graph", "tables"] (defScope (top 25)) := ⟨by decide +kernel, by decide +kernel, by decide +kernel, by decide +kernel, by decide +kernel, by decide +kernel, by decide +kernel⟩
theorem a_check_tables {f : Addr} {fd : FuncData} (Fn : FunD K "check_tables" "check_tables" (defArgs (top 25)) (defBody (top 25)) (defScope (top 25)) [] [] f fd) (hm : mg "check_tables" = some (.ref f)) (g : GF mg FREE INTS) (f_check_graph : Fav P w K mg base 5 "check_graph" 1 [] s_check_graph) (f_are_tables : Fav P w K mg base 4 "are_tables" 2 [] s_are_tables) :
    Fav P w K mg base 6 "check_tables" 2 [] s_check_tables := fav_of (ps := ["graph", "tables"]) (refs := []) Fn hm sc_check_tables rfl (by decide) (fun _ _ _ _ _ _ us hl => match us, hl with | [_, _], _ => rfl) fun _ _ _ _ _ _ c => b_check_tables c g f_check_graph f_are_tables
theorem sc_are_nodes : FnScope N_are_nodes ["graph", "value"] (defScope (top 35)) := ⟨by decide +kernel, by decide +kernel, by decide +kernel, by decide +kernel, by decide +kernel, by decide +kernel, by decide +kernel⟩
theorem a_are_nodes {f : Addr} {fd : FuncData} (Fn : FunD K "are_nodes" "are_nodes" (defArgs (top 35)) (defBody (top 35)) (defScope (top 35)) [] [] f fd) (hm : mg "are_nodes" = some (.ref f)) (g : GF mg FREE INTS) (f_is_number : Fav P w K mg base 1 "is_number" 3 [] s_is_number) :
    Fav P w K mg base 2 "are_nodes" 2 [] s_are_nodes := fav_of (ps := ["graph", "value"]) (refs := []) Fn hm sc_are_nodes rfl (by decide) (fun _ _ _ _ _ _ us hl => match us, hl with | [_, _], _ => rfl) fun _ _ _ _ _ _ c => b_are_nodes c g f_is_number
theorem sc_scope_of : FnScope N_scope_of ["graph", "nodes"] (defScope (top 23)) := ⟨by decide +kernel, by decide +kernel, by decide +kernel, by decide +kernel, by decide +kernel, by decide +kernel, by decide +kernel⟩
theorem a_scope_of {f : Addr} {fd : FuncData} (Fn : FunD K "scope_of" "scope_of" (defArgs (top 23)) (defBody (top 23)) (defScope (top 23)) [] [] f fd) (hm : mg "scope_of" = some (.ref f)) (g : GF mg FREE INTS) :
    Fav P w K mg base 1 "scope_of" 2 [] s_scope_of := fav_of (ps := ["graph", "nodes"]) (refs := []) Fn hm sc_scope_of rfl (by decide) (fun _ _ _ _ _ _ us hl => match us, hl with | [_, _], _ => rfl) fun _ _ _ _ _ _ c => b_scope_of c g
theorem sc_is_part : FnScope N_is_part ["value", "scope"] (defScope (top 33)) := ⟨by decide +kernel, by decide +kernel, by decide +kernel, by decide +kernel, by decide +kernel, by decide +kernel, by decide +kernel⟩
theorem a_is_part {f : Addr} {fd : FuncData} (Fn : FunD K "is_part" "is_part" (defArgs (top 33)) (defBody (top 33)) (defScope (top 33)) [] [] f fd) (hm : mg "is_part" = some (.ref f)) (g : GF mg FREE INTS) (f_is_number : Fav P w K mg base 1 "is_number" 3 [] s_is_number) :
    Fav P w K mg base 2 "is_part" 2 [] s_is_part := fav_of (ps := ["value", "scope"]) (refs := []) Fn hm sc_is_part rfl (by decide) (fun _ _ _ _ _ _ us hl => match us, hl with | [_, _], _ => rfl) fun _ _ _ _ _ _ c => b_is_part c g f_is_number
theorem sc_gathered : FnScope N_gathered ["items"] (defScope (top 15)) := ⟨by decide +kernel, by decide +kernel, by decide +kernel, by decide +kernel, by decide +kernel, by decide +kernel, by decide +kernel⟩
theorem a_gathered {f : Addr} {fd : FuncData} (Fn : FunD K "gathered" "gathered" (defArgs (top 15)) (defBody (top 15)) (defScope (top 15)) [] [] f fd) (hm : mg "gathered" = some (.ref f)) (g : GF mg FREE INTS) :
    Fav P w K mg base 1 "gathered" 1 [] s_gathered := fav_of (ps := ["items"]) (refs := []) Fn hm sc_gathered rfl (by decide) (fun _ _ _ _ _ _ us hl => match us, hl with | [_], _ => rfl) fun _ _ _ _ _ _ c => b_gathered c g
theorem sc_cut_to : FnScope N_cut_to ["row", "some", "kept"] (defScope (top 14)) := ⟨by decide +kernel, by decide +kernel, by decide +kernel, by decide +kernel, by decide +kernel, by decide +kernel, by decide +kernel⟩
theorem a_cut_to {f : Addr} {fd : FuncData} (Fn : FunD K "cut_to" "cut_to" (defArgs (top 14)) (defBody (top 14)) (defScope (top 14)) [] [] f fd) (hm : mg "cut_to" = some (.ref f)) (g : GF mg FREE INTS) :
    Fav P w K mg base 1 "cut_to" 3 [] s_cut_to := fav_of (ps := ["row", "some", "kept"]) (refs := []) Fn hm sc_cut_to rfl (by decide) (fun _ _ _ _ _ _ us hl => match us, hl with | [_, _, _], _ => rfl) fun _ _ _ _ _ _ c => b_cut_to c g
theorem sc_cut_down : FnScope N_cut_down ["found", "scope", "some"] (defScope (top 31)) := ⟨by decide +kernel, by decide +kernel, by decide +kernel, by decide +kernel, by decide +kernel, by decide +kernel, by decide +kernel⟩
theorem a_cut_down {f : Addr} {fd : FuncData} (Fn : FunD K "cut_down" "cut_down" (defArgs (top 31)) (defBody (top 31)) (defScope (top 31)) [] [] f fd) (hm : mg "cut_down" = some (.ref f)) (g : GF mg FREE INTS) (f_gathered : Fav P w K mg base 1 "gathered" 1 [] s_gathered) (f_cut_to : Fav P w K mg base 1 "cut_to" 3 [] s_cut_to) :
    Fav P w K mg base 2 "cut_down" 3 [] s_cut_down := fav_of (ps := ["found", "scope", "some"]) (refs := []) Fn hm sc_cut_down rfl (by decide) (fun _ _ _ _ _ _ us hl => match us, hl with | [_, _, _], _ => rfl) fun _ _ _ _ _ _ c => b_cut_down c g f_gathered f_cut_to
theorem sc_rows_of : FnScope N_rows_of ["values", "many"] (defScope (top 13)) := ⟨by decide +kernel, by decide +kernel, by decide +kernel, by decide +kernel, by decide +kernel, by decide +kernel, by decide +kernel⟩
theorem a_rows_of {f : Addr} {fd : FuncData} (Fn : FunD K "rows_of" "rows_of" (defArgs (top 13)) (defBody (top 13)) (defScope (top 13)) [] [] f fd) (hm : mg "rows_of" = some (.ref f)) (g : GF mg FREE INTS) :
    Fav P w K mg base 1 "rows_of" 2 [] s_rows_of := fav_of (ps := ["values", "many"]) (refs := []) Fn hm sc_rows_of rfl (by decide) (fun _ _ _ _ _ _ us hl => match us, hl with | [_, _], _ => rfl) fun _ _ _ _ _ _ c => b_rows_of c g
theorem sc_first_rejecting : FnScope N_first_rejecting ["graph", "tables", "nodes", "row"] (defScope (top 26)) := ⟨by decide +kernel, by decide +kernel, by decide +kernel, by decide +kernel, by decide +kernel, by decide +kernel, by decide +kernel⟩
theorem a_first_rejecting {f : Addr} {fd : FuncData} (Fn : FunD K "first_rejecting" "first_rejecting" (defArgs (top 26)) (defBody (top 26)) (defScope (top 26)) [] [] f fd) (hm : mg "first_rejecting" = some (.ref f)) (g : GF mg FREE INTS) (f_scope_of : Fav P w K mg base 1 "scope_of" 2 [] s_scope_of) (f_cut_to : Fav P w K mg base 1 "cut_to" 3 [] s_cut_to) :
    Fav P w K mg base 2 "first_rejecting" 4 [] s_first_rejecting := fav_of (ps := ["graph", "tables", "nodes", "row"]) (refs := []) Fn hm sc_first_rejecting rfl (by decide) (fun _ _ _ _ _ _ us hl => match us, hl with | [_, _, _, _], _ => rfl) fun _ _ _ _ _ _ c => b_first_rejecting c g f_scope_of f_cut_to
theorem sc_price_of : FnScope N_price_of ["graph", "tables", "nodes", "row"] (defScope (top 27)) := ⟨by decide +kernel, by decide +kernel, by decide +kernel, by decide +kernel, by decide +kernel, by decide +kernel, by decide +kernel⟩
theorem a_price_of {f : Addr} {fd : FuncData} (Fn : FunD K "price_of" "price_of" (defArgs (top 27)) (defBody (top 27)) (defScope (top 27)) [] [] f fd) (hm : mg "price_of" = some (.ref f)) (g : GF mg FREE INTS) (f_scope_of : Fav P w K mg base 1 "scope_of" 2 [] s_scope_of) (f_cut_to : Fav P w K mg base 1 "cut_to" 3 [] s_cut_to) :
    Fav P w K mg base 2 "price_of" 4 [] s_price_of := fav_of (ps := ["graph", "tables", "nodes", "row"]) (refs := []) Fn hm sc_price_of rfl (by decide) (fun _ _ _ _ _ _ us hl => match us, hl with | [_, _, _, _], _ => rfl) fun _ _ _ _ _ _ c => b_price_of c g f_scope_of f_cut_to
theorem sc_solutions_by : FnScope N_solutions_by ["graph", "tables", "nodes"] (defScope (top 28)) := ⟨by decide +kernel, by decide +kernel, by decide +kernel, by decide +kernel, by decide +kernel, by decide +kernel, by decide +kernel⟩
theorem a_solutions_by {f : Addr} {fd : FuncData} (Fn : FunD K "solutions_by" "solutions_by" (defArgs (top 28)) (defBody (top 28)) (defScope (top 28)) [] [] f fd) (hm : mg "solutions_by" = some (.ref f)) (g : GF mg FREE INTS) (f_rows_of : Fav P w K mg base 1 "rows_of" 2 [] s_rows_of) (f_scope_of : Fav P w K mg base 1 "scope_of" 2 [] s_scope_of) (f_first_rejecting : Fav P w K mg base 2 "first_rejecting" 4 [] s_first_rejecting) (f_price_of : Fav P w K mg base 2 "price_of" 4 [] s_price_of) :
    Fav P w K mg base 3 "solutions_by" 3 [] s_solutions_by := fav_of (ps := ["graph", "tables", "nodes"]) (refs := []) Fn hm sc_solutions_by rfl (by decide) (fun _ _ _ _ _ _ us hl => match us, hl with | [_, _, _], _ => rfl) fun _ _ _ _ _ _ c => b_solutions_by c g f_rows_of f_scope_of f_first_rejecting f_price_of
theorem sc_part_projection : FnScope N_part_projection ["graph", "tables", "nodes", "some"] (defScope (top 36)) := ⟨by decide +kernel, by decide +kernel, by decide +kernel, by decide +kernel, by decide +kernel, by decide +kernel, by decide +kernel⟩
theorem a_part_projection {f : Addr} {fd : FuncData} (Fn : FunD K "part_projection" "part_projection" (defArgs (top 36)) (defBody (top 36)) (defScope (top 36)) [] [] f fd) (hm : mg "part_projection" = some (.ref f)) (g : GF mg FREE INTS) (f_check_tables : Fav P w K mg base 6 "check_tables" 2 [] s_check_tables) (f_are_nodes : Fav P w K mg base 2 "are_nodes" 2 [] s_are_nodes) (f_scope_of : Fav P w K mg base 1 "scope_of" 2 [] s_scope_of) (f_is_part : Fav P w K mg base 2 "is_part" 2 [] s_is_part) (f_cut_down : Fav P w K mg base 2 "cut_down" 3 [] s_cut_down) (f_solutions_by : Fav P w K mg base 3 "solutions_by" 3 [] s_solutions_by) :
    Fav P w K mg base 7 "part_projection" 4 [] s_part_projection := fav_of (ps := ["graph", "tables", "nodes", "some"]) (refs := []) Fn hm sc_part_projection rfl (by decide) (fun _ _ _ _ _ _ us hl => match us, hl with | [_, _, _, _], _ => rfl) fun _ _ _ _ _ _ c => b_part_projection c g f_check_tables f_are_nodes f_scope_of f_is_part f_cut_down f_solutions_by
theorem sc__law_cut : FnScope N__law_cut ["_law_row", "_law_scope", "_law_some_here"] (defScope (top 47)) := ⟨by decide +kernel, by decide +kernel, by decide +kernel, by decide +kernel, by decide +kernel, by decide +kernel, by decide +kernel⟩
theorem a__law_cut {f : Addr} {fd : FuncData} (Fn : FunD K "_law_cut" "_law_cut" (defArgs (top 47)) (defBody (top 47)) (defScope (top 47)) [] [] f fd) (hm : mg "_law_cut" = some (.ref f)) (g : GF mg FREE INTS) :
    Fav P w K mg base 1 "_law_cut" 3 [] s__law_cut := fav_of (ps := ["_law_row", "_law_scope", "_law_some_here"]) (refs := []) Fn hm sc__law_cut rfl (by decide) (fun _ _ _ _ _ _ us hl => match us, hl with | [_, _, _], _ => rfl) fun _ _ _ _ _ _ c => b__law_cut c g
theorem sc__law_left : FnScope N__law_left ["_law_found", "_law_scope", "_law_some_here"] (defScope (top 50)) := ⟨by decide +kernel, by decide +kernel, by decide +kernel, by decide +kernel, by decide +kernel, by decide +kernel, by decide +kernel⟩
theorem a__law_left {f : Addr} {fd : FuncData} (Fn : FunD K "_law_left" "_law_left" (defArgs (top 50)) (defBody (top 50)) (defScope (top 50)) [] [] f fd) (hm : mg "_law_left" = some (.ref f)) (g : GF mg FREE INTS) (f__law_cut : Fav P w K mg base 1 "_law_cut" 3 [] s__law_cut) :
    Fav P w K mg base 2 "_law_left" 3 [] s__law_left := fav_of (ps := ["_law_found", "_law_scope", "_law_some_here"]) (refs := []) Fn hm sc__law_left rfl (by decide) (fun _ _ _ _ _ _ us hl => match us, hl with | [_, _, _], _ => rfl) fun _ _ _ _ _ _ c => b__law_left c g f__law_cut
theorem sc__law_cost : FnScope N__law_cost ["_law_graph_here", "_law_tables_here", "_law_nodes", "_law_row"] (defScope (top 48)) := ⟨by decide +kernel, by decide +kernel, by decide +kernel, by decide +kernel, by decide +kernel, by decide +kernel, by decide +kernel⟩
theorem a__law_cost {f : Addr} {fd : FuncData} (Fn : FunD K "_law_cost" "_law_cost" (defArgs (top 48)) (defBody (top 48)) (defScope (top 48)) [] [] f fd) (hm : mg "_law_cost" = some (.ref f)) (g : GF mg FREE INTS) (f__law_variables : Fav P w K mg base 1 "_law_variables" 2 [] s__law_variables) (f__law_cut : Fav P w K mg base 1 "_law_cut" 3 [] s__law_cut) :
    Fav P w K mg base 2 "_law_cost" 4 [] s__law_cost := fav_of (ps := ["_law_graph_here", "_law_tables_here", "_law_nodes", "_law_row"]) (refs := []) Fn hm sc__law_cost rfl (by decide) (fun _ _ _ _ _ _ us hl => match us, hl with | [_, _, _, _], _ => rfl) fun _ _ _ _ _ _ c => b__law_cost c g f__law_variables f__law_cut
theorem sc__law_solutions : FnScope N__law_solutions ["_law_graph_here", "_law_tables_here", "_law_nodes"] (defScope (top 49)) := ⟨by decide +kernel, by decide +kernel, by decide +kernel, by decide +kernel, by decide +kernel, by decide +kernel, by decide +kernel⟩
theorem a__law_solutions {f : Addr} {fd : FuncData} (Fn : FunD K "_law_solutions" "_law_solutions" (defArgs (top 49)) (defBody (top 49)) (defScope (top 49)) [] [] f fd) (hm : mg "_law_solutions" = some (.ref f)) (g : GF mg FREE INTS) (f__law_rows : Fav P w K mg base 1 "_law_rows" 2 [] s__law_rows) (f__law_variables : Fav P w K mg base 1 "_law_variables" 2 [] s__law_variables) (f__law_cost : Fav P w K mg base 2 "_law_cost" 4 [] s__law_cost) :
    Fav P w K mg base 3 "_law_solutions" 3 [] s__law_solutions := fav_of (ps := ["_law_graph_here", "_law_tables_here", "_law_nodes"]) (refs := []) Fn hm sc__law_solutions rfl (by decide) (fun _ _ _ _ _ _ us hl => match us, hl with | [_, _, _], _ => rfl) fun _ _ _ _ _ _ c => b__law_solutions c g f__law_rows f__law_variables f__law_cost
theorem sc_variables_of : FnScope N_variables_of ["graph"] (defScope (top 22)) := ⟨by decide +kernel, by decide +kernel, by decide +kernel, by decide +kernel, by decide +kernel, by decide +kernel, by decide +kernel⟩
theorem a_variables_of {f : Addr} {fd : FuncData} (Fn : FunD K "variables_of" "variables_of" (defArgs (top 22)) (defBody (top 22)) (defScope (top 22)) [] [] f fd) (hm : mg "variables_of" = some (.ref f)) (g : GF mg FREE INTS) (f_scope_of : Fav P w K mg base 1 "scope_of" 2 [] s_scope_of) :
    Fav P w K mg base 2 "variables_of" 1 [] s_variables_of := fav_of (ps := ["graph"]) (refs := []) Fn hm sc_variables_of rfl (by decide) (fun _ _ _ _ _ _ us hl => match us, hl with | [_], _ => rfl) fun _ _ _ _ _ _ c => b_variables_of c g f_scope_of
theorem sc_solutions_of : FnScope N_solutions_of ["graph", "tables"] (defScope (top 29)) := ⟨by decide +kernel, by decide +kernel, by decide +kernel, by decide +kernel, by decide +kernel, by decide +kernel, by decide +kernel⟩
theorem a_solutions_of {f : Addr} {fd : FuncData} (Fn : FunD K "solutions_of" "solutions_of" (defArgs (top 29)) (defBody (top 29)) (defScope (top 29)) [] [] f fd) (hm : mg "solutions_of" = some (.ref f)) (g : GF mg FREE INTS) (f_solutions_by : Fav P w K mg base 3 "solutions_by" 3 [] s_solutions_by) :
    Fav P w K mg base 4 "solutions_of" 2 [] s_solutions_of := fav_of (ps := ["graph", "tables"]) (refs := []) Fn hm sc_solutions_of rfl (by decide) (fun _ _ _ _ _ _ us hl => match us, hl with | [_, _], _ => rfl) fun _ _ _ _ _ _ c => b_solutions_of c g f_solutions_by
theorem sc_projected : FnScope N_projected ["graph", "tables", "some"] (defScope (top 32)) := ⟨by decide +kernel, by decide +kernel, by decide +kernel, by decide +kernel, by decide +kernel, by decide +kernel, by decide +kernel⟩
theorem a_projected {f : Addr} {fd : FuncData} (Fn : FunD K "projected" "projected" (defArgs (top 32)) (defBody (top 32)) (defScope (top 32)) [] [] f fd) (hm : mg "projected" = some (.ref f)) (g : GF mg FREE INTS) (f_cut_down : Fav P w K mg base 2 "cut_down" 3 [] s_cut_down) (f_solutions_of : Fav P w K mg base 4 "solutions_of" 2 [] s_solutions_of) (f_variables_of : Fav P w K mg base 2 "variables_of" 1 [] s_variables_of) :
    Fav P w K mg base 5 "projected" 3 [] s_projected := fav_of (ps := ["graph", "tables", "some"]) (refs := []) Fn hm sc_projected rfl (by decide) (fun _ _ _ _ _ _ us hl => match us, hl with | [_, _, _], _ => rfl) fun _ _ _ _ _ _ c => b_projected c g f_cut_down f_solutions_of f_variables_of
theorem sc_projection : FnScope N_projection ["graph", "tables", "some"] (defScope (top 34)) := ⟨by decide +kernel, by decide +kernel, by decide +kernel, by decide +kernel, by decide +kernel, by decide +kernel, by decide +kernel⟩
theorem a_projection {f : Addr} {fd : FuncData} (Fn : FunD K "projection" "projection" (defArgs (top 34)) (defBody (top 34)) (defScope (top 34)) [] [] f fd) (hm : mg "projection" = some (.ref f)) (g : GF mg FREE INTS) (f_check_tables : Fav P w K mg base 6 "check_tables" 2 [] s_check_tables) (f_is_part : Fav P w K mg base 2 "is_part" 2 [] s_is_part) (f_variables_of : Fav P w K mg base 2 "variables_of" 1 [] s_variables_of) (f_projected : Fav P w K mg base 5 "projected" 3 [] s_projected) :
    Fav P w K mg base 7 "projection" 3 [] s_projection := fav_of (ps := ["graph", "tables", "some"]) (refs := []) Fn hm sc_projection rfl (by decide) (fun _ _ _ _ _ _ us hl => match us, hl with | [_, _, _], _ => rfl) fun _ _ _ _ _ _ c => b_projection c g f_check_tables f_is_part f_variables_of f_projected
theorem sc_law : FnScope N_law ["_law_script"] (defScope (top 51)) := ⟨by decide +kernel, by decide +kernel, by decide +kernel, by decide +kernel, by decide +kernel, by decide +kernel, by decide +kernel⟩
theorem a_law {f : Addr} {fd : FuncData} (Fn : FunD K "law" "law" (defArgs (top 51)) (defBody (top 51)) (defScope (top 51)) [] [] f fd) (g : GF mg FREE INTS) (f__law_stream : FavN P w K mg base 1 "_law_stream" 1 s__law_stream) (f__law_graph : Fav P w K mg base 3 "_law_graph" 2 [true] s__law_graph) (f__law_tree : Fav P w K mg base 3 "_law_tree" 2 [true] s__law_tree) (f__law_next : Fav P w K mg base 1 "_law_next" 2 [true] s__law_next) (f__law_tables : Fav P w K mg base 2 "_law_tables" 2 [true] s__law_tables) (f__law_variables : Fav P w K mg base 1 "_law_variables" 2 [] s__law_variables) (f_part_projection : Fav P w K mg base 7 "part_projection" 4 [] s_part_projection) (f__law_left : Fav P w K mg base 2 "_law_left" 3 [] s__law_left) (f__law_solutions : Fav P w K mg base 3 "_law_solutions" 3 [] s__law_solutions) (f_projection : Fav P w K mg base 7 "projection" 3 [] s_projection) :
    FnOk P w K mg base CX0 8 f fd ["_law_script"] (spZ K 1 [] s_law) := fnZ_ok (ps := ["_law_script"]) (refs := []) Fn sc_law rfl (by decide) fun _ _ _ _ _ _ hr => b_law (cn_body sc_law hr) g f__law_stream f__law_graph f__law_tree f__law_next f__law_tables f__law_variables f_part_projection f__law_left f__law_solutions f_projection
end
def D__law_stream : He.DefD := ⟨("_law_stream", none), "_law_stream", "_law_stream", defArgs (top 38), [.Return (some e__law_stream) r__law_stream], defScope (top 38), [], []⟩
def D__law_next : He.DefD := ⟨("_law_next", none), "_law_next", "_law_next", defArgs (top 39), (defBody (top 39)), defScope (top 39), [], []⟩
def D__law_some : He.DefD := ⟨("_law_some", none), "_law_some", "_law_some", defArgs (top 41), (defBody (top 41)), defScope (top 41), [], []⟩
def D__law_graph : He.DefD := ⟨("_law_graph", none), "_law_graph", "_law_graph", defArgs (top 42), (defBody (top 42)), defScope (top 42), [], []⟩
def D__law_tree : He.DefD := ⟨("_law_tree", none), "_law_tree", "_law_tree", defArgs (top 43), (defBody (top 43)), defScope (top 43), [], []⟩
def D__law_rows : He.DefD := ⟨("_law_rows", none), "_law_rows", "_law_rows", defArgs (top 44), (defBody (top 44)), defScope (top 44), [], []⟩
def D__law_tables : He.DefD := ⟨("_law_tables", none), "_law_tables", "_law_tables", defArgs (top 45), (defBody (top 45)), defScope (top 45), [], []⟩
def D__law_variables : He.DefD := ⟨("_law_variables", none), "_law_variables", "_law_variables", defArgs (top 46), (defBody (top 46)), defScope (top 46), [], []⟩
def D_is_number : He.DefD := ⟨("is_number", none), "is_number", "is_number", defArgs (top 18), (defBody (top 18)), defScope (top 18), [], []⟩
def D_is_whole : He.DefD := ⟨("is_whole", none), "is_whole", "is_whole", defArgs (top 7), (defBody (top 7)), defScope (top 7), [], []⟩
def D_is_climbing : He.DefD := ⟨("is_climbing", none), "is_climbing", "is_climbing", defArgs (top 8), (defBody (top 8)), defScope (top 8), [], []⟩
def D_are_variables : He.DefD := ⟨("are_variables", none), "are_variables", "are_variables", defArgs (top 9), (defBody (top 9)), defScope (top 9), [], []⟩
def D_is_scope : He.DefD := ⟨("is_scope", none), "is_scope", "is_scope", defArgs (top 10), (defBody (top 10)), defScope (top 10), [], []⟩
def D_is_edge : He.DefD := ⟨("is_edge", none), "is_edge", "is_edge", defArgs (top 19), (defBody (top 19)), defScope (top 19), [], []⟩
def D_is_graph : He.DefD := ⟨("is_graph", none), "is_graph", "is_graph", defArgs (top 20), (defBody (top 20)), defScope (top 20), [], []⟩
def D_check_graph : He.DefD := ⟨("check_graph", none), "check_graph", "check_graph", defArgs (top 24), (defBody (top 24)), defScope (top 24), [], []⟩
def D_is_row : He.DefD := ⟨("is_row", none), "is_row", "is_row", defArgs (top 11), (defBody (top 11)), defScope (top 11), [], []⟩
def D_is_table : He.DefD := ⟨("is_table", none), "is_table", "is_table", defArgs (top 12), (defBody (top 12)), defScope (top 12), [], []⟩
def D_are_tables : He.DefD := ⟨("are_tables", none), "are_tables", "are_tables", defArgs (top 21), (defBody (top 21)), defScope (top 21), [], []⟩
def D_check_tables : He.DefD := ⟨("check_tables", none), "check_tables", "check_tables", defArgs (top 25), (defBody (top 25)), defScope (top 25), [], []⟩
def D_are_nodes : He.DefD := ⟨("are_nodes", none), "are_nodes", "are_nodes", defArgs (top 35), (defBody (top 35)), defScope (top 35), [], []⟩
def D_scope_of : He.DefD := ⟨("scope_of", none), "scope_of", "scope_of", defArgs (top 23), (defBody (top 23)), defScope (top 23), [], []⟩
def D_is_part : He.DefD := ⟨("is_part", none), "is_part", "is_part", defArgs (top 33), (defBody (top 33)), defScope (top 33), [], []⟩
def D_gathered : He.DefD := ⟨("gathered", none), "gathered", "gathered", defArgs (top 15), (defBody (top 15)), defScope (top 15), [], []⟩
def D_cut_to : He.DefD := ⟨("cut_to", none), "cut_to", "cut_to", defArgs (top 14), (defBody (top 14)), defScope (top 14), [], []⟩
def D_cut_down : He.DefD := ⟨("cut_down", none), "cut_down", "cut_down", defArgs (top 31), (defBody (top 31)), defScope (top 31), [], []⟩
def D_rows_of : He.DefD := ⟨("rows_of", none), "rows_of", "rows_of", defArgs (top 13), (defBody (top 13)), defScope (top 13), [], []⟩
def D_first_rejecting : He.DefD := ⟨("first_rejecting", none), "first_rejecting", "first_rejecting", defArgs (top 26), (defBody (top 26)), defScope (top 26), [], []⟩
def D_price_of : He.DefD := ⟨("price_of", none), "price_of", "price_of", defArgs (top 27), (defBody (top 27)), defScope (top 27), [], []⟩
def D_solutions_by : He.DefD := ⟨("solutions_by", none), "solutions_by", "solutions_by", defArgs (top 28), (defBody (top 28)), defScope (top 28), [], []⟩
def D_part_projection : He.DefD := ⟨("part_projection", none), "part_projection", "part_projection", defArgs (top 36), (defBody (top 36)), defScope (top 36), [], []⟩
def D__law_cut : He.DefD := ⟨("_law_cut", none), "_law_cut", "_law_cut", defArgs (top 47), (defBody (top 47)), defScope (top 47), [], []⟩
def D__law_left : He.DefD := ⟨("_law_left", none), "_law_left", "_law_left", defArgs (top 50), (defBody (top 50)), defScope (top 50), [], []⟩
def D__law_cost : He.DefD := ⟨("_law_cost", none), "_law_cost", "_law_cost", defArgs (top 48), (defBody (top 48)), defScope (top 48), [], []⟩
def D__law_solutions : He.DefD := ⟨("_law_solutions", none), "_law_solutions", "_law_solutions", defArgs (top 49), (defBody (top 49)), defScope (top 49), [], []⟩
def D_variables_of : He.DefD := ⟨("variables_of", none), "variables_of", "variables_of", defArgs (top 22), (defBody (top 22)), defScope (top 22), [], []⟩
def D_solutions_of : He.DefD := ⟨("solutions_of", none), "solutions_of", "solutions_of", defArgs (top 29), (defBody (top 29)), defScope (top 29), [], []⟩
def D_projected : He.DefD := ⟨("projected", none), "projected", "projected", defArgs (top 32), (defBody (top 32)), defScope (top 32), [], []⟩
def D_projection : He.DefD := ⟨("projection", none), "projection", "projection", defArgs (top 34), (defBody (top 34)), defScope (top 34), [], []⟩
def D_law : He.DefD := ⟨("law", none), "law", "law", defArgs (top 51), (defBody (top 51)), defScope (top 51), [], []⟩
def fn : List He.DefD := [D__law_stream, D__law_next, D__law_some, D__law_graph, D__law_tree, D__law_rows, D__law_tables, D__law_variables, D_is_number, D_is_whole, D_is_climbing, D_are_variables, D_is_scope, D_is_edge, D_is_graph, D_check_graph, D_is_row, D_is_table, D_are_tables, D_check_tables, D_are_nodes, D_scope_of, D_is_part, D_gathered, D_cut_to, D_cut_down, D_rows_of, D_first_rejecting, D_price_of, D_solutions_by, D_part_projection, D__law_cut, D__law_left, D__law_cost, D__law_solutions, D_variables_of, D_solutions_of, D_projected, D_projection, D_law]
def fa : List He.Fa := [.glo "_law_stream", .glo "_law_next", .glo "_law_some", .glo "_law_graph", .glo "_law_tree", .glo "_law_rows", .glo "_law_tables", .glo "_law_variables", .glo "is_number", .glo "is_whole", .glo "is_climbing", .glo "are_variables", .glo "is_scope", .glo "is_edge", .glo "is_graph", .glo "check_graph", .glo "is_row", .glo "is_table", .glo "are_tables", .glo "check_tables", .glo "are_nodes", .glo "scope_of", .glo "is_part", .glo "gathered", .glo "cut_to", .glo "cut_down", .glo "rows_of", .glo "first_rejecting", .glo "price_of", .glo "solutions_by", .glo "part_projection", .glo "_law_cut", .glo "_law_left", .glo "_law_cost", .glo "_law_solutions", .glo "variables_of", .glo "solutions_of", .glo "projected", .glo "projection", .glo "law"] ++ (FREE.map He.Fa.free ++ INTS.map fun p => He.Fa.int p.1 p.2)
abbrev R : PySem.W.OpenRow := PySem.W.OpenLaw.row PySem.Challenge.rw_tabletalk_k11_whole_two_parts
abbrev hk : PySem.W.Hook := He.hookD 4 fa fn
def ob (s : PySem.W.SharedT) : He.AlD := He.obsDG 4 fa fn (HandSHeadRun.getT s)
theorem ob_eq (s : PySem.W.SharedT) : ob s = hk.obs s.abs := He.obsDG_eq (HandSHeadRun.getT_eq s)
def loose0 : List Str := ["TableError", "BadValue", "MOST_VARIABLE", "WIDEST_SCOPE", "MOST_COST", "is_whole", "is_climbing", "are_variables", "is_scope", "is_row", "is_table", "rows_of", "cut_to", "gathered", "MOST_NODES", "is_number", "is_edge", "is_graph", "are_tables", "variables_of", "scope_of", "check_graph", "check_tables", "first_rejecting", "price_of", "solutions_by", "solutions_of", "cut_down", "projected", "is_part"]
def loose1 : List Str := ["projection", "are_nodes", "part_projection", "_law_stream", "_law_next", "_law_is_integer", "_law_some", "_law_graph", "_law_tree", "_law_rows", "_law_tables", "_law_variables", "_law_cut", "_law_cost", "_law_solutions", "_law_left"]
def loose : List Str := loose0 ++ loose1
theorem run (w : World) : HandSHeadRun.RunEq R (PySem.W.view R.prog [51]) hk ob 2000 loose w := by
  intro os
  kernel_rfl
theorem facts {P : Program} {w : World} {K : PySem.W.Frag} {h : Heap} {mg : Str → Option Value} {f : Addr} (X : K.In h) (G : h.Ns mainGlobals mg) (hfa : mg ("law" : Str) = some (.ref f)) (c : He.SaysD fa fn K) :
    ∃ fd : FuncData, (∀ (s : Shared) (v : Value), BindsTo s fd ⟨[v], []⟩ [("_law_script", v)]) ∧ ∀ base : Heap, K.In base → base.Ns mainGlobals mg → FnOk P w K mg base CX0 8 f fd ["_law_script"] (spZ K 1 [] s_law) := by
  obtain ⟨fd__law_stream, F__law_stream⟩ := c.def_ 0 (d := D__law_stream) rfl
  obtain ⟨fd__law_next, F__law_next⟩ := c.def_ 1 (d := D__law_next) rfl
  obtain ⟨fd__law_some, F__law_some⟩ := c.def_ 2 (d := D__law_some) rfl
  obtain ⟨fd__law_graph, F__law_graph⟩ := c.def_ 3 (d := D__law_graph) rfl
  obtain ⟨fd__law_tree, F__law_tree⟩ := c.def_ 4 (d := D__law_tree) rfl
  obtain ⟨fd__law_rows, F__law_rows⟩ := c.def_ 5 (d := D__law_rows) rfl
  obtain ⟨fd__law_tables, F__law_tables⟩ := c.def_ 6 (d := D__law_tables) rfl
  obtain ⟨fd__law_variables, F__law_variables⟩ := c.def_ 7 (d := D__law_variables) rfl
  obtain ⟨fd_is_number, F_is_number⟩ := c.def_ 8 (d := D_is_number) rfl
  obtain ⟨fd_is_whole, F_is_whole⟩ := c.def_ 9 (d := D_is_whole) rfl
  obtain ⟨fd_is_climbing, F_is_climbing⟩ := c.def_ 10 (d := D_is_climbing) rfl
  obtain ⟨fd_are_variables, F_are_variables⟩ := c.def_ 11 (d := D_are_variables) rfl
  obtain ⟨fd_is_scope, F_is_scope⟩ := c.def_ 12 (d := D_is_scope) rfl
  obtain ⟨fd_is_edge, F_is_edge⟩ := c.def_ 13 (d := D_is_edge) rfl
  obtain ⟨fd_is_graph, F_is_graph⟩ := c.def_ 14 (d := D_is_graph) rfl
  obtain ⟨fd_check_graph, F_check_graph⟩ := c.def_ 15 (d := D_check_graph) rfl
  obtain ⟨fd_is_row, F_is_row⟩ := c.def_ 16 (d := D_is_row) rfl
  obtain ⟨fd_is_table, F_is_table⟩ := c.def_ 17 (d := D_is_table) rfl
  obtain ⟨fd_are_tables, F_are_tables⟩ := c.def_ 18 (d := D_are_tables) rfl
  obtain ⟨fd_check_tables, F_check_tables⟩ := c.def_ 19 (d := D_check_tables) rfl
  obtain ⟨fd_are_nodes, F_are_nodes⟩ := c.def_ 20 (d := D_are_nodes) rfl
  obtain ⟨fd_scope_of, F_scope_of⟩ := c.def_ 21 (d := D_scope_of) rfl
  obtain ⟨fd_is_part, F_is_part⟩ := c.def_ 22 (d := D_is_part) rfl
  obtain ⟨fd_gathered, F_gathered⟩ := c.def_ 23 (d := D_gathered) rfl
  obtain ⟨fd_cut_to, F_cut_to⟩ := c.def_ 24 (d := D_cut_to) rfl
  obtain ⟨fd_cut_down, F_cut_down⟩ := c.def_ 25 (d := D_cut_down) rfl
  obtain ⟨fd_rows_of, F_rows_of⟩ := c.def_ 26 (d := D_rows_of) rfl
  obtain ⟨fd_first_rejecting, F_first_rejecting⟩ := c.def_ 27 (d := D_first_rejecting) rfl
  obtain ⟨fd_price_of, F_price_of⟩ := c.def_ 28 (d := D_price_of) rfl
  obtain ⟨fd_solutions_by, F_solutions_by⟩ := c.def_ 29 (d := D_solutions_by) rfl
  obtain ⟨fd_part_projection, F_part_projection⟩ := c.def_ 30 (d := D_part_projection) rfl
  obtain ⟨fd__law_cut, F__law_cut⟩ := c.def_ 31 (d := D__law_cut) rfl
  obtain ⟨fd__law_left, F__law_left⟩ := c.def_ 32 (d := D__law_left) rfl
  obtain ⟨fd__law_cost, F__law_cost⟩ := c.def_ 33 (d := D__law_cost) rfl
  obtain ⟨fd__law_solutions, F__law_solutions⟩ := c.def_ 34 (d := D__law_solutions) rfl
  obtain ⟨fd_variables_of, F_variables_of⟩ := c.def_ 35 (d := D_variables_of) rfl
  obtain ⟨fd_solutions_of, F_solutions_of⟩ := c.def_ 36 (d := D_solutions_of) rfl
  obtain ⟨fd_projected, F_projected⟩ := c.def_ 37 (d := D_projected) rfl
  obtain ⟨fd_projection, F_projection⟩ := c.def_ 38 (d := D_projection) rfl
  obtain ⟨fd_law, F_law⟩ := c.def_ 39 (d := D_law) rfl
  have e := hfa.symm.trans (He.glo_ok X G (c.fact 39 (f := .glo "law") rfl))
  cases e
  have b := FunD.bindsA (ps := ["_law_script"]) F_law fun _ _ _ _ _ _ us hl => match us, hl with | [_], _ => rfl
  have g : GF mg FREE INTS := gf_of X G c (fun x hx => List.mem_append_right _ (List.mem_append_left _ (List.mem_map_of_mem hx))) (fun p hp => List.mem_append_right _ (List.mem_append_right _ (List.mem_map.mpr ⟨p, hp, rfl⟩)))
  refine ⟨fd_law, fun s v => b s [v] rfl, fun base _ _ => ?_⟩
  have f__law_stream := a__law_stream (P := P) (w := w) (base := base) F__law_stream (He.glo_ok X G (c.fact 0 (f := .glo "_law_stream") rfl)) g
  have f__law_next := a__law_next (P := P) (w := w) (base := base) F__law_next (He.glo_ok X G (c.fact 1 (f := .glo "_law_next") rfl)) g
  have f__law_some := a__law_some (P := P) (w := w) (base := base) F__law_some (He.glo_ok X G (c.fact 2 (f := .glo "_law_some") rfl)) g f__law_next
  have f__law_graph := a__law_graph (P := P) (w := w) (base := base) F__law_graph (He.glo_ok X G (c.fact 3 (f := .glo "_law_graph") rfl)) g f__law_next f__law_some
  have f__law_tree := a__law_tree (P := P) (w := w) (base := base) F__law_tree (He.glo_ok X G (c.fact 4 (f := .glo "_law_tree") rfl)) g f__law_next f__law_some
  have f__law_rows := a__law_rows (P := P) (w := w) (base := base) F__law_rows (He.glo_ok X G (c.fact 5 (f := .glo "_law_rows") rfl)) g
  have f__law_tables := a__law_tables (P := P) (w := w) (base := base) F__law_tables (He.glo_ok X G (c.fact 6 (f := .glo "_law_tables") rfl)) g f__law_rows f__law_next
  have f__law_variables := a__law_variables (P := P) (w := w) (base := base) F__law_variables (He.glo_ok X G (c.fact 7 (f := .glo "_law_variables") rfl)) g
  have f_is_number := a_is_number (P := P) (w := w) (base := base) F_is_number (He.glo_ok X G (c.fact 8 (f := .glo "is_number") rfl)) g
  have f_is_whole := a_is_whole (P := P) (w := w) (base := base) F_is_whole (He.glo_ok X G (c.fact 9 (f := .glo "is_whole") rfl)) g
  have f_is_climbing := a_is_climbing (P := P) (w := w) (base := base) F_is_climbing (He.glo_ok X G (c.fact 10 (f := .glo "is_climbing") rfl)) g
  have f_are_variables := a_are_variables (P := P) (w := w) (base := base) F_are_variables (He.glo_ok X G (c.fact 11 (f := .glo "are_variables") rfl)) g f_is_whole f_is_climbing
  have f_is_scope := a_is_scope (P := P) (w := w) (base := base) F_is_scope (He.glo_ok X G (c.fact 12 (f := .glo "is_scope") rfl)) g f_are_variables
  have f_is_edge := a_is_edge (P := P) (w := w) (base := base) F_is_edge (He.glo_ok X G (c.fact 13 (f := .glo "is_edge") rfl)) g f_is_number
  have f_is_graph := a_is_graph (P := P) (w := w) (base := base) F_is_graph (He.glo_ok X G (c.fact 14 (f := .glo "is_graph") rfl)) g f_is_number f_is_scope f_is_edge
  have f_check_graph := a_check_graph (P := P) (w := w) (base := base) F_check_graph (He.glo_ok X G (c.fact 15 (f := .glo "check_graph") rfl)) g f_is_graph
  have f_is_row := a_is_row (P := P) (w := w) (base := base) F_is_row (He.glo_ok X G (c.fact 16 (f := .glo "is_row") rfl)) g f_is_whole
  have f_is_table := a_is_table (P := P) (w := w) (base := base) F_is_table (He.glo_ok X G (c.fact 17 (f := .glo "is_table") rfl)) g f_is_row f_is_whole f_is_climbing
  have f_are_tables := a_are_tables (P := P) (w := w) (base := base) F_are_tables (He.glo_ok X G (c.fact 18 (f := .glo "are_tables") rfl)) g f_is_table
  have f_check_tables := a_check_tables (P := P) (w := w) (base := base) F_check_tables (He.glo_ok X G (c.fact 19 (f := .glo "check_tables") rfl)) g f_check_graph f_are_tables
  have f_are_nodes := a_are_nodes (P := P) (w := w) (base := base) F_are_nodes (He.glo_ok X G (c.fact 20 (f := .glo "are_nodes") rfl)) g f_is_number
  have f_scope_of := a_scope_of (P := P) (w := w) (base := base) F_scope_of (He.glo_ok X G (c.fact 21 (f := .glo "scope_of") rfl)) g
  have f_is_part := a_is_part (P := P) (w := w) (base := base) F_is_part (He.glo_ok X G (c.fact 22 (f := .glo "is_part") rfl)) g f_is_number
  have f_gathered := a_gathered (P := P) (w := w) (base := base) F_gathered (He.glo_ok X G (c.fact 23 (f := .glo "gathered") rfl)) g
  have f_cut_to := a_cut_to (P := P) (w := w) (base := base) F_cut_to (He.glo_ok X G (c.fact 24 (f := .glo "cut_to") rfl)) g
  have f_cut_down := a_cut_down (P := P) (w := w) (base := base) F_cut_down (He.glo_ok X G (c.fact 25 (f := .glo "cut_down") rfl)) g f_gathered f_cut_to
  have f_rows_of := a_rows_of (P := P) (w := w) (base := base) F_rows_of (He.glo_ok X G (c.fact 26 (f := .glo "rows_of") rfl)) g
  have f_first_rejecting := a_first_rejecting (P := P) (w := w) (base := base) F_first_rejecting (He.glo_ok X G (c.fact 27 (f := .glo "first_rejecting") rfl)) g f_scope_of f_cut_to
  have f_price_of := a_price_of (P := P) (w := w) (base := base) F_price_of (He.glo_ok X G (c.fact 28 (f := .glo "price_of") rfl)) g f_scope_of f_cut_to
  have f_solutions_by := a_solutions_by (P := P) (w := w) (base := base) F_solutions_by (He.glo_ok X G (c.fact 29 (f := .glo "solutions_by") rfl)) g f_rows_of f_scope_of f_first_rejecting f_price_of
  have f_part_projection := a_part_projection (P := P) (w := w) (base := base) F_part_projection (He.glo_ok X G (c.fact 30 (f := .glo "part_projection") rfl)) g f_check_tables f_are_nodes f_scope_of f_is_part f_cut_down f_solutions_by
  have f__law_cut := a__law_cut (P := P) (w := w) (base := base) F__law_cut (He.glo_ok X G (c.fact 31 (f := .glo "_law_cut") rfl)) g
  have f__law_left := a__law_left (P := P) (w := w) (base := base) F__law_left (He.glo_ok X G (c.fact 32 (f := .glo "_law_left") rfl)) g f__law_cut
  have f__law_cost := a__law_cost (P := P) (w := w) (base := base) F__law_cost (He.glo_ok X G (c.fact 33 (f := .glo "_law_cost") rfl)) g f__law_variables f__law_cut
  have f__law_solutions := a__law_solutions (P := P) (w := w) (base := base) F__law_solutions (He.glo_ok X G (c.fact 34 (f := .glo "_law_solutions") rfl)) g f__law_rows f__law_variables f__law_cost
  have f_variables_of := a_variables_of (P := P) (w := w) (base := base) F_variables_of (He.glo_ok X G (c.fact 35 (f := .glo "variables_of") rfl)) g f_scope_of
  have f_solutions_of := a_solutions_of (P := P) (w := w) (base := base) F_solutions_of (He.glo_ok X G (c.fact 36 (f := .glo "solutions_of") rfl)) g f_solutions_by
  have f_projected := a_projected (P := P) (w := w) (base := base) F_projected (He.glo_ok X G (c.fact 37 (f := .glo "projected") rfl)) g f_cut_down f_solutions_of f_variables_of
  have f_projection := a_projection (P := P) (w := w) (base := base) F_projection (He.glo_ok X G (c.fact 38 (f := .glo "projection") rfl)) g f_check_tables f_is_part f_variables_of f_projected
  exact a_law F_law g f__law_stream f__law_graph f__law_tree f__law_next f__law_tables f__law_variables f_part_projection f__law_left f__law_solutions f_projection
end WK
open PySem PySem.W PySem.Calls PyProof.Rows
theorem PySem.Challenge.cw_tabletalk_k11_whole_two_parts_holds : PySem.Challenge.rw_tabletalk_k11_whole_two_parts.Holds := by
  w_on; o_law
  refine HandSHeadRun.head_any (r := OpenLaw.row PySem.Challenge.rw_tabletalk_k11_whole_two_parts) (q := view (OpenLaw.row PySem.Challenge.rw_tabletalk_k11_whole_two_parts).prog [51]) (H := WK.hk) (ob := WK.ob) (M := 2000) (loose := WK.loose) (d := HandSHeadRun.topDef (OpenLaw.row PySem.Challenge.rw_tabletalk_k11_whole_two_parts).prog 51) (kwd := []) WK.ob_eq
    (by kernel_rfl) (fun s => by kernel_rfl) WK.run (by kernel_rfl) (by kernel_rfl) (by kernel_rfl) (by rfl) (by first | assumption | decide +kernel) (by decide +kernel) ⟨rfl, rfl, rfl, rfl, rfl, by decide +kernel⟩ ?hw ?hc
  case hw => w_witness2
  case hc =>
    refine L2.walk_ofE (l := PySem.Challenge.rw_tabletalk_k11_whole_two_parts) (n := 63) (k := 8) (x := "_law_script") (CX := L2.CX0) rfl (by decide) (by kernel_rfl) ⟨rfl, by decide, by decide⟩ ?F (fun _ _ _ _ z => z)
    intro w mg fa h Y G hmg0
    obtain ⟨K, KX, c⟩ := Y
    have hmg : mg ("law" : PySem.Str) = some (.ref fa) := by
      have e : (HandSHeadRun.topDef (OpenLaw.row PySem.Challenge.rw_tabletalk_k11_whole_two_parts).prog 51).name = ("law" : PySem.Str) := by kernel_rfl
      rw [← e]
      exact hmg0
    obtain ⟨fd, hb, hF⟩ := WK.facts (P := (PySem.Challenge.rw_tabletalk_k11_whole_two_parts).prog) (w := w) KX G hmg c
    exact ⟨K, fd, PP.spZ K 1 [] WK.s_law, KX, hb, fun H a ns hl _ hS => PP.law_sp hS (QQ.plain ns hl), hF⟩

