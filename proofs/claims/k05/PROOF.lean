import PyProof.Rows.All
import Wide.All
import OpenK.AllK
import Wide.FinOn
import HandS.ForMost
import HandS.Exc
import HandS.WordsExc
import HandS.Lambda
import HandS.TupAny
import HandS.Wide
import HandS.SortInts
import HandS.Gcd
import HandS.IsInst
import HandS.Flow
import HandS.Style
import KE.GoesMore
import PyProof.Draws
import HandS.Zip
import HandS.ExcOwn
import HandS.Dict
import HandS.WordsDict
import HandS.SetFor
import HandS.Strs
import PyProof.CallFns
import HandS.Conv
import HandS.RevTup
import KE.KRevSl
import HandS.ExcIs
import HandS.DictComp
import HandS.More
import HandS.CallLocal
import KE.KMathGC
import HandS.Iter
import HandS.EndTab
import KE.KNestM
import PySem.Challenge.RW_setfactorials_k05_whole_first_orders
set_option Elab.async false
set_option linter.all false
set_option maxRecDepth 100000
set_option maxHeartbeats 4000000
set_option autoImplicit false

/-! The pure layer, part A: pure values, worlds, what stays, environments, readings. -/
namespace Pu
open PySem L2

/-! ### pure values -/
/-- built-in types that are asked for -/
inductive Ty where
  | int | bool | str | tuple | list | dict
def Ty.name : Ty → String
  | .int => "int"
  | .bool => "bool"
  | .str => "str"
  | .tuple => "tuple"
  | .list => "list"
  | .dict => "dict"
inductive PV where
  | non | bl (b : Bool) | int (i : Int) | str (x : Str)
  | tup (xs : List PV) | lst (xs : List PV) | dic (kvs : List (Key × PV)) | scr (ns : List Int)
  | drw | cel | exc (C : Addr) (fs : List (Str × PV)) | ref (a : Addr) | ty (n : Ty)

/-- an exception's object at a, its class cls, its own dict's address d -/
def ExV (cls : Value) (d : Option Addr) (a : Addr) : HO := .ext fun h => ∃ (oe : Obj) (vs : Array Value), h.get? a = some oe ∧ Zc cls d oe ∧ oe.data = .fields vs

/-- the world of a pure reading: what stands still, the draws -/
structure Wd where
  S : Hp
  D : Addr → Prop
  N : Addr → Prop
def Wd.add (W : Wd) (p : Addr) (o : HO) : Wd := ⟨upd W.S p o, W.D, W.N⟩

section
variable (K : PySem.W.Frag) (W : Wd)
mutual
inductive Rep : PV → V → Prop
  | non : Rep .non .non
  | bl (b : Bool) : Rep (.bl b) (.bl b)
  | int (i : Int) : Rep (.int i) (.int i)
  | str (x : Str) : Rep (.str x) (.str x)
  | tup {xs : List PV} {a : Addr} {vs : List V} : SqT K W.S a vs → RepL xs vs → Rep (.tup xs) (.ref a)
  | lst {xs : List PV} {a : Addr} {vs : List V} : W.S a = some (.lst vs) → RepL xs vs → Rep (.lst xs) (.ref a)
  | dic {xs : List (Key × PV)} {a : Addr} {vs : List (Key × V)} : W.S a = some (.dK vs) → RepK xs vs → Rep (.dic xs) (.ref a)
  | scr {ns : List Int} {a : Addr} : SqL K W.S a (ns.map V.int) → Rep (.scr ns) (.ref a)
  | drw {a : Addr} : W.D a → Rep .drw (.ref a)
  | cel {a : Addr} : W.N a → Rep .cel (.ref a)
  | exc {C a : Addr} : W.S a = some (ExV (.ref C) none a) → Rep (.exc C []) (.ref a)
  | excD {C a d : Addr} {fs : List (Str × PV)} {vs : List (Str × V)} : fs ≠ [] → W.S a = some (ExV (.ref C) (some d) a) → W.S d = some (.xd vs) → RepF fs vs → Rep (.exc C fs) (.ref a)
  | ref (a : Addr) : Rep (.ref a) (.ref a)
  | ty (n : Ty) : Rep (.ty n) (.ty n.name)
inductive RepL : List PV → List V → Prop
  | nil : RepL [] []
  | cons {x : PV} {xs : List PV} {v : V} {vs : List V} : Rep x v → RepL xs vs → RepL (x :: xs) (v :: vs)
inductive RepK : List (Key × PV) → List (Key × V) → Prop
  | nil : RepK [] []
  | cons {k : Key} {x : PV} {xs : List (Key × PV)} {v : V} {vs : List (Key × V)} : Rep x v → RepK xs vs → RepK ((k, x) :: xs) ((k, v) :: vs)
inductive RepF : List (Str × PV) → List (Str × V) → Prop
  | nil : RepF [] []
  | cons {k : Str} {x : PV} {xs : List (Str × PV)} {v : V} {vs : List (Str × V)} : Rep x v → RepF xs vs → RepF ((k, x) :: xs) ((k, v) :: vs)
end
end

/-- one world in another -/
structure Wd.Le (W W' : Wd) : Prop where
  S : ∀ b o, W.S b = some o → W'.S b = some o
  D : ∀ b, W.D b → W'.D b
  N : ∀ b, W.N b → W'.N b
theorem Wd.Le.refl (W : Wd) : W.Le W := ⟨fun _ _ h => h, fun _ h => h, fun _ h => h⟩
theorem Wd.Le.trans {W W1 W2 : Wd} (a : W.Le W1) (b : W1.Le W2) : W.Le W2 := ⟨fun c o h => b.S c o (a.S c o h), fun c h => b.D c (a.D c h), fun c h => b.N c (a.N c h)⟩

section
variable {K : PySem.W.Frag} {W W' : Wd}
theorem Rd.le (e : W.Le W') {a : Addr} {u : HO} (h : Rd W.S a u) : Rd W'.S a u := by
  rcases h with h | ⟨o, h⟩
  · exact .inl (e.S _ _ h)
  · exact .inr ⟨o, e.S _ _ h⟩
theorem sqT_le (e : W.Le W') {a : Addr} {xs : List V} (h : SqT K W.S a xs) : SqT K W'.S a xs := by
  rcases h with h | h
  · exact .inl (Rd.le e h)
  · exact .inr h
theorem sqL_le (e : W.Le W') {a : Addr} {xs : List V} (h : SqL K W.S a xs) : SqL K W'.S a xs := by
  rcases h with h | h
  · exact .inl (Rd.le e h)
  · exact .inr h
mutual
theorem Rep.le (e : W.Le W') : ∀ {x : PV} {v : V}, Rep K W x v → Rep K W' x v
  | _, _, .non => .non
  | _, _, .bl b => .bl b
  | _, _, .int i => .int i
  | _, _, .str x => .str x
  | _, _, .tup h r => .tup (sqT_le e h) (RepL.le e r)
  | _, _, .lst h r => .lst (e.S _ _ h) (RepL.le e r)
  | _, _, .dic h r => .dic (e.S _ _ h) (RepK.le e r)
  | _, _, .scr h => .scr (sqL_le e h)
  | _, _, .drw h => .drw (e.D _ h)
  | _, _, .cel h => .cel (e.N _ h)
  | _, _, .exc h => .exc (e.S _ _ h)
  | _, _, .excD h0 h h2 r => .excD h0 (e.S _ _ h) (e.S _ _ h2) (RepF.le e r)
  | _, _, .ref a => .ref a
  | _, _, .ty n => .ty n
theorem RepL.le (e : W.Le W') : ∀ {x : List PV} {v : List V}, RepL K W x v → RepL K W' x v
  | _, _, .nil => .nil
  | _, _, .cons h r => .cons (Rep.le e h) (RepL.le e r)
theorem RepK.le (e : W.Le W') : ∀ {x : List (Key × PV)} {v : List (Key × V)}, RepK K W x v → RepK K W' x v
  | _, _, .nil => .nil
  | _, _, .cons h r => .cons (Rep.le e h) (RepK.le e r)
theorem RepF.le (e : W.Le W') : ∀ {x : List (Str × PV)} {v : List (Str × V)}, RepF K W x v → RepF K W' x v
  | _, _, .nil => .nil
  | _, _, .cons h r => .cons (Rep.le e h) (RepF.le e r)
end
theorem RepL.length : ∀ {x : List PV} {v : List V}, RepL K W x v → v.length = x.length
  | _, _, .nil => rfl
  | _, _, .cons _ r => congrArg Nat.succ (RepL.length r)
theorem RepL.get : ∀ {x : List PV} {v : List V} {i : Nat} {y : PV}, RepL K W x v → x[i]? = some y → ∃ u, v[i]? = some u ∧ Rep K W y u
  | _, _, _, _, .nil, h => by simp at h
  | _, _, 0, _, .cons r _, h => by
    simp at h
    subst h
    exact ⟨_, rfl, r⟩
  | _, _, i + 1, _, .cons _ r, h => by
    obtain ⟨u, h1, h2⟩ := RepL.get (i := i) r (by simpa using h)
    exact ⟨u, by simpa using h1, h2⟩
theorem RepL.getV : ∀ {x : List PV} {v : List V} {i : Nat} {u : V}, RepL K W x v → v[i]? = some u → ∃ y, x[i]? = some y ∧ Rep K W y u
  | _, _, _, _, .nil, h => by simp at h
  | _, _, 0, _, .cons r _, h => by
    simp at h
    subst h
    exact ⟨_, rfl, r⟩
  | _, _, i + 1, _, .cons _ r, h => by
    obtain ⟨u, h1, h2⟩ := RepL.getV (i := i) r (by simpa using h)
    exact ⟨u, by simpa using h1, h2⟩
theorem RepL.append : ∀ {x y : List PV} {v u : List V}, RepL K W x v → RepL K W y u → RepL K W (x ++ y) (v ++ u)
  | _, _, _, _, .nil, s => s
  | _, _, _, _, .cons h r, s => .cons h (RepL.append r s)
theorem RepL.take : ∀ {x : List PV} {v : List V} (n : Nat), RepL K W x v → RepL K W (x.take n) (v.take n)
  | _, _, 0, _ => .nil
  | _, _, _ + 1, .nil => .nil
  | _, _, n + 1, .cons h r => .cons h (RepL.take n r)
theorem RepL.drop : ∀ {x : List PV} {v : List V} (n : Nat), RepL K W x v → RepL K W (x.drop n) (v.drop n)
  | _, _, 0, r => r
  | _, _, _ + 1, .nil => .nil
  | _, _, n + 1, .cons _ r => RepL.drop n r
theorem RepL.ints : ∀ (ns : List Int), RepL K W (ns.map PV.int) (ns.map V.int)
  | [] => .nil
  | n :: r => .cons (.int n) (RepL.ints r)
theorem RepL.ints_inv : ∀ {ns : List Int} {vs : List V}, RepL K W (ns.map PV.int) vs → vs = ns.map V.int
  | [], _, .nil => rfl
  | n :: r, _, .cons h t => by
    cases h
    rw [RepL.ints_inv t]
    rfl
theorem RepL.bls_inv : ∀ {bs : List Bool} {vs : List V}, RepL K W (bs.map PV.bl) vs → vs = bs.map V.bl
  | [], _, .nil => rfl
  | n :: r, _, .cons h t => by
    cases h
    rw [RepL.bls_inv t]
    rfl
theorem RepL.dropLast {x : List PV} {v : List V} (r : RepL K W x v) : RepL K W x.dropLast v.dropLast := by
  rw [List.dropLast_eq_take, List.dropLast_eq_take, r.length]
  exact r.take _
theorem RepL.reverse : ∀ {x : List PV} {v : List V}, RepL K W x v → RepL K W x.reverse v.reverse
  | _, _, .nil => .nil
  | _, _, .cons h r => by
    rw [List.reverse_cons, List.reverse_cons]
    exact (RepL.reverse r).append (.cons h .nil)
theorem RepL.set : ∀ {x : List PV} {v : List V} (i : Nat) {y : PV} {u : V}, RepL K W x v → Rep K W y u → RepL K W (x.set i y) (v.set i u)
  | _, _, _, _, _, .nil, _ => .nil
  | _, _, 0, _, _, .cons _ r, h => .cons h r
  | _, _, i + 1, _, _, .cons h r, h2 => .cons h (RepL.set i r h2)
end

/-! ### a world over a heap -/
/-- a draw at d: its dict, its cells -/
def drawD (w : Int) (c : Addr) (n : Int) : HO := .dK [(.inr "whole", .int w), (.inr "cells", .ref c), (.inr "count", .int n)]
def DrawAt (W : Wd) (H : Hp) (d : Addr) : Prop := ∃ (w : Int) (c : Addr) (n : Int), H d = some (drawD w c n) ∧ W.N c
structure OkW (T : List (Addr × Str)) (W : Wd) (H : Hp) : Prop where
  sub : ∀ b o, W.S b = some o → H b = some o
  not : ∀ b ps, W.S b ≠ some (.tbl ps)
  dS : ∀ b, W.D b → W.S b = none
  dN : ∀ b, W.D b → ¬ W.N b
  draw : ∀ b, W.D b → DrawAt W H b
  nLst : ∀ b, W.N b → ∃ ns : List Int, ns.length ≤ 1000 ∧ H b = some (.lst (ns.map V.int))
  tabs : LamX.Tabs T H
/-- nothing stands at b but a table, perhaps -/
def Fr (H : Hp) (b : Addr) : Prop := ∀ o, H b = some o → ∃ ps, o = .tbl ps
theorem Fr.of {H : Hp} {b : Addr} (h : H b = none) : Fr H b := fun o e => by
  rw [h] at e
  cases e
theorem Fr.no {H : Hp} {b : Addr} {o : HO} (f : Fr H b) (h : H b = some o) (n : ∀ ps, o ≠ .tbl ps) : False := by
  obtain ⟨ps, z⟩ := f _ h
  exact n ps z
structure Ext (W : Wd) (H : Hp) (W' : Wd) (H' : Hp) : Prop where
  le : W.Le W'
  keep : ∀ b o, H b = some o → ¬ W.D b → (∀ ps, o ≠ .tbl ps) → H' b = some o
  newS : ∀ b o, W'.S b = some o → W.S b = some o ∨ Fr H b
  newD : ∀ b, W'.D b → W.D b ∨ Fr H b
  newN : ∀ b, W'.N b → W.N b ∨ Fr H b
theorem Ext.refl (W : Wd) (H : Hp) : Ext W H W H := ⟨.refl W, fun _ _ h _ _ => h, fun _ _ h => .inl h, fun _ h => .inl h, fun _ h => .inl h⟩
theorem Ext.fr {T : List (Addr × Str)} {W W' : Wd} {H H' : Hp} (e : Ext W H W' H') (o' : OkW T W' H') {b : Addr} (f : Fr H' b) : Fr H b := fun o h => by
  by_cases hd : W.D b
  · obtain ⟨_, _, _, h1, _⟩ := o'.draw b (e.le.D b hd)
    obtain ⟨ps, z⟩ := f _ h1
    cases z
  · cases o with
    | tbl ps => exact ⟨ps, rfl⟩
    | _ =>
      obtain ⟨ps, z⟩ := f _ (e.keep b _ h hd (by intro ps z; cases z))
      cases z
theorem Ext.trans {T : List (Addr × Str)} {W W1 W2 : Wd} {H H1 H2 : Hp} (a : Ext W H W1 H1) (b : Ext W1 H1 W2 H2) (o1 : OkW T W1 H1) : Ext W H W2 H2 where
  le := a.le.trans b.le
  keep := fun c o h hd hn => by
    refine b.keep c o (a.keep c o h hd hn) (fun z => ?_) hn
    rcases a.newD c z with z | z
    · exact hd z
    · obtain ⟨ps, q⟩ := z _ h
      exact hn ps q
  newS := fun c o h => by
    rcases b.newS c o h with h | h
    · exact a.newS c o h
    · exact .inr (a.fr o1 h)
  newD := fun c h => by
    rcases b.newD c h with h | h
    · exact a.newD c h
    · exact .inr (a.fr o1 h)
  newN := fun c h => by
    rcases b.newN c h with h | h
    · exact a.newN c h
    · exact .inr (a.fr o1 h)
/-- the heap grows or changes away from the world -/
theorem OkW.heap {T : List (Addr × Str)} {W : Wd} {H : Hp} {p : Addr} {o : HO} (ok : OkW T W H) (hS : W.S p = none) (hD : ¬ W.D p) (hN : ¬ W.N p) (hT : ∀ u, H p = some u → (∀ ps, u ≠ .tbl ps) ∧ ∀ q, u ≠ LamX.CodeO p q) : OkW T W (upd H p o) := by
  have ne : ∀ b u, W.S b = some u → b ≠ p := fun b u e z => by
    rw [z, hS] at e
    cases e
  have neD : ∀ b, W.D b → b ≠ p := fun b e z => hD (by rw [← z]; exact e)
  have neN : ∀ b, W.N b → b ≠ p := fun b e z => hN (by rw [← z]; exact e)
  refine ⟨fun b u e => ?_, ok.not, ok.dS, ok.dN, fun b d => ?_, fun b n => ?_, fun q hq => ?_⟩
  · rw [upd_ne (ne b u e)]
    exact ok.sub b u e
  · obtain ⟨w, c, n, h1, h2⟩ := ok.draw b d
    refine ⟨w, c, n, ?_, h2⟩
    rw [upd_ne (neD b d)]
    exact h1
  · obtain ⟨vs, h0, h⟩ := ok.nLst b n
    exact ⟨vs, h0, by rw [upd_ne (neN b n)]; exact h⟩
  · obtain ⟨ps, a1, a2, a3⟩ := ok.tabs q hq
    have n1 : q.1 ≠ p := fun z => (hT _ (by rw [← z]; exact a1)).1 ps rfl
    refine ⟨ps, by rw [upd_ne n1]; exact a1, a2, fun pos cv hc => ?_⟩
    obtain ⟨c, e1, e2⟩ := a3 pos cv hc
    have n2 : c ≠ p := fun z => by
      rw [z] at e2
      exact (hT _ e2).2 q.2 rfl
    exact ⟨c, e1, by rw [upd_ne n2]; exact e2⟩
/-- what is there already stands still from now on -/
theorem OkW.track {T : List (Addr × Str)} {W : Wd} {H : Hp} {p : Addr} {o : HO} (ok : OkW T W H) (h : H p = some o) (hD : ¬ W.D p) (hn : ∀ ps, o ≠ .tbl ps) : OkW T (W.add p o) H where
  sub := fun b u e => by
    by_cases hb : b = p
    · subst hb
      rw [h]
      exact (upd_same (H := W.S)).symm.trans e
    · exact ok.sub b u ((upd_ne (H := W.S) hb).symm.trans e)
  not := fun b ps e => by
    by_cases hb : b = p
    · subst hb
      have z := (upd_same (H := W.S)).symm.trans e
      exact hn ps (Option.some.inj z)
    · exact ok.not b ps ((upd_ne (H := W.S) hb).symm.trans e)
  dS := fun b d => by
    have z : b ≠ p := fun z => hD (by rw [← z]; exact d)
    exact (upd_ne (H := W.S) z).trans (ok.dS b d)
  dN := ok.dN
  draw := ok.draw
  nLst := ok.nLst
  tabs := ok.tabs
/-- a new object, that stands still from now on -/
theorem OkW.new0 {T : List (Addr × Str)} {W : Wd} {H : Hp} {p : Addr} {o : HO} (ok : OkW T W H) (h : H p = none) : OkW T W (upd H p o) := by
  refine ok.heap ?_ (fun d => ?_) (fun n => ?_) fun u e => ?_
  · cases q : W.S p with
    | none => rfl
    | some u =>
      have z := ok.sub _ _ q
      rw [h] at z
      cases z
  · obtain ⟨_, _, _, h1, _⟩ := ok.draw p d
    rw [h] at h1
    cases h1
  · obtain ⟨vs, _, h1⟩ := ok.nLst p n
    rw [h] at h1
    cases h1
  · rw [h] at e
    cases e
theorem OkW.new {T : List (Addr × Str)} {W : Wd} {H : Hp} {p : Addr} {o : HO} (ok : OkW T W H) (h : H p = none) (hn : ∀ ps, o ≠ .tbl ps) : OkW T (W.add p o) (upd H p o) := by
  refine (ok.new0 h).track upd_same (fun d => ?_) hn
  obtain ⟨_, _, _, h1, _⟩ := ok.draw p d
  rw [h] at h1
  cases h1
theorem Ext.new0 {W : Wd} {H : Hp} {p : Addr} {o : HO} (h : H p = none) : Ext W H W (upd H p o) :=
  ⟨.refl W, fun b u e _ _ => by rw [upd_ne (ne_of_none e h)]; exact e, fun _ _ h => .inl h, fun _ h => .inl h, fun _ h => .inl h⟩
theorem Ext.new {T : List (Addr × Str)} {W : Wd} {H : Hp} {p : Addr} {o : HO} (ok : OkW T W H) (h : H p = none) : Ext W H (W.add p o) (upd H p o) where
  le := ⟨fun b u e => by
    have z : b ≠ p := ne_of_none (ok.sub b u e) h
    exact (upd_ne (H := W.S) z).trans e, fun _ d => d, fun _ d => d⟩
  keep := fun b u e _ _ => by
    rw [upd_ne (ne_of_none e h)]
    exact e
  newS := fun b u e => by
    by_cases hb : b = p
    · subst hb
      exact .inr (.of h)
    · exact .inl ((upd_ne (H := W.S) hb).symm.trans e)
  newD := fun _ d => .inl d
  newN := fun _ d => .inl d
theorem Wd.add_same {W : Wd} {p : Addr} {o : HO} : (W.add p o).S p = some o := upd_same
theorem Wd.Le.add {W : Wd} {p : Addr} {o : HO} (h : W.S p = none) : W.Le (W.add p o) := ⟨fun b u e => (upd_ne (H := W.S) (fun z => by rw [z, h] at e; cases e)).trans e, fun _ d => d, fun _ d => d⟩

/-! ### environments -/
inductive SV where
  | val (p : PV) | own (xs : List PV) | ownD (kvs : List (Key × PV)) | lckD (kvs : List (Key × PV))
def SV.isOwn : SV → Bool
  | .val _ => false
  | .lckD _ => false
  | _ => true
abbrev PEnv := List (Option SV)
def RepS (K : PySem.W.Frag) (B : Hp) (W : Wd) (H : Hp) : SV → V → Prop
  | .val p, v => Rep K W p v
  | .own xs, v => ∃ a vs, v = .ref a ∧ Fr B a ∧ W.S a = none ∧ ¬ W.D a ∧ ¬ W.N a ∧ H a = some (.lst vs) ∧ RepL K W xs vs
  | .ownD xs, v => ∃ a vs, v = .ref a ∧ Fr B a ∧ W.S a = none ∧ ¬ W.D a ∧ ¬ W.N a ∧ H a = some (.dK vs) ∧ RepK K W xs vs
  | .lckD xs, v => ∃ a vs od, v = .ref a ∧ W.S a = some (.frz od (.dK vs)) ∧ RepK K W xs vs
structure EnvR (K : PySem.W.Frag) (B : Hp) (W : Wd) (H : Hp) (σ : L2.St) (ρ : PEnv) : Prop where
  len : ρ.length = σ.length
  at_ : ∀ (i : Nat) (sv : SV), ρ[i]? = some (some sv) → ∃ v, σ[i]? = some (some v) ∧ RepS K B W H sv v
  sep : ∀ (i j : Nat) (si sj : SV) (v : V), i ≠ j → ρ[i]? = some (some si) → ρ[j]? = some (some sj) → si.isOwn = true → sj.isOwn = true → σ[i]? = some (some v) → σ[j]? = some (some v) → False
theorem RepS.ext {K : PySem.W.Frag} {B : Hp} {W W' : Wd} {H H' : Hp} (e : Ext W H W' H') {sv : SV} {v : V} (r : RepS K B W H sv v) : RepS K B W' H' sv v := by
  have aux : ∀ (a : Addr) (o : HO), (∀ ps, o ≠ .tbl ps) → H a = some o → W.S a = none → ¬ W.D a → ¬ W.N a → W'.S a = none ∧ ¬ W'.D a ∧ ¬ W'.N a ∧ H' a = some o := fun a o hn h3 h1 h2 hN => by
    refine ⟨?_, fun q => ?_, fun q => ?_, e.keep a _ h3 h2 hn⟩
    · cases q : W'.S a with
      | none => rfl
      | some o =>
        rcases e.newS a o q with z | z
        · rw [h1] at z
          cases z
        · exact (z.no h3 hn).elim
    · rcases e.newD a q with z | z
      · exact h2 z
      · exact z.no h3 hn
    · rcases e.newN a q with z | z
      · exact hN z
      · exact z.no h3 hn
  cases sv with
  | val p => exact Rep.le e.le r
  | own xs =>
    obtain ⟨a, vs, rfl, hB, h1, h2, hN, h3, h4⟩ := r
    obtain ⟨q1, q2, q3, q4⟩ := aux a _ (by intro ps z; cases z) h3 h1 h2 hN
    exact ⟨a, vs, rfl, hB, q1, q2, q3, q4, h4.le e.le⟩
  | ownD xs =>
    obtain ⟨a, vs, rfl, hB, h1, h2, hN, h3, h4⟩ := r
    obtain ⟨q1, q2, q3, q4⟩ := aux a _ (by intro ps z; cases z) h3 h1 h2 hN
    exact ⟨a, vs, rfl, hB, q1, q2, q3, q4, h4.le e.le⟩
  | lckD xs =>
    obtain ⟨a, vs, od, rfl, h1, h2⟩ := r
    exact ⟨a, vs, od, rfl, e.le.S _ _ h1, h2.le e.le⟩
theorem EnvR.ext {K : PySem.W.Frag} {B : Hp} {W W' : Wd} {H H' : Hp} {σ : L2.St} {ρ : PEnv} (g : EnvR K B W H σ ρ) (e : Ext W H W' H') : EnvR K B W' H' σ ρ :=
  ⟨g.len, fun i sv h => by
    obtain ⟨v, h1, h2⟩ := g.at_ i sv h
    exact ⟨v, h1, h2.ext e⟩, g.sep⟩
theorem set_lt {α : Type} {l : List (Option α)} {i j : Nat} {x y : α} (h : (l.set i (some x))[j]? = some (some y)) : (j = i ∧ i < l.length ∧ y = x) ∨ (j ≠ i ∧ l[j]? = some (some y)) := by
  by_cases e : i = j
  · subst e
    by_cases hl : i < l.length
    · rw [List.getElem?_set_self hl] at h
      exact .inl ⟨rfl, hl, (Option.some.inj (Option.some.inj h)).symm⟩
    · rw [List.getElem?_eq_none (by simpa using hl)] at h
      cases h
  · rw [List.getElem?_set_ne e] at h
    exact .inr ⟨fun z => e z.symm, h⟩
/-- a plain value stored -/
theorem EnvR.setN {K : PySem.W.Frag} {B : Hp} {W : Wd} {H : Hp} {σ : L2.St} {ρ : PEnv} {i : Nat} {sv : SV} {v : V} (ho : sv.isOwn = false) (g : EnvR K B W H σ ρ) (r : RepS K B W H sv v) : EnvR K B W H (σ.set i (some v)) (ρ.set i (some sv)) where
  len := by rw [List.length_set, List.length_set, g.len]
  at_ := fun j sv h => by
    rcases set_lt h with ⟨rfl, hl, rfl⟩ | ⟨hj, h⟩
    · exact ⟨v, by rw [List.getElem?_set_self (by rw [← g.len]; exact hl)], r⟩
    · obtain ⟨u, h1, h2⟩ := g.at_ j sv h
      exact ⟨u, by rw [List.getElem?_set_ne (fun z => hj z.symm)]; exact h1, h2⟩
  sep := fun j k sj sk u hjk h1 h2 o1 o2 e1 e2 => by
    rcases set_lt h1 with ⟨rfl, hl, rfl⟩ | ⟨hj, h1⟩
    · rw [ho] at o1
      cases o1
    · rcases set_lt h2 with ⟨rfl, hl, rfl⟩ | ⟨hk, h2⟩
      · rw [ho] at o2
        cases o2
      · rw [List.getElem?_set_ne (fun z => hj z.symm)] at e1
        rw [List.getElem?_set_ne (fun z => hk z.symm)] at e2
        exact g.sep j k sj sk u hjk h1 h2 o1 o2 e1 e2
theorem EnvR.set {K : PySem.W.Frag} {B : Hp} {W : Wd} {H : Hp} {σ : L2.St} {ρ : PEnv} {i : Nat} {p : PV} {v : V} (g : EnvR K B W H σ ρ) (r : Rep K W p v) : EnvR K B W H (σ.set i (some v)) (ρ.set i (some (.val p))) := g.setN rfl r
/-- what an environment forgets -/
theorem EnvR.drop {K : PySem.W.Frag} {B : Hp} {W : Wd} {H : Hp} {σ : L2.St} {ρ ρ' : PEnv} (g : EnvR K B W H σ ρ) (hl : ρ'.length = ρ.length) (h : ∀ (i : Nat) (sv : SV), ρ'[i]? = some (some sv) → ρ[i]? = some (some sv)) : EnvR K B W H σ ρ' :=
  ⟨hl.trans g.len, fun i sv q => g.at_ i sv (h i sv q), fun i j si sj v hij h1 h2 => g.sep i j si sj v hij (h i si h1) (h j sj h2)⟩

/-! ### contexts, readings -/
/-- an exception, pure -/
structure PX where
  C : Addr
  fs : List (Str × PV)
def RepX (K : PySem.W.Frag) (W : Wd) (x : PX) (cls : Value) (d : Option Addr) : Prop :=
  cls = .ref x.C ∧ ((d = none ∧ x.fs = []) ∨ ∃ (a : Addr) (vs : List (Str × V)), d = some a ∧ x.fs ≠ [] ∧ W.S a = some (.xd vs) ∧ RepF K W x.fs vs)
/-- a body's entry -/
structure Ct where
  W : Wd
  H : Hp
  E : XK
  Ep : PX → Prop
structure Good (K : PySem.W.Frag) (T : List (Addr × Str)) (C : Ct) (W : Wd) (σ : L2.St) (H : Hp) (ρ : PEnv) : Prop where
  ok : OkW T W H
  env : EnvR K C.H W H σ ρ
  ext : Ext C.W C.H W H
  exc : ∀ cls d H' W' x, Ext C.W C.H W' H' → OkW T W' H' → RepX K W' x cls d → C.Ep x → C.E cls d H'
section
variable {K : PySem.W.Frag} {T : List (Addr × Str)} {C : Ct} {W W' : Wd} {σ σ' : L2.St} {H H' : Hp} {ρ ρ' : PEnv}
theorem Good.to (g : Good K T C W σ H ρ) (e : Ext W H W' H') (o : OkW T W' H') : Good K T C W' σ H' ρ := ⟨o, g.env.ext e, g.ext.trans e g.ok, g.exc⟩
theorem Good.envTo (g : Good K T C W σ H ρ) (e : EnvR K C.H W H σ' ρ') : Good K T C W σ' H ρ' := ⟨g.ok, e, g.ext, g.exc⟩
end

abbrev PK := PV → Prop
abbrev PP := PEnv → PK → Prop
abbrev PPT := PEnv → (Bool → Prop) → Prop
abbrev PPA := PEnv → (List PV → Prop) → Prop
section
variable (K : PySem.W.Frag) (T : List (Addr × Str)) (C : Ct)
/-- what follows a pure value -/
def Aft (W : Wd) (H : Hp) (R : PK) (Q : VK) : Prop := ∀ v H' W' p, Ext W H W' H' → OkW T W' H' → Rep K W' p v → R p → Q v H'
def up (p : PP) : TE := fun σ H Q => ∃ W ρ R, Good K T C W σ H ρ ∧ p ρ R ∧ Aft K T W H R Q
def upT (p : PPT) : TT := fun σ H Q => ∃ W ρ R, Good K T C W σ H ρ ∧ p ρ R ∧ ∀ b H' W', Ext W H W' H' → OkW T W' H' → R b → Q b H'
def upA (n : Nat) (p : PPA) : TA := fun σ H Q => ∃ W ρ R, Good K T C W σ H ρ ∧ p ρ R ∧ ∀ vs H' W' xs, Ext W H W' H' → OkW T W' H' → RepL K W' xs vs → xs.length = n → R xs → Q vs H'
end
end Pu

/-! The pure layer, part B: expressions. -/
namespace Pu
open PySem L2

def gt : PEnv → Nat → Option SV
  | [], _ => none
  | x :: _, 0 => x
  | _ :: r, n + 1 => gt r n
theorem gt_get : ∀ {ρ : PEnv} {i : Nat} {sv : SV}, gt ρ i = some sv → ρ[i]? = some (some sv)
  | [], _, _, h => by cases h
  | x :: _, 0, _, h => by
    have e : x = _ := h
    rw [e]
    rfl
  | _ :: r, n + 1, _, h => by
    have q := gt_get (ρ := r) (i := n) h
    simpa using q

section
variable {X : Cx} {T : List (Addr × Str)} {C : Ct} {e a b c : Expr} {es : List Expr} {te te' : TE} {pos : Pos} {p q r : PP} {n : Nat}
theorem PE.weak (h : PE X e te) (k : ∀ σ H Q, te' σ H Q → te σ H Q) : PE X e te' := ⟨fun pins s σ H Q I w => h.run pins s σ H Q I (k σ H Q w)⟩
theorem PT.weak {te te' : TT} (h : PT X e te) (k : ∀ σ H Q, te' σ H Q → te σ H Q) : PT X e te' := ⟨fun pins s σ H Q I w => h.run pins s σ H Q I (k σ H Q w)⟩
theorem PA.weak {te te' : TA} (h : PA X es te) (k : ∀ σ H Q, te' σ H Q → te σ H Q) : PA X es te' := ⟨fun pos pins s σ H Q I w => h.run pos pins s σ H Q I (k σ H Q w)⟩

/-! ### names, constants -/
def pVar (i : Nat) : PP := fun ρ R => match gt ρ i with
  | some (.val x) => R x
  | _ => False
theorem le_var (i : Nat) (h : PE X e (tVar i)) : PE X e (up X.K T C (pVar i)) := PE.weak h fun σ H Q ⟨W, ρ, R, g, w, k⟩ => by
  unfold pVar at w
  split at w
  · rename_i x hx
    obtain ⟨v, h1, h2⟩ := g.env.at_ i _ (gt_get hx)
    exact ⟨v, h1, k v H W x (.refl W H) g.ok h2 w⟩
  · exact w.elim
def pC (x : PV) : PP := fun _ R => R x
theorem le_c {v : V} {x : PV} (h : PE X e (tC v)) (r : ∀ W, Rep X.K W x v) : PE X e (up X.K T C (pC x)) := PE.weak h fun σ H Q ⟨W, ρ, R, g, w, k⟩ => k v H W x (.refl W H) g.ok (r W) w
theorem le_int {i : Int} {j pos} : PE X (.Constant (.int i) j pos) (up X.K T C (pC (.int i))) := le_c pe_int fun _ => .int i
theorem le_bl {i : Bool} {j pos} : PE X (.Constant (.bool i) j pos) (up X.K T C (pC (.bl i))) := le_c pe_bl fun _ => .bl i
theorem le_non {j pos} : PE X (.Constant .none j pos) (up X.K T C (pC .non)) := le_c pe_non fun _ => .non
theorem le_str {x : Str} {j pos} : PE X (.Constant (.str x) j pos) (up X.K T C (pC (.str x))) := le_c pe_str fun _ => .str x
theorem le_ref {a : Addr} (h : PE X e (tC (.ref a))) : PE X e (up X.K T C (pC (.ref a))) := le_c h fun _ => .ref a
theorem le_ty {a : Ty} (h : PE X e (tC (.ty a.name))) : PE X e (up X.K T C (pC (.ty a))) := le_c h fun _ => .ty a

/-! ### two-place operations -/
abbrev PF2 := PV → PV → PK → Prop
def RB (K : PySem.W.Frag) (T : List (Addr × Str)) (r : R2) (f : PF2) : Prop := ∀ W H x y px py R Q, OkW T W H → Rep K W px x → Rep K W py y → f px py R → Aft K T W H R Q → r x y H Q
def pOp (f : PF2) (p q : PP) : PP := fun ρ R => p ρ fun x => q ρ fun y => f x y R
theorem Aft.pre {K : PySem.W.Frag} {W W' : Wd} {H H' : Hp} {R : PK} {Q : VK} (k : Aft K T W H R Q) (e : Ext W H W' H') (o : OkW T W' H') : Aft K T W' H' R Q :=
  fun v H2 W2 p e2 o2 r h => k v H2 W2 p (e.trans e2 o) o2 r h
theorem up_op {r : R2} {f : PF2} {ta tb : TE} (hr : RB X.K T r f) (ka : ∀ σ H Q, up X.K T C p σ H Q → ta σ H Q) (kb : ∀ σ H Q, up X.K T C q σ H Q → tb σ H Q) : ∀ σ H Q, up X.K T C (pOp f p q) σ H Q → tOp r ta tb σ H Q :=
  fun σ H Q ⟨W, ρ, R, g, w, k⟩ => ka _ _ _ ⟨W, ρ, _, g, w, fun x H1 W1 px e1 o1 r1 h1 => kb _ _ _ ⟨W1, ρ, _, g.to e1 o1, h1, fun y H2 W2 py e2 o2 r2 h2 =>
    hr W2 H2 x y px py R Q o2 (r1.le e2.le) r2 h2 ((k.pre e1 o1).pre e2 o2)⟩⟩
theorem le_op {op : Operator} {r : R2} {f : PF2} (ho : OpR X (binaryOp op) r) (hr : RB X.K T r f) (ha : PE X a (up X.K T C p)) (hb : PE X b (up X.K T C q)) : PE X (.BinOp a op b pos) (up X.K T C (pOp f p q)) :=
  PE.weak (pe_op ho ha hb) (up_op hr (fun _ _ _ h => h) fun _ _ _ h => h)
theorem le_cmp {op : CmpOp} {r : R2} {f : PF2} (ho : OpR X (compareOp op) r) (hr : RB X.K T r f) (ha : PE X a (up X.K T C p)) (hb : PE X b (up X.K T C q)) (hm : behindInMarks op b = false) : PE X (.Compare a [op] [b] pos) (up X.K T C (pOp f p q)) :=
  PE.weak (pe_cmpR ho ha hb hm) (up_op hr (fun _ _ _ h => h) fun _ _ _ h => h)
/-- a value that is a bool, as a test's answer -/
def pBool (p : PP) : PPT := fun ρ R => p ρ fun x => match x with
  | .bl k => R k
  | _ => False
theorem up_bool {t : TE} (k : ∀ σ H Q, up X.K T C p σ H Q → t σ H Q) : ∀ σ H Q, upT X.K T C (pBool p) σ H Q → tTest t σ H Q :=
  fun σ H Q ⟨W, ρ, R, g, w, kk⟩ => k _ _ _ ⟨W, ρ, _, g, w, fun x H1 W1 px e1 o1 r1 h1 => by
    cases px <;> first | exact h1.elim | skip
    cases r1
    exact ⟨_, rfl, kk _ H1 W1 e1 o1 h1⟩⟩
theorem lt_cmp {op : CmpOp} {r : R2} {f : PF2} (ho : OpR X (compareOp op) r) (hr : RB X.K T r f) (ha : PE X a (up X.K T C p)) (hb : PE X b (up X.K T C q)) (hm : behindInMarks op b = false) : PT X (.Compare a [op] [b] pos) (upT X.K T C (pBool (pOp f p q))) :=
  PT.weak (pt_cmpR ho ha hb hm) (up_bool (up_op hr (fun _ _ _ h => h) fun _ _ _ h => h))
theorem lt_val (h : PE X e (up X.K T C p)) (he : ∀ whole, isTrue e X.env whole = (do let v ← whole; standAt e.pos; holding [v] (truthy v)) := by intro _; rfl) : PT X e (upT X.K T C (pBool p)) :=
  PT.weak (pt_val h he) (up_bool fun _ _ _ h => h)

def fAdd : PF2 := fun x y R => match x, y with
  | .int i, .int j => R (.int (i + j))
  | .str i, .str j => i.length + j.length ≤ sizeLine ∧ R (.str (i ++ j))
  | .lst xs, .lst ys => xs.length + ys.length ≤ sizeLine ∧ R (.lst (xs ++ ys))
  | .tup xs, .tup ys => xs.length + ys.length ≤ sizeLine ∧ R (.tup (xs ++ ys))
  | _, _ => False
def rAddP (K : PySem.W.Frag) : R2 := fun x y H Q => rI0 (fun i j => .int (i + j)) x y H Q ∨ (∃ i j, x = .str i ∧ y = .str j ∧ i.length + j.length ≤ sizeLine ∧ Q (.str (i ++ j)) H) ∨ rCat x y H Q ∨ rCatA K x y H Q
theorem or_add : OpR X (binaryOp .Add) (rAddP X.K) := op_add.or (op_add_str.or (op_cat.or op_catA))
theorem Aft.newL {K : PySem.W.Frag} {W : Wd} {H : Hp} {R : PK} {Q : VK} (k : Aft K T W H R Q) (o : OkW T W H) {xs : List PV} {vs : List V} (r : RepL K W xs vs) (h : R (.lst xs)) : ∀ a, H a = none → Q (.ref a) (upd H a (.lst vs)) := fun a ha =>
  k _ _ (W.add a (.lst vs)) _ (.new o ha) (o.new ha (by intro ps z; cases z)) (.lst Wd.add_same (r.le (Ext.new o ha).le)) h
theorem Aft.newT {K : PySem.W.Frag} {W : Wd} {H : Hp} {R : PK} {Q : VK} (k : Aft K T W H R Q) (o : OkW T W H) {xs : List PV} {vs : List V} (r : RepL K W xs vs) (h : R (.tup xs)) : ∀ a, H a = none → Q (.ref a) (upd H a (.tup vs)) := fun a ha =>
  k _ _ (W.add a (.tup vs)) _ (.new o ha) (o.new ha (by intro ps z; cases z)) (.tup (.inl (.inl Wd.add_same)) (r.le (Ext.new o ha).le)) h
theorem Aft.now {K : PySem.W.Frag} {W : Wd} {H : Hp} {R : PK} {Q : VK} (k : Aft K T W H R Q) (o : OkW T W H) {x : PV} {v : V} (r : Rep K W x v) (h : R x) : Q v H := k v H W x (.refl W H) o r h
theorem OkW.tup {K : PySem.W.Frag} {W : Wd} {H : Hp} (o : OkW T W H) {a : Addr} {vs : List V} (h : SqT K W.S a vs) : SqT K H a vs := by
  rcases h with (h | ⟨u, h⟩) | h
  · exact .inl (.inl (o.sub _ _ h))
  · exact .inl (.inr ⟨u, o.sub _ _ h⟩)
  · exact .inr h
theorem OkW.lst {K : PySem.W.Frag} {W : Wd} {H : Hp} (o : OkW T W H) {a : Addr} {vs : List V} (h : SqL K W.S a vs) : SqL K H a vs := by
  rcases h with (h | ⟨u, h⟩) | h
  · exact .inl (.inl (o.sub _ _ h))
  · exact .inl (.inr ⟨u, o.sub _ _ h⟩)
  · exact .inr h
theorem rb_add {K : PySem.W.Frag} : RB K T (rAddP K) fAdd := by
  intro W H x y px py R Q o rx ry h k
  unfold fAdd at h
  split at h
  · cases rx; cases ry
    exact .inl ⟨_, _, rfl, rfl, k.now o (.int _) h⟩
  · cases rx; cases ry
    exact .inr (.inl ⟨_, _, rfl, rfl, h.1, k.now o (.str _) h.2⟩)
  · cases rx with
    | lst h1 r1 =>
      cases ry with
      | lst h2 r2 =>
        refine .inr (.inr (.inl ⟨_, _, _, _, rfl, rfl, o.sub _ _ h1, o.sub _ _ h2, ?_, k.newL o (r1.append r2) h.2⟩))
        rw [r1.length, r2.length]
        exact h.1
  · cases rx with
    | tup h1 r1 =>
      cases ry with
      | tup h2 r2 =>
        refine .inr (.inr (.inr ⟨_, _, _, _, rfl, rfl, o.tup h1, o.tup h2, ?_, fun e => ?_, fun _ e => ?_, fun _ _ => k.newT o (r1.append r2) h.2⟩))
        · rw [r1.length, r2.length]
          exact h.1
        · subst e
          cases r1
          exact k.now o (.tup h2 r2) h.2
        · subst e
          cases r2
          refine k.now o (.tup h1 r1) ?_
          have z := h.2
          rw [List.append_nil] at z
          exact z
  · exact h.elim
def fSub : PF2 := fun x y R => match x, y with
  | .int i, .int j => R (.int (i - j))
  | _, _ => False
theorem rb_sub {K : PySem.W.Frag} : RB K T (rI0 fun i j => .int (i - j)) fSub := by
  intro W H x y px py R Q o rx ry h k
  unfold fSub at h
  split at h
  · cases rx; cases ry
    exact ⟨_, _, rfl, rfl, k.now o (.int _) h⟩
  · exact h.elim
def fMul : PF2 := fun x y R => match x, y with
  | .int i, .int j => IntMulOk i j ∧ R (.int (i * j))
  | .lst xs, .int j => (-(2 ^ 62) ≤ j ∧ j < 2 ^ 62 ∧ xs.length * j.toNat ≤ sizeLine) ∧ R (.lst (List.replicate j.toNat xs).flatten)
  | _, _ => False
def rMulP : R2 := fun x y H Q => rI IntMulOk (fun i j => .int (i * j)) x y H Q ∨ rRep x y H Q
theorem or_mulI : OpR X (binaryOp .Mult) (rI IntMulOk fun i j => .int (i * j)) := opI fun _ _ _ _ _ _ _ hc q => PyProof.Rows.mul_int q hc
theorem or_mul : OpR X (binaryOp .Mult) rMulP := or_mulI.or op_rep
theorem RepL.rep {K : PySem.W.Frag} {W : Wd} {xs : List PV} {vs : List V} (r : RepL K W xs vs) : ∀ n : Nat, RepL K W (List.replicate n xs).flatten (List.replicate n vs).flatten
  | 0 => .nil
  | n + 1 => by
    rw [List.replicate_succ, List.replicate_succ, List.flatten_cons, List.flatten_cons]
    exact r.append (RepL.rep r n)
theorem rb_mul {K : PySem.W.Frag} : RB K T rMulP fMul := by
  intro W H x y px py R Q o rx ry h k
  unfold fMul at h
  split at h
  · cases rx; cases ry
    exact .inl ⟨_, _, rfl, rfl, h.1, k.now o (.int _) h.2⟩
  · rename_i xs j
    obtain ⟨⟨h1, h2, h3⟩, h4⟩ := h
    cases ry
    cases rx with
    | lst hl r1 =>
      refine .inr ⟨_, _, _, rfl, rfl, o.sub _ _ hl, by omega, by omega, ?_, ?_⟩
      · rw [r1.length]
        exact h3
      · exact k.newL o (r1.rep _) h4
  · exact h.elim
def fDiv : PF2 := fun x y R => match x, y with
  | .int i, .int j => CDivW i j ∧ R (.int (i / j))
  | _, _ => False
theorem rb_div {K : PySem.W.Frag} : RB K T (rI CDivW fun i j => .int (i / j)) fDiv := by
  intro W H x y px py R Q o rx ry h k
  unfold fDiv at h
  split at h
  · cases rx; cases ry
    exact ⟨_, _, rfl, rfl, h.1, k.now o (.int _) h.2⟩
  · exact h.elim
def fMod : PF2 := fun x y R => match x, y with
  | .int i, .int j => 0 < j ∧ R (.int (i % j))
  | _, _ => False
theorem rb_mod {K : PySem.W.Frag} : RB K T (rI (fun _ j => 0 < j) fun i j => .int (i % j)) fMod := by
  intro W H x y px py R Q o rx ry h k
  unfold fMod at h
  split at h
  · cases rx; cases ry
    exact ⟨_, _, rfl, rfl, h.1, k.now o (.int _) h.2⟩
  · exact h.elim
def fPow : PF2 := fun x y R => match x, y with
  | .int i, .int j => CPow i j ∧ R (.int (i ^ j.toNat))
  | _, _ => False
theorem rb_pow {K : PySem.W.Frag} : RB K T (rI CPow fun i j => .int (i ^ j.toNat)) fPow := by
  intro W H x y px py R Q o rx ry h k
  unfold fPow at h
  split at h
  · cases rx; cases ry
    exact ⟨_, _, rfl, rfl, h.1, k.now o (.int _) h.2⟩
  · exact h.elim
def fCmp (f : Int → Int → Bool) : PF2 := fun x y R => match x, y with
  | .int i, .int j => R (.bl (f i j))
  | _, _ => False
theorem rb_cmp {K : PySem.W.Frag} {f : Int → Int → Bool} : RB K T (rI0 fun i j => .bl (f i j)) (fCmp f) := by
  intro W H x y px py R Q o rx ry h k
  unfold fCmp at h
  split at h
  · cases rx; cases ry
    exact ⟨_, _, rfl, rfl, k.now o (.bl _) h⟩
  · exact h.elim
abbrev fLt : PF2 := fCmp fun i j => decide (i < j)
abbrev fLe : PF2 := fCmp fun i j => decide (i ≤ j)
abbrev fGt : PF2 := fCmp fun i j => decide (j < i)
abbrev fGe : PF2 := fCmp fun i j => decide (j ≤ i)
/-- is None, is not None -/
def fIsN : PF2 := fun x y R => match y with
  | .non => R (.bl (match x with
    | .non => true
    | _ => false))
  | _ => False
def fNotN : PF2 := fun x y R => match y with
  | .non => R (.bl (match x with
    | .non => false
    | _ => true))
  | _ => False
theorem rb_isN {K : PySem.W.Frag} : RB K T (fun x y H Q => y = .non ∧ Q (.bl (decide (x = .non))) H) fIsN := by
  intro W H x y px py R Q o rx ry h k
  unfold fIsN at h
  split at h
  · cases ry
    refine ⟨rfl, ?_⟩
    cases rx <;> exact k.now o (.bl _) h
  · exact h.elim
theorem rb_notN {K : PySem.W.Frag} : RB K T (fun x y H Q => y = .non ∧ Q (.bl (!decide (x = .non))) H) fNotN := by
  intro W H x y px py R Q o rx ry h k
  unfold fNotN at h
  split at h
  · cases ry
    refine ⟨rfl, ?_⟩
    cases rx <;> exact k.now o (.bl _) h
  · exact h.elim

/-! ### == of data -/
mutual
def toD : PV → Option PyData
  | .non => some .none
  | .bl b => some (.bool b)
  | .int i => some (.int i)
  | .str x => if PyData.strOk x then some (.str x) else none
  | .lst xs => (toDs xs).map .list
  | .tup xs => (toDs xs).map .tuple
  | _ => none
def toDs : List PV → Option (List PyData)
  | [] => some []
  | x :: xs => (toD x).bind fun d => (toDs xs).map (d :: ·)
end
mutual
theorem dp_of {K : PySem.W.Frag} {W : Wd} {H : Hp} (o : OkW T W H) : ∀ {x : PV} {v : V} {d : PyData}, Rep K W x v → toD x = some d → Dp K H v d
  | _, _, _, .non, h => by
    unfold toD at h
    cases h
    exact .non
  | _, _, _, .bl b, h => by
    unfold toD at h
    cases h
    exact .bl b
  | _, _, _, .int i, h => by
    unfold toD at h
    cases h
    exact .int i
  | _, _, _, .str x, h => by
    unfold toD at h
    split at h
    · cases h
      exact .str x
    · cases h
  | _, _, _, .lst h1 r, h => by
    unfold toD at h
    obtain ⟨ds, e1, e2⟩ := Option.map_eq_some_iff.mp h
    subst e2
    exact .lst (.of (o.sub _ _ h1)) (dps_of o r e1)
  | _, _, _, .tup h1 r, h => by
    unfold toD at h
    obtain ⟨ds, e1, e2⟩ := Option.map_eq_some_iff.mp h
    subst e2
    exact .tup (o.tup h1) (dps_of o r e1)
  | _, _, _, .dic _ _, h => by
    unfold toD at h
    cases h
  | _, _, _, .scr _, h => by
    unfold toD at h
    cases h
  | _, _, _, .drw _, h => by
    unfold toD at h
    cases h
  | _, _, _, .cel _, h => by
    unfold toD at h
    cases h
  | _, _, _, .exc _, h => by
    unfold toD at h
    cases h
  | _, _, _, .excD _ _ _ _, h => by
    unfold toD at h
    cases h
  | _, _, _, .ref _, h => by
    unfold toD at h
    cases h
  | _, _, _, .ty _, h => by
    unfold toD at h
    cases h
theorem dps_of {K : PySem.W.Frag} {W : Wd} {H : Hp} (o : OkW T W H) : ∀ {x : List PV} {v : List V} {d : List PyData}, RepL K W x v → toDs x = some d → DpAll K H v d
  | _, _, _, .nil, h => by
    unfold toDs at h
    cases h
    exact .nil
  | _, _, _, .cons h1 r, h => by
    unfold toDs at h
    obtain ⟨d, e1, e2⟩ := Option.bind_eq_some_iff.mp h
    obtain ⟨ds, e3, e4⟩ := Option.map_eq_some_iff.mp e2
    subst e4
    exact .cons (dp_of o h1 e1) (dps_of o r e3)
end
mutual
def peq : PV → PV → Bool
  | .non, .non => true
  | .bl a, .bl b => a == b
  | .bl a, .int j => (if a then 1 else 0) == j
  | .int i, .bl b => i == (if b then 1 else 0)
  | .int i, .int j => i == j
  | .str x, .str y => x == y
  | .lst xs, .lst ys => peqs xs ys
  | .tup xs, .tup ys => peqs xs ys
  | _, _ => false
def peqs : List PV → List PV → Bool
  | [], [] => true
  | x :: xs, y :: ys => peq x y && peqs xs ys
  | _, _ => false
end
mutual
theorem eqv_peq : ∀ {x y : PV} {d e : PyData}, toD x = some d → toD y = some e → PyData.eqv d e = peq x y
  | .non, y, d, e, h1, h2 => by
    unfold toD at h1; cases h1
    cases y <;> simp [toD] at h2 <;> (try (obtain ⟨_, h2⟩ := h2)) <;> subst_vars <;> (try (obtain ⟨_, _, h2⟩ := h2)) <;> subst_vars <;> simp [PyData.eqv, peq]
  | .bl _, y, d, e, h1, h2 => by
    unfold toD at h1; cases h1
    cases y <;> simp [toD] at h2 <;> (try (obtain ⟨_, h2⟩ := h2)) <;> subst_vars <;> (try (obtain ⟨_, _, h2⟩ := h2)) <;> subst_vars <;> simp [PyData.eqv, peq]
  | .int _, y, d, e, h1, h2 => by
    unfold toD at h1; cases h1
    cases y <;> simp [toD] at h2 <;> (try (obtain ⟨_, h2⟩ := h2)) <;> subst_vars <;> (try (obtain ⟨_, _, h2⟩ := h2)) <;> subst_vars <;> simp [PyData.eqv, peq]
  | .str _, y, d, e, h1, h2 => by
    simp [toD] at h1
    obtain ⟨_, h1⟩ := h1
    subst h1
    cases y <;> simp [toD] at h2 <;> (try (obtain ⟨_, h2⟩ := h2)) <;> subst_vars <;> (try (obtain ⟨_, _, h2⟩ := h2)) <;> subst_vars <;> simp [PyData.eqv, peq]
  | .lst xs, y, d, e, h1, h2 => by
    unfold toD at h1
    obtain ⟨ds, e1, e2⟩ := Option.map_eq_some_iff.mp h1
    subst e2
    cases y with
    | lst ys =>
      unfold toD at h2
      obtain ⟨es, e3, e4⟩ := Option.map_eq_some_iff.mp h2
      subst e4
      have z := eqvs_peqs e1 e3
      simp only [PyData.eqv, peq]
      exact z
    | _ => simp [toD] at h2 <;> (try (obtain ⟨_, h2⟩ := h2)) <;> subst_vars <;> (try (obtain ⟨_, _, h2⟩ := h2)) <;> subst_vars <;> simp [PyData.eqv, peq]
  | .tup xs, y, d, e, h1, h2 => by
    unfold toD at h1
    obtain ⟨ds, e1, e2⟩ := Option.map_eq_some_iff.mp h1
    subst e2
    cases y with
    | tup ys =>
      unfold toD at h2
      obtain ⟨es, e3, e4⟩ := Option.map_eq_some_iff.mp h2
      subst e4
      have z := eqvs_peqs e1 e3
      simp only [PyData.eqv, peq]
      exact z
    | _ => simp [toD] at h2 <;> (try (obtain ⟨_, h2⟩ := h2)) <;> subst_vars <;> (try (obtain ⟨_, _, h2⟩ := h2)) <;> subst_vars <;> simp [PyData.eqv, peq]
  | .dic _, _, _, _, h1, _ => by simp [toD] at h1
  | .scr _, _, _, _, h1, _ => by simp [toD] at h1
  | .drw, _, _, _, h1, _ => by simp [toD] at h1
  | .cel, _, _, _, h1, _ => by simp [toD] at h1
  | .exc _ _, _, _, _, h1, _ => by simp [toD] at h1
  | .ref _, _, _, _, h1, _ => by simp [toD] at h1
  | .ty _, _, _, _, h1, _ => by simp [toD] at h1
theorem eqvs_peqs : ∀ {x y : List PV} {d e : List PyData}, toDs x = some d → toDs y = some e → PyData.eqvAll d e = peqs x y
  | [], [], _, _, h1, h2 => by
    unfold toDs at h1 h2
    cases h1; cases h2
    simp [PyData.eqvAll, peqs]
  | [], y :: ys, _, _, h1, h2 => by
    unfold toDs at h1 h2
    cases h1
    obtain ⟨d, e1, e2⟩ := Option.bind_eq_some_iff.mp h2
    obtain ⟨ds, e3, e4⟩ := Option.map_eq_some_iff.mp e2
    subst e4
    simp [PyData.eqvAll, peqs]
  | x :: xs, [], _, _, h1, h2 => by
    unfold toDs at h1 h2
    cases h2
    obtain ⟨d, e1, e2⟩ := Option.bind_eq_some_iff.mp h1
    obtain ⟨ds, e3, e4⟩ := Option.map_eq_some_iff.mp e2
    subst e4
    simp [PyData.eqvAll, peqs]
  | x :: xs, y :: ys, _, _, h1, h2 => by
    unfold toDs at h1 h2
    obtain ⟨d, e1, e2⟩ := Option.bind_eq_some_iff.mp h1
    obtain ⟨ds, e3, e4⟩ := Option.map_eq_some_iff.mp e2
    obtain ⟨d', e1', e2'⟩ := Option.bind_eq_some_iff.mp h2
    obtain ⟨ds', e3', e4'⟩ := Option.map_eq_some_iff.mp e2'
    subst e4 e4'
    simp only [PyData.eqvAll, peqs]
    rw [eqv_peq e1 e1', eqvs_peqs e3 e3']
end
/-- data that may be compared -/
def dat (x : PV) : Prop := ∃ d, toD x = some d ∧ SeqAt.shaped d = true
def fEq : PF2 := fun x y R => match x, y with
  | .int i, .int j => R (.bl (i == j))
  | .bl i, .bl j => R (.bl (i == j))
  | .str i, .str j => R (.bl (i == j))
  | x, y => dat x ∧ dat y ∧ R (.bl (peq x y))
def fNe : PF2 := fun x y R => match x, y with
  | .int i, .int j => R (.bl (!(i == j)))
  | .bl i, .bl j => R (.bl (!(i == j)))
  | .str i, .str j => R (.bl (!(i == j)))
  | x, y => dat x ∧ dat y ∧ R (.bl (!peq x y))
def rEqP (K : PySem.W.Frag) : R2 := fun x y H Q => rEq x y H Q ∨ rEqD K x y H Q
def rNeP (K : PySem.W.Frag) : R2 := fun x y H Q => rNe x y H Q ∨ rNeD K x y H Q
theorem or_eq (hu : X.A.units + 64 < cLine) : OpR X (compareOp .Eq) (rEqP X.K) := op_eq.or (op_eqD hu)
theorem or_ne (hu : X.A.units + 64 < cLine) : OpR X (compareOp .NotEq) (rNeP X.K) := op_ne.or (op_neD hu)
theorem rb_eq {K : PySem.W.Frag} : RB K T (rEqP K) fEq := by
  intro W H x y px py R Q o rx ry h k
  unfold fEq at h
  split at h
  · cases rx; cases ry
    refine .inl ⟨rfl, ?_⟩
    rw [dec_int]
    exact k.now o (.bl _) h
  · cases rx; cases ry
    refine .inl ⟨rfl, ?_⟩
    rw [dec_bl]
    exact k.now o (.bl _) h
  · cases rx; cases ry
    refine .inl ⟨rfl, ?_⟩
    rw [dec_str]
    exact k.now o (.bl _) h
  · obtain ⟨⟨d, h1, s1⟩, ⟨e, h2, s2⟩, h3⟩ := h
    rw [← eqv_peq h1 h2] at h3
    exact .inr ⟨d, e, dp_of o rx h1, dp_of o ry h2, s1, s2, k.now o (.bl _) h3⟩
theorem rb_ne {K : PySem.W.Frag} : RB K T (rNeP K) fNe := by
  intro W H x y px py R Q o rx ry h k
  unfold fNe at h
  split at h
  · cases rx; cases ry
    refine .inl ⟨rfl, ?_⟩
    rw [dec_int]
    exact k.now o (.bl _) h
  · cases rx; cases ry
    refine .inl ⟨rfl, ?_⟩
    rw [dec_bl]
    exact k.now o (.bl _) h
  · cases rx; cases ry
    refine .inl ⟨rfl, ?_⟩
    rw [dec_str]
    exact k.now o (.bl _) h
  · obtain ⟨⟨d, h1, s1⟩, ⟨e, h2, s2⟩, h3⟩ := h
    rw [← eqv_peq h1 h2] at h3
    exact .inr ⟨d, e, dp_of o rx h1, dp_of o ry h2, s1, s2, k.now o (.bl _) h3⟩
end
end Pu

/-! The pure layer, part C: tests, displays, places, calls. -/
namespace Pu
open PySem L2

section
variable {X : Cx} {T : List (Addr × Str)} {C : Ct} {e a b c : Expr} {es rest : List Expr} {te te' : TE} {pos : Pos} {p q r : PP} {n : Nat} {t u : PPT}
/-! ### and, or, not -/
def pAnd (t u : PPT) : PPT := fun ρ R => t ρ fun c => if c = true then u ρ R else R false
def pOr (t u : PPT) : PPT := fun ρ R => t ρ fun c => if c = true then R true else u ρ R
def pNot (t : PPT) : PPT := fun ρ R => t ρ fun c => R (!c)
theorem up_and : ∀ σ H Q, upT X.K T C (pAnd t u) σ H Q → tAnd (upT X.K T C t) (upT X.K T C u) σ H Q := fun σ H Q ⟨W, ρ, R, g, w, k⟩ =>
  ⟨W, ρ, _, g, w, fun b H1 W1 e1 o1 h1 => by
    cases b with
    | true => exact ⟨W1, ρ, R, g.to e1 o1, h1, fun b2 H2 W2 e2 o2 h2 => k b2 H2 W2 (e1.trans e2 o1) o2 h2⟩
    | false => exact k false H1 W1 e1 o1 h1⟩
theorem up_or : ∀ σ H Q, upT X.K T C (pOr t u) σ H Q → tOr (upT X.K T C t) (upT X.K T C u) σ H Q := fun σ H Q ⟨W, ρ, R, g, w, k⟩ =>
  ⟨W, ρ, _, g, w, fun b H1 W1 e1 o1 h1 => by
    cases b with
    | false => exact ⟨W1, ρ, R, g.to e1 o1, h1, fun b2 H2 W2 e2 o2 h2 => k b2 H2 W2 (e1.trans e2 o1) o2 h2⟩
    | true => exact k true H1 W1 e1 o1 h1⟩
theorem PW.weak {te te' : TT} (h : PW X e te) (k : ∀ σ H Q, te' σ H Q → te σ H Q) : PW X e te' := ⟨fun wh pins s σ H Q I w => h.run wh pins s σ H Q I (k σ H Q w)⟩
theorem lw_and1 (ha : PT X a (upT X.K T C t)) : PW X (.BoolOp .And [a] pos) (upT X.K T C t) := pw_and1 ha
theorem lw_or1 (ha : PT X a (upT X.K T C t)) : PW X (.BoolOp .Or [a] pos) (upT X.K T C t) := pw_or1 ha
theorem lw_and (ha : PT X a (upT X.K T C t)) (hb : PW X (.BoolOp .And (b :: rest) pos) (upT X.K T C u)) : PW X (.BoolOp .And (a :: b :: rest) pos) (upT X.K T C (pAnd t u)) := PW.weak (pw_and ha hb) up_and
theorem lw_or (ha : PT X a (upT X.K T C t)) (hb : PW X (.BoolOp .Or (b :: rest) pos) (upT X.K T C u)) : PW X (.BoolOp .Or (a :: b :: rest) pos) (upT X.K T C (pOr t u)) := PW.weak (pw_or ha hb) up_or
theorem lt_not (ha : PT X a (upT X.K T C t)) : PT X (.UnaryOp .Not a pos) (upT X.K T C (pNot t)) := PT.weak (pt_not ha) fun σ H Q ⟨W, ρ, R, g, w, k⟩ => ⟨W, ρ, _, g, w, fun b H1 W1 e1 o1 h1 => k _ H1 W1 e1 o1 h1⟩
/-- as values -/
def pAndV (p q : PP) : PP := fun ρ R => p ρ fun x => match x with
  | .bl c => if c = true then q ρ R else R (.bl false)
  | _ => False
def pOrV (p q : PP) : PP := fun ρ R => p ρ fun x => match x with
  | .bl c => if c = true then R (.bl true) else q ρ R
  | _ => False
def pNotV (p : PP) : PP := fun ρ R => p ρ fun x => match x with
  | .bl c => R (.bl (!c))
  | _ => False
theorem le_one {op} (h : PE X a (up X.K T C p)) : PE X (.BoolOp op [a] pos) (up X.K T C p) := pe_one h
theorem le_and (ha : PE X a (up X.K T C p)) (hb : PE X (.BoolOp .And (b :: rest) pos) (up X.K T C q)) : PE X (.BoolOp .And (a :: b :: rest) pos) (up X.K T C (pAndV p q)) :=
  PE.weak (pe_and ha hb) fun σ H Q ⟨W, ρ, R, g, w, k⟩ => ⟨W, ρ, _, g, w, fun x H1 W1 px e1 o1 r1 h1 => by
    cases px <;> first | exact h1.elim | skip
    cases r1
    rename_i c
    refine ⟨c, rfl, ?_⟩
    cases c with
    | true => exact ⟨W1, ρ, R, g.to e1 o1, h1, k.pre e1 o1⟩
    | false => exact k _ H1 W1 _ e1 o1 (.bl false) h1⟩
theorem le_or (ha : PE X a (up X.K T C p)) (hb : PE X (.BoolOp .Or (b :: rest) pos) (up X.K T C q)) : PE X (.BoolOp .Or (a :: b :: rest) pos) (up X.K T C (pOrV p q)) :=
  PE.weak (pe_or ha hb) fun σ H Q ⟨W, ρ, R, g, w, k⟩ => ⟨W, ρ, _, g, w, fun x H1 W1 px e1 o1 r1 h1 => by
    cases px <;> first | exact h1.elim | skip
    cases r1
    rename_i c
    refine ⟨c, rfl, ?_⟩
    cases c with
    | false => exact ⟨W1, ρ, R, g.to e1 o1, h1, k.pre e1 o1⟩
    | true => exact k _ H1 W1 _ e1 o1 (.bl true) h1⟩
theorem le_not (ha : PE X a (up X.K T C p)) : PE X (.UnaryOp .Not a pos) (up X.K T C (pNotV p)) :=
  PE.weak (pe_not ha) fun σ H Q ⟨W, ρ, R, g, w, k⟩ => ⟨W, ρ, _, g, w, fun x H1 W1 px e1 o1 r1 h1 => by
    cases px <;> first | exact h1.elim | skip
    cases r1
    exact ⟨_, rfl, k _ H1 W1 _ e1 o1 (.bl _) h1⟩⟩
def pIf (t : PPT) (p q : PP) : PP := fun ρ R => t ρ fun c => if c = true then p ρ R else q ρ R
theorem le_if (hc : PT X c (upT X.K T C t)) (ha : PE X a (up X.K T C p)) (hb : PE X b (up X.K T C q)) : PE X (.IfExp c a b pos) (up X.K T C (pIf t p q)) :=
  PE.weak (pe_ifExp hc ha hb) fun σ H Q ⟨W, ρ, R, g, w, k⟩ => ⟨W, ρ, _, g, w, fun x H1 W1 e1 o1 h1 => by
    cases x with
    | true => exact ⟨W1, ρ, R, g.to e1 o1, h1, k.pre e1 o1⟩
    | false => exact ⟨W1, ρ, R, g.to e1 o1, h1, k.pre e1 o1⟩⟩
/-- a op b op c -/
def pChain (f f' : PF2) (p q r : PP) : PP := fun ρ R => p ρ fun x => q ρ fun y => f x y fun z => match z with
  | .bl c => if c = true then r ρ fun w => f' y w R else R (.bl false)
  | _ => False
theorem up_chain {rr rr' : R2} {f f' : PF2} (hr : RB X.K T rr f) (hr' : RB X.K T rr' f') : ∀ σ H Q, up X.K T C (pChain f f' p q r) σ H Q → tChain rr rr' (up X.K T C p) (up X.K T C q) (up X.K T C r) σ H Q :=
  fun σ H Q ⟨W, ρ, R, g, w, k⟩ => ⟨W, ρ, _, g, w, fun x H1 W1 px e1 o1 r1 h1 => ⟨W1, ρ, _, g.to e1 o1, h1, fun y H2 W2 py e2 o2 r2 h2 =>
    hr W2 H2 x y px py _ _ o2 (r1.le e2.le) r2 h2 fun z H3 W3 pz e3 o3 r3 h3 => by
      cases pz <;> first | exact h3.elim | skip
      cases r3
      rename_i c
      refine ⟨c, rfl, ?_⟩
      have k3 := ((k.pre e1 o1).pre e2 o2).pre e3 o3
      cases c with
      | true =>
        exact ⟨W3, ρ, _, ((g.to e1 o1).to e2 o2).to e3 o3, h3, fun w H4 W4 pw e4 o4 r4 h4 => hr' W4 H4 y w py pw R Q o4 ((r2.le e3.le).le e4.le) r4 h4 (k3.pre e4 o4)⟩
      | false => exact k3.now o3 (.bl false) h3⟩⟩
theorem le_chain {op op' : CmpOp} {rr rr' : R2} {f f' : PF2} (ho : OpR X (compareOp op) rr) (hr : RB X.K T rr f) (ho' : OpR X (compareOp op') rr') (hr' : RB X.K T rr' f') (ha : PE X a (up X.K T C p)) (hb : PE X b (up X.K T C q)) (hc : PE X c (up X.K T C r))
    (hm : lastMarks [op, op'] [b, c] = false := by with_unfolding_all rfl) : PE X (.Compare a [op, op'] [b, c] pos) (up X.K T C (pChain f f' p q r)) := PE.weak (pe_chain ho ho' ha hb hc hm) (up_chain hr hr')
theorem lt_chain {op op' : CmpOp} {rr rr' : R2} {f f' : PF2} (ho : OpR X (compareOp op) rr) (hr : RB X.K T rr f) (ho' : OpR X (compareOp op') rr') (hr' : RB X.K T rr' f') (ha : PE X a (up X.K T C p)) (hb : PE X b (up X.K T C q)) (hc : PE X c (up X.K T C r))
    (hm : lastMarks [op, op'] [b, c] = false := by with_unfolding_all rfl) : PT X (.Compare a [op, op'] [b, c] pos) (upT X.K T C (pBool (pChain f f' p q r))) := PT.weak (pt_chain ho ho' ha hb hc hm) (up_bool (up_chain hr hr'))

/-! ### lists of arguments, displays -/
def aNil : PPA := fun _ R => R []
def aCons (p : PP) (pa : PPA) : PPA := fun ρ R => p ρ fun x => pa ρ fun xs => R (x :: xs)
variable {pa : PPA}
theorem la_nil : PA X [] (upA X.K T C 0 aNil) := PA.weak pa_nil fun σ H Q ⟨W, ρ, R, g, w, k⟩ => k [] H W [] (.refl W H) g.ok .nil rfl w
theorem la_cons (ha : PE X e (up X.K T C p)) (hr : PA X es (upA X.K T C n pa)) (hs : starEach (e :: es) X.env = (false, eval e X.env) :: starEach es X.env := by rfl) : PA X (e :: es) (upA X.K T C (n + 1) (aCons p pa)) :=
  PA.weak (pa_cons ha hr hs) fun σ H Q ⟨W, ρ, R, g, w, k⟩ => ⟨W, ρ, _, g, w, fun x H1 W1 px e1 o1 r1 h1 => ⟨W1, ρ, _, g.to e1 o1, h1, fun vs H2 W2 xs e2 o2 r2 hn h2 =>
    k _ H2 W2 (px :: xs) (e1.trans e2 o1) o2 (.cons (r1.le e2.le) r2) (congrArg Nat.succ hn) h2⟩⟩
def pTup (pa : PPA) : PP := fun ρ R => pa ρ fun xs => R (.tup xs)
def pLst (pa : PPA) : PP := fun ρ R => pa ρ fun xs => R (.lst xs)
theorem sz_of {n : Nat} (h : n ≤ 1000) : n ≤ sizeLine := by
  rw [sizeLine_eq]
  omega
theorem le_tup {x1} (h : PA X es (upA X.K T C n pa)) (hn : n ≤ 1000 := by decide) : PE X (.Tuple es x1 pos) (up X.K T C (pTup pa)) :=
  PE.weak (pe_tup h) fun σ H Q ⟨W, ρ, R, g, w, k⟩ => ⟨W, ρ, _, g, w, fun vs H1 W1 xs e1 o1 r1 hl h1 => ⟨sz_of (by rw [r1.length, hl]; exact hn), (k.pre e1 o1).newT o1 r1 h1⟩⟩
theorem le_lst (h : PA X es (upA X.K T C n pa)) (hn : n ≤ 1000 := by decide) : PE X (.List es pos) (up X.K T C (pLst pa)) :=
  PE.weak (pe_lst h) fun σ H Q ⟨W, ρ, R, g, w, k⟩ => ⟨W, ρ, _, g, w, fun vs H1 W1 xs e1 o1 r1 hl h1 => ⟨sz_of (by rw [r1.length, hl]; exact hn), (k.pre e1 o1).newL o1 r1 h1⟩⟩

/-! ### places -/
def nth : List PV → Nat → PK → Prop
  | [], _, _ => False
  | x :: _, 0, R => R x
  | _ :: r, n + 1, R => nth r n R
theorem nth_get : ∀ {xs : List PV} {i : Nat} {R : PK}, nth xs i R → ∃ x, xs[i]? = some x ∧ R x
  | [], _, _, h => h.elim
  | x :: _, 0, _, h => ⟨x, rfl, h⟩
  | _ :: r, n + 1, _, h => by
    obtain ⟨x, h1, h2⟩ := nth_get (xs := r) (i := n) h
    exact ⟨x, by simpa using h1, h2⟩
theorem nth_of : ∀ {xs : List PV} {i : Nat} {R : PK} {x : PV}, xs[i]? = some x → R x → nth xs i R
  | [], _, _, _, h, _ => by simp at h
  | x :: _, 0, _, y, h, r => by
    simp at h
    subst h
    exact r
  | _ :: l, n + 1, _, _, h, r => nth_of (xs := l) (i := n) (by simpa using h) r
/-- o[k], k written -/
def fIxK (k : Nat) (x : PV) : PK → Prop := fun R => match x with
  | .tup xs => nth xs k R
  | .lst xs => nth xs k R
  | _ => False
def pIxK (k : Nat) (p : PP) : PP := fun ρ R => p ρ fun x => fIxK k x R
theorem le_ixk {k j : Nat} {pos2 : Pos} (ha : PE X a (up X.K T C p)) (hs : PlainIx (.Constant (.int (k : Int)) j pos2)) : PE X (.Subscript a (.Constant (.int (k : Int)) j pos2) pos) (up X.K T C (pIxK k p)) :=
  PE.weak (pe_ix ix_seq ha pe_int hs) fun σ H Q ⟨W, ρ, R, g, w, kk⟩ => ⟨W, ρ, _, g, w, fun x H1 W1 px e1 o1 r1 h1 => by
    unfold fIxK at h1
    cases px <;> first | exact h1.elim | skip
    · cases r1 with
      | tup hq rl =>
        obtain ⟨y, q1, q2⟩ := nth_get h1
        obtain ⟨v, q3, q4⟩ := rl.get q1
        exact .inr (.inl ⟨_, _, _, v, rfl, rfl, o1.tup hq, atI_nat q3, (kk.pre e1 o1).now o1 q4 q2⟩)
    · cases r1 with
      | lst hq rl =>
        obtain ⟨y, q1, q2⟩ := nth_get h1
        obtain ⟨v, q3, q4⟩ := rl.get q1
        exact .inl ⟨_, _, _, v, rfl, rfl, .of (o1.sub _ _ hq), atI_nat q3, (kk.pre e1 o1).now o1 q4 q2⟩⟩
/-- o[i] -/
def fIx : PF2 := fun x y R => match x, y with
  | .tup xs, .int i => ∃ v, atI xs i = some v ∧ R v
  | .lst xs, .int i => ∃ v, atI xs i = some v ∧ R v
  | .str z, .int i => z.length ≤ sizeLine ∧ ∃ c, atI z.cps.toList i = some c ∧ R (.str ⟨#[c]⟩)
  | _, _ => False
theorem RepL.atI {K : PySem.W.Frag} {W : Wd} {xs : List PV} {vs : List V} {i : Int} {y : PV} (r : RepL K W xs vs) (h : atI xs i = some y) : ∃ v, L2.atI vs i = some v ∧ Rep K W y v := by
  unfold L2.atI at h ⊢
  obtain ⟨j, h1, h2⟩ := Option.bind_eq_some_iff.mp h
  obtain ⟨v, h3, h4⟩ := r.get h2
  refine ⟨v, ?_, h4⟩
  rw [r.length, h1]
  exact h3
theorem rb_ix {K : PySem.W.Frag} : RB K T (rIx K) fIx := by
  intro W H x y px py R Q o rx ry h k
  unfold fIx at h
  split at h
  · cases ry
    cases rx with
    | tup hq rl =>
      obtain ⟨z, h1, h2⟩ := h
      obtain ⟨v, q3, q4⟩ := rl.atI h1
      exact .inr (.inl ⟨_, _, _, v, rfl, rfl, o.tup hq, q3, k.now o q4 h2⟩)
  · cases ry
    cases rx with
    | lst hq rl =>
      obtain ⟨z, h1, h2⟩ := h
      obtain ⟨v, q3, q4⟩ := rl.atI h1
      exact .inl ⟨_, _, _, v, rfl, rfl, .of (o.sub _ _ hq), q3, k.now o q4 h2⟩
  · cases ry
    cases rx
    obtain ⟨h0, z, h1, h2⟩ := h
    exact .inr (.inr ⟨_, _, _, rfl, rfl, h0, h1, k.now o (.str _) h2⟩)
  · exact h.elim
theorem le_ix {f : PF2} {rr : R2} (ho : IxR X rr) (hr : RB X.K T rr f) (ha : PE X a (up X.K T C p)) (hb : PE X b (up X.K T C q)) (hs : PlainIx b) : PE X (.Subscript a b pos) (up X.K T C (pOp f p q)) :=
  PE.weak (pe_ix ho ha hb hs) (up_op hr (fun _ _ _ h => h) fun _ _ _ h => h)
/-! ### slices -/
abbrev PPO := PEnv → (Option Int → Prop) → Prop
def upO (K : PySem.W.Frag) (T : List (Addr × Str)) (C : Ct) (p : PPO) : TO := fun σ H Q => ∃ W ρ R, Good K T C W σ H ρ ∧ p ρ R ∧ ∀ b H' W', Ext W H W' H' → OkW T W' H' → R b → Q b H'
def oNone : PPO := fun _ R => R none
def oSome (p : PP) : PPO := fun ρ R => p ρ fun x => match x with
  | .int i => R (some i)
  | _ => False
theorem PO.weak {eo : Option Expr} {te te' : TO} (h : PO X eo te) (k : ∀ σ H Q, te' σ H Q → te σ H Q) : PO X eo te' := ⟨fun pins s σ H Q I w => h.run pins s σ H Q I (k σ H Q w)⟩
theorem lo_none : PO X none (upO X.K T C oNone) := PO.weak po_none fun σ H Q ⟨W, ρ, R, g, w, k⟩ => k none H W (.refl W H) g.ok w
theorem lo_some (h : PE X e (up X.K T C p)) : PO X (some e) (upO X.K T C (oSome p)) := PO.weak (po_some h) fun σ H Q ⟨W, ρ, R, g, w, k⟩ => ⟨W, ρ, _, g, w, fun x H1 W1 px e1 o1 r1 h1 => by
    cases px <;> first | exact h1.elim | skip
    cases r1
    exact ⟨_, rfl, k _ H1 W1 e1 o1 h1⟩⟩
def cutP (xs : List PV) (lo hi : Option Int) : List PV := (xs.drop (HT.sIx xs.length 0 lo)).take (HT.sIx xs.length xs.length hi - HT.sIx xs.length 0 lo)
theorem RepL.cut {K : PySem.W.Frag} {W : Wd} {xs : List PV} {vs : List V} (r : RepL K W xs vs) (lo hi : Option Int) : RepL K W (cutP xs lo hi) (cutV vs lo hi) := by
  unfold cutP cutV
  rw [r.length]
  exact (r.drop _).take _
def fSl (x : PV) (lo hi : Option Int) : PK → Prop := fun R => match x with
  | .tup xs => R (.tup (cutP xs lo hi))
  | .lst xs => R (.lst (cutP xs lo hi))
  | _ => False
def pSl (p : PP) (l h : PPO) : PP := fun ρ R => p ρ fun x => l ρ fun lo => h ρ fun hi => fSl x lo hi R
def rSlP (K : PySem.W.Frag) : V → Option Int → Option Int → Hp → VK → Prop := fun x lo hi H Q => rSlL K x lo hi H Q ∨ rSlA K x lo hi H Q
theorem sl_seq : SlR X (rSlP X.K) := sl_list.or sl_tupA
theorem le_sl {lo hi : Option Expr} {l h : PPO} {p2 : Pos} (he : PE X e (up X.K T C p)) (hl : PO X lo (upO X.K T C l)) (hh : PO X hi (upO X.K T C h)) : PE X (.Subscript e (.Slice lo hi none p2) pos) (up X.K T C (pSl p l h)) :=
  PE.weak (pe_slice sl_seq he hl hh) fun σ H Q ⟨W, ρ, R, g, w, kk⟩ => ⟨W, ρ, _, g, w, fun x H1 W1 px e1 o1 r1 h1 => ⟨W1, ρ, _, g.to e1 o1, h1, fun i H2 W2 e2 o2 h2 => ⟨W2, ρ, _, (g.to e1 o1).to e2 o2, h2, fun j H3 W3 e3 o3 h3 => by
    have k3 := ((kk.pre e1 o1).pre e2 o2).pre e3 o3
    have r3 := (r1.le e2.le).le e3.le
    unfold fSl at h3
    cases px <;> first | exact h3.elim | skip
    · cases r3 with
      | tup hq rl =>
        refine .inr ⟨_, _, rfl, o3.tup hq, fun ⟨z1, z2⟩ => ?_, fun _ => k3.newT o3 (rl.cut i j) h3⟩
        have e : ∀ ys : List PV, HT.sIx ys.length 0 i = 0 → HT.sIx ys.length ys.length j = ys.length → cutP ys i j = ys := fun ys a1 a2 => by
          unfold cutP
          rw [a1, a2, Nat.sub_zero, List.drop_zero, List.take_length]
        have h3 : R (.tup (cutP _ i j)) := h3
        rw [e _ (by rw [← rl.length]; exact z1) (by rw [← rl.length]; exact z2)] at h3
        exact k3.now o3 (.tup hq rl) h3
    · cases r3 with
      | lst hq rl => exact .inl ⟨_, _, rfl, .of (o3.sub _ _ hq), k3.newL o3 (rl.cut i j) h3⟩⟩⟩⟩

/-! ### calls of built-ins, by values -/
abbrev PFC := List PV → PK → Prop
def RC (K : PySem.W.Frag) (T : List (Addr × Str)) (r : List V → Hp → VK → Prop) (f : PFC) : Prop := ∀ W H xs pxs R Q, OkW T W H → RepL K W pxs xs → f pxs R → Aft K T W H R Q → r xs H Q
def pCB (f : PFC) (pa : PPA) : PP := fun ρ R => pa ρ fun xs => f xs R
theorem up_cb {rr : List V → Hp → VK → Prop} {f : PFC} (hr : RC X.K T rr f) : ∀ σ H Q, up X.K T C (pCB f pa) σ H Q → tCB rr (upA X.K T C n pa) σ H Q := fun σ H Q ⟨W, ρ, R, g, w, k⟩ =>
  ⟨W, ρ, _, g, w, fun vs H1 W1 xs e1 o1 r1 hl h1 => hr W1 H1 vs xs R Q o1 r1 h1 (k.pre e1 o1)⟩
theorem le_cb {x : Str} {pp : Pos} {id : String} {rr : List V → Hp → VK → Prop} {f : PFC} (hc : CallR X (.builtin id) rr) (hr : RC X.K T rr f) (hg : Gl X x) (hm : X.mg x = none) (hv : bootBuiltins x = some (.builtin id)) (ha : PA X (e :: es) (upA X.K T C n pa)) (hn : x ≠ "__name__" := by decide) (hdb : (x == ("__debug__" : Str)) = false := by decide)
    (he : starEach (e :: es) X.env = (false, eval e X.env) :: starEach es X.env := by rfl) (hpl : (backTo pos (starEach es X.env)).any (·.1) = false := by rfl) : PE X (.Call (.Name x pp) (e :: es) [] pos) (up X.K T C (pCB f pa)) :=
  PE.weak (pe_callB hc hg hm hv ha hn hdb he hpl) (up_cb hr)
theorem le_cty {x : Str} {pp : Pos} {id : String} {rr : List V → Hp → VK → Prop} {f : PFC} (hc : CallR X (.type id) rr) (hr : RC X.K T rr f) (hg : Gl X x) (hm : X.mg x = none) (hv : bootBuiltins x = some (.type id)) (ha : PA X (e :: es) (upA X.K T C n pa)) (hn : x ≠ "__name__" := by decide) (hdb : (x == ("__debug__" : Str)) = false := by decide)
    (he : starEach (e :: es) X.env = (false, eval e X.env) :: starEach es X.env := by rfl) (hpl : (backTo pos (starEach es X.env)).any (·.1) = false := by rfl) : PE X (.Call (.Name x pp) (e :: es) [] pos) (up X.K T C (pCB f pa)) :=
  PE.weak (pe_callTy hc hg hm hv ha hn hdb he hpl) (up_cb hr)
/-- math's -/
theorem le_cbf {x : Str} {pp : Pos} {id : String} {rr : List V → Hp → VK → Prop} {f : PFC} (hc : CallR X (.builtin id) rr) (hr : RC X.K T rr f) (hg : Gl X x) (hm : X.mg x = some (.builtin id)) (ha : PA X (e :: es) (upA X.K T C n pa)) (hdb : (x == ("__debug__" : Str)) = false := by decide)
    (he : starEach (e :: es) X.env = (false, eval e X.env) :: starEach es X.env := by rfl) (hpl : (backTo pos (starEach es X.env)).any (·.1) = false := by rfl) : PE X (.Call (.Name x pp) (e :: es) [] pos) (up X.K T C (pCB f pa)) :=
  PE.weak (pe_callBfun hc hg hm ha hdb he hpl) (up_cb hr)
def gLen : PFC := fun xs R => match xs with
  | [.lst ys] => R (.int ys.length)
  | [.tup ys] => R (.int ys.length)
  | [.scr ns] => R (.int ns.length)
  | [.dic ks] => R (.int ks.length)
  | [.str z] => z.length ≤ sizeLine ∧ R (.int z.length)
  | _ => False
def rLenP (K : PySem.W.Frag) : List V → Hp → VK → Prop := fun xs H Q => (∃ x n, xs = [x] ∧ LenV K x H n ∧ Q (.int n) H) ∨ (∃ a kvs, xs = [V.ref a] ∧ H a = some (.dK kvs) ∧ Q (.int kvs.length) H)
theorem cr_len : CallR X (.builtin "len") (rLenP X.K) := call_len.or call_lenD
theorem RepK.length {K : PySem.W.Frag} {W : Wd} : ∀ {x : List (Key × PV)} {v : List (Key × V)}, RepK K W x v → v.length = x.length
  | _, _, .nil => rfl
  | _, _, .cons _ r => congrArg Nat.succ (RepK.length r)
theorem rc_len {K : PySem.W.Frag} : RC K T (rLenP K) gLen := by
  intro W H xs pxs R Q o rx h k
  unfold gLen at h
  split at h
  · cases rx with
    | cons r1 r2 =>
      cases r2
      cases r1 with
      | lst hq rl =>
        rw [← rl.length] at h
        exact .inl ⟨_, _, rfl, .inl ⟨_, .of (o.sub _ _ hq), rfl⟩, k.now o (.int _) h⟩
  · cases rx with
    | cons r1 r2 =>
      cases r2
      cases r1 with
      | tup hq rl =>
        rw [← rl.length] at h
        exact .inl ⟨_, _, rfl, .inr ⟨_, o.tup hq, rfl⟩, k.now o (.int _) h⟩
  · cases rx with
    | cons r1 r2 =>
      cases r2
      cases r1 with
      | scr hq => exact .inl ⟨_, _, rfl, .inl ⟨_, o.lst hq, by rw [List.length_map]⟩, k.now o (.int _) h⟩
  · cases rx with
    | cons r1 r2 =>
      cases r2
      cases r1 with
      | dic hq rl =>
        rw [← rl.length] at h
        exact .inr ⟨_, _, rfl, o.sub _ _ hq, k.now o (.int _) h⟩
  · cases rx with
    | cons r1 r2 =>
      cases r2
      cases r1
      exact .inl ⟨_, _, rfl, ⟨h.1, rfl⟩, k.now o (.int _) h.2⟩
  · exact h.elim
def gAbs : PFC := fun xs R => match xs with
  | [.int i] => R (.int (if i < 0 then -i else i))
  | _ => False
theorem rc_abs {K : PySem.W.Frag} : RC K T (fun xs H Q => ∃ i, xs = [.int i] ∧ Q (.int (if i < 0 then -i else i)) H) gAbs := by
  intro W H xs pxs R Q o rx h k
  unfold gAbs at h
  split at h
  · cases rx with
    | cons r1 r2 =>
      cases r2
      cases r1
      exact ⟨_, rfl, k.now o (.int _) h⟩
  · exact h.elim
def gMax2 : PFC := fun xs R => match xs with
  | [.int i, .int j] => R (.int (if j > i then j else i))
  | _ => False
def gMin2 : PFC := fun xs R => match xs with
  | [.int i, .int j] => R (.int (if j < i then j else i))
  | _ => False
theorem rc_2 {K : PySem.W.Frag} {f : Int → Int → Int} : RC K T (fun xs H Q => ∃ i j, xs = [.int i, .int j] ∧ Q (.int (f i j)) H) (fun xs R => match xs with
  | [.int i, .int j] => R (.int (f i j))
  | _ => False) := by
  intro W H xs pxs R Q o rx h k
  split at h
  · cases rx with
    | cons r1 r2 =>
      cases r2 with
      | cons r2 r3 =>
        cases r3
        cases r1
        cases r2
        exact ⟨_, _, rfl, k.now o (.int _) h⟩
  · exact h.elim
def gGcd : PFC := fun xs R => match xs with
  | [.int i, .int j] => R (.int ((Nat.gcd i.natAbs j.natAbs : Nat) : Int))
  | _ => False
theorem rc_gcd {K : PySem.W.Frag} : RC K T rGcd gGcd := rc_2
def gInt : PFC := fun xs R => match xs with
  | [.int i] => R (.int i)
  | _ => False
theorem rc_int {K : PySem.W.Frag} : RC K T (fun xs H Q => (∃ i, xs = [.int i] ∧ Q (.int i) H) ∨ ∃ k, xs = [.bl k] ∧ Q (.int (if k then 1 else 0)) H) gInt := by
  intro W H xs pxs R Q o rx h k
  unfold gInt at h
  split at h
  · cases rx with
    | cons r1 r2 =>
      cases r2
      cases r1
      exact .inl ⟨_, rfl, k.now o (.int _) h⟩
  · exact h.elim
/-- what stands in a list or tuple -/
def items : PV → Option (List PV)
  | .lst xs => some xs
  | .tup xs => some xs
  | _ => none
def gList : PFC := fun xs R => match xs with
  | [.lst ys] => R (.lst ys)
  | [.tup ys] => R (.lst ys)
  | _ => False
theorem rc_list {K : PySem.W.Frag} : RC K T (fun xs H Q => ∃ p ys, xs = [.ref p] ∧ (SqL K H p ys ∨ SqT K H p ys) ∧ ∀ l, H l = none → Q (.ref l) (upd H l (.lst ys))) gList := by
  intro W H xs pxs R Q o rx h k
  unfold gList at h
  split at h
  · cases rx with
    | cons r1 r2 =>
      cases r2
      cases r1 with
      | lst hq rl => exact ⟨_, _, rfl, .inl (.of (o.sub _ _ hq)), k.newL o rl h⟩
  · cases rx with
    | cons r1 r2 =>
      cases r2
      cases r1 with
      | tup hq rl => exact ⟨_, _, rfl, .inr (o.tup hq), k.newL o rl h⟩
  · exact h.elim
def gTuple : PFC := fun xs R => match xs with
  | [.lst ys] => R (.tup ys)
  | [.tup ys] => R (.tup ys)
  | _ => False
theorem rc_tuple {K : PySem.W.Frag} : RC K T (fun xs H Q => ∃ p ys, xs = [.ref p] ∧ ((SqL K H p ys ∧ ∀ l, H l = none → Q (.ref l) (upd H l (.tup ys))) ∨ (SqT K H p ys ∧ Q (.ref p) H))) gTuple := by
  intro W H xs pxs R Q o rx h k
  unfold gTuple at h
  split at h
  · cases rx with
    | cons r1 r2 =>
      cases r2
      cases r1 with
      | lst hq rl => exact ⟨_, _, rfl, .inl ⟨.of (o.sub _ _ hq), k.newT o rl h⟩⟩
  · cases rx with
    | cons r1 r2 =>
      cases r2
      cases r1 with
      | tup hq rl => exact ⟨_, _, rfl, .inr ⟨o.tup hq, k.now o (.tup hq rl) h⟩⟩
  · exact h.elim
/-- all, any of bools -/
def bools? : List PV → Option (List Bool)
  | [] => some []
  | .bl b :: r => (bools? r).map (b :: ·)
  | _ => none
theorem bools_map : ∀ bs : List Bool, bools? (bs.map PV.bl) = some bs
  | [] => rfl
  | b :: r => by
    show (bools? (r.map PV.bl)).map (b :: ·) = _
    rw [bools_map r]
    rfl
theorem bools_inv : ∀ {xs : List PV} {bs : List Bool}, bools? xs = some bs → xs = bs.map PV.bl
  | [], _, h => by
    cases h
    rfl
  | .bl b :: r, bs, h => by
    obtain ⟨cs, h1, h2⟩ := Option.map_eq_some_iff.mp (show (bools? r).map (b :: ·) = some bs from h)
    subst h2
    rw [bools_inv h1]
    rfl
  | .non :: _, _, h => by cases h
  | .int _ :: _, _, h => by cases h
  | .str _ :: _, _, h => by cases h
  | .tup _ :: _, _, h => by cases h
  | .lst _ :: _, _, h => by cases h
  | .dic _ :: _, _, h => by cases h
  | .scr _ :: _, _, h => by cases h
  | .drw :: _, _, h => by cases h
  | .cel :: _, _, h => by cases h
  | .exc _ _ :: _, _, h => by cases h
  | .ref _ :: _, _, h => by cases h
  | .ty _ :: _, _, h => by cases h
def gAll : PFC := fun xs R => match xs with
  | [.lst ys] => ∃ bs, bools? ys = some bs ∧ R (.bl (bs.all id))
  | _ => False
def gAny : PFC := fun xs R => match xs with
  | [.lst ys] => ∃ bs, bools? ys = some bs ∧ R (.bl (bs.any id))
  | _ => False
theorem rc_all {K : PySem.W.Frag} : RC K T (rAll K) gAll := by
  intro W H xs pxs R Q o rx h k
  unfold gAll at h
  split at h
  · obtain ⟨bs, h1, h2⟩ := h
    cases rx with
    | cons r1 r2 =>
      cases r2
      cases r1 with
      | lst hq rl =>
        rw [bools_inv h1] at rl
        have e := rl.bls_inv
        subst e
        exact ⟨_, bs, rfl, .of (o.sub _ _ hq), k.now o (.bl _) h2⟩
  · exact h.elim
theorem rc_any {K : PySem.W.Frag} : RC K T (rAny K) gAny := by
  intro W H xs pxs R Q o rx h k
  unfold gAny at h
  split at h
  · obtain ⟨bs, h1, h2⟩ := h
    cases rx with
    | cons r1 r2 =>
      cases r2
      cases r1 with
      | lst hq rl =>
        rw [bools_inv h1] at rl
        have e := rl.bls_inv
        subst e
        exact ⟨_, bs, rfl, .of (o.sub _ _ hq), k.now o (.bl _) h2⟩
  · exact h.elim
/-- lists of ints -/
def ints? : List PV → Option (List Int)
  | [] => some []
  | .int b :: r => (ints? r).map (b :: ·)
  | _ => none
theorem ints_map : ∀ bs : List Int, ints? (bs.map PV.int) = some bs
  | [] => rfl
  | b :: r => by
    show (ints? (r.map PV.int)).map (b :: ·) = _
    rw [ints_map r]
    rfl
theorem ints_inv : ∀ {xs : List PV} {bs : List Int}, ints? xs = some bs → xs = bs.map PV.int
  | [], _, h => by
    cases h
    rfl
  | .int b :: r, bs, h => by
    obtain ⟨cs, h1, h2⟩ := Option.map_eq_some_iff.mp (show (ints? r).map (b :: ·) = some bs from h)
    subst h2
    rw [ints_inv h1]
    rfl
  | .non :: _, _, h => by cases h
  | .bl _ :: _, _, h => by cases h
  | .str _ :: _, _, h => by cases h
  | .tup _ :: _, _, h => by cases h
  | .lst _ :: _, _, h => by cases h
  | .dic _ :: _, _, h => by cases h
  | .scr _ :: _, _, h => by cases h
  | .drw :: _, _, h => by cases h
  | .cel :: _, _, h => by cases h
  | .exc _ _ :: _, _, h => by cases h
  | .ref _ :: _, _, h => by cases h
  | .ty _ :: _, _, h => by cases h
def gSum : PFC := fun xs R => match xs with
  | [.lst ys] => ∃ bs, ints? ys = some bs ∧ R (.int bs.sum)
  | _ => False
theorem rc_sum {K : PySem.W.Frag} : RC K T (rSum K) gSum := by
  intro W H xs pxs R Q o rx h k
  unfold gSum at h
  split at h
  · obtain ⟨bs, h1, h2⟩ := h
    cases rx with
    | cons r1 r2 =>
      cases r2
      cases r1 with
      | lst hq rl =>
        rw [ints_inv h1] at rl
        have e := rl.ints_inv
        subst e
        exact ⟨_, bs, rfl, .of (o.sub _ _ hq), k.now o (.int _) h2⟩
  · exact h.elim
def gMin1 : PFC := fun xs R => match xs with
  | [.lst ys] => ∃ bs, ints? ys = some bs ∧ 0 < bs.length ∧ ∀ m, m ∈ bs → (∀ y, y ∈ bs → m ≤ y) → R (.int m)
  | _ => False
def gMax1 : PFC := fun xs R => match xs with
  | [.lst ys] => ∃ bs, ints? ys = some bs ∧ 0 < bs.length ∧ ∀ m, m ∈ bs → (∀ y, y ∈ bs → y ≤ m) → R (.int m)
  | _ => False
theorem rc_min1 {K : PySem.W.Frag} : RC K T (rMin K) gMin1 := by
  intro W H xs pxs R Q o rx h k
  unfold gMin1 at h
  split at h
  · obtain ⟨bs, h1, h3, h2⟩ := h
    cases rx with
    | cons r1 r2 =>
      cases r2
      cases r1 with
      | lst hq rl =>
        rw [ints_inv h1] at rl
        have e := rl.ints_inv
        subst e
        exact ⟨_, bs, rfl, .of (o.sub _ _ hq), h3, fun m a1 a2 => k.now o (.int _) (h2 m a1 a2)⟩
  · exact h.elim
theorem rc_max1 {K : PySem.W.Frag} : RC K T (rMax K) gMax1 := by
  intro W H xs pxs R Q o rx h k
  unfold gMax1 at h
  split at h
  · obtain ⟨bs, h1, h3, h2⟩ := h
    cases rx with
    | cons r1 r2 =>
      cases r2
      cases r1 with
      | lst hq rl =>
        rw [ints_inv h1] at rl
        have e := rl.ints_inv
        subst e
        exact ⟨_, bs, rfl, .of (o.sub _ _ hq), h3, fun m a1 a2 => k.now o (.int _) (h2 m a1 a2)⟩
  · exact h.elim
/-- sorted of ints -/
def sortI (ns : List Int) : List Int := ns.mergeSort (fun a b => decide (a ≤ b))
theorem sortI_perm (ns : List Int) : (sortI ns).Perm ns := List.mergeSort_perm ns _
theorem sortI_le (ns : List Int) : (sortI ns).Pairwise (· ≤ ·) := by
  have h := List.pairwise_mergeSort (le := fun a b : Int => decide (a ≤ b)) (fun a b c h1 h2 => by simp at h1 h2 ⊢; omega) (fun a b => by simp; omega) ns
  exact h.imp fun h => by simpa using h
theorem sorted_eq : ∀ {xs ys : List Int}, xs.Perm ys → xs.Pairwise (· ≤ ·) → ys.Pairwise (· ≤ ·) → xs = ys := fun {xs ys} p a b => List.Perm.eq_of_pairwise (le := (· ≤ ·)) (fun x y _ _ h1 h2 => by omega) a b p
def gSorted : PFC := fun xs R => match xs with
  | [.lst ys] => ∃ bs, ints? ys = some bs ∧ R (.lst ((sortI bs).map PV.int))
  | _ => False
theorem rc_sorted {K : PySem.W.Frag} : RC K T (rSortedI K) gSorted := by
  intro W H xs pxs R Q o rx h k
  unfold gSorted at h
  split at h
  · obtain ⟨bs, h1, h2⟩ := h
    cases rx with
    | cons r1 r2 =>
      cases r2
      cases r1 with
      | lst hq rl =>
        rw [ints_inv h1] at rl
        have e := rl.ints_inv
        subst e
        refine ⟨_, bs, rfl, .of (o.sub _ _ hq), fun ns' p pm pw hp => ?_⟩
        have e := sorted_eq (pm.trans (sortI_perm bs).symm) pw (sortI_le bs)
        subst e
        exact k.newL o (.ints _) h2 p hp
  · exact h.elim
/-! ### isinstance -/
def tyN : PV → String
  | .non => "NoneType"
  | .bl _ => "bool"
  | .int _ => "int"
  | .str _ => "str"
  | .tup _ => "tuple"
  | .lst _ => "list"
  | .dic _ => "dict"
  | _ => ""
def isi : PV → Ty → Bool
  | .bl _, .bool => true
  | .bl _, .int => true
  | .int _, .int => true
  | .str _, .str => true
  | .tup _, .tuple => true
  | .lst _, .list => true
  | .dic _, .dict => true
  | _, _ => false
def isD : PV → Bool
  | .non => true
  | .bl _ => true
  | .int _ => true
  | .str _ => true
  | .tup _ => true
  | .lst _ => true
  | .dic _ => true
  | _ => false
theorem tyx_of {K : PySem.W.Frag} {W : Wd} {H : Hp} (o : OkW T W H) {x : PV} {v : V} (r : Rep K W x v) (h : isD x = true) : TyX K H v (.type (tyN x)) := by
  cases r with
  | non => exact .base .non
  | bl b => exact .base (.bl b)
  | int b => exact .base (.int b)
  | str b => exact .base (.str b)
  | tup hq rl =>
    rcases o.tup hq with (z | ⟨u, z⟩) | ⟨ob, its, n, h1, h2, _⟩
    · exact .base (.tup z)
    · exact .fTuple z
    · exact .kTuple h1 h2
  | lst hq rl => exact .base (.lst (o.sub _ _ hq))
  | dic hq rl => exact .base (.dK (o.sub _ _ hq))
  | _ => cases h
theorem kit_isi {K : PySem.W.Frag} {x : PV} {n : Ty} (h : isD x = true) : PySem.W.kitOne K (.type (tyN x)) (.type n.name) = some (isi x n) := by
  cases n with
  | int =>
    cases x with
    | non => exact (show PySem.W.kitOne K (.type "NoneType") (.type "int") = some false from kit_ty (by decide +kernel))
    | bl b => exact (show PySem.W.kitOne K (.type "bool") (.type "int") = some true from kit_ty (by decide +kernel))
    | int b => exact (show PySem.W.kitOne K (.type "int") (.type "int") = some true from kit_ty (by decide +kernel))
    | str b => exact (show PySem.W.kitOne K (.type "str") (.type "int") = some false from kit_ty (by decide +kernel))
    | tup b => exact (show PySem.W.kitOne K (.type "tuple") (.type "int") = some false from kit_ty (by decide +kernel))
    | lst b => exact (show PySem.W.kitOne K (.type "list") (.type "int") = some false from kit_ty (by decide +kernel))
    | dic b => exact (show PySem.W.kitOne K (.type "dict") (.type "int") = some false from kit_ty (by decide +kernel))
    | _ => cases h
  | bool =>
    cases x with
    | non => exact (show PySem.W.kitOne K (.type "NoneType") (.type "bool") = some false from kit_ty (by decide +kernel))
    | bl b => exact (show PySem.W.kitOne K (.type "bool") (.type "bool") = some true from kit_ty (by decide +kernel))
    | int b => exact (show PySem.W.kitOne K (.type "int") (.type "bool") = some false from kit_ty (by decide +kernel))
    | str b => exact (show PySem.W.kitOne K (.type "str") (.type "bool") = some false from kit_ty (by decide +kernel))
    | tup b => exact (show PySem.W.kitOne K (.type "tuple") (.type "bool") = some false from kit_ty (by decide +kernel))
    | lst b => exact (show PySem.W.kitOne K (.type "list") (.type "bool") = some false from kit_ty (by decide +kernel))
    | dic b => exact (show PySem.W.kitOne K (.type "dict") (.type "bool") = some false from kit_ty (by decide +kernel))
    | _ => cases h
  | str =>
    cases x with
    | non => exact (show PySem.W.kitOne K (.type "NoneType") (.type "str") = some false from kit_ty (by decide +kernel))
    | bl b => exact (show PySem.W.kitOne K (.type "bool") (.type "str") = some false from kit_ty (by decide +kernel))
    | int b => exact (show PySem.W.kitOne K (.type "int") (.type "str") = some false from kit_ty (by decide +kernel))
    | str b => exact (show PySem.W.kitOne K (.type "str") (.type "str") = some true from kit_ty (by decide +kernel))
    | tup b => exact (show PySem.W.kitOne K (.type "tuple") (.type "str") = some false from kit_ty (by decide +kernel))
    | lst b => exact (show PySem.W.kitOne K (.type "list") (.type "str") = some false from kit_ty (by decide +kernel))
    | dic b => exact (show PySem.W.kitOne K (.type "dict") (.type "str") = some false from kit_ty (by decide +kernel))
    | _ => cases h
  | tuple =>
    cases x with
    | non => exact (show PySem.W.kitOne K (.type "NoneType") (.type "tuple") = some false from kit_ty (by decide +kernel))
    | bl b => exact (show PySem.W.kitOne K (.type "bool") (.type "tuple") = some false from kit_ty (by decide +kernel))
    | int b => exact (show PySem.W.kitOne K (.type "int") (.type "tuple") = some false from kit_ty (by decide +kernel))
    | str b => exact (show PySem.W.kitOne K (.type "str") (.type "tuple") = some false from kit_ty (by decide +kernel))
    | tup b => exact (show PySem.W.kitOne K (.type "tuple") (.type "tuple") = some true from kit_ty (by decide +kernel))
    | lst b => exact (show PySem.W.kitOne K (.type "list") (.type "tuple") = some false from kit_ty (by decide +kernel))
    | dic b => exact (show PySem.W.kitOne K (.type "dict") (.type "tuple") = some false from kit_ty (by decide +kernel))
    | _ => cases h
  | list =>
    cases x with
    | non => exact (show PySem.W.kitOne K (.type "NoneType") (.type "list") = some false from kit_ty (by decide +kernel))
    | bl b => exact (show PySem.W.kitOne K (.type "bool") (.type "list") = some false from kit_ty (by decide +kernel))
    | int b => exact (show PySem.W.kitOne K (.type "int") (.type "list") = some false from kit_ty (by decide +kernel))
    | str b => exact (show PySem.W.kitOne K (.type "str") (.type "list") = some false from kit_ty (by decide +kernel))
    | tup b => exact (show PySem.W.kitOne K (.type "tuple") (.type "list") = some false from kit_ty (by decide +kernel))
    | lst b => exact (show PySem.W.kitOne K (.type "list") (.type "list") = some true from kit_ty (by decide +kernel))
    | dic b => exact (show PySem.W.kitOne K (.type "dict") (.type "list") = some false from kit_ty (by decide +kernel))
    | _ => cases h
  | dict =>
    cases x with
    | non => exact (show PySem.W.kitOne K (.type "NoneType") (.type "dict") = some false from kit_ty (by decide +kernel))
    | bl b => exact (show PySem.W.kitOne K (.type "bool") (.type "dict") = some false from kit_ty (by decide +kernel))
    | int b => exact (show PySem.W.kitOne K (.type "int") (.type "dict") = some false from kit_ty (by decide +kernel))
    | str b => exact (show PySem.W.kitOne K (.type "str") (.type "dict") = some false from kit_ty (by decide +kernel))
    | tup b => exact (show PySem.W.kitOne K (.type "tuple") (.type "dict") = some false from kit_ty (by decide +kernel))
    | lst b => exact (show PySem.W.kitOne K (.type "list") (.type "dict") = some false from kit_ty (by decide +kernel))
    | dic b => exact (show PySem.W.kitOne K (.type "dict") (.type "dict") = some true from kit_ty (by decide +kernel))
    | _ => cases h
def gIsi : PFC := fun xs R => match xs with
  | [x, .ty n] => isD x = true ∧ R (.bl (isi x n))
  | _ => False
theorem rc_isi {K : PySem.W.Frag} : RC K T (rIsi K) gIsi := by
  intro W H xs pxs R Q o rx h k
  unfold gIsi at h
  split at h
  · obtain ⟨h1, h3⟩ := h
    cases rx with
    | cons r1 r2 =>
      cases r2 with
      | cons r2 r3 =>
        cases r3
        cases r2
        exact ⟨_, _, _, _, _, rfl, .ty _, tyx_of o r1 h1, kit_isi h1, k.now o (.bl _) h3⟩
  · exact h.elim

/-! ### in a list or tuple of flat things -/
def flatP : PV → Bool
  | .non => true
  | .bl _ => true
  | .int _ => true
  | .str _ => true
  | _ => false
theorem flat_of {K : PySem.W.Frag} {W : Wd} {x : PV} {v : V} (r : Rep K W x v) (h : flatP x = true) : flatV v = true := by
  cases r <;> first | rfl | cases h
theorem flats_of {K : PySem.W.Frag} {W : Wd} : ∀ {x : List PV} {v : List V}, RepL K W x v → x.all flatP = true → v.all flatV = true
  | _, _, .nil, _ => rfl
  | _, _, .cons r t, h => by
    rw [List.all_cons, Bool.and_eq_true] at h
    rw [List.all_cons, Bool.and_eq_true]
    exact ⟨flat_of r h.1, flats_of t h.2⟩
theorem eqV_peq {K : PySem.W.Frag} {W : Wd} {x y : PV} {v u : V} (r : Rep K W x v) (r2 : Rep K W y u) (h : flatP x = true) (h2 : flatP y = true) : eqV v u = peq x y := by
  cases r <;> first | (cases h; done) | (cases r2 <;> first | rfl | (cases h2; done) | simp [eqV, peq])
def inP (x : PV) (xs : List PV) : Bool := xs.any fun y => peq y x
theorem inV_inP {K : PySem.W.Frag} {W : Wd} {x : PV} {v : V} (r : Rep K W x v) (h : flatP x = true) : ∀ {xs : List PV} {vs : List V}, RepL K W xs vs → xs.all flatP = true → inV v vs = inP x xs
  | _, _, .nil, _ => rfl
  | _, _, .cons r1 t, h2 => by
    rw [List.all_cons, Bool.and_eq_true] at h2
    have e := inV_inP r h t h2.2
    show (eqV _ _ || inV v _) = (peq _ _ || inP x _)
    rw [e, eqV_peq r1 r h2.1 h]
/-- flat in flat, or data in data -/
def fIn (neg : Bool) : PF2 := fun x y R => match y with
  | .lst ys => (flatP x && ys.all flatP) = true ∧ R (.bl (if neg then !inP x ys else inP x ys))
  | .tup ys => (flatP x && ys.all flatP) = true ∧ R (.bl (if neg then !inP x ys else inP x ys))
  | _ => False
theorem rb_in {K : PySem.W.Frag} {neg : Bool} : RB K T (rIn K neg) (fIn neg) := by
  intro W H x y px py R Q o rx ry h k
  unfold fIn at h
  split at h
  · obtain ⟨h1, h2⟩ := h
    rw [Bool.and_eq_true] at h1
    cases ry with
    | lst hq rl =>
      refine ⟨_, _, rfl, .inl (.of (o.sub _ _ hq)), flat_of rx h1.1, flats_of rl h1.2, ?_⟩
      rw [inV_inP rx h1.1 rl h1.2]
      exact k.now o (.bl _) h2
  · obtain ⟨h1, h2⟩ := h
    rw [Bool.and_eq_true] at h1
    cases ry with
    | tup hq rl =>
      refine ⟨_, _, rfl, .inr (o.tup hq), flat_of rx h1.1, flats_of rl h1.2, ?_⟩
      rw [inV_inP rx h1.1 rl h1.2]
      exact k.now o (.bl _) h2
  · exact h.elim
/-! ### - -/
def pNeg (p : PP) : PP := fun ρ R => p ρ fun x => match x with
  | .int i => R (.int (-i))
  | _ => False
theorem le_neg (ha : PE X a (up X.K T C p)) : PE X (.UnaryOp .USub a pos) (up X.K T C (pNeg p)) :=
  PE.weak (pe_un un_neg ha) fun σ H Q ⟨W, ρ, R, g, w, k⟩ => ⟨W, ρ, _, g, w, fun x H1 W1 px e1 o1 r1 h1 => by
    cases px <;> first | exact h1.elim | skip
    cases r1
    exact ⟨_, rfl, k _ H1 W1 _ e1 o1 (.int _) h1⟩⟩

/-! ### calls of own defs -/
abbrev PSpec := List PV → PK → (PX → Prop) → Prop
def pSp (K : PySem.W.Frag) (T : List (Addr × Str)) (n : Nat) (φ : PSpec) : Sp := fun vs H Q E => ∃ W pvs R Ep, OkW T W H ∧ RepL K W pvs vs ∧ pvs.length = n ∧ φ pvs R Ep ∧ Aft K T W H R Q ∧
  ∀ cls d H' W' x, Ext W H W' H' → OkW T W' H' → RepX K W' x cls d → Ep x → E cls d H'
def pCall (φ : PSpec) (Ep : PX → Prop) (pa : PPA) : PP := fun ρ R => pa ρ fun xs => φ xs R Ep
theorem up_call {φ : PSpec} : ∀ σ H Q, up X.K T C (pCall φ C.Ep pa) σ H Q → tCall (pSp X.K T n φ) [] C.E (upA X.K T C n pa) σ H Q := fun σ H Q ⟨W, ρ, R, g, w, k⟩ =>
  ⟨W, ρ, _, g, w, fun vs H1 W1 xs e1 o1 r1 hl h1 => by
    show pSp X.K T n φ (vs ++ []) H1 Q C.E
    rw [List.append_nil]
    exact ⟨W1, xs, R, C.Ep, o1, r1, hl, h1, k.pre e1 o1, fun cls d H2 W2 x e2 o2 r2 h2 => g.exc cls d H2 W2 x (g.ext.trans (e1.trans e2 o1) g.ok) o2 r2 h2⟩⟩
theorem le_call {CX : CXT} {k : Nat} {f : Addr} {fd : FuncData} {ps : List Str} {φ : PSpec} {x : Str} {pp : Pos} (F : FnOk X.prog X.w X.K X.mg X.base CX k f fd ps (pSp X.K T n φ)) (hr : Room k X.A) (hg : Gl X x) (hm : X.mg x = some (.ref f)) (hk : PySem.W.keepIn X.K (.ref f) = true) (hb : Binds X.K fd ps [])
    (hp : Passes CX X C.E) (ha : PA X (e :: es) (upA X.K T C n pa)) (hdb : (x == ("__debug__" : Str)) = false := by decide) (he : starEach (e :: es) X.env = (false, eval e X.env) :: starEach es X.env := by rfl) (hpl : (backTo pos (starEach es X.env)).any (·.1) = false := by rfl) :
    PE X (.Call (.Name x pp) (e :: es) [] pos) (up X.K T C (pCall φ C.Ep pa)) := PE.weak (pe_call F hr hg hm hk hb .nil hp ha hdb he hpl) up_call
end
end Pu

/-! The pure layer, part En: enumerate of a tuple. -/
namespace Pu
open PySem L2 PyProof.Rows
open AutoSeq1 (wpAny_loadPart')
theorem meets_enumerate_newT (l : Addr) (items : Array Value) :
    Meets (Builtin.«enumerate.__new__» ⟨[.type "enumerate", .ref l], []⟩) (fun _ R s => s.heap.IsTuple l items ∧
      R (.ok (.ret (.ref (s.heap.push { cls := .type "tuple_iterator", data := .fields #[.ref l, .int 0 0] }).objs.size)))
        { s with heap := (s.heap.push { cls := .type "tuple_iterator", data := .fields #[.ref l, .int 0 0] }).push { cls := .type "enumerate", data := .fields #[.none, .bool false, .ref s.heap.objs.size, rawInt 0, .none, .none] } }) :=
  .of_wp fun prog w A R s h => by
    obtain ⟨hp, g, d, tk, os⟩ := s; obtain ⟨hl, h⟩ := h
    have hsub := sub_enumerate
    have hL : Heap.IsTuple (Shared.heap ⟨hp, g, d, tk, os⟩) l items := hl
    wp_walk using wpAny_pyIter_tuple hL
    refine wpAny_stack_any fun st => wpAny_pure ?_
    split
    · rename_i c _ _ _ _ _
      cases (c == Value.type "enumerate")
      · wp_walk using wpAny_pyIter_tuple hL
        exact ⟨_, rfl, h⟩
      · wp_walk using wpAny_pyIter_tuple hL
        exact ⟨_, rfl, h⟩
    · wp_walk using wpAny_pyIter_tuple hL
      exact ⟨_, rfl, h⟩
section
variable {prog : Program} {w : World} {A : Around} {E : Value → Shared → Prop} {s : Shared}
theorem call_enumerate_tuple {l : Addr} {items : Array Value} {Q : Value → Shared → Prop} (hL : s.heap.IsTuple l items)
    (h : ∀ h', IsEnum h' (s.heap.objs.size + 1) s.heap.objs.size 0 .none → h'.IsTupleIter s.heap.objs.size l 0 → h'.objs.size = s.heap.objs.size + 2 →
      (∀ b o, s.heap.get? b = some o → h'.get? b = some o) → Q (.ref (s.heap.objs.size + 1)) { s with heap := h' }) :
    wpAny (model prog w) A (call (.type "enumerate") [.ref l]) Q E s := by
  refine callType_new F.called_enumerate (by decide) (F.typeCall_enumerate_1 _) (F.newCall_enumerate_1 _) (fun obj => F.args_object_init_2 obj _) F.entry_enumerate_new
    (meets_enumerate_newT l items) ⟨hL, ?_⟩
  have hz : (s.heap.push { cls := .type "tuple_iterator", data := .fields #[.ref l, .int 0 0] }).objs.size = s.heap.objs.size + 1 := Heap.size_push ..
  show _ ∧ _
  rw [hz]
  have he : IsEnum ((s.heap.push { cls := .type "tuple_iterator", data := .fields #[.ref l, .int 0 0] }).push
      { cls := .type "enumerate", data := .fields #[.none, .bool false, .ref s.heap.objs.size, rawInt 0, .none, .none] }) (s.heap.objs.size + 1) s.heap.objs.size 0 .none := by
    have := Heap.get?_push_size (s.heap.push { cls := .type "tuple_iterator", data := .fields #[.ref l, .int 0 0] })
      (o := { cls := .type "enumerate", data := .fields #[.none, .bool false, .ref s.heap.objs.size, rawInt 0, .none, .none] }) rfl
    rw [hz] at this; exact this
  refine ⟨⟨_, he, rfl⟩, h _ he ⟨_, Heap.get?_push_of_some _ (Heap.get?_push_size _ rfl), rfl, rfl⟩ (by rw [Heap.size_push, hz]) fun b o x => Heap.get?_push_of_some _ (Heap.get?_push_of_some _ x)⟩
end
/-- the tuple at a, each item in a new pair -/
def IteT (K : PySem.W.Frag) (a : Addr) : It :=
  ⟨fun i H => ∃ (xs : List V) (x : V), SqT K H a xs ∧ xs[i]? = some x, fun i H v H' => ∃ T x, v = .ref T ∧ H T = none ∧ H' = upd H T (.tup [.int (i : Nat), x]) ∧ ∀ xs, SqT K H a xs → xs[i]? = some x, fun i H => ∃ xs : List V, SqT K H a xs ∧ xs.length ≤ i⟩
theorem turn_enumT {P : Program} {w : World} {K : PySem.W.Frag} {elts : List Expr} {kk : Nat} {tpos : Pos} (a e it : Addr) :
    Turn P w K (.Tuple elts kk tpos) (IteT K a) [e, it] e (fun i h => (∃ old, IsEnum h e it ((i : Nat) : Int) old) ∧ h.IsTupleIter it a i ∧ e ≠ it ∧ a ≠ it ∧ e ≠ a) where
  mem := by simp
  obj := fun i h st b hb => by
    obtain ⟨⟨old, he⟩, ⟨o, ho, hc, hd⟩, _⟩ := st
    have e' : b = e ∨ b = it := by simpa using hb
    rcases e' with z | z
    · rw [z]; exact ⟨_, he, fun v q => nomatch q⟩
    · rw [z]; exact ⟨o, ho, fun v q => by rw [hd] at q; cases q⟩
  keep := fun i h h' st k => let ⟨⟨old, he⟩, hi, hne⟩ := st; ⟨⟨old, k e (by simp) _ he⟩, hi.at fun o q => k it (by simp) o q, hne⟩
  item := by
    intro X hP hw hK hc i pins s σ H E I hf st hg
    subst hP hw hK
    obtain ⟨⟨old, he⟩, hit, hne, hai, hea⟩ := st
    obtain ⟨xs, x, hq, hx⟩ := hg
    obtain ⟨its, rv, p, hz⟩ := I.tuple hq
    obtain ⟨u, hu, ru⟩ := rv.get hx
    have hel : e < s.heap.objs.size := Heap.lt_size he
    have hil : it < s.heap.objs.size := by obtain ⟨_, q, _⟩ := hit; exact Heap.lt_size q
    have hT0 : s.heap.IsTuple a its.toArray := p
    have hlt : i < its.toArray.size := by
      have := (List.getElem?_eq_some_iff.mp hu).1
      simpa using this
    refine wpAny_pyNext_enum_itemD (Draws.tuple (show X.A.in1.handled = none from I.ok.hd hc) it a hai its.toArray) he ⟨hit, hT0⟩ hlt hne (by simp [hne, hea]) fun x' h' tk hP ho hit' hT hsz hk => ?_
    have ex : x' = u := by
      have h1 : its[i]? = some x' := by simpa using hP
      rw [hu] at h1
      exact (Option.some.inj h1).symm
    subst ex
    refine ⟨_, rfl, wpAny_letOwnedTupleGo_enum (s := { s with heap := h', toks := tk + 1 }) ho fun h'' he' sb => ?_⟩
    have hT2 : h''.get? s.heap.objs.size = some { cls := .type "tuple", data := .seq #[.int i tk, x'] } := (sb.2 _ (Nat.ne_of_gt hel)).trans hT
    have new : ObjOk X.prog X.w (upd H s.heap.objs.size (.tup [.int (i : Nat), x])) h'' s.heap.objs.size (.tup [.int (i : Nat), x]) :=
      ⟨by show 2 ≤ sizeLine; decide, [.int i tk, x'], .cons ⟨_, rfl⟩ (.cons ru .nil), ⟨_, hT2, rfl, _, rfl⟩⟩
    have I1 : Inv X pins σ (upd H s.heap.objs.size (.tup [.int (i : Nat), x])) { s with heap := h'', toks := tk + 1 } :=
      I.turnedNew (ch := [e, it]) (fun b ob hb q => (sb.2 b (fun z => hb (by simp [z]))).trans (hk b ob (fun z => hb (by simp [z])) (fun z => hb (by simp [z])) q)) hf (Nat.le_refl _) new
    refine ⟨.ref s.heap.objs.size, _, I1, rfl, ⟨_, x, rfl, I.hok.fresh (Nat.le_refl _), rfl, fun ys hy => by rw [I.tuple_inj hy hq]; exact hx⟩, ⟨⟨x', ?_⟩, hit'.1.at fun o q => (sb.2 it (Ne.symm hne)).trans q, hne, hai, hea⟩, fun b hb => ?_⟩
    · have e1 : ((i + 1 : Nat) : Int) = (i : Int) + 1 := by omega
      rw [e1]; exact he'
    · have hb' : b < s.heap.objs.size := by
        have e' : b = e ∨ b = it := by simpa using hb
        rcases e' with z | z
        · rw [z]; exact hel
        · rw [z]; exact hil
      rw [upd_ne (Nat.ne_of_lt hb')]
      exact (hf b hb).1
  done := by
    intro X hP hw hK hc i pins s σ H E I hf st hg
    subst hP hw hK
    obtain ⟨⟨old, he⟩, hit, hne, hai, hea⟩ := st
    obtain ⟨xs, hq, hx⟩ := hg
    obtain ⟨its, rv, p, hz⟩ := I.tuple hq
    obtain ⟨f0, f1, f2, f3, f4, f5⟩ := hf it (by simp)
    have hl := rv.length
    have hT0 : s.heap.IsTuple a its.toArray := p
    have hT : s.TypeIs (.ref e) "enumerate" := ⟨_, he, rfl⟩
    unfold pyNext
    refine wpAny_bind (wpAny_attempt (wpAny_callSpecial?_slot (name := Str.ofString "__next__") hT F.slot_enumerate_next
      (wpAny_call_entry F.slot_enumerate_next hT F.entry_enumerate_next ?_ (F.args_enumerate_next_1 _))))
    show wpAny _ _ (field (.ref e) 2 >>= _) _ _ _
    refine wpAny_bind (wpAny_field he rfl (x := .ref it) rfl ?_)
    refine wpAny_bind (PySem.wpAny_nextOf_tuple_end (show X.A.in1.handled = none from I.ok.hd hc) hit hT0 (by simp; omega) fun h' x he' hx' => ?_)
    obtain ⟨o, ho, hcl⟩ := hx'
    refine wpAny_bind (wpAny_isInstance (T := "StopIteration") (b := true) ⟨o, ho, hcl⟩ isSubtype_stop ?_)
    exact wpAny_pure ⟨rfl, I.turned (t' := s.toks) (fun b o hb q => he' b o hb q) f0 f1 f3 f4 f5⟩
  self := fun A i s Q E st h => let ⟨⟨_, he⟩, _⟩ := st; wpAny_pyIter_enum he h
def iEnumB (K : PySem.W.Frag) (ta : TA) : TI := fun σ H R => ta σ H fun vs H1 => ∃ a xs, vs = [.ref a] ∧ ((SqL K H1 a xs ∧ R (Ite K a) H1) ∨ (SqT K H1 a xs ∧ R (IteT K a) H1))
theorem pi_enumB {X : Cx} {e : Expr} {ta : TA} {p pos tpos : Pos} {elts : List Expr} {kk : Nat} (hg : Gl X "enumerate") (hm : X.mg "enumerate" = none) (ha : PA X [e] ta) (hs : starEach [e] X.env = [(false, eval e X.env)] := by rfl) :
    PI X (.Tuple elts kk tpos) (.Call (.Name "enumerate" p) [e] [] pos) (iEnumB X.K ta) := by
  refine ⟨fun pins s σ H R I h => ?_⟩
  refine Call_ (ld_blt I hg hm boot_enumerate (PyProof.Rows.callWith_type1 (thn (ha.run pos pins s σ H _ I h) fun us s1 ⟨vs, H1, I1, r1, q1⟩ => ?_) hs rfl))
  obtain ⟨a, xs, ex, q1⟩ := q1
  subst ex
  cases r1 with
  | cons r rr =>
    cases rr
    cases r
    have fr : ∀ b, b ∈ [s1.heap.objs.size + 1, s1.heap.objs.size] → FpOk X pins H1 b := fun b hb => by
      have e' : b = s1.heap.objs.size + 1 ∨ b = s1.heap.objs.size := by simpa using hb
      have hle : s1.heap.objs.size ≤ b := by
        rcases e' with z | z
        · rw [z]; exact Nat.le_add_right _ _
        · rw [z]; exact Nat.le_refl _
      exact I1.fpOk hle (I1.hok.fresh hle)
    rcases q1 with ⟨hq, q⟩ | ⟨hq, q⟩
    · obtain ⟨its, rv, p', hz⟩ := I1.list hq
      refine call_enumerate_list p'.isList fun h' he hit hsz hk => wpAny_pyIter_enum he ?_
      have I2 : Inv X pins σ H1 { s1 with heap := h' } := I1.kept (t' := s1.toks) hk
      exact ⟨s1.heap.objs.size + 1, [s1.heap.objs.size + 1, s1.heap.objs.size], _, _, H1, rfl, I2, turn_enum a (s1.heap.objs.size + 1) s1.heap.objs.size, ⟨⟨.none, he⟩, hit, Nat.succ_ne_self _⟩, fr, q⟩
    · obtain ⟨its, rv, p', hz⟩ := I1.tuple hq
      have hT0 : s1.heap.IsTuple a its.toArray := p'
      have hal : a < s1.heap.objs.size := by obtain ⟨_, q, _⟩ := hT0; exact Heap.lt_size q
      refine call_enumerate_tuple hT0 fun h' he hit hsz hk => wpAny_pyIter_enum he ?_
      have I2 : Inv X pins σ H1 { s1 with heap := h' } := I1.kept (t' := s1.toks) hk
      exact ⟨s1.heap.objs.size + 1, [s1.heap.objs.size + 1, s1.heap.objs.size], _, _, H1, rfl, I2, turn_enumT a (s1.heap.objs.size + 1) s1.heap.objs.size, ⟨⟨.none, he⟩, hit, Nat.succ_ne_self _, Nat.ne_of_lt hal, Nat.ne_of_gt (Nat.lt_succ_of_lt hal)⟩, fr, q⟩
end Pu

/-! The pure layer, part D: targets, what is walked, comprehensions. -/
namespace Pu
open PySem L2

/-! ### targets: names, tuples of names -/
inductive Tgt where
  | nm (i : Nat) | tp (is : List Nat)
def Tgt.slots : Tgt → List Nat
  | .nm i => [i]
  | .tp is => is
def gNs : List Nat → TGs
  | [] => gNil
  | i :: r => gCons (gName i) (gNs r)
def gT (K : PySem.W.Frag) : Tgt → TG
  | .nm i => gName i
  | .tp is => gTup K is.length (gNs is)
def setAll : List Nat → List PV → PEnv → (PEnv → Prop) → Prop
  | [], [], ρ, R => R ρ
  | i :: r, x :: xs, ρ, R => setAll r xs (ρ.set i (some (.val x))) R
  | _, _, _, _ => False
def tgt (t : Tgt) (y : PV) (ρ : PEnv) (R : PEnv → Prop) : Prop := match t with
  | .nm i => R (ρ.set i (some (.val y)))
  | .tp is => match y with
    | .tup xs => setAll is xs ρ R
    | _ => False
theorem wipe_set {σ : L2.St} {i : Nat} {v : Option V} : ∀ {vs : List Nat}, i ∈ vs → wipe (σ.set i v) vs = wipe σ vs
  | [], h => by cases h
  | j :: r, h => by
    show (wipe (σ.set i v) r).set j none = (wipe σ r).set j none
    by_cases e : i ∈ r
    · rw [wipe_set e]
    · have ej : i = j := by
        rcases List.mem_cons.mp h with e2 | e2
        · exact e2
        · exact absurd e2 e
      subst ej
      have aux : ∀ (r : List Nat) (σ : L2.St), i ∉ r → wipe (σ.set i v) r = (wipe σ r).set i v := by
        intro r
        induction r with
        | nil => intro σ _; rfl
        | cons k r ih =>
          intro σ hk
          show (wipe (σ.set i v) r).set k none = ((wipe σ r).set k none).set i v
          rw [ih σ (fun z => hk (List.mem_cons_of_mem _ z)), List.set_comm]
          exact fun z => hk (by rw [z]; exact List.mem_cons_self)
      rw [aux r σ e, List.set_set]
theorem wipe_wipe {σ : L2.St} : ∀ {vs us : List Nat}, (∀ i ∈ us, i ∈ vs) → wipe (wipe σ us) vs = wipe σ vs
  | vs, [], _ => rfl
  | vs, i :: us, h => by
    show wipe ((wipe σ us).set i none) vs = wipe σ vs
    rw [wipe_set (h i List.mem_cons_self)]
    exact wipe_wipe fun j hj => h j (List.mem_cons_of_mem _ hj)
section
variable {K : PySem.W.Frag} {T : List (Addr × Str)} {B : Hp} {W : Wd} {H : Hp}
theorem ns_ok : ∀ {is : List Nat} {ys : List PV} {vs : List V} {σ : L2.St} {ρ : PEnv} {R : PEnv → Prop} {Q : L2.St → Hp → Prop}, EnvR K B W H σ ρ → RepL K W ys vs → setAll is ys ρ R →
    (∀ σ' ρ', EnvR K B W H σ' ρ' → (∀ us, (∀ i ∈ is, i ∈ us) → wipe σ' us = wipe σ us) → R ρ' → Q σ' H) → gNs is vs σ H Q
  | [], [], _, σ, ρ, _, _, g, r, h, k => by
    cases r
    exact ⟨rfl, k σ ρ g (fun _ _ => rfl) h⟩
  | [], _ :: _, _, _, _, _, _, _, _, h, _ => h.elim
  | _ :: _, [], _, _, _, _, _, _, _, h, _ => h.elim
  | i :: is, y :: ys, _, σ, ρ, R, Q, g, .cons r rr, h, k => by
    refine ⟨_, _, rfl, ?_⟩
    refine ns_ok (g.set (i := i) r) rr h fun σ' ρ' g' w' h' => k σ' ρ' g' (fun us hu => ?_) h'
    rw [w' us fun j hj => hu j (List.mem_cons_of_mem _ hj), wipe_set (hu i List.mem_cons_self)]
theorem tgt_ok {t : Tgt} {y : PV} {v : V} {σ : L2.St} {ρ : PEnv} {R : PEnv → Prop} {Q : L2.St → Hp → Prop} (o : OkW T W H) (g : EnvR K B W H σ ρ) (r : Rep K W y v) (h : tgt t y ρ R)
    (k : ∀ σ' ρ', EnvR K B W H σ' ρ' → (∀ us, (∀ i ∈ t.slots, i ∈ us) → wipe σ' us = wipe σ us) → R ρ' → Q σ' H) : gT K t v σ H Q := by
  cases t with
  | nm i => exact k _ _ (g.set r) (fun us hu => wipe_set (hu i (by simp [Tgt.slots]))) h
  | tp is =>
    unfold tgt at h
    dsimp only at h
    split at h
    · rename_i xs
      cases r with
      | tup hq rl =>
        have hl : ∀ {is : List Nat} {ys : List PV} {ρ : PEnv}, setAll is ys ρ R → ys.length = is.length := by
          intro is
          induction is with
          | nil =>
            intro ys ρ h
            cases ys with
            | nil => rfl
            | cons _ _ => exact h.elim
          | cons i is ih =>
            intro ys ρ h
            cases ys with
            | nil => exact h.elim
            | cons y ys => exact congrArg Nat.succ (ih (ρ := ρ.set i (some (.val y))) h)
        exact ⟨_, _, rfl, o.tup hq, by rw [rl.length]; exact hl h, ns_ok g rl h k⟩
    · exact h.elim
end

/-! ### what is walked -/
/-- J yields just items, one by one, in whatever later world -/
def ItSim (K : PySem.W.Frag) (T : List (Addr × Str)) (J : It) (items : List PV) (W : Wd) : Prop := ∀ i W1 H1, W.Le W1 → OkW T W1 H1 → (items.length ≤ i → J.stop i H1) ∧
  ∀ y, items[i]? = some y → J.go i H1 ∧ ∀ x H2, J.yld i H1 x H2 → ∃ W2, Ext W1 H1 W2 H2 ∧ OkW T W2 H2 ∧ Rep K W2 y x
def iUp (K : PySem.W.Frag) (T : List (Addr × Str)) (C : Ct) (ps : PPA) : TI := fun σ H R => ∃ W ρ Q, Good K T C W σ H ρ ∧ ps ρ Q ∧ ∀ J H' W' ys, Ext W H W' H' → OkW T W' H' → ItSim K T J ys W' → ys.length ≤ sizeLine → Q ys → R J H'
section
variable {X : Cx} {T : List (Addr × Str)} {C : Ct} {tg e : Expr} {es : List Expr} {pos : Pos} {p : PP} {pa : PPA} {n : Nat}
theorem PI.weak {wi wi' : TI} (h : PI X tg e wi) (k : ∀ σ H Q, wi' σ H Q → wi σ H Q) : PI X tg e wi' := ⟨fun pins s σ H Q I w => h.run pins s σ H Q I (k σ H Q w)⟩
def iSeq (K : PySem.W.Frag) (tl : TE) : TI := fun σ H R => tl σ H fun x H1 => ∃ a, x = .ref a ∧ ((∃ xs, SqL K H1 a xs ∧ (xs.length ≤ sizeLine → R (Itl K a) H1)) ∨ ∃ xs, SqT K H1 a xs ∧ (xs.length ≤ sizeLine → R (Itt K a) H1))
theorem pi_seq {l : Expr} {tl : TE} (hl : PE X l tl) : PI X tg l (iSeq X.K tl) := by
  refine ⟨fun pins s σ H R I h => ?_⟩
  refine thn (hl.run pins s σ H _ I h) fun v s1 ⟨x, H1, I1, r1, q1⟩ => ?_
  obtain ⟨a, e, q⟩ := q1
  subst e
  cases r1
  rcases q with ⟨xs, hq, q⟩ | ⟨xs, hq, q⟩
  · obtain ⟨its, rv, p, hz⟩ := I1.list hq
    refine wpAny_pyIter_list p.isList ?_
    refine ⟨s1.heap.objs.size, [s1.heap.objs.size], _, _, H1, rfl, I1.kept (t' := s1.toks) fun b o e => Heap.get?_push_of_some _ e, turn_list a _, ⟨_, Heap.get?_push_size _ rfl, rfl, rfl⟩, fun b hb => ?_, q hz⟩
    have e : b = s1.heap.objs.size := by simpa using hb
    subst e
    exact I1.fpOk (Nat.le_refl _) (I1.hok.fresh (Nat.le_refl _))
  · obtain ⟨its, rv, p, hz⟩ := I1.tuple hq
    refine wpAny_pyIter_tuple (show s1.heap.IsTuple a its.toArray from p) ?_
    refine ⟨s1.heap.objs.size, [s1.heap.objs.size], _, _, H1, rfl, I1.kept (t' := s1.toks) fun b o e => Heap.get?_push_of_some _ e, turn_tuple a _, ⟨_, Heap.get?_push_size _ rfl, rfl, rfl⟩, fun b hb => ?_, q hz⟩
    have e : b = s1.heap.objs.size := by simpa using hb
    subst e
    exact I1.fpOk (Nat.le_refl _) (I1.hok.fresh (Nat.le_refl _))
theorem vals_inj {K : PySem.W.Frag} {H : Hp} {a : Addr} {xs : List V} {y : V} {i : Nat} (h : SqL K H a xs) (q : ∀ ys, SqL K H a ys → ys[i]? = some y) : xs[i]? = some y := q xs h
theorem sim_list {K : PySem.W.Frag} {W : Wd} {a : Addr} {ys : List PV} {vs : List V} (h : SqL K W.S a vs) (r : RepL K W ys vs) : ItSim K T (Itl K a) ys W := fun i W1 H1 le o => by
  have h1 := o.lst (sqL_le le h)
  refine ⟨fun hi => ⟨vs, h1, by rw [r.length]; exact hi⟩, fun y hy => ?_⟩
  obtain ⟨v, h2, h3⟩ := r.get hy
  refine ⟨⟨vs, v, h1, h2⟩, fun x H2 hx => ?_⟩
  obtain ⟨e, hx⟩ := hx
  subst e
  have e : v = x := Option.some.inj (h2.symm.trans (hx vs h1))
  subst e
  exact ⟨W1, .refl _ _, o, h3.le le⟩
theorem sim_tup {K : PySem.W.Frag} {W : Wd} {a : Addr} {ys : List PV} {vs : List V} (h : SqT K W.S a vs) (r : RepL K W ys vs) : ItSim K T (Itt K a) ys W := fun i W1 H1 le o => by
  have h1 := o.tup (sqT_le le h)
  refine ⟨fun hi => ⟨vs, h1, by rw [r.length]; exact hi⟩, fun y hy => ?_⟩
  obtain ⟨v, h2, h3⟩ := r.get hy
  refine ⟨⟨vs, v, h1, h2⟩, fun x H2 hx => ?_⟩
  obtain ⟨e, hx⟩ := hx
  subst e
  have e : v = x := Option.some.inj (h2.symm.trans (hx vs h1))
  subst e
  exact ⟨W1, .refl _ _, o, h3.le le⟩
/-- a list, a tuple, the script -/
def iItems (p : PP) : PPA := fun ρ R => p ρ fun x => match x with
  | .lst xs => R xs
  | .tup xs => R xs
  | .scr ns => R (ns.map PV.int)
  | _ => False
theorem li_seq (h : PE X e (up X.K T C p)) : PI X tg e (iUp X.K T C (iItems p)) := PI.weak (pi_seq h) fun σ H R ⟨W, ρ, Q, g, w, k⟩ => ⟨W, ρ, _, g, w, fun x H1 W1 px e1 o1 r1 h1 => by
  cases px <;> first | exact h1.elim | skip
  · cases r1 with
    | tup hq rl => exact ⟨_, rfl, .inr ⟨_, o1.tup hq, fun hz => k _ H1 W1 _ e1 o1 (sim_tup hq rl) (by rw [← rl.length]; exact hz) h1⟩⟩
  · cases r1 with
    | lst hq rl => exact ⟨_, rfl, .inl ⟨_, o1.lst (.of hq), fun hz => k _ H1 W1 _ e1 o1 (sim_list (.of hq) rl) (by rw [← rl.length]; exact hz) h1⟩⟩
  · cases r1 with
    | scr hq => exact ⟨_, rfl, .inl ⟨_, o1.lst hq, fun hz => k _ H1 W1 _ e1 o1 (sim_list hq (.ints _)) (by rw [← (RepL.ints (K := X.K) (W := W1) _).length]; exact hz) h1⟩⟩⟩
/-- ranges -/
def rangeP (i j : Int) : List PV := (List.range (j - i).toNat).map fun k : Nat => PV.int (i + k)
theorem sim_range {K : PySem.W.Frag} {W : Wd} {i j : Int} {n : Nat} (hn : n = (j - i).toNat) : ItSim K T (Itr i n) (rangeP i j) W := fun k W1 H1 le o => by
  subst hn
  refine ⟨fun hi => by
    show (j - i).toNat ≤ k
    simpa only [rangeP, List.length_map, List.length_range] using hi, fun y hy => ?_⟩
  simp only [rangeP, List.getElem?_map, Option.map_eq_some_iff] at hy
  obtain ⟨m, h1, h2⟩ := hy
  have hm : m < (j - i).toNat ∧ m = k := by
    rw [List.getElem?_eq_some_iff] at h1
    obtain ⟨h3, h4⟩ := h1
    simp at h3 h4
    exact ⟨by omega, h4.symm⟩
  obtain ⟨hm, e⟩ := hm
  subst e
  refine ⟨hm, fun x H2 hx => ?_⟩
  obtain ⟨e, hx⟩ := hx
  subst e
  rw [hx, ← h2]
  exact ⟨W1, .refl _ _, o, .int _⟩
def iRange1 (pa : PPA) : PPA := fun ρ R => pa ρ fun xs => match xs with
  | [.int j] => (-(2 ^ 62) ≤ j ∧ j ≤ 16777216) ∧ R (rangeP 0 j)
  | _ => False
def iRange2 (pa : PPA) : PPA := fun ρ R => pa ρ fun xs => match xs with
  | [.int i, .int j] => (-(2 ^ 62) ≤ i ∧ i < 2 ^ 62 ∧ -(2 ^ 62) ≤ j ∧ j < 2 ^ 62 ∧ j - i ≤ 16777216) ∧ R (rangeP i j)
  | _ => False
theorem len_range {i j : Int} (h : j - i ≤ 16777216) : (rangeP i j).length ≤ sizeLine := by
  rw [sizeLine_eq]
  simp only [rangeP, List.length_map, List.length_range]
  omega
theorem li_range1 {pp : Pos} (hg : Gl X "range") (hm : X.mg "range" = none) (ha : PA X [e] (upA X.K T C n pa)) (hs : starEach [e] X.env = [(false, eval e X.env)] := by rfl) : PI X tg (.Call (.Name "range" pp) [e] [] pos) (iUp X.K T C (iRange1 pa)) :=
  PI.weak (pi_range1 hg hm ha hs) fun σ H R ⟨W, ρ, Q, g, w, k⟩ => ⟨W, ρ, _, g, w, fun vs H1 W1 xs e1 o1 r1 hl h1 => by
    split at h1
    · rename_i j
      obtain ⟨⟨b1, b2⟩, h1⟩ := h1
      cases r1 with
      | cons r2 r3 =>
        cases r3
        cases r2
        exact ⟨j, rfl, b1, by omega, k _ H1 W1 _ e1 o1 (sim_range (by simp)) (len_range (by omega)) h1⟩
    · exact h1.elim⟩
theorem li_range2 {a b : Expr} {pp : Pos} (hg : Gl X "range") (hm : X.mg "range" = none) (ha : PA X [a, b] (upA X.K T C n pa)) (hs : starEach [a, b] X.env = [(false, eval a X.env), (false, eval b X.env)] := by rfl) (hs2 : starEach [b] X.env = [(false, eval b X.env)] := by rfl) :
    PI X tg (.Call (.Name "range" pp) [a, b] [] pos) (iUp X.K T C (iRange2 pa)) :=
  PI.weak (pi_range2 hg hm ha hs hs2) fun σ H R ⟨W, ρ, Q, g, w, k⟩ => ⟨W, ρ, _, g, w, fun vs H1 W1 xs e1 o1 r1 hl h1 => by
    split at h1
    · rename_i i j
      obtain ⟨⟨b1, b2, b3, b4, b5⟩, h1⟩ := h1
      cases r1 with
      | cons r2 r3 =>
        cases r3 with
        | cons r3 r4 =>
          cases r4
          cases r2
          cases r3
          exact ⟨i, j, rfl, ⟨b1, b2, b3, b4⟩, k _ H1 W1 _ e1 o1 (sim_range rfl) (len_range b5) h1⟩
    · exact h1.elim⟩
/-- zip, enumerate: tuples -/
def zipP : List PV → List PV → List PV
  | x :: xs, y :: ys => .tup [x, y] :: zipP xs ys
  | _, _ => []
theorem zipP_get : ∀ {xs ys : List PV} {i : Nat} {z : PV}, (zipP xs ys)[i]? = some z → ∃ x y, xs[i]? = some x ∧ ys[i]? = some y ∧ z = .tup [x, y]
  | [], _, _, _, h => by simp [zipP] at h
  | _ :: _, [], _, _, h => by simp [zipP] at h
  | x :: xs, y :: ys, 0, z, h => by
    simp [zipP] at h
    exact ⟨x, y, rfl, rfl, h.symm⟩
  | x :: xs, y :: ys, i + 1, z, h => by
    obtain ⟨a, b, h1, h2, h3⟩ := zipP_get (xs := xs) (ys := ys) (i := i) (z := z) (by simpa [zipP] using h)
    exact ⟨a, b, by simpa using h1, by simpa using h2, h3⟩
theorem zipP_len : ∀ (xs ys : List PV), (zipP xs ys).length = min xs.length ys.length
  | [], _ => by simp [zipP]
  | _ :: _, [] => by simp [zipP]
  | x :: xs, y :: ys => by
    show (zipP xs ys).length + 1 = min (xs.length + 1) (ys.length + 1)
    rw [zipP_len xs ys]
    omega
theorem sim_zip {K : PySem.W.Frag} {W : Wd} {a b : Addr} {ys zs : List PV} {vs us : List V} (h : SqL K W.S a vs) (h' : SqL K W.S b us) (r : RepL K W ys vs) (r' : RepL K W zs us) : ItSim K T (Itz K a b) (zipP ys zs) W := fun i W1 H1 le o => by
  have h1 := o.lst (sqL_le le h)
  have h1' := o.lst (sqL_le le h')
  refine ⟨fun hi => ⟨vs, us, h1, h1', by rw [r.length, r'.length]; rw [zipP_len] at hi; omega⟩, fun y hy => ?_⟩
  obtain ⟨p, q, e1, e2, rfl⟩ := zipP_get hy
  obtain ⟨v, h2, h3⟩ := r.get e1
  obtain ⟨u, h4, h5⟩ := r'.get e2
  refine ⟨⟨vs, us, v, u, h1, h1', h2, h4⟩, fun x H2 hx => ?_⟩
  obtain ⟨t, x1, y1, rfl, ht, rfl, g1, g2⟩ := hx
  have e3 : v = x1 := Option.some.inj (h2.symm.trans (g1 vs h1))
  have e4 : u = y1 := Option.some.inj (h4.symm.trans (g2 us h1'))
  subst e3 e4
  have ex := Ext.new (o := .tup [v, u]) o ht
  exact ⟨W1.add t (.tup [v, u]), ex, o.new ht (by intro ps z; cases z), .tup (.inl (.inl Wd.add_same)) (.cons ((h3.le le).le ex.le) (.cons ((h5.le le).le ex.le) .nil))⟩
theorem sim_zipT {K : PySem.W.Frag} {W : Wd} {a b : Addr} {ys zs : List PV} {vs us : List V} (h : SqT K W.S a vs) (h' : SqT K W.S b us) (r : RepL K W ys vs) (r' : RepL K W zs us) : ItSim K T (RZ.ItzT K a b) (zipP ys zs) W := fun i W1 H1 le o => by
  have h1 := o.tup (sqT_le le h)
  have h1' := o.tup (sqT_le le h')
  refine ⟨fun hi => ⟨vs, us, h1, h1', by rw [r.length, r'.length]; rw [zipP_len] at hi; omega⟩, fun y hy => ?_⟩
  obtain ⟨p, q, e1, e2, rfl⟩ := zipP_get hy
  obtain ⟨v, h2, h3⟩ := r.get e1
  obtain ⟨u, h4, h5⟩ := r'.get e2
  refine ⟨⟨vs, us, v, u, h1, h1', h2, h4⟩, fun x H2 hx => ?_⟩
  obtain ⟨t, x1, y1, rfl, ht, rfl, g1, g2⟩ := hx
  have e3 : v = x1 := Option.some.inj (h2.symm.trans (g1 vs h1))
  have e4 : u = y1 := Option.some.inj (h4.symm.trans (g2 us h1'))
  subst e3 e4
  have ex := Ext.new (o := .tup [v, u]) o ht
  exact ⟨W1.add t (.tup [v, u]), ex, o.new ht (by intro ps z; cases z), .tup (.inl (.inl Wd.add_same)) (.cons ((h3.le le).le ex.le) (.cons ((h5.le le).le ex.le) .nil))⟩
def iZip (pa : PPA) : PPA := fun ρ R => pa ρ fun xs => match xs with
  | [.lst xs, .lst ys] => (zipP xs ys).length ≤ sizeLine ∧ R (zipP xs ys)
  | [.tup xs, .tup ys] => (zipP xs ys).length ≤ sizeLine ∧ R (zipP xs ys)
  | _ => False
theorem li_zip {a b : Expr} {pp tpos : Pos} {elts : List Expr} {kk : Nat} (hg : Gl X "zip") (hm : X.mg "zip" = none) (ha : PA X [a, b] (upA X.K T C n pa))
    (hs : starEach [a, b] X.env = (false, eval a X.env) :: starEach [b] X.env := by rfl) (hpl : (backTo pos (starEach [b] X.env)).any (·.1) = false := by rfl) : PI X (.Tuple elts kk tpos) (.Call (.Name "zip" pp) [a, b] [] pos) (iUp X.K T C (iZip pa)) :=
  PI.weak (RZ.pi_zipA hg hm ha hs hpl) fun σ H R ⟨W, ρ, Q, g, w, k⟩ => ⟨W, ρ, _, g, w, fun vs H1 W1 xs e1 o1 r1 hl h1 => by
    split at h1
    · obtain ⟨b1, h1⟩ := h1
      cases r1 with
      | cons r2 r3 =>
        cases r3 with
        | cons r3 r4 =>
          cases r4
          cases r2 with
          | lst hq rl =>
            cases r3 with
            | lst hq' rl' => exact ⟨_, _, _, _, rfl, .inl ⟨.of (o1.sub _ _ hq), .of (o1.sub _ _ hq'), k _ H1 W1 _ e1 o1 (sim_zip (.of hq) (.of hq') rl rl') b1 h1⟩⟩
    · obtain ⟨b1, h1⟩ := h1
      cases r1 with
      | cons r2 r3 =>
        cases r3 with
        | cons r3 r4 =>
          cases r4
          cases r2 with
          | tup hq rl =>
            cases r3 with
            | tup hq' rl' => exact ⟨_, _, _, _, rfl, .inr ⟨o1.tup hq, o1.tup hq', k _ H1 W1 _ e1 o1 (sim_zipT hq hq' rl rl') b1 h1⟩⟩
    · exact h1.elim⟩
def enumP : Nat → List PV → List PV
  | _, [] => []
  | i, x :: xs => .tup [.int (i : Nat), x] :: enumP (i + 1) xs
theorem enumP_get : ∀ {xs : List PV} {i k : Nat} {z : PV}, (enumP k xs)[i]? = some z → ∃ x, xs[i]? = some x ∧ z = .tup [.int ((k + i : Nat) : Int), x]
  | [], _, _, _, h => by simp [enumP] at h
  | x :: xs, 0, k, z, h => by
    simp [enumP] at h
    exact ⟨x, rfl, by rw [← h]; simp⟩
  | x :: xs, i + 1, k, z, h => by
    obtain ⟨a, h1, h3⟩ := enumP_get (xs := xs) (i := i) (k := k + 1) (z := z) (by simpa [enumP] using h)
    exact ⟨a, by simpa using h1, by rw [h3, show k + 1 + i = k + (i + 1) by omega]⟩
theorem enumP_len : ∀ (xs : List PV) (k : Nat), (enumP k xs).length = xs.length
  | [], _ => rfl
  | x :: xs, k => by simp [enumP, enumP_len xs]
theorem sim_enum {K : PySem.W.Frag} {W : Wd} {a : Addr} {ys : List PV} {vs : List V} (h : SqL K W.S a vs) (r : RepL K W ys vs) : ItSim K T (Ite K a) (enumP 0 ys) W := fun i W1 H1 le o => by
  have h1 := o.lst (sqL_le le h)
  refine ⟨fun hi => ⟨vs, h1, by rw [r.length]; rw [enumP_len] at hi; exact hi⟩, fun y hy => ?_⟩
  obtain ⟨p, e1, rfl⟩ := enumP_get hy
  obtain ⟨v, h2, h3⟩ := r.get e1
  refine ⟨⟨vs, v, h1, h2⟩, fun x H2 hx => ?_⟩
  obtain ⟨t, x1, rfl, ht, rfl, g1⟩ := hx
  have e3 : v = x1 := Option.some.inj (h2.symm.trans (g1 vs h1))
  subst e3
  have ex := Ext.new (o := .tup [.int (i : Nat), v]) o ht
  rw [Nat.zero_add]
  exact ⟨W1.add t (.tup [.int (i : Nat), v]), ex, o.new ht (by intro ps z; cases z), .tup (.inl (.inl Wd.add_same)) (.cons (.int _) (.cons ((h3.le le).le ex.le) .nil))⟩
theorem sim_enumT {K : PySem.W.Frag} {W : Wd} {a : Addr} {ys : List PV} {vs : List V} (h : SqT K W.S a vs) (r : RepL K W ys vs) : ItSim K T (IteT K a) (enumP 0 ys) W := fun i W1 H1 le o => by
  have h1 := o.tup (sqT_le le h)
  refine ⟨fun hi => ⟨vs, h1, by rw [r.length]; rw [enumP_len] at hi; exact hi⟩, fun y hy => ?_⟩
  obtain ⟨p, e1, rfl⟩ := enumP_get hy
  obtain ⟨v, h2, h3⟩ := r.get e1
  refine ⟨⟨vs, v, h1, h2⟩, fun x H2 hx => ?_⟩
  obtain ⟨t, x1, rfl, ht, rfl, g1⟩ := hx
  have e3 : v = x1 := Option.some.inj (h2.symm.trans (g1 vs h1))
  subst e3
  have ex := Ext.new (o := .tup [.int (i : Nat), v]) o ht
  rw [Nat.zero_add]
  exact ⟨W1.add t (.tup [.int (i : Nat), v]), ex, o.new ht (by intro ps z; cases z), .tup (.inl (.inl Wd.add_same)) (.cons (.int _) (.cons ((h3.le le).le ex.le) .nil))⟩
def iEnumP (pa : PPA) : PPA := fun ρ R => pa ρ fun xs => match xs with
  | [.lst xs] => xs.length ≤ sizeLine ∧ R (enumP 0 xs)
  | [.tup xs] => xs.length ≤ sizeLine ∧ R (enumP 0 xs)
  | _ => False
theorem li_enum {a : Expr} {pp tpos : Pos} {elts : List Expr} {kk : Nat} (hg : Gl X "enumerate") (hm : X.mg "enumerate" = none) (ha : PA X [a] (upA X.K T C n pa)) (hs : starEach [a] X.env = [(false, eval a X.env)] := by rfl) :
    PI X (.Tuple elts kk tpos) (.Call (.Name "enumerate" pp) [a] [] pos) (iUp X.K T C (iEnumP pa)) :=
  PI.weak (pi_enumB hg hm ha hs) fun σ H R ⟨W, ρ, Q, g, w, k⟩ => ⟨W, ρ, _, g, w, fun vs H1 W1 xs e1 o1 r1 hl h1 => by
    split at h1
    · obtain ⟨b1, h1⟩ := h1
      cases r1 with
      | cons r2 r3 =>
        cases r3
        cases r2 with
        | lst hq rl => exact ⟨_, _, rfl, .inl ⟨.of (o1.sub _ _ hq), k _ H1 W1 _ e1 o1 (sim_enum (.of hq) rl) (by rw [enumP_len]; exact b1) h1⟩⟩
    · obtain ⟨b1, h1⟩ := h1
      cases r1 with
      | cons r2 r3 =>
        cases r3
        cases r2 with
        | tup hq rl => exact ⟨_, _, rfl, .inr ⟨o1.tup hq, k _ H1 W1 _ e1 o1 (sim_enumT hq rl) (by rw [enumP_len]; exact b1) h1⟩⟩
    · exact h1.elim⟩
end

/-! ### list comprehensions -/
def wipeP (ρ : PEnv) : List Nat → PEnv
  | [] => ρ
  | v :: vs => (wipeP ρ vs).set v none
theorem EnvR.wipe {K : PySem.W.Frag} {B : Hp} {W : Wd} {H : Hp} {σ : L2.St} {ρ : PEnv} (g : EnvR K B W H σ ρ) : ∀ vs : List Nat, EnvR K B W H (wipe σ vs) (wipeP ρ vs)
  | [] => g
  | v :: vs => by
    have q := EnvR.wipe g vs
    have key : ∀ (i : Nat) (sv : SV), ((wipeP ρ vs).set v none)[i]? = some (some sv) → i ≠ v ∧ (wipeP ρ vs)[i]? = some (some sv) := fun i sv h => by
      by_cases e : v = i
      · subst e
        by_cases hl : v < (wipeP ρ vs).length
        · rw [List.getElem?_set_self hl] at h
          cases h
        · rw [List.getElem?_eq_none (by simpa using hl)] at h
          cases h
      · rw [List.getElem?_set_ne e] at h
        exact ⟨fun z => e z.symm, h⟩
    refine ⟨by show ((wipeP ρ vs).set v none).length = ((L2.wipe σ vs).set v none).length; rw [List.length_set, List.length_set, q.len], fun i sv h => ?_, fun i j si sj u hij h1 h2 o1 o2 e1 e2 => ?_⟩
    · obtain ⟨h0, h1⟩ := key i sv h
      obtain ⟨u, h2, h3⟩ := q.at_ i sv h1
      exact ⟨u, by show ((L2.wipe σ vs).set v none)[i]? = _; rw [List.getElem?_set_ne (fun z => h0 z.symm)]; exact h2, h3⟩
    · obtain ⟨k1, h1⟩ := key i si h1
      obtain ⟨k2, h2⟩ := key j sj h2
      rw [show (L2.wipe σ (v :: vs))[i]? = ((L2.wipe σ vs).set v none)[i]? from rfl, List.getElem?_set_ne (fun z => k1 z.symm)] at e1
      rw [show (L2.wipe σ (v :: vs))[j]? = ((L2.wipe σ vs).set v none)[j]? from rfl, List.getElem?_set_ne (fun z => k2 z.symm)] at e2
      exact q.sep i j si sj u hij h1 h2 o1 o2 e1 e2
/-- the context without exceptions -/
def Ct.nox (C : Ct) : Ct := ⟨C.W, C.H, E0, fun _ => False⟩
theorem Good.nox {K : PySem.W.Frag} {T : List (Addr × Str)} {C : Ct} {W : Wd} {σ : L2.St} {H : Hp} {ρ : PEnv} (g : Good K T C W σ H ρ) : Good K T C.nox W σ H ρ := ⟨g.ok, g.env, g.ext, fun _ _ _ _ _ _ _ _ z => z.elim⟩
def lcGo (t : Tgt) (cond : PPT) (elt : PP) (ρ : PEnv) : List PV → List PV → PK → Prop
  | [], acc, R => R (.lst acc)
  | y :: ys, acc, R => tgt t y ρ fun ρ' => cond ρ' fun b => if b = true then elt ρ' fun v => lcGo t cond elt ρ ys (acc ++ [v]) R else lcGo t cond elt ρ ys acc R
def cYes : PPT := fun _ R => R true
def pLc (t : Tgt) (vs : List Nat) (ps : PPA) (cond : PPT) (elt : PP) : PP := fun ρ R => ps ρ fun ys => lcGo t cond elt (wipeP ρ vs) ys [] R
section
variable {X : Cx} {T : List (Addr × Str)} {C : Ct} {e : Expr} {pos : Pos} {p : PP} {n : Nat} {t : Tgt} {vs : List Nat} {ps : PPA} {cond : PPT} {elt : PP}
theorem PTs.weak {ifs : List Expr} {te te' : TT} (h : PTs X ifs te) (k : ∀ σ H Q, te' σ H Q → te σ H Q) : PTs X ifs te' := ⟨fun pins s σ H Q I w => h.run pins s σ H Q I (k σ H Q w)⟩
theorem lts_nil : PTs X [] (upT X.K T C cYes) := PTs.weak pts_nil fun σ H Q ⟨W, ρ, R, g, w, k⟩ => k true H W (.refl W H) g.ok w
theorem lts_one {c : Expr} (h : PT X c (upT X.K T C cond)) : PTs X [c] (upT X.K T C cond) := pts_one h
theorem lc_lift (hv : ∀ i ∈ t.slots, i ∈ vs) : ∀ σ H Q, up X.K T C (pLc t vs ps cond elt) σ H Q → tLc (iUp X.K T C ps) (gT X.K t) (upT X.K T C.nox cond) (up X.K T C.nox elt) vs σ H Q := by
  intro σ H Q ⟨W, ρ, R, g, w, k⟩
  refine ⟨W, ρ, _, g, w, fun J H1 W1 ys e1 o1 sim hz h1 D hD => ?_⟩
  have g1 := g.to e1 o1
  have k1 := k.pre e1 o1
  refine ⟨fun i m H2 => m = ys.length - i ∧ i ≤ ys.length ∧ ∃ W2 acc vacc, Ext W1 H1 W2 H2 ∧ OkW T W2 H2 ∧ W2.S D = none ∧ ¬ W2.D D ∧ ¬ W2.N D ∧ H2 D = some (.lst vacc) ∧ RepL X.K W2 acc vacc ∧ acc.length ≤ i ∧ lcGo t cond elt (wipeP ρ vs) (ys.drop i) acc R, ⟨ys.length, rfl, Nat.zero_le _, W1, [], [], ?_⟩, ?_⟩
  · refine ⟨.new0 hD, o1.new0 hD, ?_, fun d => ?_, fun d => ?_, upd_same, .nil, Nat.le_refl _, ?_⟩
    · cases q : W1.S D with
      | none => rfl
      | some u =>
        have z := o1.sub _ _ q
        rw [hD] at z
        cases z
    · obtain ⟨_, _, _, z, _⟩ := o1.draw D d
      rw [hD] at z
      cases z
    · obtain ⟨_, _, z⟩ := o1.nLst D d
      rw [hD] at z
      cases z
    · rw [List.drop_zero]
      exact h1
  · rintro i m H2 ⟨rfl, hi, W2, acc, vacc, e2, o2, s1, s2, s3, hd, ra, hla, hgo⟩
    by_cases hlt : i < ys.length
    · rw [List.drop_eq_getElem_cons hlt] at hgo
      obtain ⟨_, hstep⟩ := sim i W2 H2 e2.le o2
      obtain ⟨hgoJ, hyld⟩ := hstep ys[i] (List.getElem?_eq_getElem hlt)
      refine .inr ⟨hgoJ, fun H' => i + 1 ≤ ys.length ∧ ∃ W2 acc vacc, Ext W1 H1 W2 H' ∧ OkW T W2 H' ∧ W2.S D = none ∧ ¬ W2.D D ∧ ¬ W2.N D ∧ H' D = some (.lst vacc) ∧ RepL X.K W2 acc vacc ∧ acc.length ≤ i + 1 ∧ lcGo t cond elt (wipeP ρ vs) (ys.drop (i + 1)) acc R, fun H' hN => ⟨ys.length - (i + 1), by omega, rfl, hN.1, hN.2⟩, fun x H3 hy => ?_⟩
      obtain ⟨W3, e3, o3, r3⟩ := hyld x H3 hy
      have e13 := e2.trans e3 o2
      have keepD : ∀ {W' H'}, Ext W2 H2 W' H' → W'.S D = none ∧ ¬ W'.D D ∧ ¬ W'.N D ∧ H' D = some (.lst vacc) := fun {W' H'} ee => by
        have q := RepS.ext (K := X.K) (B := fun _ => none) ee (sv := .own acc) (v := .ref D) ⟨D, vacc, rfl, .of rfl, s1, s2, s3, hd, ra⟩
        obtain ⟨a, vs', e, _, q1, q2, q3, q4, q5⟩ := q
        cases e
        obtain ⟨w1, w2⟩ : H' D = some (.lst vacc) ∧ True := ⟨ee.keep D _ hd s2 (by intro ps z; cases z), True.intro⟩
        exact ⟨q1, q2, q3, w1⟩
      refine tgt_ok (T := T) (B := C.H) o3 ((g1.env.ext e13).wipe vs) r3 hgo fun σ' ρ' en wi hc => ⟨by rw [wi vs hv, wipe_wipe fun _ z => z], ?_⟩
      have gG : Good X.K T C.nox W3 σ' H3 ρ' := ⟨o3, en, (g1.nox.ext.trans e13 o1), fun _ _ _ _ _ _ _ _ z => z.elim⟩
      refine ⟨W3, ρ', _, gG, hc, fun b H4 W4 e4 o4 h4 => ?_⟩
      cases b with
      | false =>
        obtain ⟨q1, q2, q3, q4⟩ := keepD (e3.trans e4 o3)
        exact ⟨hlt, W4, acc, vacc, e13.trans e4 o3, o4, q1, q2, q3, q4, (ra.le e3.le).le e4.le, by omega, h4⟩
      | true =>
        refine ⟨W4, ρ', _, gG.to e4 o4, h4, fun y H5 W5 py e5 o5 r5 h5 => ?_⟩
        obtain ⟨q1, q2, q3, q4⟩ := keepD ((e3.trans e4 o3).trans e5 o4)
        have ra5 := ((ra.le e3.le).le e4.le).le e5.le
        refine ⟨vacc, q4, by rw [ra.length]; omega, hlt, W5, acc ++ [py], vacc ++ [y], ?_, ?_, q1, q2, q3, upd_same, ra5.append (.cons r5 .nil), ?_, h5⟩
        · have e15 := (e13.trans e4 o3).trans e5 o4
          exact ⟨e15.le, fun b o hb hd hn => by rw [upd_ne (ne_of_none hb hD)]; exact e15.keep b o hb hd hn, e15.newS, e15.newD, e15.newN⟩
        · refine o5.heap q1 q2 q3 fun u hu => ?_
          rw [q4] at hu
          cases hu
          exact ⟨(by intro ps z; cases z), (by intro q z; unfold LamX.CodeO at z; cases z)⟩
        · rw [List.length_append]
          simp
          omega
    · have ei : i = ys.length := by omega
      subst ei
      rw [List.drop_length] at hgo
      refine .inl ⟨(sim ys.length W2 H2 e2.le o2).1 (Nat.le_refl _), ?_⟩
      have le2 : W2.Le (W2.add D (.lst vacc)) := .add s1
      refine k1 (.ref D) H2 (W2.add D (.lst vacc)) (.lst acc) ⟨e2.le.trans le2, e2.keep, fun b o hb => ?_, e2.newD, e2.newN⟩ (o2.track hd s2 (by intro ps z; cases z)) (.lst Wd.add_same (ra.le le2)) hgo
      by_cases e : b = D
      · subst e
        exact .inr (.of hD)
      · exact e2.newS b o ((upd_ne (H := W2.S) e).symm.trans hb)
theorem le_lc {elt' tg iter : Expr} {ifs : List Expr} {scope : Scope} {own : List (Str × Nat)} (hc : X.calm = true) (hN : X.N.Nodup) (hi : PI X tg iter (iUp X.K T C ps)) (ok : BlkOk X.N X.env.scope scope own) (hvs : own.map (·.2) = vs) (hv : ∀ i ∈ t.slots, i ∈ vs)
    (hg : ∀ (s : Shared) (H : Hp) (C' : Addr) (cl : List (Str × Addr)) (fp : List Addr), PG (X.blk s H scope (compEnvC scope cl C' X.env) fp) tg (gT X.K t)) (ht : ∀ (s : Shared) (H : Hp) (C' : Addr) (cl : List (Str × Addr)) (fp : List Addr), PTs (X.blk s H scope (compEnvC scope cl C' X.env) fp) ifs (upT X.K T C.nox cond))
    (he : ∀ (s : Shared) (H : Hp) (C' : Addr) (cl : List (Str × Addr)) (fp : List Addr), PE (X.blk s H scope (compEnvC scope cl C' X.env) fp) elt' (up X.K T C.nox elt)) (hs : ∀ x, foldedSetIterable iter X.env x = pure x := by intro _; rfl) :
    PE X (.ListComp elt' [⟨tg, iter, ifs, 0⟩] scope pos) (up X.K T C (pLc t vs ps cond elt)) := by
  subst hvs
  exact PE.weak (pe_lc hc hN hi ok hg ht he hs) (lc_lift hv)
end
end Pu

/-! The pure layer, part E: statements, defs. -/
namespace Pu
open PySem L2

/-! ### statements -/
structure PEnds where
  nx : PEnv → Prop
  rt : PK
  bk : PEnv → Prop := fun _ => False
  ct : PEnv → Prop := fun _ => False
abbrev PS' := PEnds → PEnv → Prop
structure EndsR (K : PySem.W.Frag) (T : List (Addr × Str)) (C : Ct) (W : Wd) (P : PEnds) (D : Ends) : Prop where
  nx : ∀ W' σ' H' ρ', W.Le W' → Good K T C W' σ' H' ρ' → P.nx ρ' → D.nx σ' H'
  rt : ∀ W' H' v p, Ext C.W C.H W' H' → OkW T W' H' → Rep K W' p v → P.rt p → D.rt v H'
  bk : ∀ W' σ' H' ρ', W.Le W' → Good K T C W' σ' H' ρ' → P.bk ρ' → D.bk σ' H'
  ct : ∀ W' σ' H' ρ', W.Le W' → Good K T C W' σ' H' ρ' → P.ct ρ' → D.ct σ' H'
theorem EndsR.le {K : PySem.W.Frag} {T : List (Addr × Str)} {C : Ct} {W W1 : Wd} {P : PEnds} {D : Ends} (d : EndsR K T C W P D) (l : W.Le W1) : EndsR K T C W1 P D :=
  ⟨fun W' σ' H' ρ' l' => d.nx W' σ' H' ρ' (l.trans l'), d.rt, fun W' σ' H' ρ' l' => d.bk W' σ' H' ρ' (l.trans l'), fun W' σ' H' ρ' l' => d.ct W' σ' H' ρ' (l.trans l')⟩
def upS (K : PySem.W.Frag) (T : List (Addr × Str)) (C : Ct) (s : PS') : TS := fun D σ H => ∃ W ρ P, Good K T C W σ H ρ ∧ s P ρ ∧ EndsR K T C W P D
section
variable {X : Cx} {T : List (Addr × Str)} {C : Ct} {e a b c : Expr} {es : List Expr} {st : Stmt} {sts rest : List Stmt} {pos : Pos} {p q r : PP} {n : Nat} {t : PPT} {s u : PS'} {tt tt' : TS}
theorem PS.weak (h : PS X st tt) (k : ∀ D σ H, tt' D σ H → tt D σ H) : PS X st tt' := ⟨fun pins s σ H D I w => h.run pins s σ H D I (k D σ H w)⟩
theorem PSs.weak (h : PSs X sts tt) (k : ∀ D σ H, tt' D σ H → tt D σ H) : PSs X sts tt' := ⟨fun pins s σ H D I w => h.run pins s σ H D I (k D σ H w)⟩
def sNext : PS' := fun P ρ => P.nx ρ
def sSeq (s u : PS') : PS' := fun P ρ => s { P with nx := u P } ρ
theorem ls_nil : PSs X [] (upS X.K T C sNext) := PSs.weak pss_nil fun D σ H ⟨W, ρ, P, g, w, d⟩ => d.nx W σ H ρ (.refl W) g w
theorem ls_cons (h1 : PS X st (upS X.K T C s)) (h2 : PSs X rest (upS X.K T C u)) : PSs X (st :: rest) (upS X.K T C (sSeq s u)) :=
  PSs.weak (pss_cons h1 h2) fun D σ H ⟨W, ρ, P, g, w, d⟩ => ⟨W, ρ, _, g, w, ⟨fun W' σ' H' ρ' l g' h => ⟨W', ρ', P, g', h, d.le l⟩, d.rt, d.bk, d.ct⟩⟩
theorem ls_one (h1 : PS X st (upS X.K T C s)) : PSs X [st] (upS X.K T C s) := pss_one h1
def sRet (p : PP) : PS' := fun P ρ => p ρ P.rt
theorem ls_ret (h : PE X e (up X.K T C p)) : PS X (.Return (some e) pos) (upS X.K T C (sRet p)) :=
  PS.weak (ps_ret h) fun D σ H ⟨W, ρ, P, g, w, d⟩ => ⟨W, ρ, _, g, w, fun v H' W' x e' o' r' h' => d.rt W' H' v x (g.ext.trans e' g.ok) o' r' h'⟩
def sIf (t : PPT) (s u : PS') : PS' := fun P ρ => t ρ fun b => if b = true then s P ρ else u P ρ
theorem ls_if {c : Expr} {as bs : List Stmt} (hc : PT X c (upT X.K T C t)) (ha : PSs X as (upS X.K T C s)) (hb : PSs X bs (upS X.K T C u)) : PS X (.If c as bs pos) (upS X.K T C (sIf t s u)) :=
  PS.weak (ps_if hc ha hb) fun D σ H ⟨W, ρ, P, g, w, d⟩ => ⟨W, ρ, _, g, w, fun x H1 W1 e1 o1 h1 => by
    cases x with
    | true => exact ⟨W1, ρ, P, g.to e1 o1, h1, d.le e1.le⟩
    | false => exact ⟨W1, ρ, P, g.to e1 o1, h1, d.le e1.le⟩⟩
def sDrop (p : PP) : PS' := fun P ρ => p ρ fun _ => P.nx ρ
theorem ls_expr (h : PE X e (up X.K T C p)) (hs : swapsWith e none pos.line X.env = pure false := by rfl) : PS X (.Expr e pos) (upS X.K T C (sDrop p)) :=
  PS.weak (ps_expr h hs) fun D σ H ⟨W, ρ, P, g, w, d⟩ => ⟨W, ρ, _, g, w, fun v H1 W1 x e1 o1 r1 h1 => d.nx W1 σ H1 ρ e1.le (g.to e1 o1) h1⟩
def sBrk : PS' := fun P ρ => P.bk ρ
def sCnt : PS' := fun P ρ => P.ct ρ
theorem ls_brk : PS X (.Break pos) (upS X.K T C sBrk) := PS.weak ps_break fun D σ H ⟨W, ρ, P, g, w, d⟩ => d.bk W σ H ρ (.refl W) g w
theorem ls_cnt : PS X (.Continue pos) (upS X.K T C sCnt) := PS.weak ps_continue fun D σ H ⟨W, ρ, P, g, w, d⟩ => d.ct W σ H ρ (.refl W) g w
theorem ls_pass : PS X (.Pass pos) (upS X.K T C sNext) := PS.weak ps_pass fun D σ H ⟨W, ρ, P, g, w, d⟩ => d.nx W σ H ρ (.refl W) g w
/-- code that is never come to -/
def sNever : PS' := fun _ _ => False
theorem ls_never : PS X st (upS X.K T C sNever) := PS.weak ps_never fun D σ H ⟨W, ρ, P, g, w, d⟩ => w
theorem lss_never : PSs X sts (upS X.K T C sNever) := PSs.weak pss_never fun D σ H ⟨W, ρ, P, g, w, d⟩ => w
def sAsg (p : PP) (tg : Tgt) : PS' := fun P ρ => p ρ fun x => tgt tg x ρ P.nx
theorem asg_lift {te : TE} {tg : Tgt} (k : ∀ σ H Q, up X.K T C p σ H Q → te σ H Q) : ∀ D σ H, upS X.K T C (sAsg p tg) D σ H → tAsg te (gT X.K tg) D σ H := fun D σ H ⟨W, ρ, P, g, w, d⟩ =>
  k _ _ _ ⟨W, ρ, _, g, w, fun v H1 W1 x e1 o1 r1 h1 => tgt_ok (T := T) (B := C.H) o1 (g.to e1 o1).env r1 h1 fun σ' ρ' en _ hn => d.nx W1 σ' H1 ρ' e1.le ((g.to e1 o1).envTo en) hn⟩
theorem ls_asg {tg : Expr} {tt : Tgt} (he : PE X e (up X.K T C p)) (hg : PG X tg (gT X.K tt)) (hs : swapsWithSole [tg] e pos.line X.env = pure false := by rfl) (hw : swappedStores [tg] e X.env = pure none := by rfl)
    (h1 : (assignEach [tg] X.env).map (·.2) = [assign tg X.env] := by rfl) : PS X (.Assign [tg] e pos) (upS X.K T C (sAsg p tt)) := PS.weak (ps_asg he hg hs hw h1) (asg_lift fun _ _ _ h => h)
theorem ls_set {i : Nat} {x : Str} {pos' : Pos} (hN : X.N.Nodup) (hi : X.N[i]? = some x) (hx : Loc X.env.scope x) (he : PE X e (up X.K T C p)) (hs : swapsWith e (some (.Name x pos')) pos.line X.env = pure false := by rfl) (hf : X.fn x = true ∨ X.env.scope.names.lookup x = some .local := by first | exact .inl rfl | exact .inr rfl | assumption) :
    PS X (.Assign [.Name x pos'] e pos) (upS X.K T C (sAsg p (.nm i))) := PS.weak (ps_set hN hi hx he hs hf) (asg_lift fun _ _ _ h => h)
theorem ls_setLc {i : Nat} {y : Str} {py : Pos} {elt' tg iter : Expr} {ifs : List Expr} {scope : Scope} {own : List (Str × Nat)} {spos : Pos} {tgs : Tgt} {vs : List Nat} {ps : PPA} {cond : PPT} {elt : PP} (hc : X.calm = true) (hN : X.N.Nodup) (hy : X.N[i]? = some y) (hyl : X.env.scope.names.lookup y = some .local)
    (hsw : swapsWith (.ListComp elt' [⟨tg, iter, ifs, 0⟩] scope pos) (some (.Name y py)) spos.line X.env = pure true) (hi : PI X tg iter (iUp X.K T C ps)) (ok : BlkOk X.N X.env.scope scope own) (hvs : own.map (·.2) = vs) (hv : ∀ i ∈ tgs.slots, i ∈ vs)
    (hg : ∀ (s : Shared) (H : Hp) (C' : Addr) (cl : List (Str × Addr)) (fp : List Addr), PG (X.blk s H scope (compEnvC scope cl C' X.env) fp) tg (gT X.K tgs)) (ht : ∀ (s : Shared) (H : Hp) (C' : Addr) (cl : List (Str × Addr)) (fp : List Addr), PTs (X.blk s H scope (compEnvC scope cl C' X.env) fp) ifs (upT X.K T C.nox cond))
    (he : ∀ (s : Shared) (H : Hp) (C' : Addr) (cl : List (Str × Addr)) (fp : List Addr), PE (X.blk s H scope (compEnvC scope cl C' X.env) fp) elt' (up X.K T C.nox elt)) (hs : ∀ x, foldedSetIterable iter X.env x = pure x := by intro _; rfl) :
    PS X (.Assign [.Name y py] (.ListComp elt' [⟨tg, iter, ifs, 0⟩] scope pos) spos) (upS X.K T C (sAsg (pLc tgs vs ps cond elt) (.nm i))) := by
  subst hvs
  exact PS.weak (ps_setLc hc hN hy hyl hsw hi ok hg ht he hs) (asg_lift (lc_lift hv))
/-- a, b = x, y -/
def sPar (i j : Nat) (pa : PPA) : PS' := fun P ρ => pa ρ fun xs => match xs with
  | [x, y] => P.nx ((ρ.set i (some (.val x))).set j (some (.val y)))
  | _ => False
theorem ls_par {i j : Nat} {x y : Str} {px py pt : Pos} {kt k2 pt2} {pa : PPA} (hc : X.calm = true) (hN : X.N.Nodup) (hi : X.N[i]? = some x) (hj : X.N[j]? = some y) (hij : i ≠ j)
    (hx : X.env.scope.names.lookup x = some .local) (hy : X.env.scope.names.lookup y = some .local) (ha : PA X [a, b] (upA X.K T C n pa))
    (hw : swappedStores [.Tuple [.Name x px, .Name y py] kt pt] (.Tuple [a, b] k2 pt2) X.env = pure (some [x, y]))
    (hs : swapsWithSole [.Tuple [.Name x px, .Name y py] kt pt] (.Tuple [a, b] k2 pt2) pos.line X.env = pure false := by rfl) :
    PS X (.Assign [.Tuple [.Name x px, .Name y py] kt pt] (.Tuple [a, b] k2 pt2) pos) (upS X.K T C (sPar i j pa)) :=
  PS.weak (ps_par hc hN hi hj hij hx hy ha hw hs) fun D σ H ⟨W, ρ, P, g, w, d⟩ => ⟨W, ρ, _, g, w, fun vs H1 W1 xs e1 o1 r1 hl h1 => by
    split at h1
    · cases r1 with
      | cons r2 r3 =>
        cases r3 with
        | cons r3 r4 =>
          cases r4
          exact ⟨_, _, rfl, d.nx W1 _ H1 _ e1.le ((g.to e1 o1).envTo (((g.to e1 o1).env.set r2).set r3)) h1⟩
    · exact h1.elim⟩

/-! ### loops -/
def forGo (tg : Tgt) (body : PS') (P : PEnds) : List PV → PEnv → Prop
  | [], ρ => P.nx ρ
  | y :: ys, ρ => tgt tg y ρ fun ρ' => body { P with nx := forGo tg body P ys, ct := forGo tg body P ys, bk := P.nx } ρ'
def sFor (ps : PPA) (tg : Tgt) (body : PS') : PS' := fun P ρ => ps ρ fun ys => forGo tg body P ys ρ
theorem ls_for {tg iter : Expr} {body : List Stmt} {ps : PPA} {tt : Tgt} (hp : PassesOwn (model X.prog X.w) X.A X.env X.xe) (hc : X.calm = true) (hi : PI X tg iter (iUp X.K T C ps)) (hg : PG X tg (gT X.K tt)) (hb : PSs X body (upS X.K T C s))
    (hs : ∀ x, foldedSetIterable iter X.env x = pure x := by intro _; rfl) : PS X (.For tg iter body [] pos) (upS X.K T C (sFor ps tt s)) :=
  PS.weak (ps_for hp hc hi hg hb hs) fun D σ H ⟨W, ρ, P, g, w, d⟩ => ⟨W, ρ, _, g, w, fun J H1 W1 ys e1 o1 sim hz h1 => by
    refine ⟨fun i m σ H => m = ys.length - i ∧ i ≤ ys.length ∧ ∃ W2 ρ2, Good X.K T C W2 σ H ρ2 ∧ W1.Le W2 ∧ forGo tt s P (ys.drop i) ρ2, ⟨ys.length, rfl, Nat.zero_le _, W1, ρ, g.to e1 o1, .refl _, by rw [List.drop_zero]; exact h1⟩, ?_⟩
    rintro i m σ2 H2 ⟨rfl, hi, W2, ρ2, g2, le2, hgo⟩
    by_cases hlt : i < ys.length
    · rw [List.drop_eq_getElem_cons hlt] at hgo
      obtain ⟨_, hstep⟩ := sim i W2 H2 le2 g2.ok
      obtain ⟨hgoJ, hyld⟩ := hstep ys[i] (List.getElem?_eq_getElem hlt)
      refine .inr ⟨hgoJ, fun σ' H' => i + 1 ≤ ys.length ∧ ∃ W2 ρ2, Good X.K T C W2 σ' H' ρ2 ∧ W1.Le W2 ∧ forGo tt s P (ys.drop (i + 1)) ρ2, fun σ' H' hN => ⟨ys.length - (i + 1), by omega, rfl, hN.1, hN.2⟩, fun x H3 hy => ?_⟩
      obtain ⟨W3, e3, o3, r3⟩ := hyld x H3 hy
      have g3 := g2.to e3 o3
      refine tgt_ok (T := T) (B := C.H) o3 g3.env r3 hgo fun σ' ρ' en _ hc => ⟨W3, ρ', _, g3.envTo en, hc, ⟨fun W' σ'' H' ρ'' l g' h => ⟨hlt, W', ρ'', g', (le2.trans e3.le).trans l, h⟩, d.rt, fun W' σ'' H' ρ'' l g' h => d.nx W' σ'' H' ρ'' (((e1.le.trans le2).trans e3.le).trans l) g' h,
        fun W' σ'' H' ρ'' l g' h => ⟨hlt, W', ρ'', g', (le2.trans e3.le).trans l, h⟩⟩⟩
    · have ei : i = ys.length := by omega
      subst ei
      rw [List.drop_length] at hgo
      exact .inl ⟨(sim ys.length W2 H2 le2 g2.ok).1 (Nat.le_refl _), d.nx W2 σ2 H2 ρ2 (e1.le.trans le2) g2 hgo⟩⟩
/-- while, by an invariant and a measure -/
def sWhile (t : PPT) (body : PS') : PS' := fun P ρ => ∃ I : Nat → PEnv → Prop, (∃ m, I m ρ) ∧ ∀ m ρ, I m ρ → t ρ fun b => if b = true then body { P with nx := fun ρ' => ∃ m', m' < m ∧ I m' ρ', ct := fun ρ' => ∃ m', m' < m ∧ I m' ρ', bk := P.nx } ρ else P.nx ρ
theorem ls_while {body : List Stmt} (hp : PassesOwn (model X.prog X.w) X.A X.env X.xe) (hc : PT X c (upT X.K T C t)) (hb : PSs X body (upS X.K T C s)) : PS X (.While c body [] pos) (upS X.K T C (sWhile t s)) :=
  PS.weak (ps_while hp hc hb) fun D σ H ⟨W, ρ, P, g, w, d⟩ => by
    obtain ⟨I, ⟨m0, h0⟩, step⟩ := w
    refine ⟨fun m σ H => ∃ W2 ρ2, Good X.K T C W2 σ H ρ2 ∧ W.Le W2 ∧ I m ρ2, ⟨m0, W, ρ, g, .refl _, h0⟩, ?_⟩
    rintro m σ2 H2 ⟨W2, ρ2, g2, le2, hI⟩
    refine ⟨W2, ρ2, _, g2, step m ρ2 hI, fun b H3 W3 e3 o3 h3 => ?_⟩
    have g3 := g2.to e3 o3
    cases b with
    | true =>
      refine ⟨fun σ' H' => ∃ m', m' < m ∧ ∃ W2 ρ2, Good X.K T C W2 σ' H' ρ2 ∧ W.Le W2 ∧ I m' ρ2, fun σ' H' hN => hN, W3, ρ2, _, g3, h3, ?_⟩
      exact ⟨fun W' σ'' H' ρ'' l g' ⟨m', h1, h2⟩ => ⟨m', h1, W', ρ'', g', (le2.trans e3.le).trans l, h2⟩, d.rt, fun W' σ'' H' ρ'' l g' h => d.nx W' σ'' H' ρ'' ((le2.trans e3.le).trans l) g' h,
        fun W' σ'' H' ρ'' l g' ⟨m', h1, h2⟩ => ⟨m', h1, W', ρ'', g', (le2.trans e3.le).trans l, h2⟩⟩
    | false => exact d.nx W3 σ2 H3 ρ2 (le2.trans e3.le) g3 h3

/-! ### raise X('..') -/
def sRaise (Ep : PX → Prop) (D : Addr) : PS' := fun _ _ => Ep ⟨D, []⟩
theorem ls_raise {D : Addr} {bmB : List Value} {Bn newId initId : String} {x m : Str} {j : Nat} {p1 p2 p3 : Pos} (hc : X.calm = true) (tk : Takes X (fun cls d _ H => C.E cls d H)) (F : ExcBaseFacts Bn newId initId bmB) (hq : PySem.W.excIn X.K D bmB newId = true) (gC : X.mg x = some (.ref D)) (kC : PySem.W.keepIn X.K (.ref D) = true)
    (rr : Raises X (.ref D)) (hg : Gl X x) (hdb : (x == ("__debug__" : Str)) = false := by decide) : PS X (.Raise (some (.Call (.Name x p1) [.Constant (.str m) j p2] [] p3)) none pos) (upS X.K T C (sRaise C.Ep D)) :=
  PS.weak (ps_raise hc tk (pmk_own F hq gC kC rr hg hdb)) fun Dd σ H ⟨W, ρ, P, g, w, d⟩ => g.exc _ _ H W ⟨D, []⟩ g.ext g.ok ⟨rfl, .inl ⟨rfl, rfl⟩⟩ w

/-! ### a list of one's own -/
/-- x = [] -/
def sOwn0 (i : Nat) : PS' := fun P ρ => P.nx (ρ.set i (some (.own [])))
theorem EnvR.setOwn {K : PySem.W.Frag} {B : Hp} {W : Wd} {H : Hp} {σ : L2.St} {ρ : PEnv} {i : Nat} {sv : SV} {a : Addr} (g : EnvR K B W H σ ρ) (r : RepS K B W H sv (.ref a))
    (hn : ∀ (j : Nat) (sj : SV), j ≠ i → ρ[j]? = some (some sj) → sj.isOwn = true → σ[j]? ≠ some (some (.ref a))) : EnvR K B W H (σ.set i (some (.ref a))) (ρ.set i (some sv)) where
  len := by rw [List.length_set, List.length_set, g.len]
  at_ := fun j sv' h => by
    rcases set_lt h with ⟨rfl, hl, rfl⟩ | ⟨hj, h⟩
    · exact ⟨_, by rw [List.getElem?_set_self (by rw [← g.len]; exact hl)], r⟩
    · obtain ⟨u, h1, h2⟩ := g.at_ j sv' h
      exact ⟨u, by rw [List.getElem?_set_ne (fun z => hj z.symm)]; exact h1, h2⟩
  sep := fun j k sj sk u hjk h1 h2 o1 o2 e1 e2 => by
    rcases set_lt h1 with ⟨ej, hl, es⟩ | ⟨hj, h1'⟩
    · rcases set_lt h2 with ⟨ek, hl2, es2⟩ | ⟨hk, h2'⟩
      · exact hjk (ej.trans ek.symm)
      · rw [ej, List.getElem?_set_self (by rw [← g.len]; exact hl)] at e1
        cases e1
        rw [List.getElem?_set_ne (fun z => hk z.symm)] at e2
        exact hn k sk hk h2' o2 e2
    · rw [List.getElem?_set_ne (fun z => hj z.symm)] at e1
      rcases set_lt h2 with ⟨ek, hl2, es2⟩ | ⟨hk, h2'⟩
      · rw [ek, List.getElem?_set_self (by rw [← g.len]; exact hl2)] at e2
        cases e2
        exact hn j sj hj h1' o1 e1
      · rw [List.getElem?_set_ne (fun z => hk z.symm)] at e2
        exact g.sep j k sj sk u hjk h1' h2' o1 o2 e1 e2
theorem own_ref {K : PySem.W.Frag} {B : Hp} {W : Wd} {H : Hp} {sv : SV} {v : V} (r : RepS K B W H sv v) (h : sv.isOwn = true) : ∃ a o, v = .ref a ∧ H a = some o ∧ Fr B a ∧ W.S a = none ∧ ¬ W.D a ∧ ¬ W.N a ∧ (∀ ps, o ≠ .tbl ps) ∧ (∀ q, o ≠ LamX.CodeO a q) := by
  cases sv with
  | val p => cases h
  | lckD p => cases h
  | own xs =>
    obtain ⟨a, vs, rfl, h1, h2, h3, h4, h5, _⟩ := r
    exact ⟨a, _, rfl, h5, h1, h2, h3, h4, (by intro ps z; cases z), (by intro q z; unfold LamX.CodeO at z; cases z)⟩
  | ownD xs =>
    obtain ⟨a, vs, rfl, h1, h2, h3, h4, h5, _⟩ := r
    exact ⟨a, _, rfl, h5, h1, h2, h3, h4, (by intro ps z; cases z), (by intro q z; unfold LamX.CodeO at z; cases z)⟩
theorem Good.newOwn {K : PySem.W.Frag} {W : Wd} {σ : L2.St} {H : Hp} {ρ : PEnv} {i : Nat} {a : Addr} {xs : List PV} {vs : List V} (g : Good K T C W σ H ρ) (ha : H a = none) (r : RepL K W xs vs) : Good K T C W (σ.set i (some (.ref a))) (upd H a (.lst vs)) (ρ.set i (some (.own xs))) := by
  have ex : Ext W H W (upd H a (.lst vs)) := .new0 ha
  have ok := g.ok.new0 (o := .lst vs) ha
  have g1 := g.to ex ok
  refine g1.envTo (g1.env.setOwn ⟨a, vs, rfl, ?_, ?_, ?_, ?_, upd_same, r⟩ fun j sj hj h1 o1 z => ?_)
  · exact g.ext.fr g.ok (.of ha)
  · cases q : W.S a with
    | none => rfl
    | some u =>
      have z := g.ok.sub _ _ q
      rw [ha] at z
      cases z
  · intro d
    obtain ⟨_, _, _, z, _⟩ := g.ok.draw a d
    rw [ha] at z
    cases z
  · intro d
    obtain ⟨_, _, z⟩ := g.ok.nLst a d
    rw [ha] at z
    cases z
  · obtain ⟨v, h2, h3⟩ := g.env.at_ j sj h1
    rw [z] at h2
    cases h2
    obtain ⟨b, o, e, h4, _⟩ := own_ref h3 o1
    cases e
    rw [ha] at h4
    cases h4
theorem ls_own0 {i : Nat} {x : Str} {pos' pos2 : Pos} (hN : X.N.Nodup) (hi : X.N[i]? = some x) (hx : Loc X.env.scope x) (hs : swapsWith (.List [] pos2) (some (.Name x pos')) pos.line X.env = pure false := by rfl) (hf : X.fn x = true ∨ X.env.scope.names.lookup x = some .local := by first | exact .inl rfl | exact .inr rfl | assumption) :
    PS X (.Assign [.Name x pos'] (.List [] pos2) pos) (upS X.K T C (sOwn0 i)) :=
  PS.weak (ps_set hN hi hx (pe_lst pa_nil) hs hf) fun D σ H ⟨W, ρ, P, g, w, d⟩ => ⟨Nat.zero_le _, fun a ha => d.nx W _ _ _ (.refl W) (g.newOwn ha .nil) w⟩
/-- x.append(e) -/
def sApp (i : Nat) (p : PP) : PS' := fun P ρ => match gt ρ i with
  | some (.own xs) => p ρ fun x => xs.length < sizeLine ∧ P.nx (ρ.set i (some (.own (xs ++ [x]))))
  | _ => False
theorem Good.mut {K : PySem.W.Frag} {W : Wd} {σ : L2.St} {H : Hp} {ρ : PEnv} {i : Nat} {a : Addr} {xs ys : List PV} {vs us : List V} (g : Good K T C W σ H ρ) (h : gt ρ i = some (.own xs)) (hσ : σ[i]? = some (some (.ref a))) (ha : H a = some (.lst vs)) (r : RepL K W ys us) :
    Good K T C W σ (upd H a (.lst us)) (ρ.set i (some (.own ys))) := by
  have hρ := gt_get h
  obtain ⟨v, h1, h2⟩ := g.env.at_ i _ hρ
  rw [hσ] at h1
  cases h1
  obtain ⟨a', vs', e, q1, q2, q3, q4, q5, q6⟩ := h2
  cases e
  have ok : OkW T W (upd H a (.lst us)) := g.ok.heap q2 q3 q4 fun u hu => by
    rw [ha] at hu
    cases hu
    exact ⟨(by intro ps z; cases z), (by intro q z; unfold LamX.CodeO at z; cases z)⟩
  refine ⟨ok, ?_, ?_, g.exc⟩
  · have en : EnvR K C.H W (upd H a (.lst us)) σ (ρ.set i none) := by
      have key : ∀ (j : Nat) (sv : SV), (ρ.set i none)[j]? = some (some sv) → j ≠ i ∧ ρ[j]? = some (some sv) := fun j sv h => by
        by_cases e : i = j
        · subst e
          by_cases hl : i < ρ.length
          · rw [List.getElem?_set_self hl] at h
            cases h
          · rw [List.getElem?_eq_none (by simpa using hl)] at h
            cases h
        · rw [List.getElem?_set_ne e] at h
          exact ⟨fun z => e z.symm, h⟩
      refine ⟨by rw [List.length_set, g.env.len], fun j sv hj => ?_, fun j k sj sk u hjk h1 h2 o1 o2 e1 e2 => g.env.sep j k sj sk u hjk (key j sj h1).2 (key k sk h2).2 o1 o2 e1 e2⟩
      obtain ⟨hji, hj⟩ := key j sv hj
      obtain ⟨v, h1, h2⟩ := g.env.at_ j sv hj
      refine ⟨v, h1, ?_⟩
      cases sv with
      | val p => exact h2
      | lckD p => exact h2
      | own zs =>
        obtain ⟨b, us', e, z1, z2, z3, z4, z5, z6⟩ := h2
        have nb : b ≠ a := fun z => g.env.sep j i _ _ (.ref a) hji hj hρ rfl rfl (by rw [h1, e, z]) hσ
        exact ⟨b, us', e, z1, z2, z3, z4, by rw [upd_ne nb]; exact z5, z6⟩
      | ownD zs =>
        obtain ⟨b, us', e, z1, z2, z3, z4, z5, z6⟩ := h2
        have nb : b ≠ a := fun z => g.env.sep j i _ _ (.ref a) hji hj hρ rfl rfl (by rw [h1, e, z]) hσ
        exact ⟨b, us', e, z1, z2, z3, z4, by rw [upd_ne nb]; exact z5, z6⟩
    have r2 : RepS K C.H W (upd H a (.lst us)) (.own ys) (.ref a) := ⟨a, us, rfl, q1, q2, q3, q4, upd_same, r⟩
    have z := en.setOwn (i := i) r2 fun j sj hj h1 o1 e1 => by
      rw [List.getElem?_set_ne (fun z => hj z.symm)] at h1
      exact g.env.sep j i sj _ (.ref a) hj h1 hρ o1 rfl e1 hσ
    rw [List.set_set] at z
    have hl : i < σ.length := by
      rcases Nat.lt_or_ge i σ.length with z | z
      · exact z
      · rw [List.getElem?_eq_none z] at hσ
        cases hσ
    have es : σ.set i (some (.ref a)) = σ := by
      apply List.ext_getElem?
      intro k
      by_cases e : i = k
      · subst e
        rw [List.getElem?_set_self hl, hσ]
      · rw [List.getElem?_set_ne e]
    rw [es] at z
    exact z
  · have ex := g.ext
    exact ⟨ex.le, fun b o hb hd hn => by
      have nb : b ≠ a := fun z => q1.no (by rw [← z]; exact hb) hn
      rw [upd_ne nb]
      exact ex.keep b o hb hd hn, ex.newS, ex.newD, ex.newN⟩
theorem ls_app {i : Nat} (h : PS X st (tDrop (tBM X.K "list" rAppend (tVar i) (tCons (up X.K T C p) tNil)))) : PS X st (upS X.K T C (sApp i p)) :=
  PS.weak h fun D σ H ⟨W, ρ, P, g, w, d⟩ => by
    unfold sApp at w
    split at w
    · rename_i xs hx
      obtain ⟨v, h1, a, vs, rfl, q1, q2, q3, q4, q5, q6⟩ := g.env.at_ i _ (gt_get hx)
      refine ⟨_, h1, .inl ⟨rfl, _, .of q5⟩, W, ρ, _, g, w, fun y H1 W1 py e1 o1 r1 ⟨hz, hn⟩ => ?_⟩
      have g1 := g.to e1 o1
      have q7 : H1 a = some (.lst vs) := e1.keep a _ q5 q3 (by intro ps z; cases z)
      refine ⟨a, vs, y, rfl, rfl, q7, by rw [q6.length]; exact hz, ?_⟩
      exact d.nx W1 σ _ _ e1.le (g1.mut hx h1 q7 ((q6.le e1.le).append (.cons r1 .nil))) hn
    · exact w.elim
/-- from here on the list stands still -/
def sFrz (i : Nat) (s : PS') : PS' := fun P ρ => match gt ρ i with
  | some (.own xs) => s P (ρ.set i (some (.val (.lst xs))))
  | _ => False
theorem Good.freeze {K : PySem.W.Frag} {W : Wd} {σ : L2.St} {H : Hp} {ρ : PEnv} {i : Nat} {xs : List PV} (g : Good K T C W σ H ρ) (h : gt ρ i = some (.own xs)) : ∃ W', W.Le W' ∧ Good K T C W' σ H (ρ.set i (some (.val (.lst xs)))) := by
  have hρ := gt_get h
  obtain ⟨v, h1, a, vs, rfl, q1, q2, q3, q4, q5, q6⟩ := g.env.at_ i _ hρ
  have le : W.Le (W.add a (.lst vs)) := .add q2
  have ok := g.ok.track q5 q3 (by intro ps z; cases z)
  refine ⟨W.add a (.lst vs), le, ok, ⟨by rw [List.length_set, g.env.len], fun j sv hj => ?_, fun j k sj sk u hjk h2 h3 o1 o2 e1 e2 => ?_⟩, ⟨g.ext.le.trans le, g.ext.keep, fun b o hb => ?_, g.ext.newD, g.ext.newN⟩, g.exc⟩
  · rcases set_lt hj with ⟨ej, hl, es⟩ | ⟨hji, hj'⟩
    · subst ej es
      exact ⟨_, h1, .lst Wd.add_same (q6.le le)⟩
    · obtain ⟨u, h2, h3⟩ := g.env.at_ j sv hj'
      refine ⟨u, h2, ?_⟩
      have ne : ∀ b, sv.isOwn = true → u = .ref b → b ≠ a := fun b ho e z => g.env.sep j i _ _ (.ref a) hji hj' hρ ho rfl (by rw [h2, e, z]) h1
      cases sv with
      | val p => exact Rep.le le h3
      | lckD p =>
        obtain ⟨b, us, od, e, z1, z2⟩ := h3
        exact ⟨b, us, od, e, le.S _ _ z1, z2.le le⟩
      | own zs =>
        obtain ⟨b, us', e, z1, z2, z3, z4, z5, z6⟩ := h3
        exact ⟨b, us', e, z1, (upd_ne (H := W.S) (ne b rfl e)).trans z2, z3, z4, z5, z6.le le⟩
      | ownD zs =>
        obtain ⟨b, us', e, z1, z2, z3, z4, z5, z6⟩ := h3
        exact ⟨b, us', e, z1, (upd_ne (H := W.S) (ne b rfl e)).trans z2, z3, z4, z5, z6.le le⟩
  · rcases set_lt h2 with ⟨ej, hl, es⟩ | ⟨hj, h2'⟩
    · rw [es] at o1
      cases o1
    · rcases set_lt h3 with ⟨ek, hl2, es2⟩ | ⟨hk, h3'⟩
      · rw [es2] at o2
        cases o2
      · exact g.env.sep j k sj sk u hjk h2' h3' o1 o2 e1 e2
  · by_cases e : b = a
    · subst e
      exact .inr q1
    · exact g.ext.newS b o ((upd_ne (H := W.S) e).symm.trans hb)
theorem ls_frz {i : Nat} (h : PS X st (upS X.K T C s)) : PS X st (upS X.K T C (sFrz i s)) := PS.weak h fun D σ H ⟨W, ρ, P, g, w, d⟩ => by
  unfold sFrz at w
  split at w
  · rename_i xs hx
    obtain ⟨W', le, g'⟩ := g.freeze hx
    exact ⟨W', _, P, g', w, d.le le⟩
  · exact w.elim
end

/-! ### a def -/
def pstart (n : Nat) (xs : List PV) : PEnv := xs.map (fun x => some (.val x)) ++ List.replicate (n - xs.length) none
theorem env_start {K : PySem.W.Frag} {B : Hp} {W : Wd} {H : Hp} {N : List Str} {xs : List PV} {vs : List V} (r : RepL K W xs vs) : EnvR K B W H (L2.start N vs) (pstart N.length xs) where
  len := by
    unfold L2.start pstart
    simp only [List.length_append, List.length_map, List.length_replicate, r.length]
  at_ := fun i sv h => by
    unfold pstart at h
    by_cases hi : i < xs.length
    · rw [List.getElem?_append_left (by simpa using hi), List.getElem?_map] at h
      cases e : xs[i]? with
      | none => rw [e] at h; cases h
      | some y =>
        rw [e] at h
        obtain ⟨v, h1, h2⟩ := r.get e
        cases h
        refine ⟨v, ?_, h2⟩
        unfold L2.start
        rw [List.getElem?_append_left (by simpa [r.length] using hi), List.getElem?_map, h1]
        rfl
    · rw [List.getElem?_append_right (by simpa using hi)] at h
      by_cases hj : i - (List.map (fun x => some (SV.val x)) xs).length < N.length - xs.length
      · rw [List.getElem?_replicate, if_pos hj] at h
        cases h
      · rw [List.getElem?_replicate, if_neg hj] at h
        cases h
  sep := fun i j si sj u hij h1 h2 o1 o2 e1 e2 => by
    unfold pstart at h1
    by_cases hi : i < xs.length
    · rw [List.getElem?_append_left (by simpa using hi), List.getElem?_map] at h1
      cases e : xs[i]? with
      | none => rw [e] at h1; cases h1
      | some y =>
        rw [e] at h1
        cases h1
        cases o1
    · rw [List.getElem?_append_right (by simpa using hi), List.getElem?_replicate] at h1
      split at h1 <;> cases h1
section
variable {P : Program} {w : World} {K : PySem.W.Frag} {mg : Str → Option Value} {base : Heap} {T : List (Addr × Str)}
theorem Fun.pure {x qual : Str} {st : Stmt} {f : Addr} {fd : FuncData} {N ps : List Str} {k : Nat} {φ : PSpec} {t : (PX → Prop) → PS'} (F : Fun K x qual st f fd) (S : FnScope N ps (defScope st))
    (hbody : ∀ (cdv : Value) (A : Around) (outer : List Env) (s : Shared) (H : Hp) (E : XK) (C : Ct), C.E = E → Room k (A.deeper (PyProof.Rows.envOfC qual (defScope st) s.heap.objs.size f cdv)) →
      PSs (cxOf (L2.CX P w) P w K mg base N qual (defScope st) f cdv A outer s H E) (defBody st) (upS K T C (t C.Ep)))
    (hvc : ∀ (xs : List PV) (R : PK) (Ep : PX → Prop), xs.length = ps.length → φ xs R Ep → t Ep { nx := fun _ => R .non, rt := R } (pstart N.length xs)) : FnOk P w K mg base (L2.CX P w) (k + 1) f fd ps (pSp K T ps.length φ) := by
  refine F.okX S (fun vs H Q E ⟨W, xs, R, Ep, o, r, hl, _⟩ => by rw [r.length, hl]) fun cdv A outer s H vs Q E hr ⟨W, xs, R, Ep, o, r, hl, h, k, kE⟩ => ?_
  refine ⟨upS K T ⟨W, H, E, Ep⟩ (t Ep), hbody cdv A outer s H E ⟨W, H, E, Ep⟩ rfl hr, W, pstart N.length xs, _, ⟨o, env_start r, .refl W H, kE⟩, hvc xs R Ep hl h, ⟨fun W' σ' H' ρ' l g' hn => ?_, fun W' H' v p e' o' r' h' => k v H' W' p e' o' r' h', fun _ _ _ _ _ _ z => z.elim, fun _ _ _ _ _ _ z => z.elim⟩⟩
  exact k .non H' W' .non g'.ext g'.ok .non hn
end
end Pu

/-! The pure layer, part F: defs by their names. -/
namespace Pu
open PySem L2
/-- the def x keeps its promise φ, by level k; Γ: where names stand -/
def OkF (P : Program) (w : World) (K : PySem.W.Frag) (mg : Str → Option Value) (base : Heap) (T : List (Addr × Str)) (Γ : String → Addr) (x : String) (ps : List Str) (k : Nat) (φ : PSpec) : Prop :=
  ∃ fd : FuncData, FnOk P w K mg base (L2.CX P w) k (Γ x) fd ps (pSp K T ps.length φ) ∧ Binds K fd ps [] ∧ mg (Str.ofString x) = some (.ref (Γ x)) ∧ PySem.W.keepIn K (.ref (Γ x)) = true ∧ ∃ oc od osl, K.lookup (Γ x) = some ⟨oc, od, .func fd, osl⟩
/-- an own class of errors, over ValueError, without own __init__ -/
structure ExcF (K : PySem.W.Frag) (D : Addr) : Prop where
  xp : PySem.W.excIn K D [.type "ValueError", .type "Exception", .type "BaseException", .type "object"] "ValueError.__new__" = true
  kp : PySem.W.keepIn K (.ref D) = true
  bp : PySem.W.subIn K (.ref D) (.type "BaseException") = some true
  tp : PySem.W.typeIn K (.ref D) = some (.type "type")
/-- the def x stands at Γ x -/
def DefF (K : PySem.W.Frag) (mg : Str → Option Value) (Γ : String → Addr) (x : String) (st : Stmt) (ps : List Str) : Prop :=
  ∃ fd : FuncData, Fun K (Str.ofString x) (Str.ofString x) st (Γ x) fd ∧ Binds K fd ps [] ∧ mg (Str.ofString x) = some (.ref (Γ x))
section
variable {P : Program} {w : World} {K : PySem.W.Frag} {mg : Str → Option Value} {base : Heap} {T : List (Addr × Str)} {Γ : String → Addr} {x : String} {ps : List Str} {k : Nat} {φ : PSpec}
theorem DefF.ok {st : Stmt} {N : List Str} {t : (PX → Prop) → PS'} (F : DefF K mg Γ x st ps) (S : FnScope N ps (defScope st))
    (hbody : ∀ (cdv : Value) (A : Around) (outer : List Env) (s : Shared) (H : Hp) (C : Ct), Room k (A.deeper (PyProof.Rows.envOfC (Str.ofString x) (defScope st) s.heap.objs.size (Γ x) cdv)) →
      PSs (cxOf (L2.CX P w) P w K mg base N (Str.ofString x) (defScope st) (Γ x) cdv A outer s H C.E) (defBody st) (upS K T C (t C.Ep)))
    (hvc : ∀ (xs : List PV) (R : PK) (Ep : PX → Prop), xs.length = ps.length → φ xs R Ep → t Ep { nx := fun _ => R .non, rt := R } (pstart N.length xs)) : OkF P w K mg base T Γ x ps (k + 1) φ := by
  obtain ⟨fd, F1, b, m⟩ := F
  exact ⟨fd, Fun.pure F1 S (fun cdv A outer s H E C e hr => by subst e; exact hbody cdv A outer s H C hr) hvc, b, m, F1.kp, by
    obtain ⟨oc, od, kV, doc, pm, an, cdv, ct, osl, rfl, lk, _⟩ := F1.ex
    exact ⟨oc, od, osl, lk⟩⟩
theorem OkF.imp {φ' : PSpec} (F : OkF P w K mg base T Γ x ps k φ) (h : ∀ xs R Ep, φ' xs R Ep → φ xs R Ep) : OkF P w K mg base T Γ x ps k φ' := by
  obtain ⟨fd, F1, b⟩ := F
  exact ⟨fd, F1.imp fun vs H Q E ⟨W, xs, R, Ep, o, r, hl, hf, q⟩ => ⟨W, xs, R, Ep, o, r, hl, h _ _ _ hf, q⟩, b⟩
end
section
variable {X : Cx} {T : List (Addr × Str)} {C : Ct} {e : Expr} {es : List Expr} {pos : Pos} {n : Nat} {pa : PPA}
theorem le_callF {Γ : String → Addr} {x : String} {ps : List Str} {k : Nat} {φ : PSpec} {pp : Pos} (F : OkF X.prog X.w X.K X.mg X.base T Γ x ps k φ) (hr : Room k X.A) (hg : Gl X (Str.ofString x)) (hp : Passes (L2.CX X.prog X.w) X C.E) (ha : PA X (e :: es) (upA X.K T C ps.length pa))
    (hdb : (Str.ofString x == ("__debug__" : Str)) = false := by decide) (he : starEach (e :: es) X.env = (false, eval e X.env) :: starEach es X.env := by rfl) (hpl : (backTo pos (starEach es X.env)).any (·.1) = false := by rfl) :
    PE X (.Call (.Name (Str.ofString x) pp) (e :: es) [] pos) (up X.K T C (pCall φ C.Ep pa)) := by
  obtain ⟨fd, F1, b, m, kp, _⟩ := F
  exact le_call F1 hr hg m kp b hp ha hdb he hpl
end
end Pu

/-! The pure layer, part G: draws; lists of one's own: read, popped, joined. -/
namespace Pu
open PySem L2

section
variable {X : Cx} {T : List (Addr × Str)} {C : Ct} {e a b c : Expr} {es : List Expr} {st : Stmt} {sts rest : List Stmt} {pos : Pos} {p q r : PP} {n : Nat} {t : PPT} {s u : PS'}
/-! ### draws -/
inductive DKey where
  | whole | cells | count
def DKey.str : DKey → Str
  | .whole => "whole"
  | .cells => "cells"
  | .count => "count"
/-- draw['..'] -/
def pDrw (i : Nat) (k : DKey) : PP := fun ρ R => match gt ρ i with
  | some (.val .drw) => (match k with
    | .whole => ∀ w : Int, R (.int w)
    | .cells => R .cel
    | .count => ∀ w : Int, R (.int w))
  | _ => False
theorem le_drw {i : Nat} {k : DKey} (h : PE X e (tDGet (tVar i) (tC (.str k.str)))) : PE X e (up X.K T C (pDrw i k)) := PE.weak h fun σ H Q ⟨W, ρ, R, g, w, kk⟩ => by
  unfold pDrw at w
  split at w
  · rename_i hx
    obtain ⟨v, h1, h2⟩ := g.env.at_ i _ (gt_get hx)
    cases h2 with
    | drw hd =>
      rename_i d
      obtain ⟨w0, c, n0, q1, q2⟩ := g.ok.draw d hd
      refine ⟨_, h1, d, ?_⟩
      cases k with
      | whole => exact ⟨.int w0, rfl, DGet.k (k := Sum.inr "whole") q1, kk.now g.ok (.int _) (w w0)⟩
      | cells => exact ⟨.ref c, rfl, DGet.k (k := Sum.inr "cells") q1, kk.now g.ok (.cel q2) w⟩
      | count => exact ⟨.int n0, rfl, DGet.k (k := Sum.inr "count") q1, kk.now g.ok (.int _) (w n0)⟩
  · exact w.elim
/-- the draw's dict is changed -/
theorem Good.drawn {K : PySem.W.Frag} {W : Wd} {σ : L2.St} {H : Hp} {ρ : PEnv} {d : Addr} {w : Int} {cc : Addr} {n : Int} (g : Good K T C W σ H ρ) (hd : W.D d) (hc : W.N cc) : Good K T C W σ (upd H d (drawD w cc n)) ρ := by
  obtain ⟨w0, c0, n0, q1, q2⟩ := g.ok.draw d hd
  have neS : ∀ b o, W.S b = some o → b ≠ d := fun b o e z => by
    rw [z, g.ok.dS d hd] at e
    cases e
  have neN : ∀ b, W.N b → b ≠ d := fun b e z => g.ok.dN d hd (by rw [← z]; exact e)
  have ext : Ext W H W (upd H d (drawD w cc n)) := ⟨.refl W, fun b o e hb hn => by rw [upd_ne (fun z => hb (by rw [z]; exact hd))]; exact e, fun _ _ h => .inl h, fun _ h => .inl h, fun _ h => .inl h⟩
  refine g.to ext ⟨fun b o e => ?_, g.ok.not, g.ok.dS, g.ok.dN, fun b hb => ?_, fun b hb => ?_, fun x hx => ?_⟩
  · rw [upd_ne (neS b o e)]
    exact g.ok.sub b o e
  · by_cases e : b = d
    · subst e
      exact ⟨w, cc, n, upd_same, hc⟩
    · obtain ⟨w1, c1, n1, e1, e2⟩ := g.ok.draw b hb
      exact ⟨w1, c1, n1, by rw [upd_ne e]; exact e1, e2⟩
  · obtain ⟨ns, h0, h1⟩ := g.ok.nLst b hb
    exact ⟨ns, h0, by rw [upd_ne (neN b hb)]; exact h1⟩
  · obtain ⟨ps, a1, a2, a3⟩ := g.ok.tabs x hx
    refine ⟨ps, by rw [upd_ne (ne_of a1 q1 (by intro z; cases z))]; exact a1, a2, fun pos cv hc => ?_⟩
    obtain ⟨c2, e1, e2⟩ := a3 pos cv hc
    exact ⟨c2, e1, by rw [upd_ne (ne_of e2 q1 (by intro z; unfold LamX.CodeO drawD at z; cases z))]; exact e2⟩
/-- draw['..'] = e -/
def sDrw (i : Nat) (p : PP) : PS' := fun P ρ => p ρ fun x => match x with
  | .int _ => (match gt ρ i with
    | some (.val .drw) => P.nx ρ
    | _ => False)
  | _ => False
theorem ls_drw {i : Nat} {k : DKey} (hk : k ≠ .cells) (h : PS X st (sDPut (tVar i) (tC (.str k.str)) (up X.K T C p))) : PS X st (upS X.K T C (sDrw i p)) := PS.weak h fun D σ H ⟨W, ρ, P, g, w, d⟩ =>
  ⟨W, ρ, _, g, w, fun x H1 W1 px e1 o1 r1 h1 => by
    split at h1
    · split at h1
      · rename_i hx
        have g1 := g.to e1 o1
        obtain ⟨v, h2, h3⟩ := g1.env.at_ i _ (gt_get hx)
        obtain ⟨z, rfl⟩ : ∃ z, x = V.int z := by
          cases r1
          exact ⟨_, rfl⟩
        cases h3 with
        | drw hd =>
          rename_i d'
          obtain ⟨w0, c, n0, q1, q2⟩ := o1.draw d' hd
          refine ⟨_, h2, d', ?_⟩
          have hl : ([(Sum.inr "whole", V.int w0), (Sum.inr "cells", V.ref c), (Sum.inr "count", V.int n0)] : List (Key × V)).length < sizeLine := by
            rw [sizeLine_eq]
            simp only [List.length_cons, List.length_nil]
            omega
          cases k with
          | whole => exact ⟨upd H1 d' (drawD z c n0), rfl, .inl ⟨_, Sum.inr "whole", q1, rfl, hl, rfl⟩, d.nx W1 σ _ ρ e1.le (g1.drawn hd q2) h1⟩
          | cells => exact absurd rfl hk
          | count => exact ⟨upd H1 d' (drawD w0 c z), rfl, .inl ⟨_, Sum.inr "count", q1, rfl, hl, rfl⟩, d.nx W1 σ _ ρ e1.le (g1.drawn hd q2) h1⟩
      · exact h1.elim
    · exact h1.elim⟩
/-- draw['cells'] + [..] -/
def fCelAdd : PF2 := fun x y R => match x, y with
  | .cel, .lst ys => ys.length ≤ 1000 ∧ ∀ ns : List Int, R (.lst (ns.map PV.int ++ ys))
  | _, _ => False
theorem OkW.line {n : Nat} (h : n ≤ 100000) : n ≤ sizeLine := by
  rw [sizeLine_eq]
  omega
theorem rb_celAdd {X : Cx} {T : List (Addr × Str)} : RB X.K T rCat fCelAdd := by
  intro W H x y px py R Q o rx ry h k
  unfold fCelAdd at h
  split at h
  · cases rx with
    | cel hn =>
      cases ry with
      | lst hl rl =>
        obtain ⟨ns, h0, h1⟩ := o.nLst _ hn
        refine ⟨_, _, _, _, rfl, rfl, h1, o.sub _ _ hl, ?_, k.newL o ((RepL.ints ns).append rl) (h.2 ns)⟩
        refine OkW.line ?_
        rw [List.length_map, rl.length]
        have := h.1
        omega
  · exact h.elim
/-- {'whole': .., 'cells': .., 'count': 0}: a draw -/
def sNewDrw (i j : Nat) : PS' := fun P ρ => match gt ρ i, gt ρ j with
  | some (.val (.int _)), some (.own xs) => ∃ ns, ints? xs = some ns ∧ ns.length ≤ 1000 ∧ P.rt .drw
  | _, _ => False
theorem ls_newDrw {i j : Nat} (h : PS X st (tRet (tDisp [(tC (.str "whole"), tVar i), (tC (.str "cells"), tVar j), (tC (.str "count"), tC (.int 0))]))) : PS X st (upS X.K T C (sNewDrw i j)) := PS.weak h fun D σ H ⟨W, ρ, P, g, w, d⟩ => by
  unfold sNewDrw at w
  split at w
  · rename_i z xs hi hj
    obtain ⟨ns, h0, hl, hr⟩ := w
    obtain ⟨v, h1, h2⟩ := g.env.at_ i _ (gt_get hi)
    cases h2
    obtain ⟨v, h3, cc, vs, rfl, q1, q2, q3, q4, q5, q6⟩ := g.env.at_ j _ (gt_get hj)
    rw [ints_inv h0] at q6
    have ev := q6.ints_inv
    subst ev
    intro d' hd'
    have n1 : (Sum.inr (Str.ofString "whole") : Key) ≠ Sum.inr (Str.ofString "cells") := by decide
    have n2 : (Sum.inr (Str.ofString "whole") : Key) ≠ Sum.inr (Str.ofString "count") := by decide
    have n3 : (Sum.inr (Str.ofString "cells") : Key) ≠ Sum.inr (Str.ofString "count") := by decide
    refine ⟨_, h1, _, h3, upd_same, [(Sum.inr "whole", V.int z), (Sum.inr "cells", V.ref cc), (Sum.inr "count", V.int 0)], rfl, by simp only [List.length_cons, List.length_nil]; omega, ?_⟩
    have e : (mergeK [] [(Sum.inr "whole", V.int z), (Sum.inr "cells", V.ref cc), (Sum.inr "count", V.int 0)]) = ([(Sum.inr "whole", V.int z), (Sum.inr "cells", V.ref cc), (Sum.inr "count", V.int 0)] : List (Key × V)) := by
      simp only [mergeK, List.foldl, putK, List.any_nil, Bool.false_eq_true, if_false, List.nil_append, List.any_cons, List.cons_append, decide_eq_false n1, decide_eq_false n2, decide_eq_false n3, Bool.or_false]
    rw [e, upd_upd]
    have at_ : ∀ b, b ≠ d' → upd H d' (drawD z cc 0) b = H b := fun b hb => upd_ne hb
    have nS : W.S d' = none := by
      cases q : W.S d' with
      | none => rfl
      | some u =>
        have z := g.ok.sub _ _ q
        rw [hd'] at z
        cases z
    have nN : ¬ W.N d' := fun z => by
      obtain ⟨_, _, z⟩ := g.ok.nLst _ z
      rw [hd'] at z
      cases z
    have ncd : cc ≠ d' := ne_of_none q5 hd'
    have ok0 : OkW T W (upd H d' (drawD z cc 0)) := g.ok.new0 hd'
    refine d.rt ⟨W.S, fun b => W.D b ∨ b = d', fun b => W.N b ∨ b = cc⟩ _ _ .drw ⟨g.ext.le.trans ⟨fun _ _ h => h, fun _ h => .inl h, fun _ h => .inl h⟩, fun b o e hb hn => ?_, g.ext.newS, fun b h => ?_, fun b h => ?_⟩ ⟨ok0.sub, ok0.not, fun b h => ?_, fun b h => ?_, fun b h => ?_, fun b h => ?_, ok0.tabs⟩ (.drw (.inr rfl)) hr
    · have h1 := g.ext.keep b o e hb hn
      exact (at_ b (ne_of_none h1 hd')).trans h1
    · rcases h with h | h
      · exact g.ext.newD b h
      · rw [h]
        exact .inr (g.ext.fr g.ok (.of hd'))
    · rcases h with h | h
      · exact g.ext.newN b h
      · rw [h]
        exact .inr q1
    · rcases h with h | h
      · exact ok0.dS b h
      · rw [h]
        exact nS
    · rintro (h2 | h2)
      · rcases h with h | h
        · exact ok0.dN b h h2
        · rw [h] at h2
          exact nN h2
      · rcases h with h | h
        · rw [h2] at h
          exact q3 h
        · exact ncd (h2.symm.trans h)
    · rcases h with h | h
      · obtain ⟨w1, c1, n1, e1, e2⟩ := ok0.draw b h
        exact ⟨w1, c1, n1, e1, .inl e2⟩
      · rw [h]
        exact ⟨z, cc, 0, upd_same, .inr rfl⟩
    · rcases h with h | h
      · exact ok0.nLst b h
      · rw [h]
        exact ⟨ns, hl, (at_ cc ncd).trans q5⟩
  · exact w.elim
/-- a, b = e, []: the second a list of one's own -/
def sParOwn (i j : Nat) (p : PP) : PS' := fun P ρ => p ρ fun x => P.nx ((ρ.set i (some (.val x))).set j (some (.own [])))
theorem ls_parOwn {i j : Nat} (h : PS X st (tPar i j (tCons (up X.K T C p) (tCons (tLst tNil) tNil)))) : PS X st (upS X.K T C (sParOwn i j p)) := PS.weak h fun D σ H ⟨W, ρ, P, g, w, d⟩ =>
  ⟨W, ρ, _, g, w, fun x H1 W1 px e1 o1 r1 h1 => ⟨Nat.zero_le _, fun l hl => ⟨_, _, rfl, d.nx W1 _ _ _ e1.le (Good.newOwn (((g.to e1 o1)).envTo ((g.to e1 o1).env.set r1)) hl .nil) h1⟩⟩⟩
/-- a, b = [], [e]: both one's own -/
def sParOwn2 (i j : Nat) (p : PP) : PS' := fun P ρ => p ρ fun x => P.nx ((ρ.set i (some (.own []))).set j (some (.own [x])))
theorem ls_parOwn2 {i j : Nat} (h : PS X st (tPar i j (tCons (tLst tNil) (tCons (tLst (tCons (up X.K T C p) tNil)) tNil)))) : PS X st (upS X.K T C (sParOwn2 i j p)) := PS.weak h fun D σ H ⟨W, ρ, P, g, w, d⟩ =>
  ⟨Nat.zero_le _, fun l hl => by
    have ex : Ext W H W (upd H l (.lst [])) := .new0 hl
    have g0 := g.to ex (g.ok.new0 hl)
    refine ⟨W, ρ, _, g0, w, fun x H1 W1 px e1 o1 r1 h1 => ?_⟩
    refine ⟨OkW.line (by simp), fun l2 hl2 => ⟨_, _, rfl, ?_⟩⟩
    -- the first list is one's own behind the second's making
    have gA : Good X.K T C W (σ.set i (some (.ref l))) (upd H l (.lst [])) (ρ.set i (some (.own []))) := g.newOwn hl .nil
    have gB := gA.to e1 o1
    have gC := gB.newOwn (i := j) (xs := [px]) (vs := [x]) hl2 (.cons r1 .nil)
    exact d.nx W1 _ _ _ e1.le gC h1⟩

/-! ### a list of one's own: popped, joined, read -/
/-- y = x.pop() -/
def sPop (i j : Nat) : PS' := fun P ρ => match gt ρ i with
  | some (.own xs) => ∃ y, xs.getLast? = some y ∧ P.nx ((ρ.set i (some (.own xs.dropLast))).set j (some (.val y)))
  | _ => False
theorem ls_pop {i j : Nat} (h : PS X st (tAsg (tBM0 X.K "list" rPop (tVar i)) (gName j))) : PS X st (upS X.K T C (sPop i j)) := PS.weak h fun D σ H ⟨W, ρ, P, g, w, d⟩ => by
  unfold sPop at w
  split at w
  · rename_i xs hx
    obtain ⟨y, hy, hn⟩ := w
    obtain ⟨v, h1, a, vs, rfl, q1, q2, q3, q4, q5, q6⟩ := g.env.at_ i _ (gt_get hx)
    rw [List.getLast?_eq_getElem?] at hy
    obtain ⟨u, h2, h3⟩ := q6.get hy
    refine ⟨_, h1, .inl ⟨rfl, _, .of q5⟩, a, vs, u, rfl, rfl, q5, by rw [q6.length]; exact h2, ?_⟩
    have g1 := g.mut hx h1 q5 q6.dropLast
    exact d.nx W _ _ _ (.refl W) (g1.envTo (g1.env.set h3)) hn
  · exact w.elim
/-- x = x + e -/
def sJoin (i : Nat) (p : PP) : PS' := fun P ρ => match gt ρ i with
  | some (.own xs) => p ρ fun y => match y with
    | .lst ys => xs.length + ys.length ≤ sizeLine ∧ P.nx (ρ.set i (some (.own (xs ++ ys))))
    | _ => False
  | _ => False
theorem ls_join {i : Nat} (h : PS X st (tAsg (tOp (rAddP X.K) (tVar i) (up X.K T C p)) (gName i))) : PS X st (upS X.K T C (sJoin i p)) := PS.weak h fun D σ H ⟨W, ρ, P, g, w, d⟩ => by
  unfold sJoin at w
  split at w
  · rename_i xs hx
    obtain ⟨v, h1, a, vs, rfl, q1, q2, q3, q4, q5, q6⟩ := g.env.at_ i _ (gt_get hx)
    refine ⟨_, h1, W, ρ, _, g, w, fun y H1 W1 py e1 o1 r1 h2 => ?_⟩
    split at h2
    · cases r1 with
      | lst hl rl =>
        obtain ⟨hz, hn⟩ := h2
        refine .inr (.inr (.inl ⟨a, _, vs, _, rfl, rfl, e1.keep a _ q5 q3 (by intro ps z; cases z), o1.sub _ _ hl, by rw [q6.length, rl.length]; exact hz, fun l hnl => ?_⟩))
        exact d.nx W1 _ _ _ e1.le ((g.to e1 o1).newOwn hnl ((q6.le e1.le).append rl)) hn
    · exact h2.elim
  · exact w.elim

/-! ### what is of one's own, looked at -/
section
open Classical
def viewS : Option SV → Option SV
  | some (.own xs) => some (.val (.lst xs))
  | some (.ownD xs) => some (.val (.dic xs))
  | x => x
def view (ρ : PEnv) : PEnv := ρ.map viewS
def ind : PV → Bool
  | .non => true
  | .bl _ => true
  | .int _ => true
  | .str _ => true
  | .ref _ => true
  | .ty _ => true
  | .tup xs => inds xs
  | _ => false
where inds : List PV → Bool
  | [] => true
  | x :: xs => ind x && inds xs
def Own (σ : L2.St) (ρ : PEnv) (b : Addr) : Prop := ∃ (i : Nat) (sv : SV), ρ[i]? = some (some sv) ∧ sv.isOwn = true ∧ σ[i]? = some (some (.ref b))
noncomputable def Wd.with (W : Wd) (σ : L2.St) (ρ : PEnv) (H : Hp) : Wd := ⟨fun b => if Own σ ρ b then H b else W.S b, W.D, W.N⟩
noncomputable def Wd.out (W : Wd) (σ : L2.St) (ρ : PEnv) : Wd := ⟨fun b => if Own σ ρ b then none else W.S b, W.D, W.N⟩
theorem Own.is {K : PySem.W.Frag} {W : Wd} {σ : L2.St} {H : Hp} {ρ : PEnv} (g : Good K T C W σ H ρ) {b : Addr} (h : Own σ ρ b) : ∃ o, H b = some o ∧ Fr C.H b ∧ W.S b = none ∧ ¬ W.D b ∧ ¬ W.N b ∧ (∀ ps, o ≠ .tbl ps) ∧ (∀ xs, o ≠ .tup xs) ∧ ∀ u xs, o ≠ .frz u xs := by
  obtain ⟨i, sv, h1, h2, h3⟩ := h
  obtain ⟨v, h4, h5⟩ := g.env.at_ i sv h1
  rw [h3] at h4
  cases h4
  cases sv with
  | val p => cases h2
  | lckD p => cases h2
  | own xs =>
    obtain ⟨a, vs, e, q1, q2, q3, q4, q5, _⟩ := h5
    cases e
    exact ⟨_, q5, q1, q2, q3, q4, (by intro ps z; cases z), (by intro ps z; cases z), (by intro u ps z; cases z)⟩
  | ownD xs =>
    obtain ⟨a, vs, e, q1, q2, q3, q4, q5, _⟩ := h5
    cases e
    exact ⟨_, q5, q1, q2, q3, q4, (by intro ps z; cases z), (by intro ps z; cases z), (by intro u ps z; cases z)⟩
theorem Good.view {K : PySem.W.Frag} {W : Wd} {σ : L2.St} {H : Hp} {ρ : PEnv} (g : Good K T C W σ H ρ) : W.Le (W.with σ ρ H) ∧ Good K T C (W.with σ ρ H) σ H (view ρ) := by
  have le : W.Le (W.with σ ρ H) := ⟨fun b o e => by
    show (if Own σ ρ b then H b else W.S b) = some o
    split
    · exact g.ok.sub b o e
    · exact e, fun _ h => h, fun _ h => h⟩
  refine ⟨le, ⟨fun b o e => ?_, fun b ps e => ?_, fun b h => ?_, g.ok.dN, g.ok.draw, g.ok.nLst, g.ok.tabs⟩, ⟨by unfold Pu.view; rw [List.length_map, g.env.len], fun i sv h => ?_, fun i j si sj v hij h1 h2 o1 o2 _ _ => ?_⟩, ⟨g.ext.le.trans le, g.ext.keep, fun b o e => ?_, g.ext.newD, g.ext.newN⟩, g.exc⟩
  · have e : (if Own σ ρ b then H b else W.S b) = some o := e
    split at e
    · exact e
    · exact g.ok.sub b o e
  · have e : (if Own σ ρ b then H b else W.S b) = some (.tbl ps) := e
    split at e
    · rename_i ho
      obtain ⟨o, q1, _, _, _, _, q2, _⟩ := Own.is g ho
      rw [q1] at e
      exact q2 ps (Option.some.inj e)
    · exact g.ok.not b ps e
  · show (if Own σ ρ b then H b else W.S b) = none
    split
    · rename_i ho
      obtain ⟨o, _, _, _, q, _⟩ := Own.is g ho
      exact absurd h q
    · exact g.ok.dS b h
  · unfold Pu.view at h
    rw [List.getElem?_map] at h
    cases e : ρ[i]? with
    | none => rw [e] at h; cases h
    | some x =>
      rw [e] at h
      have h : viewS x = some sv := Option.some.inj h
      cases x with
      | none => cases h
      | some sv0 =>
        obtain ⟨v, h1, h2⟩ := g.env.at_ i sv0 e
        refine ⟨v, h1, ?_⟩
        cases sv0 with
        | val p =>
          have h : sv = .val p := (Option.some.inj h).symm
          subst h
          exact Rep.le le h2
        | lckD xs =>
          have h : sv = .lckD xs := (Option.some.inj h).symm
          subst h
          obtain ⟨a, vs, od, rfl, q1, q2⟩ := h2
          exact ⟨a, vs, od, rfl, le.S _ _ q1, q2.le le⟩
        | own xs =>
          have h : sv = .val (.lst xs) := (Option.some.inj h).symm
          subst h
          obtain ⟨a, vs, rfl, q1, q2, q3, q4, q5, q6⟩ := h2
          exact .lst (show (if Own σ ρ a then H a else W.S a) = some (.lst vs) by rw [if_pos ⟨i, _, e, rfl, h1⟩]; exact q5) (q6.le le)
        | ownD xs =>
          have h : sv = .val (.dic xs) := (Option.some.inj h).symm
          subst h
          obtain ⟨a, vs, rfl, q1, q2, q3, q4, q5, q6⟩ := h2
          exact .dic (show (if Own σ ρ a then H a else W.S a) = some (.dK vs) by rw [if_pos ⟨i, _, e, rfl, h1⟩]; exact q5) (q6.le le)
  · unfold Pu.view at h1
    rw [List.getElem?_map] at h1
    cases e : ρ[i]? with
    | none => rw [e] at h1; cases h1
    | some x =>
      rw [e] at h1
      have h1 : viewS x = some si := Option.some.inj h1
      cases x with
      | none => cases h1
      | some sv0 => cases sv0 <;> (have z := Option.some.inj h1; subst z; cases o1)
  · have e : (if Own σ ρ b then H b else W.S b) = some o := e
    split at e
    · rename_i ho
      obtain ⟨_, _, q, _⟩ := Own.is g ho
      exact .inr q
    · exact g.ext.newS b o e
theorem out_of {K : PySem.W.Frag} {W W' : Wd} {σ : L2.St} {H H' : Hp} {ρ : PEnv} (g : Good K T C W σ H ρ) (e : Ext (W.with σ ρ H) H W' H') (o : OkW T W' H') : Ext W H (W'.out σ ρ) H' ∧ OkW T (W'.out σ ρ) H' := by
  refine ⟨⟨⟨fun b u h => ?_, e.le.D, e.le.N⟩, e.keep, fun b u h => ?_, e.newD, e.newN⟩, fun b u h => ?_, fun b ps h => ?_, fun b h => ?_, o.dN, o.draw, o.nLst, o.tabs⟩
  · show (if Own σ ρ b then none else W'.S b) = some u
    split
    · rename_i ho
      obtain ⟨_, _, _, q, _⟩ := Own.is g ho
      rw [q] at h
      cases h
    · rename_i ho
      exact e.le.S b u (show (if Own σ ρ b then H b else W.S b) = some u by rw [if_neg ho]; exact h)
  · have h : (if Own σ ρ b then none else W'.S b) = some u := h
    split at h
    · cases h
    · rename_i ho
      rcases e.newS b u h with z | z
      · have z : (if Own σ ρ b then H b else W.S b) = some u := z
        rw [if_neg ho] at z
        exact .inl z
      · exact .inr z
  · have h : (if Own σ ρ b then none else W'.S b) = some u := h
    split at h
    · cases h
    · exact o.sub b u h
  · have h : (if Own σ ρ b then none else W'.S b) = some (.tbl ps) := h
    split at h
    · cases h
    · exact o.not b ps h
  · show (if Own σ ρ b then none else W'.S b) = none
    split
    · rfl
    · exact o.dS b h
mutual
theorem rep_out {K : PySem.W.Frag} {W W' : Wd} {σ : L2.St} {H H' : Hp} {ρ : PEnv} (g : Good K T C W σ H ρ) (e : Ext (W.with σ ρ H) H W' H') (o : OkW T W' H') : ∀ {x : PV} {v : V}, ind x = true → Rep K W' x v → Rep K (W'.out σ ρ) x v
  | _, _, _, .non => .non
  | _, _, _, .bl b => .bl b
  | _, _, _, .int b => .int b
  | _, _, _, .str b => .str b
  | _, _, _, .ref b => .ref b
  | _, _, _, .ty b => .ty b
  | _, _, h, .tup (a := a) hq rl => by
    refine .tup ?_ (reps_out g e o (by unfold ind at h; exact h) rl)
    have key : ∀ u, W'.S a = some u → ((∃ xs, u = .tup xs) ∨ ∃ ob xs, u = .frz ob (.tup xs)) → (W'.out σ ρ).S a = some u := fun u hu hk => by
      show (if Own σ ρ a then none else W'.S a) = some u
      split
      · rename_i ho
        obtain ⟨ob, q1, _, _, q3, _, q4, q5, q6⟩ := Own.is g ho
        have z := o.sub _ _ hu
        rw [e.keep a ob q1 q3 q4] at z
        cases z
        rcases hk with ⟨xs, hk⟩ | ⟨ob2, xs, hk⟩
        · exact absurd hk (q5 xs)
        · exact absurd hk (q6 ob2 _)
      · exact hu
    rcases hq with (z | ⟨ob, z⟩) | z
    · exact .inl (.inl (key _ z (.inl ⟨_, rfl⟩)))
    · exact .inl (.inr ⟨ob, key _ z (.inr ⟨_, _, rfl⟩)⟩)
    · exact .inr z
  | _, _, h, .lst _ _ => by cases h
  | _, _, h, .dic _ _ => by cases h
  | _, _, h, .scr _ => by cases h
  | _, _, h, .drw _ => by cases h
  | _, _, h, .cel _ => by cases h
  | _, _, h, .exc _ => by cases h
  | _, _, h, .excD _ _ _ _ => by cases h
theorem reps_out {K : PySem.W.Frag} {W W' : Wd} {σ : L2.St} {H H' : Hp} {ρ : PEnv} (g : Good K T C W σ H ρ) (e : Ext (W.with σ ρ H) H W' H') (o : OkW T W' H') : ∀ {x : List PV} {v : List V}, ind.inds x = true → RepL K W' x v → RepL K (W'.out σ ρ) x v
  | _, _, _, .nil => .nil
  | _, _, h, .cons r rr => by
    unfold ind.inds at h
    rw [Bool.and_eq_true] at h
    exact .cons (rep_out g e o h.1 r) (reps_out g e o h.2 rr)
end
end
/-- an expression that only looks at lists of one's own -/
def pBor (p : PP) : PP := fun ρ R => p (view ρ) fun x => ind x = true ∧ R x
theorem le_bor (h : PE X e (up X.K T C p)) : PE X e (up X.K T C (pBor p)) := PE.weak h fun σ H Q ⟨W, ρ, R, g, w, k⟩ => by
  obtain ⟨le, g'⟩ := g.view
  refine ⟨_, _, _, g', w, fun v H' W' x e' o' r' ⟨hi, hr⟩ => ?_⟩
  obtain ⟨e2, o2⟩ := out_of g e' o'
  exact k v H' _ x e2 o2 (rep_out g e' o' hi r') hr
def tBor (t : PPT) : PPT := fun ρ R => t (view ρ) R
theorem lt_bor (h : PT X e (upT X.K T C t)) : PT X e (upT X.K T C (tBor t)) := PT.weak h fun σ H Q ⟨W, ρ, R, g, w, k⟩ => by
  obtain ⟨le, g'⟩ := g.view
  refine ⟨_, _, _, g', w, fun b H' W' e' o' hr => ?_⟩
  obtain ⟨e2, o2⟩ := out_of g e' o'
  exact k b H' _ e2 o2 hr
end
end Pu

/-! The pure layer, part S: sets of ints on the way to a sorted list, to a number. -/
namespace Pu
open PySem PySem.Spec PyProof.Rows L2
section
variable {P : Program} {w : World} {A : Around} {E : Value → Shared → Prop} {s : Shared}
theorem call_set_listI {l : Addr} {items : Array Value} (ns : List Int) {Q : Value → Shared → Prop} (hh : A.handled = none) (hl : s.heap.IsList l items) (hit : IntsAre items.toList ns) (hb : ns.length + 1 < scanBound)
    (h : ∀ (h' : Heap) (tk c : Nat), SetR w h' s.heap.objs.size (fun j => decide (j ∈ ns)) c → c ≤ ns.length → (∀ b o, s.heap.get? b = some o → h'.get? b = some o) → Q (.ref s.heap.objs.size) { s with heap := h', toks := tk }) :
    wpAny (model P w) A (call (.type "set") [.ref l]) Q E s := by
  have hisz : items.size = ns.length := by
    have q := IntsAre.length hit
    rw [Array.length_toList] at q
    exact q
  obtain ⟨c, tl, hmro⟩ := F.called_set.mro
  have hmade := F.called_set.made
  have hsub := F.called_set.sub
  refine wpAny_call (codeAny_of_tree ?_)
  show wpAny _ _ (callAny (.type "set") _) _ _ _
  refine wpAny_pure ⟨Code.quiet_builtin _ (by decide +kernel), codeAny_builtin F.entry_type_call ?_⟩
  rw [Around.under_plain (weight_type_call_type "set" [.ref l] []) rfl]
  have h1 := F.called_set.notType
  have h2 := F.called_set.canCreate
  have hct := F.typeCall_set_1 (.ref l)
  repeat (any_goals (first | assumption | wp_step))

  refine codeAny_mono (code_set_led1 (.ref l) (E := E) (Q₁ := fun obj s₁ => obj = .ref s.heap.objs.size ∧ s₁ = { s with heap := s.heap.push { cls := .type "set", dict := none, data := .set #[] 0 (.fresh 0 0 (!w.params.followText "set-order")) } }) ⟨rfl, rfl⟩) fun r s₁ hr => ?_
  cases r with
  | error e => exact hr
  | ok fl =>
    cases fl with
    | ret obj =>
      obtain ⟨rfl, rfl⟩ := hr
      have hS : (s.heap.push { cls := .type "set", dict := none, data := .set #[] 0 (.fresh 0 0 (!w.params.followText "set-order")) }).get? s.heap.objs.size = some { cls := .type "set", dict := none, data := .set #[] 0 (.fresh 0 0 (!w.params.followText "set-order")) } := Heap.get?_push_size _ rfl
      have hT : Shared.TypeIs { s with heap := s.heap.push { cls := .type "set", dict := none, data := .set #[] 0 (.fresh 0 0 (!w.params.followText "set-order")) } } (.ref s.heap.objs.size) "set" := ⟨_, hS, rfl⟩
      have hli := F.called_set.init.lookup
      have hbi := F.called_set.init.bind (.ref s.heap.objs.size)
      repeat (any_goals (first | assumption | wp_step))

      refine codeAny_mono (codeAny_call_builtin (R := wants (fun r s₂ => r = .none ∧ ∃ h' tk c, s₂ = { s with heap := h', toks := tk } ∧ SetR w h' s.heap.objs.size (fun j => decide (j ∈ ns)) c ∧ c ≤ ns.length ∧
          (∀ b o, s.heap.get? b = some o → h'.get? b = some o)) E) F.called_set.init.plain F.entry_set_init (check_set_init_1 hT ?_)) fun r₂ s₂ hr₂ => ?_
      · obtain ⟨ol, hol, hcl, nl, hdl⟩ := hl
        obtain ⟨ocls, odict, odata, oslots⟩ := ol
        simp only at hcl hdl
        subst hcl; subst hdl
        have hol' : (s.heap.push { cls := .type "set", dict := none, data := .set #[] 0 (.fresh 0 0 (!w.params.followText "set-order")) }).get? l = some { cls := .type "list", dict := odict, data := .seq items nl, slots := oslots } := Heap.get?_push_of_some _ hol
        have hsls := F.sub_list_set
        have hslf := F.sub_list_frozenset
        have hne : (Value.type "list" == Value.type "dict") = false := by decide
        have hl1 : (s.heap.push { cls := .type "set", dict := none, data := .set #[] 0 (.fresh 0 0 (!w.params.followText "set-order")) }).IsList l items := ⟨_, hol', rfl, nl, rfl⟩
        unfold Builtin.«set.__init__» noKeywords Builtin.Frozenset.updateFrom
        generalize hPI : pyIter = PI
        wp_walk
        subst hPI

        refine wpAny_pyIter_list hl1 ?_
        refine wpAny_bind (wpAny_runValue ?_)
        have hlS : l < s.heap.objs.size := Heap.lt_size hol
        have hh3 : A.in1.in1.in1.handled = none := by simp [hh]
        have hz1 : (s.heap.push { cls := .type "set", dict := none, data := .set #[] 0 (.fresh 0 0 (!w.params.followText "set-order")) }).objs.size = s.heap.objs.size + 1 := Heap.size_push ..
        have hneI : l ≠ (s.heap.push { cls := .type "set", dict := none, data := .set #[] 0 (.fresh 0 0 (!w.params.followText "set-order")) }).objs.size := by
          rw [Heap.size_push]; exact Nat.ne_of_lt (Nat.lt_succ_of_lt hlS)
        have hSf : s.heap.objs.size ∉ [(s.heap.push { cls := .type "set", dict := none, data := .set #[] 0 (.fresh 0 0 (!w.params.followText "set-order")) }).objs.size, l] := by
          rw [Heap.size_push]; simp only [List.mem_cons, List.mem_singleton, List.not_mem_nil, or_false, not_or]
          exact ⟨Nat.ne_of_lt (Nat.lt_succ_self _), Nat.ne_of_gt hlS⟩
        have hval : ∀ (i : Nat) (v : Value), items[i]? = some v → ∃ k t, ns[i]? = some k ∧ v = .int k t := fun i v hv => by
          have hi : i < ns.length := by rw [← hisz]; exact (Array.getElem?_eq_some_iff.mp hv).1
          obtain ⟨t, e⟩ := PyProof.Rows.IntsAre.int_at hit i v (by rw [Array.getElem?_toList]; exact hv)
          refine ⟨ns[i], t, List.getElem?_eq_getElem hi, ?_⟩
          rw [e, List.getD_eq_getElem?_getD, List.getElem?_eq_getElem hi] <;> rfl
        refine set_update_ints ((Walks.list hh3 _ l hneI items).toS) s.heap.objs.size
          hSf ns hisz hb hval (items.size - 0) 0 _ (by omega) (Nat.zero_le _)
          ⟨⟨_, Heap.get?_push_size _ rfl, rfl, rfl⟩, (hl1.push _)⟩ ?hS0 ?hR
        case hS0 =>
          have hget : ((s.heap.push { cls := .type "set", dict := none, data := .set #[] 0 (.fresh 0 0 (!w.params.followText "set-order")) }).push { cls := .type "list_iterator", data := .fields #[.ref l, .int 0 0] }).get? s.heap.objs.size
              = some { cls := .type "set", dict := none, data := .set #[] 0 (.fresh 0 0 (!w.params.followText "set-order")) } := Heap.get?_push_of_some _ hS
          exact ⟨0, Nat.le_refl 0, setR_new_at hget⟩
        case hR =>
          intro s' c' hm hc' hS'
          obtain ⟨h', g2, d', tk', os'⟩ := s'
          have eg : g2 = s.gens := hm.gens
          have ed : d' = s.drawn := hm.drawn
          have eo : os' = s.os := hm.os
          subst eg; subst ed; subst eo
          show wpAny _ _ _ _ _ _
          refine wpAny_pure ?_
          show wpAny _ _ (ret Value.none) _ _ _
          rw [hisz] at hc'
          refine wpAny_pure ⟨rfl, h', tk', c', rfl, hS', hc', fun b o e => ?_⟩
          have hb0 : b < s.heap.objs.size := Heap.lt_size e
          have hb1 : b ≠ s.heap.objs.size := Nat.ne_of_lt hb0
          have hb2 : b ≠ (s.heap.push { cls := .type "set", dict := none, data := .set #[] 0 (.fresh 0 0 (!w.params.followText "set-order")) }).objs.size := by
            rw [Heap.size_push]; exact Nat.ne_of_lt (Nat.lt_succ_of_lt hb0)
          exact hm.heap b o (by simp only [List.mem_cons, List.mem_singleton, List.not_mem_nil, or_false, not_or]; exact ⟨hb1, hb2⟩) (Heap.get?_push_of_some _ (Heap.get?_push_of_some _ e))

      · cases r₂ with
        | error e => exact hr₂
        | ok fl₂ =>
          cases fl₂ with
          | ret r =>
            obtain ⟨rfl, h', tk, c', rfl, hS', hc', hk'⟩ := hr₂
            repeat (any_goals (first | assumption | wp_step))
            exact h _ _ _ hS' hc' hk'
          | _ => exact hr₂.elim
    | _ => exact hr.elim

end
end Pu
namespace Pu
open PySem L2
/-- unlike ints, rising -/
def insU (x : Int) : List Int → List Int
  | [] => [x]
  | y :: r => if x < y then x :: y :: r else if x = y then y :: r else y :: insU x r
def setI (ns : List Int) : List Int := ns.foldr insU []
theorem mem_insU {x y : Int} : ∀ {l : List Int}, y ∈ insU x l ↔ y = x ∨ y ∈ l
  | [] => by simp [insU]
  | z :: r => by
    unfold insU
    split
    · simp
    · split
      · rename_i h
        subst h
        simp
      · simp only [List.mem_cons, mem_insU (l := r)]
        constructor
        · rintro (h | h | h)
          · exact .inr (.inl h)
          · exact .inl h
          · exact .inr (.inr h)
        · rintro (h | h | h)
          · exact .inr (.inl h)
          · exact .inl h
          · exact .inr (.inr h)
theorem mem_setI {y : Int} : ∀ {ns : List Int}, y ∈ setI ns ↔ y ∈ ns
  | [] => by simp [setI]
  | n :: r => by
    show y ∈ insU n (setI r) ↔ _
    rw [mem_insU, mem_setI (ns := r), List.mem_cons]
theorem pw_insU {x : Int} : ∀ {l : List Int}, l.Pairwise (· < ·) → (insU x l).Pairwise (· < ·)
  | [], _ => by simp [insU]
  | z :: r, h => by
    rw [List.pairwise_cons] at h
    unfold insU
    split
    · rename_i hx
      rw [List.pairwise_cons]
      refine ⟨fun a ha => ?_, List.pairwise_cons.mpr h⟩
      rcases List.mem_cons.mp ha with e | ha
      · rw [e]; exact hx
      · have := h.1 a ha; omega
    · split
      · exact List.pairwise_cons.mpr h
      · rw [List.pairwise_cons]
        refine ⟨fun a ha => ?_, pw_insU h.2⟩
        rcases mem_insU.mp ha with e | ha
        · omega
        · exact h.1 a ha
theorem pw_setI : ∀ {ns : List Int}, (setI ns).Pairwise (· < ·)
  | [] => by simp [setI]
  | n :: r => pw_insU (pw_setI (ns := r))
theorem rise_eq : ∀ {xs ys : List Int}, xs.Pairwise (· < ·) → ys.Pairwise (· < ·) → (∀ k, k ∈ xs ↔ k ∈ ys) → xs = ys
  | [], [], _, _, _ => rfl
  | [], y :: ys, _, _, h => by simpa using (h y)
  | x :: xs, [], _, _, h => by simpa using (h x)
  | x :: xs, y :: ys, hx, hy, h => by
    rw [List.pairwise_cons] at hx hy
    have e : x = y := by
      have h1 := (h x).mp List.mem_cons_self
      have h2 := (h y).mpr List.mem_cons_self
      rcases List.mem_cons.mp h1 with e | h1
      · exact e
      · rcases List.mem_cons.mp h2 with e | h2
        · exact e.symm
        · have := hx.1 y h2; have := hy.1 x h1; omega
    subst e
    congr 1
    refine rise_eq hx.2 hy.2 fun k => ?_
    have hk := h k
    simp only [List.mem_cons] at hk
    constructor
    · intro q
      rcases hk.mp (.inr q) with e | q2
      · have := hx.1 k q; omega
      · exact q2
    · intro q
      rcases hk.mpr (.inr q) with e | q2
      · have := hy.1 k q; omega
      · exact q2
section
variable {X : Cx} {T : List (Addr × Str)} {C : Ct} {e : Expr} {p : PP}
/-- set(xs) -/
def rSetI (K : PySem.W.Frag) (w : World) : List V → Hp → VK → Prop := fun xs H Q => ∃ (l : Addr) (ns : List Int), xs = [V.ref l] ∧ (SqL K H l (ns.map V.int) ∨ SqT K H l (ns.map V.int)) ∧ ns.length + 1 < PySem.scanBound ∧
  ∀ (q : Addr) (c : Nat), H q = none → c ≤ ns.length → Q (.ref q) (upd H q (SetO w q (fun j => decide (j ∈ ns)) c))
theorem cr_setI (hc : X.calm = true) : CallR X (.type "set") (rSetI X.K X.w) := by
  intro pins s σ H xs us Q I r h
  obtain ⟨l, ns, rfl, hq, hb, q⟩ := h
  rw [Vals.ref1 r]
  have fin : ∀ (h' : Heap) (tk c : Nat), SetR X.w h' s.heap.objs.size (fun j => decide (j ∈ ns)) c → c ≤ ns.length → (∀ b o, s.heap.get? b = some o → h'.get? b = some o) → EP X pins σ Q (.ref s.heap.objs.size) { s with heap := h', toks := tk } := fun h' tk c R hl k =>
    ⟨.ref s.heap.objs.size, upd H s.heap.objs.size (SetO X.w s.heap.objs.size (fun j => decide (j ∈ ns)) c), I.laid (t' := tk) k (Nat.le_refl _) (setO_new R), rfl, q _ c (I.hok.fresh (Nat.le_refl _)) hl⟩
  rcases hq with hq | hq
  · obtain ⟨its, rv, pl, hz⟩ := I.list hq
    exact call_set_listI ns (I.ok.hd hc) pl.isList (by simpa using Vals.ints rv) hb fin
  · obtain ⟨its, rv, pl, hz⟩ := I.tuple hq
    exact call_set_tupI ns (I.ok.hd hc) (show s.heap.IsTuple l its.toArray from pl) (by simpa using Vals.ints rv) hb fin
/-- sorted(set(xs)) -/
def pSortSet (p : PP) : PP := fun ρ R => p ρ fun x => match x with
  | .lst ys => ∃ ns, ints? ys = some ns ∧ ns.length < 64 ∧ R (.lst ((setI ns).map PV.int))
  | .tup ys => ∃ ns, ints? ys = some ns ∧ ns.length < 64 ∧ R (.lst ((setI ns).map PV.int))
  | _ => False
theorem up_sortSet : ∀ σ H Q, up X.K T C (pSortSet p) σ H Q → tCB (rSortedSet X.w) (tCons (tCB (rSetI X.K X.w) (tCons (up X.K T C p) tNil)) tNil) σ H Q := fun σ H Q ⟨W, ρ, R, g, w, k⟩ => by
  refine ⟨W, ρ, _, g, w, fun x H1 W1 px e1 o1 r1 h1 => ?_⟩
  have fin : ∀ (l : Addr) (ns : List Int), (SqL X.K H1 l (ns.map V.int) ∨ SqT X.K H1 l (ns.map V.int)) → ns.length < 64 → R (.lst ((setI ns).map PV.int)) → rSetI X.K X.w [.ref l] H1 fun x H1 => rSortedSet X.w [x] H1 Q := fun l ns hq hl hR => by
    refine ⟨l, ns, rfl, hq, Nat.lt_of_le_of_lt (show ns.length + 1 ≤ 64 by omega) (by decide), fun q c hn hc => ?_⟩
    refine ⟨q, _, c, rfl, upd_same, by omega, fun ms l2 hp hm _ hn2 => ?_⟩
    have em : ms = setI ns := rise_eq hp pw_setI fun k => by rw [hm k, mem_setI, decide_eq_true_iff]
    subst em
    have o2 := o1.new (o := SetO X.w q (fun j => decide (j ∈ ns)) c) hn (by intro ps z; unfold SetO at z; cases z)
    have e2 := Ext.new (o := SetO X.w q (fun j => decide (j ∈ ns)) c) o1 hn
    exact ((k.pre e1 o1).pre e2 o2).newL o2 (.ints _) hR l2 hn2
  split at h1
  · obtain ⟨ns, h2, h3, h4⟩ := h1
    cases r1 with
    | lst hq rl =>
      rw [ints_inv h2] at rl
      have e := rl.ints_inv
      subst e
      exact fin _ ns (.inl (.of (o1.sub _ _ hq))) h3 h4
  · obtain ⟨ns, h2, h3, h4⟩ := h1
    cases r1 with
    | tup hq rl =>
      rw [ints_inv h2] at rl
      have e := rl.ints_inv
      subst e
      exact fin _ ns (.inr (o1.tup hq)) h3 h4
  · exact h1.elim
theorem le_sortSet {p1 p2 p3 p4 : Pos} (hc : X.calm = true) (h1 : Gl X "sorted") (m1 : X.mg "sorted" = none) (h2 : Gl X "set") (m2 : X.mg "set" = none) (ha : PE X e (up X.K T C p))
    (s1 : starEach [.Call (.Name "set" p1) [e] [] p2] X.env = (false, eval (.Call (.Name "set" p1) [e] [] p2) X.env) :: starEach [] X.env := by rfl) (s2 : starEach [e] X.env = (false, eval e X.env) :: starEach [] X.env := by rfl) :
    PE X (.Call (.Name "sorted" p3) [.Call (.Name "set" p1) [e] [] p2] [] p4) (up X.K T C (pSortSet p)) :=
  PE.weak (pe_callB (cr_sortedSet hc) h1 m1 (by decide +kernel) (pa_cons (pe_callTy (cr_setI hc) h2 m2 (by decide +kernel) (pa_cons ha pa_nil s2) (by decide) (by decide) s2 (by rfl)) pa_nil s1) (by decide) (by decide) s1 (by rfl)) up_sortSet
end
end Pu

/-! The pure layer, part H: small rules: {}, t[::-1], repr, tuple(range(..)), keywords, never. -/
namespace Pu
open PySem L2 PySem.Spec PyProof.Rows
namespace Rv
theorem adjust_rev (n : Nat) : Builtin.Slice.sliceAdjust none none (-1) (n : Int) = ((n : Int) - 1, -1) := rfl
theorem places_rev (n : Nat) : Builtin.Slice.slicePlaces ((n : Int) - 1) (-1) (-1) = n := by
  unfold Builtin.Slice.slicePlaces
  have h1 : ¬ ((-1 : Int) > 0) := by decide
  simp only [h1, if_false]
  rw [show (-(-1) : Int) = 1 by decide, Int.ediv_one]
  split <;> omega
theorem pick_rev (xs : Array Value) : ((List.range xs.size).filterMap fun (m : Nat) => xs[(((xs.size : Int) - 1) + (m : Int) * (-1)).toNat]?) = xs.toList.reverse := by
  have e : ((List.range xs.size).filterMap fun (m : Nat) => xs[(((xs.size : Int) - 1) + (m : Int) * (-1)).toNat]?) = ((List.range xs.size).map fun k => xs.size - 1 - k).filterMap (xs[·]?) := by
    rw [List.filterMap_map]
    have aux : ∀ (l : List Nat), (∀ m ∈ l, m < xs.size) → (l.filterMap fun (m : Nat) => xs[(((xs.size : Int) - 1) + (m : Int) * (-1)).toNat]?) = l.filterMap ((xs[·]?) ∘ fun k => xs.size - 1 - k) := by
      intro l
      induction l with
      | nil => intro _; rfl
      | cons m r ih =>
        intro hl
        have h0 := hl m List.mem_cons_self
        rw [List.filterMap_cons, List.filterMap_cons, ih fun k hk => hl k (List.mem_cons_of_mem _ hk)]
        have e2 : (((xs.size : Int) - 1) + (m : Int) * (-1)).toNat = xs.size - 1 - m := by omega
        rw [e2]
        rfl
    exact aux _ fun m hm => List.mem_range.mp hm
  rw [e, PySem.W.krv_range, List.filterMap_reverse, PySem.W.krv_all]
section
variable {prog : Program} {w : World} {A : Around} {E : Value → Shared → Prop} {s : Shared}
theorem sliceApplied_rev {sl : Addr} {vl vu vs : Value} {n : Nat} {Q : Int × Int × Nat → Shared → Prop} (hs : s.heap.IsSliceOf sl vl vu vs) (pl : IsPart vl none) (pu : IsPart vu none) (ps : IsPart vs (some (-1)))
    (h : Q ((n : Int) - 1, -1, n) s) : wpAny (model prog w) A (Builtin.Slice.sliceApplied (.ref sl) (pure (n : Int))) Q E s := by
  obtain ⟨os, hos, hcs, hds⟩ := id hs
  unfold Builtin.Slice.sliceApplied Builtin.Slice.sliceFields
  refine wpAny_bind (wpAny_bind (wpAny_field hos hds (x := vl) rfl (wpAny_bind (wpAny_field hos hds (x := vu) rfl (wpAny_bind (wpAny_field hos hds (x := vs) rfl (wpAny_pure ?_)))))))
  refine wpAny_bind (HT.slicePart_ ps ?_)
  show wpAny _ _ (if ((-1 : Int) == 0) = true then _ else _) _ _ s
  rw [if_neg (by decide)]
  refine wpAny_bind (HT.slicePart_ pl (wpAny_bind (HT.slicePart_ pu (wpAny_bind (wpAny_pure ?_)))))
  show wpAny _ _ (match Builtin.Slice.sliceAdjust none none (-1) (n : Int) with | (lo, hi) => pure (lo, (-1 : Int), Builtin.Slice.slicePlaces lo hi (-1))) _ _ s
  rw [adjust_rev n]
  show wpAny _ _ (pure ((n : Int) - 1, (-1 : Int), Builtin.Slice.slicePlaces ((n : Int) - 1) (-1) (-1))) _ _ s
  rw [places_rev]
  exact wpAny_pure h
theorem getItem_tuple_rev {t sl : Addr} {items : Array Value} {vl vu vs : Value} {Q : Value → Shared → Prop} (ht : IsTup s.heap t items) (hs : s.heap.IsSliceOf sl vl vu vs) (pl : IsPart vl none) (pu : IsPart vu none) (ps : IsPart vs (some (-1)))
    (h : Q (.ref s.heap.objs.size) { s with heap := s.heap.push { cls := .type "tuple", data := .seq items.toList.reverse.toArray } })
    (hsz : items.size ≤ sizeLine) : wpAny (model prog w) A (getItem (.ref t) (.ref sl)) Q E s := by
  have htake : sizeOk (.seq items.toList.reverse.toArray) := by
    show items.toList.reverse.toArray.size ≤ sizeLine
    rw [List.size_toArray, List.length_reverse, Array.length_toList]
    omega
  obtain ⟨os, hos, hcs, hds⟩ := id hs
  have hTs : s.TypeIs (.ref sl) "slice" := ⟨os, hos, hcs⟩
  unfold getItem
  try with_reducible refine wpAny_holding ?_
  first | refine wpAny_bind (wpAny_pure ?_) | skip
  refine wpAny_bind (wpAny_sequenceKey ht.typeIs (by decide) ?_)
  refine wpAny_bind (wpAny_callSpecial?_slot (name := Str.ofString "__getitem__") ht.typeIs PyProof.Rows.slot_tuple_getitem
    (wpAny_call_entry PyProof.Rows.slot_tuple_getitem ht.typeIs entry_tuple_getitem ?_ (args_tuple_getitem _ _)))
  show wpAny _ _ (Builtin.Tuple.tupleItemsOf (.ref t) >>= _) _ _ s
  refine wpAny_bind (tupleItemsOf_ ht ?_)
  refine wpAny_bind (wpAny_typeOf hTs ?_)
  rw [if_pos (by decide)]
  refine wpAny_bind (sliceApplied_rev hs pl pu ps ?_)
  have hno : ¬ ((((items.size : Int) - 1) == 0 && (-1 : Int) == 1 && items.size == items.size) = true) := by
    intro q
    rw [Bool.and_eq_true, Bool.and_eq_true] at q
    have q1 : (-1 : Int) = 1 := eq_of_beq q.1.2
    omega
  show wpAny _ _ (if ((((items.size : Int) - 1) == 0 && (-1 : Int) == 1 && items.size == items.size) = true) then _ else _) _ _ s
  rw [if_neg hno, pick_rev]
  first
    | exact wpAny_bind (m := Builtin.Tuple.tupleExact _) (wpAny_newObj_type (wpAny_pure ⟨_, rfl, wpAny_pure h⟩) htake)
    | exact wpAny_bind (m := Builtin.Tuple.tupleExact _) (wpAny_newObj_type (wpAny_bind (wpAny_pure (wpAny_pure ⟨_, rfl, wpAny_pure h⟩))) htake)
    | exact wpAny_bind (wpAny_bind (m := Builtin.Tuple.tupleExact _) (wpAny_newObj_type (wpAny_pure (wpAny_pure ⟨_, rfl, wpAny_pure h⟩)) htake))
    | exact wpAny_bind (wpAny_bind (m := Builtin.Tuple.tupleExact _) (wpAny_newObj_type (wpAny_pure ⟨_, rfl, wpAny_pure h⟩) htake))
end
def tRevA (K : PySem.W.Frag) (te : TE) : TE := fun σ H Q => te σ H fun x H1 => ∃ a xs, x = .ref a ∧ SqT K H1 a xs ∧ ∀ p, H1 p = none → Q (.ref p) (upd H1 p (.tup xs.reverse))
theorem pe_revA {X : Cx} {e : Expr} {te : TE} {k : Nat} {p1 p2 p3 pos : Pos} (he : PE X e te) : PE X (.Subscript e (.Slice none none (some (.UnaryOp .USub (.Constant (.int 1) k p1) p2)) p3) pos) (tRevA X.K te) := by
  refine ⟨fun pins s σ H Q I h => ?_⟩
  refine Subscript_ (thn (he.run pins s σ H _ I h) fun v s1 ⟨x, H1, I1, r1, q1⟩ => ?_)
  obtain ⟨a, xs, ex, hx, q⟩ := q1
  subst ex
  cases r1
  have hst : PO X (some (.UnaryOp .USub (.Constant (.int 1) k p1) p2)) (tPart (tUn (rU fun i => .int (-i)) (tC (.int 1)))) := po_some (pe_un un_neg pe_int)
  refine wpAny_Slice (thn (po_none.run pins s1 σ H1 (fun o H2 => o = none ∧ H2 = H1) I1 ⟨rfl, rfl⟩) fun vl s2 ⟨l, H2, I2, pl, el, e2⟩ => ?_)
  subst el e2
  refine thn (po_none.run pins s2 σ H2 (fun o H3 => o = none ∧ H3 = H2) I2 ⟨rfl, rfl⟩) fun vu s3 ⟨u, H3, I3, pu, eu, e3⟩ => ?_
  subst eu e3
  refine thn (hst.run pins s3 σ H3 (fun o H4 => o = some (-1) ∧ H4 = H3) I3 ⟨1, rfl, -1, rfl, rfl, rfl⟩) fun vs s4 ⟨o, H4, I4, ps, eo, e4⟩ => ?_
  subst eo e4
  have I5 : Inv X pins σ H4 { s4 with heap := s4.heap.push { cls := .type "slice", data := .fields #[vl, vu, vs] } } := I4.kept (t' := s4.toks) fun b ob q => Heap.get?_push_of_some _ q
  obtain ⟨its, r, ht, hz⟩ := I5.tuple hx
  show wpAny (model X.prog X.w) X.A (subscriptTail e (.Slice none none (some (.UnaryOp .USub (.Constant (.int 1) k p1) p2)) p3) (.ref a) (.ref s4.heap.objs.size)) (EP X pins σ Q) X.xe { s4 with heap := s4.heap.push { cls := .type "slice", data := .fields #[vl, vu, vs] } }
  refine tail_any (ops := [.ref a, .ref s4.heap.objs.size]) (IsTup.typeIs (show IsTup _ a its.toArray from ht)) (PyProof.Rows.slot_tuple_getitem.lookup) ?_ (by with_unfolding_all rfl)
  refine getItem_tuple_rev (show IsTup _ a its.toArray from ht) (Heap.IsSliceOf.new _ vl vu vs) pl pu ps ?_ (by rw [List.size_toArray, ← r.length]; exact hz)
  refine ⟨.ref _, _, I5.laid (t' := s4.toks) (o := .tup xs.reverse) (fun b ob q => Heap.get?_push_of_some _ q) (Nat.le_refl _) ?_, rfl, q _ (I5.hok.fresh (Nat.le_refl _))⟩
  exact ⟨by rw [List.length_reverse]; exact hz, _, r.reverse, IsTup.new _ _⟩
end Rv
section
variable {X : Cx} {T : List (Addr × Str)} {C : Ct} {e a b c : Expr} {es : List Expr} {st : Stmt} {sts rest : List Stmt} {pos : Pos} {p q r : PP} {n : Nat} {t : PPT} {pa : PPA} {s u : PS'}
/-- a list's or a tuple's order turned -/
def pRevT (p : PP) : PP := fun ρ R => p ρ fun x => match x with
  | .tup xs => R (.tup xs.reverse)
  | _ => False
theorem le_revT {k : Nat} {p1 p2 p3 : Pos} (h : PE X e (up X.K T C p)) : PE X (.Subscript e (.Slice none none (some (.UnaryOp .USub (.Constant (.int 1) k p1) p2)) p3) pos) (up X.K T C (pRevT p)) :=
  PE.weak (Rv.pe_revA h) fun σ H Q ⟨W, ρ, R, g, w, k⟩ => ⟨W, ρ, _, g, w, fun x H1 W1 px e1 o1 r1 h1 => by
    cases px <;> first | exact h1.elim | skip
    cases r1 with
    | tup hq rl => exact ⟨_, _, rfl, o1.tup hq, (k.pre e1 o1).newT o1 rl.reverse h1⟩⟩
def pRevL (p : PP) : PP := fun ρ R => p ρ fun x => match x with
  | .lst xs => R (.lst xs.reverse)
  | _ => False
theorem le_revL {k : Nat} {p1 p2 p3 : Pos} (h : PE X e (up X.K T C p)) : PE X (.Subscript e (.Slice none none (some (.UnaryOp .USub (.Constant (.int 1) k p1) p2)) p3) pos) (up X.K T C (pRevL p)) :=
  PE.weak (pe_revL h) fun σ H Q ⟨W, ρ, R, g, w, k⟩ => ⟨W, ρ, _, g, w, fun x H1 W1 px e1 o1 r1 h1 => by
    cases px <;> first | exact h1.elim | skip
    cases r1 with
    | lst hq rl => exact ⟨_, _, rfl, .of (o1.sub _ _ hq), (k.pre e1 o1).newL o1 rl.reverse h1⟩⟩
/-- {} -/
theorem Aft.newD {K : PySem.W.Frag} {W : Wd} {H : Hp} {R : PK} {Q : VK} (k : Aft K T W H R Q) (o : OkW T W H) {xs : List (Key × PV)} {vs : List (Key × V)} (r : RepK K W xs vs) (h : R (.dic xs)) : ∀ a, H a = none → Q (.ref a) (upd H a (.dK vs)) := fun a ha =>
  k _ _ (W.add a (.dK vs)) _ (.new o ha) (o.new ha (by intro ps z; cases z)) (.dic Wd.add_same (r.le (Ext.new o ha).le)) h
theorem le_dic0 : PE X (.Dict [] [] pos) (up X.K T C (pC (.dic []))) := PE.weak pe_dnewK fun σ H Q ⟨W, ρ, R, g, w, k⟩ => k.newD g.ok .nil w
/-- repr of a bool, of None -/
theorem call_reprP : CallR X (.builtin "repr") (fun xs H Q => (∃ b, xs = [.bl b] ∧ Q (.str (if b then "True" else "False")) H) ∨ (xs = [.non] ∧ Q (.str "None") H)) := by
  intro pins s σ H xs us Q I r h
  rcases h with ⟨b, rfl, q⟩ | ⟨rfl, q⟩
  · obtain ⟨u, rfl, rfl⟩ := vals1 r
    exact P.repr_of_bool ⟨.str (if b then "True" else "False"), H, I.tok _, ⟨_, rfl⟩, q⟩
  · obtain ⟨u, rfl, rfl⟩ := vals1 r
    exact P.repr_of_none ⟨.str "None", H, I.tok _, ⟨_, rfl⟩, q⟩
def gRepr : PFC := fun xs R => match xs with
  | [.bl b] => R (.str (if b then "True" else "False"))
  | [.non] => R (.str "None")
  | _ => False
theorem rc_repr {K : PySem.W.Frag} : RC K T (fun xs H Q => (∃ b, xs = [V.bl b] ∧ Q (.str (if b then "True" else "False")) H) ∨ (xs = [.non] ∧ Q (.str "None") H)) gRepr := by
  intro W H xs pxs R Q o rx h k
  unfold gRepr at h
  split at h
  · cases rx with
    | cons r1 r2 =>
      cases r2
      cases r1
      exact .inl ⟨_, rfl, k.now o (.str _) h⟩
  · cases rx with
    | cons r1 r2 =>
      cases r2
      cases r1
      exact .inr ⟨rfl, k.now o (.str _) h⟩
  · exact h.elim
/-- tuple(range(j)), list(range(j)) -/
theorem reps_rg {K : PySem.W.Frag} {W : Wd} (i j : Int) : RepL K W (rangeP i j) (rgV i j) := by
  have aux : ∀ (l : List Nat), RepL K W (l.map fun k : Nat => PV.int (i + k)) (l.map fun k : Nat => V.int (i + k)) := by
    intro l
    induction l with
    | nil => exact .nil
    | cons k r ih => exact .cons (.int _) ih
  exact aux _
def pTupRg (p : PP) : PP := fun ρ R => p ρ fun x => match x with
  | .int j => (0 ≤ j ∧ j ≤ 16777216) ∧ R (.tup (rangeP 0 j))
  | _ => False
def pListRg (p : PP) : PP := fun ρ R => p ρ fun x => match x with
  | .int j => (0 ≤ j ∧ j ≤ 16777216) ∧ R (.lst (rangeP 0 j))
  | _ => False
theorem le_tupRg {p1 p2 p3 : Pos} (hc : X.calm = true) (hg : Gl X "tuple") (hm : X.mg "tuple" = none) (hg2 : Gl X "range") (hm2 : X.mg "range" = none) (h : PE X e (up X.K T C p)) (na2 : starEach [e] X.env = (false, eval e X.env) :: starEach [] X.env := by rfl)
    (na : starEach [.Call (.Name "range" p1) [e] [] p2] X.env = (false, eval (.Call (.Name "range" p1) [e] [] p2) X.env) :: starEach [] X.env := by rfl) :
    PE X (.Call (.Name "tuple" p3) [.Call (.Name "range" p1) [e] [] p2] [] pos) (up X.K T C (pTupRg p)) :=
  PE.weak (pe_tupRg hc hg hm (prg_1 hg2 hm2 h na2) na) fun σ H Q ⟨W, ρ, R, g, w, k⟩ => ⟨W, ρ, _, g, w, fun x H1 W1 px e1 o1 r1 h1 => by
    cases px <;> first | exact h1.elim | skip
    cases r1
    obtain ⟨⟨b1, b2⟩, h1⟩ := h1
    exact ⟨_, rfl, RgOk.of_le (by omega) b2 (by omega) b1, (k.pre e1 o1).newT o1 (reps_rg 0 _) h1⟩⟩
theorem le_listRg {p1 p2 p3 : Pos} (hc : X.calm = true) (hg : Gl X "list") (hm : X.mg "list" = none) (hg2 : Gl X "range") (hm2 : X.mg "range" = none) (h : PE X e (up X.K T C p)) (na2 : starEach [e] X.env = (false, eval e X.env) :: starEach [] X.env := by rfl)
    (na : starEach [.Call (.Name "range" p1) [e] [] p2] X.env = (false, eval (.Call (.Name "range" p1) [e] [] p2) X.env) :: starEach [] X.env := by rfl) :
    PE X (.Call (.Name "list" p3) [.Call (.Name "range" p1) [e] [] p2] [] pos) (up X.K T C (pListRg p)) :=
  PE.weak (pe_listRg hc hg hm (prg_1 hg2 hm2 h na2) na) fun σ H Q ⟨W, ρ, R, g, w, k⟩ => ⟨W, ρ, _, g, w, fun x H1 W1 px e1 o1 r1 h1 => by
    cases px <;> first | exact h1.elim | skip
    cases r1
    obtain ⟨⟨b1, b2⟩, h1⟩ := h1
    exact ⟨_, rfl, RgOk.of_le (by omega) b2 (by omega) b1, (k.pre e1 o1).newL o1 (reps_rg 0 _) h1⟩⟩

/-! ### own defs called by keywords alone -/
theorem lk_nil : L2.PK X [] (upA X.K T C 0 aNil) := ⟨fun pos pins s σ H Q I ⟨W, ρ, R, g, w, k⟩ => pk_nil.run pos pins s σ H Q I (k [] H W [] (.refl W H) g.ok .nil rfl w)⟩
theorem lk_cons {nm : Option Str} {kpos : Pos} {kws : List Keyword} (ha : PE X e (up X.K T C p)) (hr : L2.PK X kws (upA X.K T C n pa)) : L2.PK X (⟨nm, e, kpos⟩ :: kws) (upA X.K T C (n + 1) (aCons p pa)) :=
  ⟨fun pos pins s σ H Q I ⟨W, ρ, R, g, w, k⟩ => (pk_cons ha hr).run pos pins s σ H Q I ⟨W, ρ, _, g, w, fun x H1 W1 px e1 o1 r1 h1 => ⟨W1, ρ, _, g.to e1 o1, h1, fun vs H2 W2 xs e2 o2 r2 hn h2 =>
    k _ H2 W2 (px :: xs) (e1.trans e2 o1) o2 (.cons (r1.le e2.le) r2) (congrArg Nat.succ hn) h2⟩⟩⟩
/-- the values in another order -/
def perm {α : Type} (ix : List Nat) (l : List α) : List α := ix.filterMap (l[·]?)
theorem RepL.perm {K : PySem.W.Frag} {W : Wd} {xs : List PV} {vs : List V} (r : RepL K W xs vs) : ∀ ix : List Nat, RepL K W (Pu.perm ix xs) (Pu.perm ix vs)
  | [] => .nil
  | i :: ix => by
    unfold Pu.perm
    rw [List.filterMap_cons, List.filterMap_cons]
    cases h : xs[i]? with
    | none =>
      have h2 : vs[i]? = none := by
        rw [List.getElem?_eq_none_iff] at h ⊢
        rw [r.length]
        exact h
      rw [h2]
      exact RepL.perm r ix
    | some y =>
      obtain ⟨u, h1, h2⟩ := r.get h
      rw [h1]
      exact .cons h2 (RepL.perm r ix)
theorem vals_get : ∀ {vs : List V} {us : List Value} {i : Nat} {v : V}, Vals vs us → vs[i]? = some v → ∃ u, us[i]? = some u ∧ RelV v u
  | _, _, _, _, .nil, h => by simp at h
  | _, _, 0, _, .cons r _, h => by
    simp at h
    subst h
    exact ⟨_, rfl, r⟩
  | _, _, i + 1, _, .cons _ r, h => by
    obtain ⟨u, h1, h2⟩ := vals_get (i := i) r (by simpa using h)
    exact ⟨u, by simpa using h1, h2⟩
theorem vals_perm {vs : List V} {us : List Value} (r : Vals vs us) : ∀ ix : List Nat, Vals (perm ix vs) (perm ix us)
  | [] => .nil
  | i :: ix => by
    unfold perm
    rw [List.filterMap_cons, List.filterMap_cons]
    cases h : vs[i]? with
    | none =>
      have h2 : us[i]? = none := by
        rw [List.getElem?_eq_none_iff] at h ⊢
        rw [← r.length]
        exact h
      rw [h2]
      exact vals_perm r ix
    | some y =>
      obtain ⟨u, h1, h2⟩ := vals_get r h
      rw [h1]
      exact .cons h2 (vals_perm r ix)
/-- how keywords bind -/
def KwB (K : PySem.W.Frag) (fd : FuncData) (ps ks : List Str) (ix : List Nat) : Prop := ∀ (s : Shared) (ws : List Value), K.In s.heap → ws.length = ks.length → BindsTo s fd ⟨[], ks.zip ws⟩ (ps.zip (perm ix ws))
def pCallK (φ : PSpec) (Ep : PX → Prop) (ix : List Nat) (pa : PPA) : PP := fun ρ R => pa ρ fun xs => φ (perm ix xs) R Ep
theorem le_callK {CX : CXT} {k : Nat} {f : Addr} {fd : FuncData} {ps ks : List Str} {φ : PSpec} {x : Str} {pp : Pos} {kws : List Keyword} {ix : List Nat} (F : FnOk X.prog X.w X.K X.mg X.base CX k f fd ps (pSp X.K T ps.length φ)) (hr : Room k X.A) (hg : Gl X x) (hm : X.mg x = some (.ref f)) (hk : PySem.W.keepIn X.K (.ref f) = true)
    (hb : KwB X.K fd ps ks ix) (hp : Passes CX X C.E) (ha : L2.PK X kws (upA X.K T C ks.length pa)) (hix : ∀ xs : List PV, xs.length = ks.length → (perm ix xs).length = ps.length) (hdb : (x == ("__debug__" : Str)) = false := by decide)
    (hall : (backToKw pos (keywordEach kws X.env)).all (·.1.isSome) = true := by rfl) (hks : (backToKw pos (keywordEach kws X.env)).filterMap (·.1) = ks := by rfl)
    (hpl : ((backTo pos (starEach [] X.env)).any (·.1) || (backToKw pos (keywordEach kws X.env)).any (·.1.isNone)) = false := by rfl) :
    PE X (.Call (.Name x pp) [] kws pos) (up X.K T C (pCallK φ C.Ep ix pa)) := by
  refine ⟨fun pins s σ H Q I ⟨W, ρ, R, g, w, kk⟩ => ?_⟩
  refine wpAny_Call_Name_kw (ld_glob I hg hm ?_ hdb)
  refine PySem.W.callWith_KW0 (h₀ := X.base) I.ok.mod.kin hk hall ?_ hpl
  refine thn (ha.run pos pins s σ H (fun zs H2 => zs.length = ks.length ∧ pSp X.K T ps.length φ (perm ix zs) H2 Q C.E) I ⟨W, ρ, _, g, w, fun vs H1 W1 xs e1 o1 r1 hl h1 => ?_⟩) fun ws s2 ⟨zs, H2, I2, rz, l2, q2⟩ => ⟨I2.kIn, ?_⟩
  · exact ⟨by rw [r1.length, hl], W1, perm ix xs, R, C.Ep, o1, r1.perm ix, hix xs hl, h1, kk.pre e1 o1, fun cls d H2 W2 x e2 o2 r2 h2 => g.exc cls d H2 W2 x (g.ext.trans (e1.trans e2 o1) g.ok) o2 r2 h2⟩
  · rw [hks]
    refine wpAny_call (codeAny_mono (F.run X.A X.stack s2 H2 ⟨[], ks.zip ws⟩ (perm ix ws) (perm ix zs) Q C.E hr I2.env0 (hb s2 ws I2.kIn (by rw [← rz.length, l2])) (vals_perm rz ix) q2) fun r s' hq => ?_)
    cases r with
    | error e => exact hp pins σ H2 s2 e s' I2 hq
    | ok fl =>
      cases fl with
      | ret u => exact I2.after hq
      | next => exact False.elim hq
      | brk => exact False.elim hq
      | cont => exact False.elim hq
theorem le_callKF {Γ : String → Addr} {x : String} {st : Stmt} {ps ks : List Str} {k : Nat} {φ : PSpec} {pp : Pos} {kws : List Keyword} {ix : List Nat} (F : OkF X.prog X.w X.K X.mg X.base T Γ x ps k φ) (D : DefF X.K X.mg Γ x st ps) (hr : Room k X.A) (hg : Gl X (Str.ofString x)) (hp : Passes (L2.CX X.prog X.w) X C.E)
    (hb : ∀ (kV doc pm : Value) (an : Option Addr) (cdv ct : Value) (us : List Value), us.length = ks.length → bindArgs (PySem.W.fnOf (Str.ofString x) (Str.ofString x) (defArgs st) (defBody st) (defScope st) .none kV doc pm an cdv ct) ⟨[], ks.zip us⟩ = pure (ps.zip (perm ix us)))
    (ha : L2.PK X kws (upA X.K T C ks.length pa)) (hix : ∀ xs : List PV, xs.length = ks.length → (perm ix xs).length = ps.length) (hdb : (Str.ofString x == ("__debug__" : Str)) = false := by decide)
    (hall : (backToKw pos (keywordEach kws X.env)).all (·.1.isSome) = true := by rfl) (hks : (backToKw pos (keywordEach kws X.env)).filterMap (·.1) = ks := by rfl)
    (hpl : ((backTo pos (starEach [] X.env)).any (·.1) || (backToKw pos (keywordEach kws X.env)).any (·.1.isNone)) = false := by rfl) :
    PE X (.Call (.Name (Str.ofString x) pp) [] kws pos) (up X.K T C (pCallK φ C.Ep ix pa)) := by
  obtain ⟨fd, F1, b, m, kp, oc, od, osl, lk⟩ := F
  refine le_callK F1 hr hg m kp (fun s ws KI hl => ?_) hp ha hix hdb hall hks hpl
  obtain ⟨fd2, D1, _, _⟩ := D
  obtain ⟨oc2, od2, kV, doc, pm, an, cdv, ct, osl2, rfl, lk2, _⟩ := D1.ex
  rw [lk] at lk2
  cases lk2
  exact .of_eq (hb kV doc pm an cdv ct ws hl)

/-! ### what is never reached -/
def pNever : PP := fun _ _ => False
theorem le_never : PE X e (up X.K T C pNever) := ⟨fun _ _ _ _ _ _ ⟨_, _, _, _, w, _⟩ => w.elim⟩
end
end Pu

/-! The pure layer, part L: a lambda handed to the def that catches; caught errors as values. -/
namespace Pu
open PySem L2 LamX PySem.Spec PyProof.Rows
/-! ### what is there is known from now on -/
theorem adopt {X : Cx} {pins : List (Addr × Obj)} {σ : L2.St} {H : Hp} {s : Shared} {a : Addr} {o : HO} (I : Inv X pins σ H s) (h0 : X.s_0.heap.get? a = none) (ha : H a = none) (nL : a ≠ X.env.locals) (nC : ∀ x c, X.env.cells.lookup x = some c → c ≠ a)
    (nP : ∀ p ∈ X.pn ++ pins, p.1 ≠ a) (new : ObjOk X.prog X.w (upd H a o) s.heap a o) : Inv X pins σ (upd H a o) s := by
  have ne : ∀ b u, H b = some u → b ≠ a := fun b u e => ne_of_none e ha
  refine ⟨I.ok, I.os, I.bare, ⟨I.base.keep, I.base.slot, fun b u e n hx => ?_, I.base.there, fun b xs e => ?_, fun b u xs e => ?_, fun b ps e => ?_⟩, I.loc, I.cell, ?_, fun x c e => ?_, fun p hp => ?_, fun b u e => ?_, I.len⟩
  · rw [upd_ne (fun z => by rw [z, h0] at e; cases e)]
    exact I.base.free b u e n hx
  · have z := I.base.tups b xs e
    rw [upd_ne (ne _ _ z)]
    exact z
  · have z := I.base.frzs b u xs e
    rw [upd_ne (ne _ _ z)]
    exact z
  · obtain ⟨m, z⟩ := I.base.tbls b ps e
    exact ⟨m, by rw [upd_ne (ne _ _ z)]; exact z⟩
  · rw [upd_ne (fun z => nL z.symm)]
    exact I.free
  · rw [upd_ne (nC x c e)]
    exact I.freeC x c e
  · obtain ⟨q1, q2, q3⟩ := I.pin p hp
    exact ⟨q1, by rw [upd_ne (nP p hp)]; exact q2, q3⟩
  · by_cases hb : b = a
    · subst hb
      rw [upd_same] at e
      cases e
      exact new
    · rw [upd_ne hb] at e
      exact (I.hok b u e).stay (fun c w hc q => q) (fun d q => by rw [upd_ne (ne _ _ q)]; exact q) fun d xs q => by rw [upd_ne (ne _ _ q)]; exact q
theorem exV_ok {P : Program} {w : World} {H : Hp} {h : Heap} {a : Addr} {oe : Obj} {cls : Value} {d : Option Addr} (he : h.get? a = some oe) (hz : Zc cls d oe) (hd : ∃ vs, oe.data = .fields vs) : ObjOk P w H h a (ExV cls d a) := by
  obtain ⟨vs, hv⟩ := hd
  refine ⟨⟨oe, vs, he, hz, hv⟩, ⟨oe, he⟩, fun h1 h2 ⟨oe', vs', e1, e2, e3⟩ st => ⟨oe', vs', st _ e1, e2, e3⟩⟩
/-- except x as n: m = n -/
def wKeep (K : PySem.W.Frag) (c : Value) (i j : Nat) (Wout : WX) (D : Ends) : WX := fun cls d σ H =>
  ∃ b, PySem.W.exmOne K cls c = some b ∧ (b = true → j < σ.length → ∀ a, H a = none → D.nx (((σ.set i (some (.ref a))).set j (some (.ref a))).set i none) (upd H a (ExV cls d a))) ∧ (b = false → Wout cls d σ H)
section
variable {X : Cx} {x n m : Str} {c : Value} {i j : Nat} {body : List Stmt} {np pos pos' q1 q2 q3 : Pos} {tb : WX → TS} {Wout : WX}
theorem ps_try_keep (hs : X.stack = X.env :: X.outer) (hf : X.env.frame = some X.env.locals) (hex : X.ex = []) (hN : X.N.Nodup) (hi : X.N[i]? = some n) (hln : X.env.kindOf n = some .local) (hj : X.N[j]? = some m) (hlm : X.env.scope.names.lookup m = some .local) (hvn : Vis X.env.scope n)
    (hd : (n == ("__debug__" : Str)) = false) (hcd : (n == ("__classdict__" : Str)) = false) (hil : i < X.N.length)
    (hc : Names X x c) (tk : Takes X Wout)
    (hsw : ∀ (a : Addr) (pn : List (Addr × Obj)), swapsWith (.Name n q2) (some (.Name m q1)) q3.line (X.suite a pn).env = pure false)
    (hb : ∀ (W : WX) (pn : List (Addr × Obj)) (xe : Value → Shared → Prop), Takes (X.tr pn xe) W → PassesOwn (model X.prog X.w) X.A X.env xe → PSs (X.tr pn xe) body (tb W)) :
    PS X (.Try body [.ExceptHandler (some (.Name x np)) (some n) [.Assign [.Name m q1] (.Name n q2) q3] pos'] [] [] pos) (fun D σ H => tb (wKeep X.K c i j Wout D) D σ H) := by
  refine ⟨fun pins s σ H D I h => ?_⟩
  have ok := I.ok
  have hfr : X.A.frames = some (X.env :: X.outer) := by rw [ok.frames, hs]
  have hloc : Loc X.env.scope n := .inl hln
  refine wpAny_Try_except ?_
  refine wpAny_mono ((hb (wKeep X.K c i j Wout D) (X.pn ++ pins) (fun e s₁ => wpAny (model X.prog X.w) X.A (noteFrame e X.env) (fun _ s₂ => wpAny (model X.prog X.w) X.A (setFlight e none) (fun _ s₃ =>
    wpAny (model X.prog X.w) X.A (handleBy e X.env [.ExceptHandler (some (.Name x np)) (some n) [.Assign [.Name m q1] (.Name n q2) q3] pos']) (SP X pins D) X.xe s₃) X.xe s₂) X.xe s₁) (fun u s' xx => ?_) PassesOwn.looking).run [] s σ H D (I.toTry _) h) (fun f s1 hsp => ?_) (fun e s1 he => he)
  · obtain ⟨a, B, sI, pins', σ', H', cls, d, rfl, J', nb, up, sky, na, os, ag, b, hb1, hyes, hno⟩ := xx
    have J : Inv X pins σ' H' sI := J'.ofTry ok
    have sky' : Sky B (X.env :: X.outer) a (Zc cls d) X.env.locals s'.heap := by rw [← hs]; exact sky
    show wpAny (model X.prog X.w) X.A (noteFrame (.ref a) X.env) _ _ _
    refine Sky.land Zc.steady hfr hf sky' fun h3 fl3 up3 => ?_
    have J3 : Inv X pins σ' H' { s' with heap := h3 } := J.landed nb fl3.1 (up.trans up3) os ag
    obtain ⟨oe3, vs3, he3, hz3, hd3⟩ := fl3.there
    have notFr : ∀ {h : Heap} {o : Obj} {vs : Array Value}, h.FunFrames B (X.env :: X.outer) → h.get? a = some o → o.data = .fields vs → a ∉ frs (X.env :: X.outer) := fun {h o vs} ff e dd hm => by
      obtain ⟨_, o', e', hnf⟩ := ff.mem hm
      rw [e] at e'; cases e'
      exact hnf _ dd
    have nfr := notFr fl3.2.2.1 he3 hd3
    have nB : B.get? a = none := fl3.2.1
    have nL : a ≠ X.env.locals := fun z => nfr (List.mem_filterMap.mpr ⟨X.env, List.mem_cons_self, by rw [hf, z]⟩)
    have nF : a ∉ X.fs := fun hm => by
      obtain ⟨e, he, q⟩ := List.mem_filterMap.mp hm
      exact nfr (List.mem_filterMap.mpr ⟨e, List.mem_cons_of_mem _ he, q⟩)
    have n0 : X.s_0.heap.get? a = none := by
      cases q : X.s_0.heap.get? a with
      | none => rfl
      | some o0 =>
        obtain ⟨o1, e1⟩ := J.base.there a o0 q (by rw [hex]; simp)
        have e2 := nb a o1 e1 (by rw [hs]; exact nfr)
        rw [nB] at e2
        cases e2
    have nP : ∀ p ∈ X.pn ++ pins, p.1 ≠ a := fun p hp z => by
      obtain ⟨e1, _, e3, e4, _⟩ := J.pin p hp
      have e2 := nb p.1 p.2 e1 (fun hm => by
        rw [hs] at hm
        obtain ⟨e, he, q⟩ := List.mem_filterMap.mp hm
        rcases List.mem_cons.mp he with z | z
        · rw [z, hf] at q
          exact e3 (Option.some.inj q).symm
        · exact e4 (List.mem_filterMap.mpr ⟨e, z, q⟩))
      rw [z, nB] at e2
      cases e2
    have S3 := J3.suite he3 hd3 na nL nF
    refine wpAny_handleBy_cons (codeAny_handlers_test ?_) (by intro q; cases q)
    have LT : PySem.W.Looks (model X.prog X.w) h3 (typeOf (.ref a)) cls := fun A Q E s k q => wpAny_typeOf_ref (k _ _ he3) (by rw [hz3.1]; exact q)
    have LM := PySem.W.exm_one (M := model X.prog X.w) (J3.kIn) LT hb1
    have test : ∀ {Q : Value → Shared → Prop} {E : Value → Shared → Prop}, Q c { s' with heap := h3 } → wpAny (model X.prog X.w) (X.A.mark (some (.ref a))) (eval (.Name x np) X.env) Q E { s' with heap := h3 } := fun {Q E} q => by
      obtain ⟨hg, hdbg, hm | ⟨hm, hv, hnn⟩⟩ := hc
      · exact ld_glob (X := X.suite a ((a, oe3) :: (X.pn ++ pins))) S3 hg hm q hdbg
      · exact ld_blt (X := X.suite a ((a, oe3) :: (X.pn ++ pins))) S3 hg hm hv q hnn hdbg
    refine test (LM.here ?_)
    cases b with
    | true =>
      refine codeAny_handlers_suite_as ?_
      refine HandSPX.lands_againZ fl3 fun h4 fl4 up4 => ?_
      have J4 : Inv X pins σ' H' { s' with heap := h4 } := J.landed nb fl4.1 ((up.trans up3).trans up4) os ag
      obtain ⟨oe4, vs4, he4, hz4, hd4⟩ := fl4.there
      have S4 := J4.suite he4 hd4 na nL nF
      have hil' : i < σ'.length := by rw [J.len]; exact hil
      have hsu : PSs (X.suite a ((a, oe4) :: (X.pn ++ pins))) [.Assign [.Name m q1] (.Name n q2) q3] (tAsg (tVar i) (gName j)) := pss_one (ps_set hN hj (.inl hlm) (pe_var hi hvn hd hcd) (hsw a _) (.inr hlm))
      refine store_ok (X := X.suite a ((a, oe4) :: (X.pn ++ pins))) (v := .ref a) S4 hN hi hloc rfl (fun s5 S5 => ?_) (.inr hln)
      refine wpAny_mono (hsu.run [] s5 _ H' { nx := fun σ6 H6 => σ6 = ((σ'.set i (some (.ref a))).set j (some (.ref a))) ∧ H6 = H', rt := fun _ _ => False, bk := fun _ _ => False, ct := fun _ _ => False } S5 ⟨.ref a, by rw [List.getElem?_set_self hil'], rfl, rfl⟩) (fun f s6 hsp => ?_) (fun _ _ z => False.elim z)
      cases f with
      | next =>
        obtain ⟨σ6, H6, S6, q6, q7⟩ := hsp
        rw [q7] at S6
        subst q6
        refine gone_ok (X := X.suite a ((a, oe4) :: (X.pn ++ pins))) S6 hN hi hln fun s7 S7 => ?_
        obtain ⟨g1, g2, g3, g4, g5⟩ := S7.pin (a, oe4) (List.mem_append.mpr (.inl List.mem_cons_self))
        have I7 : Inv X pins (((σ'.set i (some (.ref a))).set j (some (.ref a))).set i none) H' s7 := S7.unsuite ok
        refine ⟨_, _, adopt I7 n0 g2 g3 (fun y c' e z => ?_) nP (exV_ok g1 hz4 ⟨_, hd4⟩), hyes rfl (by rw [J.len]; exact (List.getElem?_eq_some_iff.mp hj).1) a na⟩
        obtain ⟨v, o', e1, e2⟩ := I7.cell y c' e
        rw [z] at e1
        have e3 := e1.symm.trans g1
        cases e3
        rw [hd4] at e2
        cases e2
      | brk =>
        obtain ⟨_, _, _, z⟩ := hsp
        exact z.elim
      | cont =>
        obtain ⟨_, _, _, z⟩ := hsp
        exact z.elim
      | ret u =>
        obtain ⟨_, _, _, _, _, z⟩ := hsp
        exact z.elim
    | false =>
      show wpAny _ X.A (handleBy (.ref a) X.env []) _ _ _
      refine wpAny_handleBy_nil ?_
      obtain ⟨k1, k2, k3, oe, vs, T, oT, ts', he, hz, hd, h1, hr⟩ := id fl3
      unfold PySem.passOn
      refine wpAny_bind (wpAny_field he hd h1 ?_)
      rw [if_neg (show ¬ ((Value.ref T == Value.none) = true) from by simp)]
      have fin : wpAny (model X.prog X.w) X.A (setFlight (.ref a) X.env.frame) (fun _ s4 => wpAny (model X.prog X.w) X.A (throw (.ref a) : Sem Flow) (SP X pins D) X.xe s4) X.xe { s' with heap := h3 } := by
        rw [hf]
        refine HandSPX.setFlight_upZ fl3 fun h4 hh4 up4 => wpAny_throw (tk _ _ ?_)
        exact ⟨a, B, sI, pins, σ', H', cls, d, rfl, J, nb, (up.trans up3).trans up4, .inr (.inr (by rw [hs]; exact hh4)), na, os, ag, hno rfl⟩
      first
        | exact wpAny_bind (wpAny_pure (wpAny_bind fin))
        | exact wpAny_bind fin
  · cases f with
    | next =>
      obtain ⟨σ', H', J', q⟩ := hsp
      exact wpAny_execs_nil ⟨σ', H', J'.ofTry ok, q⟩
    | brk =>
      obtain ⟨σ', H', J', q⟩ := hsp
      exact ⟨σ', H', J'.ofTry ok, q⟩
    | cont =>
      obtain ⟨σ', H', J', q⟩ := hsp
      exact ⟨σ', H', J'.ofTry ok, q⟩
    | ret u =>
      obtain ⟨v, σ', H', J', r, q⟩ := hsp
      exact ⟨v, σ', H', J'.ofTry ok, r, q⟩
end
/-- caught = None / try: work() / except CS as error: caught = error / return caught -/
def TCaught (K : PySem.W.Frag) (CS : Addr) : (XK → Hp → VK → Prop) → Hp → VK → Prop := fun tl H Q =>
  tl (fun cls d H' => ∃ b, PySem.W.exmOne K cls (.ref CS) = some b ∧ (b = true → ∀ a, H' a = none → Q (.ref a) (upd H' a (ExV cls d a))) ∧ (b = false → False)) H (fun _ H' => Q .non H')
theorem caught_gives {X : Cx} {a m n e q x : Str} {sg : Scope} {g CS : Addr} {cdg : Value} {j0 : Nat} {p1 p2 p3 p4 p5 p6 p7 p8 p9 q1 q2 q3 q4 q5 : Pos} (nd : [a, m, n].Nodup) (hge : sg.names.lookup e = some .globalImplicit) (hme : X.mg e = some (.ref CS)) (hde : (e == ("__debug__" : Str)) = false)
    (hm : sg.names.lookup m = some .local) (hn : sg.names.lookup n = some .local) (hdn : (n == ("__debug__" : Str)) = false) (hcn : (n == ("__classdict__" : Str)) = false) (hdm : (m == ("__debug__" : Str)) = false) (hcm : (m == ("__classdict__" : Str)) = false)
    (hsw0 : ∀ env : Env, swapsWith (.Constant .none j0 p4) (some (.Name m p3)) p5.line env = pure false) (hsw : ∀ env : Env, swapsWith (.Name n q2) (some (.Name m q1)) q3.line env = pure false) :
    GivesTo X [a, m, n] x sg g cdg [.Assign [.Name m p3] (.Constant .none j0 p4) p5, .Try [.Expr (.Call (.Name a p1) [] [] p2) p6] [.ExceptHandler (some (.Name e p7)) (some n) [.Assign [.Name m q1] (.Name n q2) q3] p8] [] [] p9, .Return (some (.Name m q4)) q5] a q (TCaught X.K CS) := by
  intro f c' s H Q tl act hc h
  have hgl : Gl (cxOf C8.CX0 X.prog X.w X.K X.mg X.base [a, m, n] x sg g cdg X.A X.stack s H C8.E0).nox e := hge
  refine ⟨_, pss_cons (ps_set (i := 1) nd rfl (.inl hm) pe_non (hsw0 _) (.inr hm)) (pss_cons (ps_try_keep (X := (cxOf C8.CX0 X.prog X.w X.K X.mg X.base [a, m, n] x sg g cdg X.A X.stack s H C8.E0).nox) (c := .ref CS) (i := 2) (j := 1)
      (tb := fun W D σ H => ∃ Ech : XK, (∀ cls d σ' H', Ech cls d H' → W cls d σ' H') ∧ σ[0]? = some (some (.ref f)) ∧ H c' = some (CodeO c' q) ∧ tl Ech H fun _ H1 => D.nx σ H1)
      rfl rfl rfl nd rfl hn rfl hm (.inl hn) hdn hcn (show 2 < [a, m, n].length from Nat.lt_succ_self 2) ⟨hgl, hde, .inl hme⟩ LamX.takes0 (fun a pn => hsw _) (fun W pn xe tk _ => ?_)) (pss_one (ps_ret (pe_var (i := 1) rfl (.inl hm) hdm hcm)))), ?_⟩
  · refine ⟨fun pins s' σ H' D I h' => ?_⟩
    obtain ⟨Ech, hW, h1, h2, h3⟩ := h'
    have hp := act W pn xe Ech p1 p2 tk hW
    have hq := pss_one (ps_expr (pos := p6) hp (hs := rfl))
    exact hq.run pins s' σ H' D I ⟨h1, h2, h3⟩
  · refine ⟨fun cls d H' => ∃ b, PySem.W.exmOne X.K cls (.ref CS) = some b ∧ (b = true → ∀ a, H' a = none → Q (.ref a) (upd H' a (ExV cls d a))) ∧ (b = false → False), fun cls d σ' H' hE => ?_, rfl, hc, ?_⟩
    · obtain ⟨b, e1, e2, e3⟩ := hE
      exact ⟨b, e1, fun hb hl a ha => ⟨.ref a, by rw [List.getElem?_set_ne (by decide), List.getElem?_set_self (by simpa using hl)], e2 hb a ha⟩, fun hb => e3 hb⟩
    · have e : (fun (_ : V) (H' : Hp) => Q .non H') = fun (_ : V) (H1 : Hp) => tRet (tVar 1) { nx := fun _ H' => Q .non H', rt := Q } (List.set (L2.start [a, m, n] [V.ref f]) 1 (some V.non)) H1 := by
        funext _ H1
        exact propext ⟨fun z => ⟨_, rfl, z⟩, fun ⟨v, e1, z⟩ => by cases e1; exact z⟩
      have h : tl _ H _ := h
      rw [e] at h
      exact h
end Pu

/-! The pure layer, part M: the call that catches, defs with code tables, isinstance of caught errors. -/
namespace Pu
open PySem L2 LamX PySem.Spec PyProof.Rows
def hideS : Option SV → Option SV
  | some (.val p) => some (.val p)
  | _ => none
def hide (ρ : PEnv) : PEnv := ρ.map hideS
theorem EnvR.hide {K : PySem.W.Frag} {B B' : Hp} {W : Wd} {H H' : Hp} {σ : L2.St} {ρ : PEnv} (g : EnvR K B W H σ ρ) : EnvR K B' W H' σ (Pu.hide ρ) := by
  have key : ∀ (i : Nat) (sv : SV), (Pu.hide ρ)[i]? = some (some sv) → ∃ p, sv = .val p ∧ ρ[i]? = some (some (.val p)) := fun i sv h => by
    unfold Pu.hide at h
    rw [List.getElem?_map] at h
    cases e : ρ[i]? with
    | none => rw [e] at h; cases h
    | some x =>
      rw [e] at h
      have h : hideS x = some sv := Option.some.inj h
      cases x with
      | none => cases h
      | some s => cases s <;> first | (cases h; done) | exact ⟨_, (Option.some.inj h).symm, rfl⟩
  refine ⟨by unfold Pu.hide; rw [List.length_map, g.len], fun i sv h => ?_, fun i j si sj v hij h1 h2 o1 o2 _ _ => ?_⟩
  · obtain ⟨p, rfl, e⟩ := key i sv h
    obtain ⟨v, h1, h2⟩ := g.at_ i _ e
    exact ⟨v, h1, h2⟩
  · obtain ⟨p, rfl, e⟩ := key i si h1
    cases o1
/-- the def x catches CS and its kin -/
def CatchF (K : PySem.W.Frag) (mg : Str → Option Value) (Γ : String → Addr) (x : String) (CS : Addr) : Prop :=
  ∃ (st : Stmt) (a : Str) (Ng : List Str), DefF K mg Γ x st [a] ∧ FnScope Ng [a] (defScope st) ∧ Ng[0]? = some a ∧ Vis (defScope st) a ∧ (a == ("__debug__" : Str)) = false ∧ (a == ("__classdict__" : Str)) = false ∧
    ∀ X : Cx, X.K = K → X.mg = mg → ∀ (cdv : Value) (q : Str), GivesTo X Ng (Str.ofString x) (defScope st) (Γ x) cdv (defBody st) a q (TCaught K CS)
def pCaught (kin : List Addr) (q : (PX → Prop) → PP) : PP := fun ρ R => q (fun x => x.C ∈ kin ∧ R (.exc x.C x.fs)) (hide ρ) fun _ => R .non
section
variable {X : Cx} {T : List (Addr × Str)} {C : Ct} {e a b c : Expr} {es : List Expr} {pos : Pos} {p r : PP} {n : Nat} {t : PPT} {pa : PPA}
theorem OkW.extN {W : Wd} {H H1 : Hp} (o : OkW T W H) (e : ExtN H H1) (t : Tabs T H1) : OkW T W H1 where
  sub := fun b u h => e b u (o.sub b u h) fun ps z => o.not b ps (by rw [← z]; exact h)
  not := o.not
  dS := o.dS
  dN := o.dN
  draw := fun b h => by
    obtain ⟨w, c, n, h1, h2⟩ := o.draw b h
    exact ⟨w, c, n, e b _ h1 (by intro ps z; cases z), h2⟩
  nLst := fun b h => by
    obtain ⟨ns, h0, h1⟩ := o.nLst b h
    exact ⟨ns, h0, e b _ h1 (by intro ps z; cases z)⟩
  tabs := t
theorem Ext.extN (W : Wd) {H H1 : Hp} (e : ExtN H H1) : Ext W H W H1 := ⟨.refl W, fun b o h _ hn => e b o h hn, fun _ _ h => .inl h, fun _ h => .inl h, fun _ h => .inl h⟩
theorem le_caught {Γ : String → Addr} {x : String} {CS c P : Addr} {kin : List Addr} {q : (PX → Prop) → PP} {k : Nat} {params : Arguments} {body : Expr} {scope : Scope} {pp lpos : Pos} (F : CatchF X.K X.mg Γ x CS) (hkin : ∀ D ∈ kin, PySem.W.exmOne X.K (.ref D) (.ref CS) = some true)
    (TB : TabB X.base X.mg c P) (hcode : X.env.code = .ref c) (hmT : (P, X.env.qual ++ "<lambda>") ∈ T) (hu : ∀ p ∈ T, p.1 = P → p.2 = X.env.qual ++ "<lambda>") (hr : Room (k + 2) X.A) (hg : Gl X (Str.ofString x)) (L : LamS X.env.scope scope)
    (hbody : ∀ (A : Around) (outer : List Env) (s : Shared) (H : Hp) (E : XK) (f c' : Addr) (C' : Ct), C'.E = E → Room k (A.deeper (lamEnv X scope s.heap.objs.size f c')) → PE (lamCx X A outer s H E scope f c') body (up X.K T C' (q C'.Ep)))
    (hdef : defaultsOf params X.env = ([], []) := by rfl)
    (hbind : ∀ (q : Str) (cl : List (Str × Addr)) (pm cv ctv : Value), bindArgs (PySem.W.kla_fn "<lambda>" q params body scope cl pm cv ctv) ⟨[], []⟩ = pure [] := by intros; rfl)
    (hdb : (Str.ofString x == ("__debug__" : Str)) = false := by decide) :
    PE X (.Call (.Name (Str.ofString x) pp) [.Lambda params body scope lpos] [] pos) (up X.K T C (pCaught kin q)) := by
  obtain ⟨st, a, Ng, ⟨fd, F1, b1, m1⟩, Sg, hNg, hva, hd, hcd, hG⟩ := F
  obtain ⟨oc, od, kV, doc, pm, an, cdv, ct, osl, rfl, lk, hcg⟩ := F1.ex
  refine PE.weak (pe_lamcall (T := T) (TT := TCaught X.K CS) (t := fun E σ H Q => ∃ C' : Ct, C'.E = E ∧ up X.K T C' (q C'.Ep) σ H Q) hg m1 F1.kp lk hcg b1 Sg hNg hva (hG X rfl rfl _ _) TB hcode hmT hu hr L hdef hbind (fun A outer s H E f c' hr2 => ?_) hdb hd hcd) fun σ H Q ⟨W, ρ, R, g, w, k⟩ => ?_
  · exact ⟨fun pins s' σ H' Q I ⟨C', e1, h⟩ => (hbody A outer s H E f c' C' e1 hr2).run pins s' σ H' Q I h⟩
  · refine ⟨g.ok.tabs, fun H1 eN T1 => ?_⟩
    have o1 := g.ok.extN eN T1
    have e1 : Ext W H W H1 := .extN W eN
    refine ⟨⟨W, H1, _, fun x => x.C ∈ kin ∧ R (.exc x.C x.fs)⟩, rfl, W, hide ρ, _, ⟨o1, g.env.hide, .refl W H1, fun cls d H' W' x e' o' rx hx => ?_⟩, w, fun v H2 W2 px e2 o2 r2 h2 => (k.pre e1 o1) .non H2 W2 .non e2 o2 .non h2⟩
    obtain ⟨rfl, hfs⟩ := rx
    refine ⟨true, hkin _ hx.1, fun _ a ha => ?_, fun z => by cases z⟩
    have e3 := Ext.new (o := ExV (.ref x.C) d a) o' ha
    have o3 := o'.new (o := ExV (.ref x.C) d a) ha (by intro ps z; unfold ExV at z; cases z)
    refine (k.pre e1 o1) (.ref a) _ _ (.exc x.C x.fs) (e'.trans e3 o') o3 ?_ hx.2
    rcases hfs with ⟨rfl, hfs⟩ | ⟨da, vs, rfl, h0, h1, h2⟩
    · rw [hfs]
      exact .exc Wd.add_same
    · exact .excD h0 Wd.add_same (e3.le.S _ _ h1) (h2.le e3.le)

/-! ### isinstance of a caught error -/
def rIsX (K : PySem.W.Frag) : List V → Hp → VK → Prop := fun xs H Q => (∃ (a D : Addr) (c : V) (cv : Value) (b : Bool), xs = [.ref a, c] ∧ H a = some (ExV (.ref D) none a) ∧ ExcC K D ∧ (∀ u, RelV c u → u = cv) ∧ PySem.W.kitOne K (.ref D) cv = some b ∧ Q (.bl b) H)
theorem call_isX : CallR X (.builtin "isinstance") (rIsX X.K) := by
  intro pins s σ H xs us Q I r h
  obtain ⟨a, D, c, cv, b, rfl, ha, C, hcv, e, q⟩ := h
  cases r with
  | cons rx rr =>
    cases rr with
    | cons rt rr =>
      cases rr
      cases rx
      have ec := hcv _ rt
      subst ec
      obtain ⟨⟨oe, vs, hget, hz, hv⟩, _⟩ := I.hok a _ ha
      have J : PySem.W.InstAt s.heap a oe D none := by
        obtain ⟨oc, od, oda, osl⟩ := oe
        obtain ⟨h1, h2⟩ := hz
        dsimp only at h1 h2 hv
        subst h1 h2 hv
        exact ⟨hget, rfl, rfl, trivial⟩
      exact PySem.W.kia_one (PySem.W.handS_kitx_exc C.hg C.hk C.hs C.hd C.ha C.hn C.ht C.hm) I.kIn J e (fun z => nomatch z) fun tk => ⟨.bl b, H, I.kept (t' := tk) fun _ _ z => z, rfl, q⟩
/-- the own errors: which are of the class m -/
structure IsXF (K : PySem.W.Frag) (Γ : String → Addr) (m : String) (tbl : List (String × Bool)) : Prop where
  yes : ∀ p ∈ tbl, PySem.W.kitOne K (.ref (Γ p.1)) (.ref (Γ m)) = some p.2 ∧ ExcC K (Γ p.1)
  non : PySem.W.kitOne K (.type "NoneType") (.ref (Γ m)) = some false
def gIsX (Γ : String → Addr) (m : String) (tbl : List (String × Bool)) : PFC := fun xs R => match xs with
  | [.exc D [], .ref d] => d = Γ m ∧ ∃ p ∈ tbl, D = Γ p.1 ∧ R (.bl p.2)
  | [.non, .ref d] => d = Γ m ∧ R (.bl false)
  | _ => False
def rIsXP (K : PySem.W.Frag) : List V → Hp → VK → Prop := fun xs H Q => rIsX K xs H Q ∨ rIsi K xs H Q
theorem cr_isX : CallR X (.builtin "isinstance") (rIsXP X.K) := call_isX.or call_isi
theorem rc_isX {K : PySem.W.Frag} {Γ : String → Addr} {m : String} {tbl : List (String × Bool)} (F : IsXF K Γ m tbl) : RC K T (rIsXP K) (gIsX Γ m tbl) := by
  intro W H xs pxs R Q o rx h k
  unfold gIsX at h
  split at h
  · obtain ⟨rfl, p, hp, rfl, h1⟩ := h
    cases rx with
    | cons r1 r2 =>
      cases r2 with
      | cons r2 r3 =>
        cases r3
        cases r2
        obtain ⟨f1, f2⟩ := F.yes p hp
        cases r1 with
        | exc ha => exact .inl ⟨_, _, _, _, _, rfl, o.sub _ _ ha, f2, fun u z => by cases z; rfl, f1, k.now o (.bl _) h1⟩
        | excD h0 ha hd rf => exact absurd rfl h0
  · obtain ⟨rfl, h1⟩ := h
    cases rx with
    | cons r1 r2 =>
      cases r2 with
      | cons r2 r3 =>
        cases r3
        cases r2
        cases r1
        exact .inr ⟨_, _, _, _, _, rfl, .own _, .base .non, F.non, k.now o (.bl _) h1⟩
  · exact h.elim
end

/-! ### defs with a table of code objects -/
def DefL (K : PySem.W.Frag) (mg : Str → Option Value) (Γ : String → Addr) (x : String) (st : Stmt) (ps : List Str) (c : Addr) : Prop :=
  ∃ fd : FuncData, Fun K (Str.ofString x) (Str.ofString x) st (Γ x) fd ∧ Binds K fd ps [] ∧ mg (Str.ofString x) = some (.ref (Γ x)) ∧ fd.code = .ref c
section
variable {P : Program} {w : World} {K : PySem.W.Frag} {mg : Str → Option Value} {base : Heap} {T : List (Addr × Str)} {Γ : String → Addr} {x : String} {ps : List Str} {k : Nat} {φ : PSpec}
theorem DefL.ok {st : Stmt} {N : List Str} {t : (PX → Prop) → PS'} {c : Addr} (F : DefL K mg Γ x st ps c) (S : FnScope N ps (defScope st))
    (hbody : ∀ (A : Around) (outer : List Env) (s : Shared) (H : Hp) (C : Ct), Room k (A.deeper (PyProof.Rows.envOfC (Str.ofString x) (defScope st) s.heap.objs.size (Γ x) (.ref c))) →
      PSs (cxOf (L2.CX P w) P w K mg base N (Str.ofString x) (defScope st) (Γ x) (.ref c) A outer s H C.E) (defBody st) (upS K T C (t C.Ep)))
    (hvc : ∀ (xs : List PV) (R : PK) (Ep : PX → Prop), xs.length = ps.length → φ xs R Ep → t Ep { nx := fun _ => R .non, rt := R } (pstart N.length xs)) : OkF P w K mg base T Γ x ps (k + 1) φ := by
  obtain ⟨fd, F1, b, m, hc⟩ := F
  obtain ⟨oc, od, kV, doc, pm, an, cdv, ct, osl, rfl, lk, hcd⟩ := F1.ex
  have hc : cdv = .ref c := hc
  subst hc
  refine ⟨_, fn_of lk hcd S (fun vs H Q E ⟨W, xs, R, Ep, o, r, hl, _⟩ => by rw [r.length, hl]) fun A outer s H vs Q E hr ⟨W, xs, R, Ep, o, r, hl, h, k, kE⟩ => ?_, b, m, F1.kp, oc, od, osl, lk⟩
  refine ⟨upS K T ⟨W, H, E, Ep⟩ (t Ep), hbody A outer s H ⟨W, H, E, Ep⟩ hr, W, pstart N.length xs, _, ⟨o, env_start r, .refl W H, kE⟩, hvc xs R Ep hl h, ⟨fun W' σ' H' ρ' l g' hn => ?_, fun W' H' v p e' o' r' h' => k v H' W' p e' o' r' h', fun _ _ _ _ _ _ z => z.elim, fun _ _ _ _ _ _ z => z.elim⟩⟩
  exact k .non H' W' .non g'.ext g'.ok .non hn
end
end Pu

/-! The pure layer, part N: x = [e, ..] of one's own; passes of a lambda; plain data. -/
namespace Pu
open PySem L2 LamX PySem.Spec PyProof.Rows
section
variable {X : Cx} {T : List (Addr × Str)} {C : Ct} {e a b c : Expr} {es : List Expr} {st : Stmt} {pos : Pos} {p r : PP} {n : Nat} {t : PPT} {pa : PPA} {s u : PS'}
theorem lam_passes {A : Around} {outer : List Env} {s : Shared} {H : Hp} {E : XK} {scope : Scope} {f c' : Addr} : Passes (L2.CX X.prog X.w) (lamCx X A outer s H E scope f c') E :=
  L2.passes_call (X := lamCx X A outer s H E scope f c') (L2.takes_of (X := lamCx X A outer s H E scope f c') rfl rfl rfl rfl) fun _ _ _ _ h => h
/-- x = [e, ..], the list one's own -/
def sOwnL (i : Nat) (pa : PPA) : PS' := fun P ρ => pa ρ fun xs => P.nx (ρ.set i (some (.own xs)))
theorem ls_ownL {i : Nat} {x : Str} {pos' pos2 : Pos} (hN : X.N.Nodup) (hi : X.N[i]? = some x) (hx : Loc X.env.scope x) (ha : PA X es (upA X.K T C n pa)) (hn : n ≤ 1000 := by decide) (hs : swapsWith (.List es pos2) (some (.Name x pos')) pos.line X.env = pure false := by rfl) (hf : X.fn x = true ∨ X.env.scope.names.lookup x = some .local := by first | exact .inl rfl | exact .inr rfl | assumption) :
    PS X (.Assign [.Name x pos'] (.List es pos2) pos) (upS X.K T C (sOwnL i pa)) :=
  PS.weak (ps_set hN hi hx (pe_lst ha) hs hf) fun D σ H ⟨W, ρ, P, g, w, d⟩ => ⟨W, ρ, _, g, w, fun vs H1 W1 xs e1 o1 r1 hl h1 => ⟨sz_of (by rw [r1.length, hl]; exact hn), fun a ha => d.nx W1 _ _ _ e1.le ((g.to e1 o1).newOwn ha r1) h1⟩⟩
end
/-! ### plain data -/
def pdk : Nat → PV → Bool
  | 0, _ => false
  | _ + 1, .non => true
  | _ + 1, .bl _ => true
  | _ + 1, .int _ => true
  | _ + 1, .str x => PyData.strOk x
  | n + 1, .lst xs => xs.all (pdk n)
  | n + 1, .tup xs => xs.all (pdk n)
  | _ + 1, _ => false
theorem pdk_dat : ∀ (n : Nat) (x : PV), pdk n x = true → ∃ d, toD x = some d ∧ d.canLay0 = true ∧ d.depth ≤ n := by
  intro n
  induction n with
  | zero => intro x h; cases h
  | succ n ih =>
    have aux : ∀ xs : List PV, xs.all (pdk n) = true → ∃ ds, toDs xs = some ds ∧ PyData.canLayAll0 ds = true ∧ PyData.depthAll ds ≤ n := by
      intro xs
      induction xs with
      | nil => intro _; exact ⟨[], by unfold toDs; rfl, by unfold PyData.canLayAll0; rfl, by unfold PyData.depthAll; exact Nat.zero_le _⟩
      | cons y ys ihs =>
        intro h
        rw [List.all_cons, Bool.and_eq_true] at h
        obtain ⟨d, h1, h2, h3⟩ := ih y h.1
        obtain ⟨ds, h4, h5, h6⟩ := ihs h.2
        refine ⟨d :: ds, by unfold toDs; rw [h1, h4]; rfl, by unfold PyData.canLayAll0; rw [h2, h5]; rfl, by unfold PyData.depthAll; omega⟩
    intro x h
    cases x with
    | non => exact ⟨.none, by unfold toD; rfl, by unfold PyData.canLay0; rfl, by unfold PyData.depth; omega⟩
    | bl b => exact ⟨.bool b, by unfold toD; rfl, by unfold PyData.canLay0; rfl, by unfold PyData.depth; omega⟩
    | int b => exact ⟨.int b, by unfold toD; rfl, by unfold PyData.canLay0; rfl, by unfold PyData.depth; omega⟩
    | str s =>
      have h : PyData.strOk s = true := h
      exact ⟨.str s, by unfold toD; rw [if_pos h], by unfold PyData.canLay0; exact h, by unfold PyData.depth; omega⟩
    | lst xs =>
      obtain ⟨ds, h1, h2, h3⟩ := aux xs h
      exact ⟨.list ds, by unfold toD; rw [h1]; rfl, by unfold PyData.canLay0; exact h2, by unfold PyData.depth; omega⟩
    | tup xs =>
      obtain ⟨ds, h1, h2, h3⟩ := aux xs h
      exact ⟨.tuple ds, by unfold toD; rw [h1]; rfl, by unfold PyData.canLay0; exact h2, by unfold PyData.depth; omega⟩
    | _ => cases h
theorem dat_of {n : Nat} {x : PV} (h : pdk n x = true) (hn : n ≤ 64) : dat x := by
  obtain ⟨d, h1, h2, h3⟩ := pdk_dat n x h
  refine ⟨d, h1, ?_⟩
  unfold SeqAt.shaped
  rw [h2, decide_eq_true (by omega)]
  rfl
theorem pdk_mono : ∀ {n m : Nat} {x : PV}, pdk n x = true → n ≤ m → pdk m x = true := by
  intro n
  induction n with
  | zero => intro m x h; cases h
  | succ n ih =>
    intro m x h hm
    cases m with
    | zero => omega
    | succ m =>
      have aux : ∀ xs : List PV, xs.all (pdk n) = true → xs.all (pdk m) = true := fun xs h => by
        rw [List.all_eq_true] at h ⊢
        exact fun y hy => ih (h y hy) (by omega)
      cases x with
      | lst xs => exact aux xs h
      | tup xs => exact aux xs h
      | str s => exact h
      | non => rfl
      | bl _ => rfl
      | int _ => rfl
      | _ => cases h
theorem pdk_ints {n : Nat} : ∀ ns : List Int, (ns.map PV.int).all (pdk (n + 1)) = true
  | [] => rfl
  | _ :: r => by
    rw [List.map_cons, List.all_cons, pdk_ints r]
    rfl
theorem peqs_refl_ints : ∀ ns : List Int, peqs (ns.map PV.int) (ns.map PV.int) = true
  | [] => by simp [peqs]
  | n :: r => by
    rw [List.map_cons]
    unfold peqs
    rw [peqs_refl_ints r]
    simp [peq]
/-- what equals itself -/
theorem peq_refl : ∀ (n : Nat) (x : PV), pdk n x = true → peq x x = true := by
  intro n
  induction n with
  | zero => intro x h; cases h
  | succ n ih =>
    have aux : ∀ xs : List PV, xs.all (pdk n) = true → peqs xs xs = true := by
      intro xs
      induction xs with
      | nil => intro _; simp [peqs]
      | cons y ys ihs =>
        intro h
        rw [List.all_cons, Bool.and_eq_true] at h
        unfold peqs
        rw [ih y h.1, ihs h.2]
        rfl
    intro x h
    cases x with
    | lst xs => unfold peq; exact aux xs h
    | tup xs => unfold peq; exact aux xs h
    | str s => simp [peq]
    | non => simp [peq]
    | bl _ => simp [peq]
    | int _ => simp [peq]
    | _ => cases h
theorem peqs_nil {xs : List PV} : peqs xs [] = xs.isEmpty := by
  cases xs <;> simp [peqs]
end Pu

/-! The pure layer, part K: dict comprehensions, sorted of a dict's int keys. -/
namespace Pu
open PySem L2
def keyP : PV → Option Key
  | .int i => some (.inl i)
  | .str x => some (.inr x)
  | _ => none
theorem keyP_rep {K : PySem.W.Frag} {W : Wd} {x : PV} {v : V} {k : Key} (r : Rep K W x v) (h : keyP x = some k) : v = kV k := by
  cases x <;> first | (cases h; done) | skip
  · cases r
    cases h
    rfl
  · cases r
    cases h
    rfl
def putP (kvs : List (Key × PV)) (k : Key) (v : PV) : List (Key × PV) :=
  if (kvs.any fun kv => decide (kv.1 = k)) = true then kvs.map (fun kv => if kv.1 = k then (kv.1, v) else kv) else kvs ++ [(k, v)]
theorem RepK.any {K : PySem.W.Frag} {W : Wd} {k : Key} : ∀ {x : List (Key × PV)} {v : List (Key × V)}, RepK K W x v → (v.any fun kv => decide (kv.1 = k)) = x.any fun kv => decide (kv.1 = k)
  | _, _, .nil => rfl
  | _, _, .cons r t => by
    rw [List.any_cons, List.any_cons, RepK.any t]
theorem RepK.app {K : PySem.W.Frag} {W : Wd} {k : Key} {y : PV} {u : V} (h : Rep K W y u) : ∀ {x : List (Key × PV)} {v : List (Key × V)}, RepK K W x v → RepK K W (x ++ [(k, y)]) (v ++ [(k, u)])
  | _, _, .nil => .cons h .nil
  | _, _, .cons r t => .cons r (RepK.app h t)
theorem RepK.rpl {K : PySem.W.Frag} {W : Wd} {k : Key} {y : PV} {u : V} (h : Rep K W y u) : ∀ {x : List (Key × PV)} {v : List (Key × V)}, RepK K W x v → RepK K W (x.map fun kv => if kv.1 = k then (kv.1, y) else kv) (v.map fun kv => if kv.1 = k then (kv.1, u) else kv)
  | _, _, .nil => .nil
  | _, _, .cons (k := k2) r t => by
    rw [List.map_cons, List.map_cons]
    by_cases e : k2 = k
    · rw [if_pos e, if_pos e]
      exact .cons h (RepK.rpl h t)
    · rw [if_neg e, if_neg e]
      exact .cons r (RepK.rpl h t)
theorem RepK.put {K : PySem.W.Frag} {W : Wd} {k : Key} {y : PV} {u : V} {x : List (Key × PV)} {v : List (Key × V)} (r : RepK K W x v) (h : Rep K W y u) : RepK K W (putP x k y) (putK v k u) := by
  unfold putP putK
  rw [r.any]
  by_cases e : (x.any fun kv => decide (kv.1 = k)) = true
  · rw [if_pos e, if_pos e]
    exact r.rpl h
  · rw [if_neg e, if_neg e]
    exact r.app h
theorem putP_len {kvs : List (Key × PV)} {k : Key} {v : PV} : (putP kvs k v).length ≤ kvs.length + 1 := by
  unfold putP
  split
  · rw [List.length_map]; omega
  · rw [List.length_append]; exact Nat.le_refl _
def dcGo (t : Tgt) (cond : PPT) (ke ve : PP) (ρ : PEnv) : List PV → List (Key × PV) → PK → Prop
  | [], acc, R => R (.dic acc)
  | y :: ys, acc, R => tgt t y ρ fun ρ' => cond ρ' fun b => if b = true then ke ρ' fun kx => ve ρ' fun v => (match keyP kx with
    | some k => dcGo t cond ke ve ρ ys (putP acc k v) R
    | none => False) else dcGo t cond ke ve ρ ys acc R
def pDc (t : Tgt) (vs : List Nat) (ps : PPA) (cond : PPT) (ke ve : PP) : PP := fun ρ R => ps ρ fun ys => ys.length < sizeLine ∧ dcGo t cond ke ve (wipeP ρ vs) ys [] R
section
variable {X : Cx} {T : List (Addr × Str)} {C : Ct} {e : Expr} {pos : Pos} {p : PP} {n : Nat} {t : Tgt} {vs : List Nat} {ps : PPA} {cond : PPT} {ke ve : PP}
theorem dc_lift (hv : ∀ i ∈ t.slots, i ∈ vs) : ∀ σ H Q, up X.K T C (pDc t vs ps cond ke ve) σ H Q → tDc (iUp X.K T C ps) (gT X.K t) (upT X.K T C.nox cond) (up X.K T C.nox ke) (up X.K T C.nox ve) vs σ H Q := by
  intro σ H Q ⟨W, ρ, R, g, w, k⟩
  refine ⟨W, ρ, _, g, w, fun J H1 W1 ys e1 o1 sim hz h1 D hD => ?_⟩
  obtain ⟨hz2, h1⟩ := h1
  have g1 := g.to e1 o1
  have k1 := k.pre e1 o1
  refine ⟨fun i m H2 => m = ys.length - i ∧ i ≤ ys.length ∧ ∃ W2 acc vacc, Ext W1 H1 W2 H2 ∧ OkW T W2 H2 ∧ W2.S D = none ∧ ¬ W2.D D ∧ ¬ W2.N D ∧ H2 D = some (.dK vacc) ∧ RepK X.K W2 acc vacc ∧ acc.length ≤ i ∧ dcGo t cond ke ve (wipeP ρ vs) (ys.drop i) acc R, ⟨ys.length, rfl, Nat.zero_le _, W1, [], [], ?_⟩, ?_⟩
  · refine ⟨.new0 hD, o1.new0 hD, ?_, fun d => ?_, fun d => ?_, upd_same, .nil, Nat.le_refl _, ?_⟩
    · cases q : W1.S D with
      | none => rfl
      | some u =>
        have z := o1.sub _ _ q
        rw [hD] at z
        cases z
    · obtain ⟨_, _, _, z, _⟩ := o1.draw D d
      rw [hD] at z
      cases z
    · obtain ⟨_, _, z⟩ := o1.nLst D d
      rw [hD] at z
      cases z
    · rw [List.drop_zero]
      exact h1
  · rintro i m H2 ⟨rfl, hi, W2, acc, vacc, e2, o2, s1, s2, s3, hd, ra, hla, hgo⟩
    by_cases hlt : i < ys.length
    · rw [List.drop_eq_getElem_cons hlt] at hgo
      obtain ⟨_, hstep⟩ := sim i W2 H2 e2.le o2
      obtain ⟨hgoJ, hyld⟩ := hstep ys[i] (List.getElem?_eq_getElem hlt)
      refine .inr ⟨hgoJ, fun H' => i + 1 ≤ ys.length ∧ ∃ W2 acc vacc, Ext W1 H1 W2 H' ∧ OkW T W2 H' ∧ W2.S D = none ∧ ¬ W2.D D ∧ ¬ W2.N D ∧ H' D = some (.dK vacc) ∧ RepK X.K W2 acc vacc ∧ acc.length ≤ i + 1 ∧ dcGo t cond ke ve (wipeP ρ vs) (ys.drop (i + 1)) acc R, fun H' hN => ⟨ys.length - (i + 1), by omega, rfl, hN.1, hN.2⟩, fun x H3 hy => ?_⟩
      obtain ⟨W3, e3, o3, r3⟩ := hyld x H3 hy
      have e13 := e2.trans e3 o2
      have keepD : ∀ {W' H'}, Ext W2 H2 W' H' → W'.S D = none ∧ ¬ W'.D D ∧ ¬ W'.N D ∧ H' D = some (.dK vacc) := fun {W' H'} ee => by
        have q := RepS.ext (K := X.K) (B := fun _ => none) ee (sv := .ownD acc) (v := .ref D) ⟨D, vacc, rfl, .of rfl, s1, s2, s3, hd, ra⟩
        obtain ⟨a, vs', e, _, q1, q2, q3, q4, q5⟩ := q
        cases e
        exact ⟨q1, q2, q3, ee.keep D _ hd s2 (by intro ps z; cases z)⟩
      refine tgt_ok (T := T) (B := C.H) o3 ((g1.env.ext e13).wipe vs) r3 hgo fun σ' ρ' en wi hc => ⟨by rw [wi vs hv, wipe_wipe fun _ z => z], ?_⟩
      have gG : Good X.K T C.nox W3 σ' H3 ρ' := ⟨o3, en, (g1.nox.ext.trans e13 o1), fun _ _ _ _ _ _ _ _ z => z.elim⟩
      refine ⟨W3, ρ', _, gG, hc, fun b H4 W4 e4 o4 h4 => ?_⟩
      cases b with
      | false =>
        obtain ⟨q1, q2, q3, q4⟩ := keepD (e3.trans e4 o3)
        exact ⟨hlt, W4, acc, vacc, e13.trans e4 o3, o4, q1, q2, q3, q4, (ra.le e3.le).le e4.le, by omega, h4⟩
      | true =>
        refine ⟨W4, ρ', _, gG.to e4 o4, h4, fun y H5 W5 py e5 o5 r5 h5 => ?_⟩
        refine ⟨W5, ρ', _, (gG.to e4 o4).to e5 o5, h5, fun z H6 W6 pz e6 o6 r6 h6 => ?_⟩
        split at h6
        · rename_i kk hk
          obtain ⟨q1, q2, q3, q4⟩ := keepD (((e3.trans e4 o3).trans e5 o4).trans e6 o5)
          have ra6 := (((ra.le e3.le).le e4.le).le e5.le).le e6.le
          refine ⟨vacc, kk, keyP_rep r5 hk, q4, by rw [ra.length]; omega, hlt, W6, putP acc kk pz, putK vacc kk z, ?_, ?_, q1, q2, q3, upd_same, ra6.put r6, ?_, h6⟩
          · have e16 := ((e13.trans e4 o3).trans e5 o4).trans e6 o5
            exact ⟨e16.le, fun b o hb hd hn => by rw [upd_ne (ne_of_none hb hD)]; exact e16.keep b o hb hd hn, e16.newS, e16.newD, e16.newN⟩
          · refine o6.heap q1 q2 q3 fun u hu => ?_
            rw [q4] at hu
            cases hu
            exact ⟨(by intro ps z; cases z), (by intro q z; unfold LamX.CodeO at z; cases z)⟩
          · have := putP_len (kvs := acc) (k := kk) (v := pz)
            omega
        · exact h6.elim
    · have ei : i = ys.length := by omega
      subst ei
      rw [List.drop_length] at hgo
      refine .inl ⟨(sim ys.length W2 H2 e2.le o2).1 (Nat.le_refl _), ?_⟩
      have le2 : W2.Le (W2.add D (.dK vacc)) := .add s1
      refine k1 (.ref D) H2 (W2.add D (.dK vacc)) (.dic acc) ⟨e2.le.trans le2, e2.keep, fun b o hb => ?_, e2.newD, e2.newN⟩ (o2.track hd s2 (by intro ps z; cases z)) (.dic Wd.add_same (ra.le le2)) hgo
      by_cases e : b = D
      · subst e
        exact .inr (.of hD)
      · exact e2.newS b o ((upd_ne (H := W2.S) e).symm.trans hb)
theorem le_dc {kx vx tg iter : Expr} {ifs : List Expr} {scope : Scope} {own : List (Str × Nat)} (hc : X.calm = true) (hN : X.N.Nodup) (hi : PI X tg iter (iUp X.K T C ps)) (ok : BlkOk X.N X.env.scope scope own) (hvs : own.map (·.2) = vs) (hv : ∀ i ∈ t.slots, i ∈ vs)
    (hg : ∀ (s : Shared) (H : Hp) (C' : Addr) (cl : List (Str × Addr)) (fp : List Addr), PG (X.blk s H scope (compEnvC scope cl C' X.env) fp) tg (gT X.K t)) (ht : ∀ (s : Shared) (H : Hp) (C' : Addr) (cl : List (Str × Addr)) (fp : List Addr), PTs (X.blk s H scope (compEnvC scope cl C' X.env) fp) ifs (upT X.K T C.nox cond))
    (hk : ∀ (s : Shared) (H : Hp) (C' : Addr) (cl : List (Str × Addr)) (fp : List Addr), PE (X.blk s H scope (compEnvC scope cl C' X.env) fp) kx (up X.K T C.nox ke))
    (he : ∀ (s : Shared) (H : Hp) (C' : Addr) (cl : List (Str × Addr)) (fp : List Addr), PE (X.blk s H scope (compEnvC scope cl C' X.env) fp) vx (up X.K T C.nox ve)) (hs : ∀ x, foldedSetIterable iter X.env x = pure x := by intro _; rfl) :
    PE X (.DictComp kx vx [⟨tg, iter, ifs, 0⟩] scope pos) (up X.K T C (pDc t vs ps cond ke ve)) := by
  subst hvs
  exact PE.weak (pe_dc hc hN hi ok hg ht hk he hs) (dc_lift hv)
end
end Pu
namespace Pu
open PySem L2
section
variable {X : Cx} {T : List (Addr × Str)}
def rSortDI : List V → Hp → VK → Prop := fun xs H Q => ∃ (a : Addr) (kvs : List (Key × V)) (ks : List Int), xs = [.ref a] ∧ Rd H a (.dK kvs) ∧ kvs.map (·.1) = ks.map Sum.inl ∧ ks.length < 64 ∧
    ∀ (ys : List Int) (p : Addr), ys.Perm ks → ys.Pairwise (· ≤ ·) → H p = none → Q (.ref p) (upd H p (.lst (ys.map V.int)))
def rSortA (K : PySem.W.Frag) : List V → Hp → VK → Prop := fun xs H Q => rSortedI K xs H Q ∨ rSortDI xs H Q
theorem cr_sortA (hc : X.calm = true) : CallR X (.builtin "sorted") (rSortA X.K) := cr_sortedI.or (call_sortedDI hc)
theorem RepK.keys {K : PySem.W.Frag} {W : Wd} : ∀ {x : List (Key × PV)} {v : List (Key × V)}, RepK K W x v → v.map (·.1) = x.map (·.1)
  | _, _, .nil => rfl
  | _, _, .cons r t => by rw [List.map_cons, List.map_cons, RepK.keys t]
/-- sorted of a list of ints, of a dict with int keys -/
def gSortA : PFC := fun xs R => match xs with
  | [.lst ys] => ∃ bs, ints? ys = some bs ∧ R (.lst ((sortI bs).map PV.int))
  | [.dic kvs] => ∃ ks : List Int, kvs.map (·.1) = ks.map Sum.inl ∧ ks.length < 64 ∧ R (.lst ((sortI ks).map PV.int))
  | _ => False
theorem rc_sortA {K : PySem.W.Frag} : RC K T (rSortA K) gSortA := by
  intro W H xs pxs R Q o rx h k
  unfold gSortA at h
  split at h
  · exact .inl (rc_sorted W H xs _ R Q o rx h k)
  · obtain ⟨ks, h1, h2, h3⟩ := h
    cases rx with
    | cons r1 r2 =>
      cases r2
      cases r1 with
      | dic hq rl =>
        refine .inr ⟨_, _, ks, rfl, .inl (o.sub _ _ hq), by rw [rl.keys]; exact h1, h2, fun ns' p pm pw hp => ?_⟩
        have e := sorted_eq (pm.trans (sortI_perm ks).symm) pw (sortI_le ks)
        subst e
        exact k.newL o (.ints _) h3 p hp
  · exact h.elim
end
end Pu
namespace Pu
open PySem L2
/-- a module's tuple of ints -/
def GTup (K : PySem.W.Frag) (mg : Str → Option Value) (x : String) (ns : List Int) : Prop :=
  ∃ a : Addr, mg (Str.ofString x) = some (.ref a) ∧ ∃ (o : Obj) (its : Array Value) (n : Nat), K.lookup a = some o ∧ o.cls = .type "tuple" ∧ o.data = .seq its n ∧ its.size ≤ sizeLine ∧ Vals (ns.map V.int) its.toList
section
variable {X : Cx} {T : List (Addr × Str)} {C : Ct}
theorem le_gtup {x : String} {ns : List Int} {pos : Pos} (hg : Gl X (Str.ofString x)) (g : GTup X.K X.mg x ns) (hdb : (Str.ofString x == ("__debug__" : Str)) = false := by decide) : PE X (.Name (Str.ofString x) pos) (up X.K T C (pC (.tup (ns.map PV.int)))) := by
  obtain ⟨a, h1, h2⟩ := g
  exact le_c (v := .ref a) (pe_glob hg h1 rfl hdb) fun W => .tup (.inr h2) (.ints ns)
end
end Pu
namespace Pu
open PySem L2
section
variable {X : Cx} {T : List (Addr × Str)} {C : Ct} {a b : Expr} {p q : PP} {pos : Pos}
/-- list(range(i, j)), tuple(range(i, j)) -/
def pRg2 (f : List PV → PV) (p q : PP) : PP := fun ρ R => p ρ fun x => q ρ fun y => match x, y with
  | .int i, .int j => (-(2 ^ 62) ≤ i ∧ i < 2 ^ 62 ∧ -(2 ^ 62) ≤ j ∧ j < 2 ^ 62 ∧ j - i ≤ 16777216) ∧ R (f (rangeP i j))
  | _, _ => False
theorem rgOk {i j : Int} (h : -(2 ^ 62) ≤ i ∧ i < 2 ^ 62 ∧ -(2 ^ 62) ≤ j ∧ j < 2 ^ 62 ∧ j - i ≤ 16777216) : RgOk i j := ⟨h.1, h.2.1, h.2.2.1, h.2.2.2.1, by have := h.2.2.2.2; omega⟩
theorem le_listRg2 {p1 p2 p3 : Pos} (hc : X.calm = true) (hg : Gl X "list") (hm : X.mg "list" = none) (hg2 : Gl X "range") (hm2 : X.mg "range" = none) (ha : PE X a (up X.K T C p)) (hb : PE X b (up X.K T C q)) (na : starEach [a, b] X.env = (false, eval a X.env) :: starEach [b] X.env := by rfl)
    (nb : starEach [b] X.env = (false, eval b X.env) :: starEach [] X.env := by rfl) (hp : (backTo p2 (starEach [b] X.env)).any (·.1) = false := by rfl)
    (na2 : starEach [.Call (.Name "range" p1) [a, b] [] p2] X.env = (false, eval (.Call (.Name "range" p1) [a, b] [] p2) X.env) :: starEach [] X.env := by rfl) :
    PE X (.Call (.Name "list" p3) [.Call (.Name "range" p1) [a, b] [] p2] [] pos) (up X.K T C (pRg2 PV.lst p q)) :=
  PE.weak (pe_listRg hc hg hm (prg_2 hg2 hm2 ha hb na nb hp) na2) fun σ H Q ⟨W, ρ, R, g, w, k⟩ => ⟨W, ρ, _, g, w, fun x H1 W1 px e1 o1 r1 h1 => ⟨W1, ρ, _, g.to e1 o1, h1, fun y H2 W2 py e2 o2 r2 h2 => by
    split at h2
    · cases r1
      cases r2
      exact ⟨_, _, rfl, rfl, rgOk h2.1, ((k.pre e1 o1).pre e2 o2).newL o2 (reps_rg _ _) h2.2⟩
    · exact h2.elim⟩⟩
theorem le_tupRg2 {p1 p2 p3 : Pos} (hc : X.calm = true) (hg : Gl X "tuple") (hm : X.mg "tuple" = none) (hg2 : Gl X "range") (hm2 : X.mg "range" = none) (ha : PE X a (up X.K T C p)) (hb : PE X b (up X.K T C q)) (na : starEach [a, b] X.env = (false, eval a X.env) :: starEach [b] X.env := by rfl)
    (nb : starEach [b] X.env = (false, eval b X.env) :: starEach [] X.env := by rfl) (hp : (backTo p2 (starEach [b] X.env)).any (·.1) = false := by rfl)
    (na2 : starEach [.Call (.Name "range" p1) [a, b] [] p2] X.env = (false, eval (.Call (.Name "range" p1) [a, b] [] p2) X.env) :: starEach [] X.env := by rfl) :
    PE X (.Call (.Name "tuple" p3) [.Call (.Name "range" p1) [a, b] [] p2] [] pos) (up X.K T C (pRg2 PV.tup p q)) :=
  PE.weak (pe_tupRg hc hg hm (prg_2 hg2 hm2 ha hb na nb hp) na2) fun σ H Q ⟨W, ρ, R, g, w, k⟩ => ⟨W, ρ, _, g, w, fun x H1 W1 px e1 o1 r1 h1 => ⟨W1, ρ, _, g.to e1 o1, h1, fun y H2 W2 py e2 o2 r2 h2 => by
    split at h2
    · cases r1
      cases r2
      exact ⟨_, _, rfl, rfl, rgOk h2.1, ((k.pre e1 o1).pre e2 o2).newT o2 (reps_rg _ _) h2.2⟩
    · exact h2.elim⟩⟩
end
end Pu
namespace Pu
open PySem L2
section
variable {X : Cx} {T : List (Addr × Str)} {C : Ct} {e : Expr} {p : PP}
def rLenSet (w : World) : List V → Hp → VK → Prop := fun xs H Q => ∃ (q : Addr) (S : Int → Bool) (c : Nat), xs = [V.ref q] ∧ H q = some (SetO w q S c) ∧ ∀ ks : List Int, ks.Nodup → (∀ k, S k = true ↔ k ∈ ks) → Q (.int ks.length) H
theorem cr_lenSet : CallR X (.builtin "len") (rLenSet X.w) := by
  intro pins s σ H xs us Q I r h
  obtain ⟨q, S, c, rfl, hq, h⟩ := h
  obtain ⟨u, rfl, rfl⟩ := vals1 r
  obtain ⟨⟨o, es, ep, t, ho, hx, hd, _, hn, hm, hb, hf, _⟩, _⟩ := I.hok q _ hq
  have hz := h _ hn hm
  rw [List.length_map, Array.length_toList] at hz
  refine call_len_set ho hx hd hf (Int.lt_of_lt_of_le (Int.ofNat_lt.mpr hb) (by decide)) ⟨.int es.size, H, I.tok _, ⟨_, rfl⟩, hz⟩
/-- len(set(xs)) -/
def pLenSet (p : PP) : PP := fun ρ R => p ρ fun x => match x with
  | .lst ys => ∃ ns, ints? ys = some ns ∧ ns.length < 4000 ∧ R (.int (setI ns).length)
  | .tup ys => ∃ ns, ints? ys = some ns ∧ ns.length < 4000 ∧ R (.int (setI ns).length)
  | _ => False
theorem up_lenSet : ∀ σ H Q, up X.K T C (pLenSet p) σ H Q → tCB (rLenSet X.w) (tCons (tCB (rSetI X.K X.w) (tCons (up X.K T C p) tNil)) tNil) σ H Q := fun σ H Q ⟨W, ρ, R, g, w, k⟩ => by
  refine ⟨W, ρ, _, g, w, fun x H1 W1 px e1 o1 r1 h1 => ?_⟩
  have fin : ∀ (l : Addr) (ns : List Int), (SqL X.K H1 l (ns.map V.int) ∨ SqT X.K H1 l (ns.map V.int)) → ns.length < 4000 → R (.int (setI ns).length) → rSetI X.K X.w [.ref l] H1 fun x H1 => rLenSet X.w [x] H1 Q := fun l ns hq h3 h4 => by
    refine ⟨l, ns, rfl, hq, Nat.lt_of_le_of_lt (show ns.length + 1 ≤ 4000 by omega) (by decide), fun q c hn hc => ?_⟩
    refine ⟨q, _, c, rfl, upd_same, fun ks kn kk => ?_⟩
    have hp : ks.Perm (setI ns) := by
      refine (List.perm_ext_iff_of_nodup kn (pw_setI.imp fun {a b} z => by omega)).mpr fun a => ?_
      rw [← kk a, mem_setI, decide_eq_true_iff]
    rw [hp.length_eq]
    have o2 := o1.new (o := SetO X.w q (fun j => decide (j ∈ ns)) c) hn (by intro ps z; unfold SetO at z; cases z)
    have e2 := Ext.new (o := SetO X.w q (fun j => decide (j ∈ ns)) c) o1 hn
    exact ((k.pre e1 o1).pre e2 o2).now o2 (.int _) h4
  split at h1
  · obtain ⟨ns, h2, h3, h4⟩ := h1
    cases r1 with
    | lst hq rl =>
      rw [ints_inv h2] at rl
      have e := rl.ints_inv
      subst e
      exact fin _ ns (.inl (.of (o1.sub _ _ hq))) h3 h4
  · obtain ⟨ns, h2, h3, h4⟩ := h1
    cases r1 with
    | tup hq rl =>
      rw [ints_inv h2] at rl
      have e := rl.ints_inv
      subst e
      exact fin _ ns (.inr (o1.tup hq)) h3 h4
  · exact h1.elim
theorem le_lenSet {p1 p2 p3 p4 : Pos} (hc : X.calm = true) (h1 : Gl X "len") (m1 : X.mg "len" = none) (h2 : Gl X "set") (m2 : X.mg "set" = none) (ha : PE X e (up X.K T C p))
    (s1 : starEach [.Call (.Name "set" p1) [e] [] p2] X.env = (false, eval (.Call (.Name "set" p1) [e] [] p2) X.env) :: starEach [] X.env := by rfl) (s2 : starEach [e] X.env = (false, eval e X.env) :: starEach [] X.env := by rfl) :
    PE X (.Call (.Name "len" p3) [.Call (.Name "set" p1) [e] [] p2] [] p4) (up X.K T C (pLenSet p)) :=
  PE.weak (pe_callB cr_lenSet h1 m1 (by decide +kernel) (pa_cons (pe_callTy (cr_setI hc) h2 m2 (by decide +kernel) (pa_cons ha pa_nil s2) (by decide) (by decide) s2 (by rfl)) pa_nil s1) (by decide) (by decide) s1 (by rfl)) up_lenSet
end
end Pu
namespace Pu
open PySem L2 PyProof.Rows
section
variable {X : Cx} {T : List (Addr × Str)}
theorem op_isBl2 : OpR X (compareOp .Is) (fun x y H Q => ∃ b c, x = .bl b ∧ y = .bl c ∧ Q (.bl (b == c)) H) := by
  intro pins s σ H x y v u Q I rx ry h
  obtain ⟨b, c, rfl, rfl, q⟩ := h
  cases rx
  cases ry
  exact is_bool (fin_bl I q rfl)
theorem op_notBl2 : OpR X (compareOp .IsNot) (fun x y H Q => ∃ b c, x = .bl b ∧ y = .bl c ∧ Q (.bl (!(b == c))) H) := by
  intro pins s σ H x y v u Q I rx ry h
  obtain ⟨b, c, rfl, rfl, q⟩ := h
  cases rx
  cases ry
  exact isnot_bool (fin_bl I q rfl)
def fIsBl (neg : Bool) : PF2 := fun x y R => match x, y with
  | .bl b, .bl c => R (.bl (if neg then !(b == c) else b == c))
  | _, _ => False
theorem rb_isBl {K : PySem.W.Frag} : RB K T (fun x y H Q => ∃ b c, x = V.bl b ∧ y = .bl c ∧ Q (.bl (b == c)) H) (fIsBl false) := by
  intro W H x y px py R Q o rx ry h k
  unfold fIsBl at h
  split at h
  · cases rx; cases ry
    exact ⟨_, _, rfl, rfl, k.now o (.bl _) h⟩
  · exact h.elim
theorem rb_notBl {K : PySem.W.Frag} : RB K T (fun x y H Q => ∃ b c, x = V.bl b ∧ y = .bl c ∧ Q (.bl (!(b == c))) H) (fIsBl true) := by
  intro W H x y px py R Q o rx ry h k
  unfold fIsBl at h
  split at h
  · cases rx; cases ry
    exact ⟨_, _, rfl, rfl, k.now o (.bl _) h⟩
  · exact h.elim
end
end Pu

/-! The pure layer, part Y: defs as values, lcm, dicts of one's own, sorted of any size. -/
namespace Pu
open PySem L2 PyProof.Rows
/-! ### a local name that holds one of several defs -/
structure FnV (X : Cx) (T : List (Addr × Str)) (n : Nat) (f : Addr) (φ : PSpec) : Prop where
  ex : ∃ (k : Nat) (fd : FuncData) (ps : List Str), FnOk X.prog X.w X.K X.mg X.base (L2.CX X.prog X.w) k f fd ps (pSp X.K T n φ) ∧ Room k X.A ∧ PySem.W.keepIn X.K (.ref f) = true ∧ Binds X.K fd ps []
def pCallV (i : Nat) (S : List (Addr × PSpec)) (Ep : PX → Prop) (pa : PPA) : PP := fun ρ R => pVar i ρ fun x => match x with
  | .ref f => ∃ p ∈ S, f = p.1 ∧ pa ρ fun xs => p.2 xs R Ep
  | _ => False
section
variable {X : Cx} {T : List (Addr × Str)} {C : Ct} {e : Expr} {es : List Expr} {pos : Pos} {n : Nat} {pa : PPA}
theorem FnV.of {Γ : String → Addr} {x : String} {ps : List Str} {k : Nat} {φ : PSpec} (F : OkF X.prog X.w X.K X.mg X.base T Γ x ps k φ) (hr : Room k X.A) : FnV X T ps.length (Γ x) φ := by
  obtain ⟨fd, F1, b, m, kp, _⟩ := F
  exact ⟨k, fd, ps, F1, hr, kp, b⟩
theorem le_callV {i : Nat} {S : List (Addr × PSpec)} {x : Str} {pp : Pos} (A : ∀ p ∈ S, FnV X T n p.1 p.2) (hN : X.N[i]? = some x) (hv : Vis X.env.scope x) (hp : Passes (L2.CX X.prog X.w) X C.E) (ha : PA X (e :: es) (upA X.K T C n pa))
    (hdb : (x == ("__debug__" : Str)) = false := by decide) (hcd : (x == ("__classdict__" : Str)) = false := by decide)
    (he : starEach (e :: es) X.env = (false, eval e X.env) :: starEach es X.env := by rfl) (hpl : (backTo pos (starEach es X.env)).any (·.1) = false := by rfl) :
    PE X (.Call (.Name x pp) (e :: es) [] pos) (up X.K T C (pCallV i S C.Ep pa)) := by
  refine ⟨fun pins s σ H Q I h => ?_⟩
  obtain ⟨W, ρ, R, g, w, k⟩ := h
  unfold pCallV pVar at w
  split at w
  · rename_i y hy
    split at w
    · rename_i f
      obtain ⟨q, hq, rfl, w⟩ := w
      obtain ⟨v, h1, h2⟩ := g.env.at_ i _ (gt_get hy)
      cases h2
      obtain ⟨k', fd, ps, F, hr, hk, hb⟩ := (A q hq).ex
      exact (pe_callL (i := i) (f := q.1) (dvs := []) (E := C.E) F hr hN hv hk hb .nil hp ha hdb hcd he hpl).run pins s σ H Q I ⟨h1, up_call σ H Q ⟨W, ρ, R, g, w, k⟩⟩
    · exact w.elim
  · exact w.elim
/-! ### math.lcm -/
def rLcm : List V → Hp → VK → Prop := fun vs H Q => ∃ a b : Int, vs = [.int a, .int b] ∧ a.natAbs < 2 ^ 64 ∧ b.natAbs < 2 ^ 64 ∧ Q (.int ((a.natAbs.lcm b.natAbs : Nat) : Int)) H
theorem cr_lcm : CallR X (.builtin "math.lcm") rLcm := by
  intro pins s σ H vs us Q I r ⟨a, b, ev, h1, h2, q⟩
  subst ev
  obtain ⟨t, u, eu⟩ := Vals.int2 r
  subst eu
  exact PySem.W.mc_lcm h1 h2 fun _ => ⟨.int _, H, I.tok _, ⟨_, rfl⟩, q⟩
def gLcm : PFC := fun xs R => match xs with
  | [.int a, .int b] => a.natAbs < 2 ^ 64 ∧ b.natAbs < 2 ^ 64 ∧ R (.int ((a.natAbs.lcm b.natAbs : Nat) : Int))
  | _ => False
theorem rc_lcm {K : PySem.W.Frag} : RC K T rLcm gLcm := by
  intro W H xs pxs R Q o rx h k
  unfold gLcm at h
  split at h
  · obtain ⟨h1, h2, h3⟩ := h
    cases rx with
    | cons r1 r2 =>
      cases r2 with
      | cons r2 r3 =>
        cases r3
        cases r1
        cases r2
        exact ⟨_, _, rfl, h1, h2, k.now o (.int _) h3⟩
  · exact h.elim
/-! ### d.update(e) -/
def rUpd : V → List V → Hp → VK → Prop := fun x xs H Q => ∃ (a b : Addr) (kvs more : List (Key × V)), x = .ref a ∧ xs = [.ref b] ∧ H a = some (.dK kvs) ∧ H b = some (.dK more) ∧ a ≠ b ∧ kvs.length + more.length ≤ sizeLine ∧ Q .non (upd H a (.dK (mergeK kvs more)))
theorem mt_upd : MtR X "dict.update" rUpd := by
  intro pins s σ H x xs v us Q I rx rxs ⟨a, b, kvs, more, ex, exs, ha, hb, hne, hz, q⟩
  subst ex exs
  cases rx
  obtain ⟨u, eu, ru⟩ := vals1 rxs
  subst eu
  cases ru
  obtain ⟨z, lo, vs, rel, dd⟩ := dk_of I.hok ha
  obtain ⟨_, lo2, ws, rel2, dd2⟩ := dk_of I.hok hb
  refine call_meetsIn F.slot_dict_update dd.typeIs F.entry_dict_update (F.args_dict_update_2 _ _) (meets_dict_update (mixKind X.prog X.w) a b hne lo2) ⟨vs, ws, dd, dd2, by rw [← rel.length, ← rel2.length]; exact hz, fun h' d1 _ hs => ?_⟩
  have hl : (mergeK kvs more).length ≤ sizeLine := Nat.le_trans (length_mergeK more kvs) hz
  exact ⟨.non, _, I.write (e := a) (o := .dK (mergeK kvs more)) (t' := s.toks) (by rw [ha]; trivial) (.inl rfl) (fun c u hc hu => (hs.2 c hc).trans hu) (let ⟨o, _, _, ho, _⟩ := d1; ⟨o, ho⟩) (show ObjOk X.prog X.w _ _ _ (.dK (mergeK kvs more)) from ⟨hl, lo, _, rel2.merge rel, d1⟩), rfl, q⟩
end
end Pu
namespace Pu
open PySem L2 PyProof.Rows SrtO
section
variable {X : Cx} {T : List (Addr × Str)}
/-- sorted(d), its keys ints, however many -/
def rSortDK : List V → Hp → VK → Prop := fun xs H Q => ∃ (a : Addr) (kvs : List (Key × V)) (ks : List Int), xs = [.ref a] ∧ Rd H a (.dK kvs) ∧ kvs.map (·.1) = ks.map Sum.inl ∧
  ∀ (ys : List Int) (p : Addr), ys.Perm ks → ys.Pairwise (· ≤ ·) → H p = none → Q (.ref p) (upd H p (.lst (ys.map V.int)))
theorem cr_sortDK (calm : X.calm = true) : CallR X (.builtin "sorted") rSortDK := by
  intro pins s σ H xs us Q I r ⟨a, kvs, ks, ex, hd, hks, q⟩
  subst ex
  obtain ⟨u, eu, ru⟩ := vals1 r
  subst eu
  cases ru
  obtain ⟨z, lo, vs, rel, dd⟩ := dk_rd I.hok hd
  obtain ⟨epo, hat⟩ := dd.dictAt
  have keys : vs.map (·.1) = ks.map Sum.inl := (rel.keys.symm).trans hks
  have len : vs.length = ks.length := by simpa using congrArg List.length keys
  have zv : vs.length ≤ sizeLine := by rw [← rel.length]; exact z
  refine Calls.call_function_entry kind_sorted plain_sorted entry_sorted (args_sorted1 (.ref a)) ?_
  unfold Builtin.«sorted»
  refine wpAny_bind (m := checkCount "sorted" 1 1 _) (wpAny_pure (wpAny_bind (PySem.W.kdu_collect (A := X.A.in1) (PySem.W.kdl_dict (knd := mixKind X.prog X.w) (kvs := vs) (ep := epo) lo) (I.ok.hd calm) hat zv fun h1 tk acc kept got => ?_)))
  have lenA : acc.toList.length = ks.length := by simpa [len] using got.1
  have hI : IntsAre acc.toList ks := ints_each lenA fun j v e => by
    obtain ⟨k, x, e1, e2⟩ := got.2 j v (by simpa using e)
    have e3 : (vs.map (·.1))[j]? = some k := by simp [e1]
    rw [keys, List.getElem?_map] at e3
    cases e4 : ks[j]? with
    | none => rw [e4] at e3; cases e3
    | some y =>
      rw [e4] at e3
      obtain rfl : Sum.inl y = k := Option.some.inj e3
      rcases keyIs_shape (show keyIs (Sum.inl y) v = true from e2) with ⟨i, t, ek, ev⟩ | ⟨w, t, ek, ev⟩ <;> cases ek
      exact ⟨y, t, rfl, ev⟩
  have zA : acc.toList.length ≤ sizeLine := by rw [lenA, ← len]; exact zv
  have at1 : (h1.push (seqObj "list" acc.toList.toArray 0)).get? h1.objs.size = some (seqObj "list" acc.toList.toArray 0) := Heap.get?_push_size _ rfl
  refine wpAny_bind (wpAny_newList (wpAny_bind (wpAny_holding (wpAny_call_entry slot_list_sort ⟨_, at1, rfl⟩ entry_list_sort
    (list_sort_ord swo_int (s := { s with heap := h1.push (seqObj "list" acc.toList.toArray 0), toks := tk }) at1 zA (fun h2 => ints_sortable hI h2) fun out s1 s2 => ⟨_, rfl, ?_⟩) (args_list_sort _)))) zA)
  obtain ⟨i1, i2, i3⟩ := ints_out hI s1 s2
  obtain ⟨epn, atn⟩ := sortedHeap_at (vs := acc.toList) (out := out.toArray) at1
  have zO : ((out.map iv).map V.int).length ≤ sizeLine := by rw [List.length_map, i2.length_eq, ← len]; exact zv
  have I1 : Inv X pins σ H { s with heap := h1, toks := tk } := I.kept kept
  refine wpAny_pure ⟨_, rfl, .ref h1.objs.size, upd H h1.objs.size (.lst ((out.map iv).map V.int)), I1.laid (t' := tk) (fun b o e => ?_) (Nat.le_refl _) ⟨zO, out, epn, vals_of_ints i1, atn⟩, rfl, q (out.map iv) _ i2 i3 (I1.hok.fresh (Nat.le_refl _))⟩
  have lt : b < h1.objs.size := Heap.lt_size e
  rw [sortedHeap_old (Nat.ne_of_lt lt) (Nat.lt_of_lt_of_le lt (by rw [size_push']; exact Nat.le_succ _))]
  exact Heap.get?_push_of_some _ e
/-- sorted(s), s a set of ints, however many -/
def rSortSt (w : World) : List V → Hp → VK → Prop := fun vs H Q => ∃ (a : Addr) (S : Int → Bool) (n : Nat), vs = [V.ref a] ∧ H a = some (SetO w a S n) ∧ n ≤ 100000 ∧
  ∀ (ns : List Int) (p : Addr), ns.Pairwise (· < ·) → (∀ k : Int, k ∈ ns ↔ S k = true) → H p = none → Q (.ref p) (upd H p (.lst (ns.map V.int)))
theorem cr_sortSt (calm : X.calm = true) : CallR X (.builtin "sorted") (rSortSt X.w) := by
  intro pins s σ H vs us Q I r ⟨a, S, n, ev, ha, hz, q⟩
  subst ev
  rw [Vals.ref1 r]
  obtain ⟨o, es, ep, t, ho, hex, hd, g, nd, hm, hb, hf, hn, hr, hl⟩ := setO_get I ha
  refine Calls.call_function_entry kind_sorted plain_sorted entry_sorted (args_sorted1 (.ref a)) ?_
  unfold Builtin.«sorted»
  refine wpAny_bind (m := checkCount "sorted" 1 1 _) (wpAny_pure (wpAny_bind (collect_set (A := X.A.in1) (I.ok.hd calm) ⟨o, ho, hex.1, hd⟩ hf hb hr hl fun s1 ws k1 hz1 g1 o1 pm => ?_)))
  have lenW : ws.length = n := by simpa [hn] using pm.length_eq
  have hI : IntsAre ws (ws.map Builtin.Re.reRawOf) := ints_of ws fun v hv => by
    obtain ⟨e, he, e2⟩ := List.mem_map.mp (pm.mem_iff.mp hv)
    obtain ⟨k, tk, e3, _⟩ := g e he
    exact ⟨k, tk, e2 ▸ e3⟩
  have pk : (ws.map Builtin.Re.reRawOf).Perm (es.toList.map keyOf) := by
    have e := pm.map Builtin.Re.reRawOf
    rw [List.map_map] at e
    exact e
  have zW : ws.length ≤ sizeLine := by rw [lenW, sizeLine_eq]; omega
  have at1 : (s1.heap.push (seqObj "list" ws.toArray 0)).get? s1.heap.objs.size = some (seqObj "list" ws.toArray 0) := Heap.get?_push_size _ rfl
  refine wpAny_bind (wpAny_newList (wpAny_bind (wpAny_holding (wpAny_call_entry slot_list_sort ⟨_, at1, rfl⟩ entry_list_sort
    (list_sort_ord swo_int (s := { s1 with heap := s1.heap.push (seqObj "list" ws.toArray 0) }) at1 zW (fun h2 => ints_sortable hI h2) fun out q1 q2 => ⟨_, rfl, ?_⟩) (args_list_sort _)))) zW)
  obtain ⟨i1, i2, i3⟩ := ints_out hI q1 q2
  obtain ⟨epn, atn⟩ := sortedHeap_at (vs := ws) (out := out.toArray) at1
  have pn : (out.map iv).Perm (es.toList.map keyOf) := i2.trans pk
  have zO : ((out.map iv).map V.int).length ≤ sizeLine := by rw [List.length_map, i2.length_eq, List.length_map]; exact zW
  have hp : H s1.heap.objs.size = none := I.hok.fresh hz1
  have keep : ∀ b u, s.heap.get? b = some u → (sortedHeap (s1.heap.push (seqObj "list" ws.toArray 0)) s1.heap.objs.size ws out.toArray).get? b = some u := fun b u e => by
    have e1 := k1 b u e
    have lt := Heap.lt_size e1
    rw [sortedHeap_old (Nat.ne_of_lt lt) (Nat.lt_of_lt_of_le lt (by rw [size_push']; exact Nat.le_succ _))]
    exact Heap.get?_push_of_some _ e1
  have ok : ObjOk X.prog X.w (upd H s1.heap.objs.size (.lst ((out.map iv).map V.int))) _ s1.heap.objs.size (.lst ((out.map iv).map V.int)) := ⟨zO, out, epn, vals_of_ints i1, atn⟩
  exact wpAny_pure ⟨_, rfl, .ref s1.heap.objs.size, upd H s1.heap.objs.size (.lst ((out.map iv).map V.int)), I.call' (ch := []) o1 (Un.laid keep hz1 hp) (I.hok.laid keep hz1 ok) (by show AllBare s1.gens; rw [g1]; exact I.bare) (fun _ z => nomatch z), rfl,
    q (out.map iv) _ (lt_of_le_nodup (out.map iv) i3 (pn.nodup_iff.mpr nd)) (fun k => by rw [pn.mem_iff, ← hm k]) hp⟩
end
end Pu
namespace Pu
open PySem L2 PyProof.Rows
section
variable {X : Cx} {T : List (Addr × Str)} {C : Ct} {e : Expr} {p : PP} {st : Stmt} {s : PS'}
/-! ### sorted, pure -/
def gSortB : PFC := fun xs R => match xs with
  | [.lst ys] => ∃ bs, ints? ys = some bs ∧ R (.lst ((sortI bs).map PV.int))
  | [.dic kvs] => ∃ ks : List Int, kvs.map (·.1) = ks.map Sum.inl ∧ ks.length < 100000 ∧ R (.lst ((sortI ks).map PV.int))
  | _ => False
def rSortB (K : PySem.W.Frag) : List V → Hp → VK → Prop := fun xs H Q => rSortedI K xs H Q ∨ rSortDK xs H Q
theorem cr_sortB (hc : X.calm = true) : CallR X (.builtin "sorted") (rSortB X.K) := cr_sortedI.or (cr_sortDK hc)
theorem rc_sortB {K : PySem.W.Frag} : RC K T (rSortB K) gSortB := by
  intro W H xs pxs R Q o rx h k
  unfold gSortB at h
  split at h
  · exact .inl (rc_sorted W H xs _ R Q o rx h k)
  · obtain ⟨ks, h1, _, h3⟩ := h
    cases rx with
    | cons r1 r2 =>
      cases r2
      cases r1 with
      | dic hq rl =>
        refine .inr ⟨_, _, ks, rfl, .inl (o.sub _ _ hq), by rw [rl.keys]; exact h1, fun ns' p pm pw hp => ?_⟩
        have e := sorted_eq (pm.trans (sortI_perm ks).symm) pw (sortI_le ks)
        subst e
        exact k.newL o (.ints _) h3 p hp
  · exact h.elim
/-- sorted(set(xs)) -/
def pSortSt (p : PP) : PP := fun ρ R => p ρ fun x => match x with
  | .lst ys => ∃ ns, ints? ys = some ns ∧ ns.length < 4000 ∧ R (.lst ((setI ns).map PV.int))
  | .tup ys => ∃ ns, ints? ys = some ns ∧ ns.length < 4000 ∧ R (.lst ((setI ns).map PV.int))
  | _ => False
theorem up_sortSt : ∀ σ H Q, up X.K T C (pSortSt p) σ H Q → tCB (rSortSt X.w) (tCons (tCB (rSetI X.K X.w) (tCons (up X.K T C p) tNil)) tNil) σ H Q := fun σ H Q ⟨W, ρ, R, g, w, k⟩ => by
  refine ⟨W, ρ, _, g, w, fun x H1 W1 px e1 o1 r1 h1 => ?_⟩
  have fin : ∀ (l : Addr) (ns : List Int), (SqL X.K H1 l (ns.map V.int) ∨ SqT X.K H1 l (ns.map V.int)) → ns.length < 4000 → R (.lst ((setI ns).map PV.int)) → rSetI X.K X.w [.ref l] H1 fun x H1 => rSortSt X.w [x] H1 Q := fun l ns hq hl hR => by
    refine ⟨l, ns, rfl, hq, Nat.lt_of_le_of_lt (show ns.length + 1 ≤ 4000 by omega) (by decide), fun q c hn hc => ?_⟩
    refine ⟨q, _, c, rfl, upd_same, by omega, fun ms l2 hp hm hn2 => ?_⟩
    have em : ms = setI ns := rise_eq hp pw_setI fun k => by rw [hm k, mem_setI, decide_eq_true_iff]
    subst em
    have o2 := o1.new (o := SetO X.w q (fun j => decide (j ∈ ns)) c) hn (by intro ps z; unfold SetO at z; cases z)
    have e2 := Ext.new (o := SetO X.w q (fun j => decide (j ∈ ns)) c) o1 hn
    exact ((k.pre e1 o1).pre e2 o2).newL o2 (.ints _) hR l2 hn2
  split at h1
  · obtain ⟨ns, h2, h3, h4⟩ := h1
    cases r1 with
    | lst hq rl =>
      rw [ints_inv h2] at rl
      have e := rl.ints_inv
      subst e
      exact fin _ ns (.inl (.of (o1.sub _ _ hq))) h3 h4
  · obtain ⟨ns, h2, h3, h4⟩ := h1
    cases r1 with
    | tup hq rl =>
      rw [ints_inv h2] at rl
      have e := rl.ints_inv
      subst e
      exact fin _ ns (.inr (o1.tup hq)) h3 h4
  · exact h1.elim
theorem le_sortSt {p1 p2 p3 p4 : Pos} (hc : X.calm = true) (h1 : Gl X "sorted") (m1 : X.mg "sorted" = none) (h2 : Gl X "set") (m2 : X.mg "set" = none) (ha : PE X e (up X.K T C p))
    (s1 : starEach [.Call (.Name "set" p1) [e] [] p2] X.env = (false, eval (.Call (.Name "set" p1) [e] [] p2) X.env) :: starEach [] X.env := by rfl) (s2 : starEach [e] X.env = (false, eval e X.env) :: starEach [] X.env := by rfl) :
    PE X (.Call (.Name "sorted" p3) [.Call (.Name "set" p1) [e] [] p2] [] p4) (up X.K T C (pSortSt p)) :=
  PE.weak (pe_callB (cr_sortSt hc) h1 m1 (by decide +kernel) (pa_cons (pe_callTy (cr_setI hc) h2 m2 (by decide +kernel) (pa_cons ha pa_nil s2) (by decide) (by decide) s2 (by rfl)) pa_nil s1) (by decide) (by decide) s1 (by rfl)) up_sortSt
/-! ### a dict of one's own -/
def mergeP (kvs more : List (Key × PV)) : List (Key × PV) := more.foldl (fun acc kv => putP acc kv.1 kv.2) kvs
theorem RepK.merge {K : PySem.W.Frag} {W : Wd} : ∀ {more : List (Key × PV)} {ms : List (Key × V)}, RepK K W more ms → ∀ {x : List (Key × PV)} {v : List (Key × V)}, RepK K W x v → RepK K W (mergeP x more) (mergeK v ms)
  | _, _, .nil, _, _, r => r
  | _, _, .cons h t, _, _, r => RepK.merge t (r.put h)
theorem ps_setDc {i : Nat} {y : Str} {py : Pos} {kx vx tg iter : Expr} {ifs : List Expr} {scope : Scope} {own : List (Str × Nat)} {pos spos : Pos} {wi : TI} {g : TG} {tt : TT} {tk tv : TE} (hc : X.calm = true) (hN : X.N.Nodup) (hy : X.N[i]? = some y) (hyl : X.env.scope.names.lookup y = some .local)
    (hsw : swapsWith (.DictComp kx vx [⟨tg, iter, ifs, 0⟩] scope pos) (some (.Name y py)) spos.line X.env = pure true) (hi : PI X tg iter wi) (ok : BlkOk X.N X.env.scope scope own)
    (hg : ∀ (s : Shared) (H : Hp) (C' : Addr) (cl : List (Str × Addr)) (fp : List Addr), PG (X.blk s H scope (compEnvC scope cl C' X.env) fp) tg g) (ht : ∀ (s : Shared) (H : Hp) (C' : Addr) (cl : List (Str × Addr)) (fp : List Addr), PTs (X.blk s H scope (compEnvC scope cl C' X.env) fp) ifs tt)
    (hk : ∀ (s : Shared) (H : Hp) (C' : Addr) (cl : List (Str × Addr)) (fp : List Addr), PE (X.blk s H scope (compEnvC scope cl C' X.env) fp) kx tk)
    (he : ∀ (s : Shared) (H : Hp) (C' : Addr) (cl : List (Str × Addr)) (fp : List Addr), PE (X.blk s H scope (compEnvC scope cl C' X.env) fp) vx tv) (hs : ∀ x, foldedSetIterable iter X.env x = pure x := by intro _; rfl) :
    PS X (.Assign [.Name y py] (.DictComp kx vx [⟨tg, iter, ifs, 0⟩] scope pos) spos) (tAsg (tDc wi g tt tk tv (own.map (·.2))) (gName i)) := by
  refine ⟨fun pins s σ H D I h => ?_⟩
  have h : tDc wi g tt tk tv (own.map (·.2)) σ H (fun x H1 => gName i x σ H1 D.nx) := h
  rw [exec_Assign_Name_used _ _ _ _ hsw]
  refine wpAny_bind (wpAny_standAt (wpAny_bind ?_))
  show wpAny _ X.A ((comprehension (.DictComp kx vx [⟨tg, iter, ifs, 0⟩] scope pos) scope X.env (firstIterPos [⟨tg, iter, ifs, 0⟩] pos) newDict false (eval iter X.env) (some (assign (.Name y py) X.env))) >>= _) _ _ s
  refine wpAny_bind (thn (dc_core (Qf := fun _ s' => SP X pins D .next s') hc hN I hi ok hg ht hk he hs h fun L Ca s' m H' I' q hn f => ?_) fun _ s' hq => wpAny_pure (wpAny_pure hq))
  show wpAny _ _ (assign (.Name y py) X.env (.ref L)) _ _ _
  obtain ⟨f0, f1, f2, f3, f4, f5⟩ := f
  refine wpAny_assign_Name (store_ok2 (v := V.ref L) I' hN hy (.inl hyl) rfl (fun s2 I2 ⟨a, sb, ha⟩ => ⟨m, hn.sameBut sb fun z => ?_, fun h3 sb3 => ⟨_, H', I2.turned (t' := s2.toks) (fun b o hb e => (sb3.2 b hb).trans e) f0 f1 f3 f4 f5, q⟩⟩) (.inr hyl))
  rcases ha with w | w
  · exact f1 (by rw [z, w])
  · exact f4 y a w z.symm
theorem sw_trueD {kx vx : Expr} {gs : List Comprehension} {scope : Scope} {pos py : Pos} {y : Str} {l : Nat} {env : Env} (hk : env.scope.kind = .function) (hy : env.scope.names.lookup y = some .local) (hl : (py.line == pos.line) = true)
    (ha : (scope.names.any fun (n, k) => n == y && (k == .local || k == .cell)) = false) : swapsWith (.DictComp kx vx gs scope pos) (some (.Name y py)) l env = pure true := by
  have k2 : env.kindOf y = some .local := hy
  have k1 : env.blockKind = .function := by unfold Env.blockKind; rw [hk]; rfl
  unfold swapsWith
  simp only [k1, k2, ha, Expr.pos, hl]
  rfl
end
end Pu
namespace Pu
open PySem L2 PyProof.Rows
section
variable {X : Cx} {T : List (Addr × Str)} {C : Ct} {e : Expr} {p : PP} {st : Stmt} {s : PS'} {t : Tgt} {vs : List Nat} {ps : PPA} {cond : PPT} {ke ve : PP}
/-- a dict comprehension, its dict as yet untold -/
theorem dc_own (hv : ∀ i ∈ t.slots, i ∈ vs) {σ : L2.St} {H : Hp} {Q : VK} {W : Wd} {ρ : PEnv} {R : PK} (g : Good X.K T C W σ H ρ) (w : pDc t vs ps cond ke ve ρ R)
    (k : ∀ (D : Addr) (H1 H2 : Hp) (W1 W2 : Wd) (acc : List (Key × PV)) (vacc : List (Key × V)), Ext W H W1 H1 → OkW T W1 H1 → H1 D = none → Ext W1 H1 W2 H2 → OkW T W2 H2 → W2.S D = none → ¬ W2.D D → ¬ W2.N D → H2 D = some (.dK vacc) → RepK X.K W2 acc vacc → R (.dic acc) → Q (.ref D) H2) :
    tDc (iUp X.K T C ps) (gT X.K t) (upT X.K T C.nox cond) (up X.K T C.nox ke) (up X.K T C.nox ve) vs σ H Q := by
  refine ⟨W, ρ, _, g, w, fun J H1 W1 ys e1 o1 sim hz h1 D hD => ?_⟩
  obtain ⟨hz2, h1⟩ := h1
  have g1 := g.to e1 o1
  refine ⟨fun i m H2 => m = ys.length - i ∧ i ≤ ys.length ∧ ∃ W2 acc vacc, Ext W1 H1 W2 H2 ∧ OkW T W2 H2 ∧ W2.S D = none ∧ ¬ W2.D D ∧ ¬ W2.N D ∧ H2 D = some (.dK vacc) ∧ RepK X.K W2 acc vacc ∧ acc.length ≤ i ∧ dcGo t cond ke ve (wipeP ρ vs) (ys.drop i) acc R, ⟨ys.length, rfl, Nat.zero_le _, W1, [], [], ?_⟩, ?_⟩
  · refine ⟨.new0 hD, o1.new0 hD, ?_, fun d => ?_, fun d => ?_, upd_same, .nil, Nat.le_refl _, ?_⟩
    · cases q : W1.S D with
      | none => rfl
      | some u =>
        have z := o1.sub _ _ q
        rw [hD] at z
        cases z
    · obtain ⟨_, _, _, z, _⟩ := o1.draw D d
      rw [hD] at z
      cases z
    · obtain ⟨_, _, z⟩ := o1.nLst D d
      rw [hD] at z
      cases z
    · rw [List.drop_zero]
      exact h1
  · rintro i m H2 ⟨rfl, hi, W2, acc, vacc, e2, o2, s1, s2, s3, hd, ra, hla, hgo⟩
    by_cases hlt : i < ys.length
    · rw [List.drop_eq_getElem_cons hlt] at hgo
      obtain ⟨_, hstep⟩ := sim i W2 H2 e2.le o2
      obtain ⟨hgoJ, hyld⟩ := hstep ys[i] (List.getElem?_eq_getElem hlt)
      refine .inr ⟨hgoJ, fun H' => i + 1 ≤ ys.length ∧ ∃ W2 acc vacc, Ext W1 H1 W2 H' ∧ OkW T W2 H' ∧ W2.S D = none ∧ ¬ W2.D D ∧ ¬ W2.N D ∧ H' D = some (.dK vacc) ∧ RepK X.K W2 acc vacc ∧ acc.length ≤ i + 1 ∧ dcGo t cond ke ve (wipeP ρ vs) (ys.drop (i + 1)) acc R, fun H' hN => ⟨ys.length - (i + 1), by omega, rfl, hN.1, hN.2⟩, fun x H3 hy => ?_⟩
      obtain ⟨W3, e3, o3, r3⟩ := hyld x H3 hy
      have e13 := e2.trans e3 o2
      have keepD : ∀ {W' H'}, Ext W2 H2 W' H' → W'.S D = none ∧ ¬ W'.D D ∧ ¬ W'.N D ∧ H' D = some (.dK vacc) := fun {W' H'} ee => by
        have q := RepS.ext (K := X.K) (B := fun _ => none) ee (sv := .ownD acc) (v := .ref D) ⟨D, vacc, rfl, .of rfl, s1, s2, s3, hd, ra⟩
        obtain ⟨a, vs', e, _, q1, q2, q3, q4, q5⟩ := q
        cases e
        exact ⟨q1, q2, q3, ee.keep D _ hd s2 (by intro ps z; cases z)⟩
      refine tgt_ok (T := T) (B := C.H) o3 ((g1.env.ext e13).wipe vs) r3 hgo fun σ' ρ' en wi hc => ⟨by rw [wi vs hv, wipe_wipe fun _ z => z], ?_⟩
      have gG : Good X.K T C.nox W3 σ' H3 ρ' := ⟨o3, en, (g1.nox.ext.trans e13 o1), fun _ _ _ _ _ _ _ _ z => z.elim⟩
      refine ⟨W3, ρ', _, gG, hc, fun b H4 W4 e4 o4 h4 => ?_⟩
      cases b with
      | false =>
        obtain ⟨q1, q2, q3, q4⟩ := keepD (e3.trans e4 o3)
        exact ⟨hlt, W4, acc, vacc, e13.trans e4 o3, o4, q1, q2, q3, q4, (ra.le e3.le).le e4.le, by omega, h4⟩
      | true =>
        refine ⟨W4, ρ', _, gG.to e4 o4, h4, fun y H5 W5 py e5 o5 r5 h5 => ?_⟩
        refine ⟨W5, ρ', _, (gG.to e4 o4).to e5 o5, h5, fun z H6 W6 pz e6 o6 r6 h6 => ?_⟩
        split at h6
        · rename_i kk hk
          obtain ⟨q1, q2, q3, q4⟩ := keepD (((e3.trans e4 o3).trans e5 o4).trans e6 o5)
          have ra6 := (((ra.le e3.le).le e4.le).le e5.le).le e6.le
          refine ⟨vacc, kk, keyP_rep r5 hk, q4, by rw [ra.length]; omega, hlt, W6, putP acc kk pz, putK vacc kk z, ?_, ?_, q1, q2, q3, upd_same, ra6.put r6, ?_, h6⟩
          · have e16 := ((e13.trans e4 o3).trans e5 o4).trans e6 o5
            exact ⟨e16.le, fun b o hb hd hn => by rw [upd_ne (ne_of_none hb hD)]; exact e16.keep b o hb hd hn, e16.newS, e16.newD, e16.newN⟩
          · refine o6.heap q1 q2 q3 fun u hu => ?_
            rw [q4] at hu
            cases hu
            exact ⟨(by intro ps z; cases z), (by intro q z; unfold LamX.CodeO at z; cases z)⟩
          · have := putP_len (kvs := acc) (k := kk) (v := pz)
            omega
        · exact h6.elim
    · have ei : i = ys.length := by omega
      subst ei
      rw [List.drop_length] at hgo
      exact .inl ⟨(sim ys.length W2 H2 e2.le o2).1 (Nat.le_refl _), k D H1 H2 W1 W2 acc vacc e1 o1 hD e2 o2 s1 s2 s3 hd ra hgo⟩
/-- x = {..}, x of one's own -/
def sDcO (i : Nat) (p : PP) : PS' := fun P ρ => p ρ fun x => match x with
  | .dic kvs => P.nx (ρ.set i (some (.ownD kvs)))
  | _ => False
section
variable {i : Nat} {y : Str} {py : Pos} {kx vx tg iter : Expr} {ifs : List Expr} {scope : Scope} {own : List (Str × Nat)} {pos spos : Pos}
theorem ls_setDcO (hc : X.calm = true) (hN : X.N.Nodup) (hy : X.N[i]? = some y) (hyl : X.env.scope.names.lookup y = some .local)
    (hsw : swapsWith (.DictComp kx vx [⟨tg, iter, ifs, 0⟩] scope pos) (some (.Name y py)) spos.line X.env = pure true) (hi : PI X tg iter (iUp X.K T C ps)) (ok : BlkOk X.N X.env.scope scope own) (hvs : own.map (·.2) = vs) (hv : ∀ i ∈ t.slots, i ∈ vs)
    (hg : ∀ (s : Shared) (H : Hp) (C' : Addr) (cl : List (Str × Addr)) (fp : List Addr), PG (X.blk s H scope (compEnvC scope cl C' X.env) fp) tg (gT X.K t)) (ht : ∀ (s : Shared) (H : Hp) (C' : Addr) (cl : List (Str × Addr)) (fp : List Addr), PTs (X.blk s H scope (compEnvC scope cl C' X.env) fp) ifs (upT X.K T C.nox cond))
    (hk : ∀ (s : Shared) (H : Hp) (C' : Addr) (cl : List (Str × Addr)) (fp : List Addr), PE (X.blk s H scope (compEnvC scope cl C' X.env) fp) kx (up X.K T C.nox ke))
    (he : ∀ (s : Shared) (H : Hp) (C' : Addr) (cl : List (Str × Addr)) (fp : List Addr), PE (X.blk s H scope (compEnvC scope cl C' X.env) fp) vx (up X.K T C.nox ve)) (hs : ∀ x, foldedSetIterable iter X.env x = pure x := by intro _; rfl) :
    PS X (.Assign [.Name y py] (.DictComp kx vx [⟨tg, iter, ifs, 0⟩] scope pos) spos) (upS X.K T C (sDcO i (pDc t vs ps cond ke ve))) := by
  subst hvs
  refine PS.weak (ps_setDc hc hN hy hyl hsw hi ok hg ht hk he hs) fun D σ H ⟨W, ρ, P, g, w, d⟩ => ?_
  refine dc_own hv g w fun A H1 H2 W1 W2 acc vacc e1 o1 hA e2 o2 s1 s2 s3 hd ra h => ?_
  have g1 := g.to e1 o1
  have g2 := g1.to e2 o2
  have rS : RepS X.K C.H W2 H2 (.ownD acc) (.ref A) := ⟨A, vacc, rfl, g1.ext.fr g1.ok (.of hA), s1, s2, s3, hd, ra⟩
  refine d.nx W2 _ H2 _ (e1.le.trans e2.le) (g2.envTo (g2.env.setOwn rS fun j sj hj h1 o1' z => ?_)) h
  obtain ⟨v, h2, h3⟩ := g1.env.at_ j sj h1
  rw [z] at h2
  cases h2
  obtain ⟨b, o, e, h4, _⟩ := own_ref h3 o1'
  cases e
  rw [hA] at h4
  cases h4
theorem ls_setDc (hc : X.calm = true) (hN : X.N.Nodup) (hy : X.N[i]? = some y) (hyl : X.env.scope.names.lookup y = some .local)
    (hsw : swapsWith (.DictComp kx vx [⟨tg, iter, ifs, 0⟩] scope pos) (some (.Name y py)) spos.line X.env = pure true) (hi : PI X tg iter (iUp X.K T C ps)) (ok : BlkOk X.N X.env.scope scope own) (hvs : own.map (·.2) = vs) (hv : ∀ i ∈ t.slots, i ∈ vs)
    (hg : ∀ (s : Shared) (H : Hp) (C' : Addr) (cl : List (Str × Addr)) (fp : List Addr), PG (X.blk s H scope (compEnvC scope cl C' X.env) fp) tg (gT X.K t)) (ht : ∀ (s : Shared) (H : Hp) (C' : Addr) (cl : List (Str × Addr)) (fp : List Addr), PTs (X.blk s H scope (compEnvC scope cl C' X.env) fp) ifs (upT X.K T C.nox cond))
    (hk : ∀ (s : Shared) (H : Hp) (C' : Addr) (cl : List (Str × Addr)) (fp : List Addr), PE (X.blk s H scope (compEnvC scope cl C' X.env) fp) kx (up X.K T C.nox ke))
    (he : ∀ (s : Shared) (H : Hp) (C' : Addr) (cl : List (Str × Addr)) (fp : List Addr), PE (X.blk s H scope (compEnvC scope cl C' X.env) fp) vx (up X.K T C.nox ve)) (hs : ∀ x, foldedSetIterable iter X.env x = pure x := by intro _; rfl) :
    PS X (.Assign [.Name y py] (.DictComp kx vx [⟨tg, iter, ifs, 0⟩] scope pos) spos) (upS X.K T C (sAsg (pDc t vs ps cond ke ve) (.nm i))) := by
  subst hvs
  exact PS.weak (ps_setDc hc hN hy hyl hsw hi ok hg ht hk he hs) (asg_lift (dc_lift hv))
end
theorem Good.mutD {K : PySem.W.Frag} {W : Wd} {σ : L2.St} {H : Hp} {ρ : PEnv} {i : Nat} {a : Addr} {xs ys : List (Key × PV)} {vs us : List (Key × V)} (g : Good K T C W σ H ρ) (h : gt ρ i = some (.ownD xs)) (hσ : σ[i]? = some (some (.ref a))) (ha : H a = some (.dK vs)) (r : RepK K W ys us) :
    Good K T C W σ (upd H a (.dK us)) (ρ.set i (some (.ownD ys))) := by
  have hρ := gt_get h
  obtain ⟨v, h1, h2⟩ := g.env.at_ i _ hρ
  rw [hσ] at h1
  cases h1
  obtain ⟨a', vs', e, q1, q2, q3, q4, q5, q6⟩ := h2
  cases e
  have ok : OkW T W (upd H a (.dK us)) := g.ok.heap q2 q3 q4 fun u hu => by
    rw [ha] at hu
    cases hu
    exact ⟨(by intro ps z; cases z), (by intro q z; unfold LamX.CodeO at z; cases z)⟩
  refine ⟨ok, ?_, ?_, g.exc⟩
  · have en : EnvR K C.H W (upd H a (.dK us)) σ (ρ.set i none) := by
      have key : ∀ (j : Nat) (sv : SV), (ρ.set i none)[j]? = some (some sv) → j ≠ i ∧ ρ[j]? = some (some sv) := fun j sv h => by
        by_cases e : i = j
        · subst e
          by_cases hl : i < ρ.length
          · rw [List.getElem?_set_self hl] at h
            cases h
          · rw [List.getElem?_eq_none (by simpa using hl)] at h
            cases h
        · rw [List.getElem?_set_ne e] at h
          exact ⟨fun z => e z.symm, h⟩
      refine ⟨by rw [List.length_set, g.env.len], fun j sv hj => ?_, fun j k sj sk u hjk h1 h2 o1 o2 e1 e2 => g.env.sep j k sj sk u hjk (key j sj h1).2 (key k sk h2).2 o1 o2 e1 e2⟩
      obtain ⟨hji, hj⟩ := key j sv hj
      obtain ⟨v, h1, h2⟩ := g.env.at_ j sv hj
      refine ⟨v, h1, ?_⟩
      cases sv with
      | val p => exact h2
      | lckD p => exact h2
      | own zs =>
        obtain ⟨b, us', e, z1, z2, z3, z4, z5, z6⟩ := h2
        have nb : b ≠ a := fun z => g.env.sep j i _ _ (.ref a) hji hj hρ rfl rfl (by rw [h1, e, z]) hσ
        exact ⟨b, us', e, z1, z2, z3, z4, by rw [upd_ne nb]; exact z5, z6⟩
      | ownD zs =>
        obtain ⟨b, us', e, z1, z2, z3, z4, z5, z6⟩ := h2
        have nb : b ≠ a := fun z => g.env.sep j i _ _ (.ref a) hji hj hρ rfl rfl (by rw [h1, e, z]) hσ
        exact ⟨b, us', e, z1, z2, z3, z4, by rw [upd_ne nb]; exact z5, z6⟩
    have r2 : RepS K C.H W (upd H a (.dK us)) (.ownD ys) (.ref a) := ⟨a, us, rfl, q1, q2, q3, q4, upd_same, r⟩
    have z := en.setOwn (i := i) r2 fun j sj hj h1 o1 e1 => by
      rw [List.getElem?_set_ne (fun z => hj z.symm)] at h1
      exact g.env.sep j i sj _ (.ref a) hj h1 hρ o1 rfl e1 hσ
    rw [List.set_set] at z
    have hl : i < σ.length := by
      rcases Nat.lt_or_ge i σ.length with z | z
      · exact z
      · rw [List.getElem?_eq_none z] at hσ
        cases hσ
    have es : σ.set i (some (.ref a)) = σ := by
      apply List.ext_getElem?
      intro k
      by_cases e : i = k
      · subst e
        rw [List.getElem?_set_self hl, hσ]
      · rw [List.getElem?_set_ne e]
    rw [es] at z
    exact z
  · have ex := g.ext
    exact ⟨ex.le, fun b o hb hd hn => by
      have nb : b ≠ a := fun z => q1.no (by rw [← z]; exact hb) hn
      rw [upd_ne nb]
      exact ex.keep b o hb hd hn, ex.newS, ex.newD, ex.newN⟩
/-- x.update(e) -/
def sUpd (i : Nat) (p : PP) : PS' := fun P ρ => match gt ρ i with
  | some (.ownD kvs) => p ρ fun x => match x with
    | .dic more => kvs.length + more.length ≤ 100000 ∧ P.nx (ρ.set i (some (.ownD (mergeP kvs more))))
    | _ => False
  | _ => False
theorem ls_upd {i : Nat} (h : PS X st (tDrop (tBM X.K "dict" rUpd (tVar i) (tCons (up X.K T C p) tNil)))) : PS X st (upS X.K T C (sUpd i p)) :=
  PS.weak h fun D σ H ⟨W, ρ, P, g, w, d⟩ => by
    unfold sUpd at w
    split at w
    · rename_i xs hx
      obtain ⟨v, h1, a, vs, rfl, q1, q2, q3, q4, q5, q6⟩ := g.env.at_ i _ (gt_get hx)
      refine ⟨_, h1, .inr (.inr (.inl ⟨rfl, .inl ⟨_, q5⟩⟩)), W, ρ, _, g, w, fun y H1 W1 py e1 o1 r1 h2 => ?_⟩
      split at h2
      · obtain ⟨hz, hn⟩ := h2
        cases r1 with
        | dic hq rl =>
          rename_i b ms
          have g1 := g.to e1 o1
          have q7 : H1 a = some (.dK vs) := e1.keep a _ q5 q3 (by intro ps z; cases z)
          have hne : a ≠ b := fun z => by
            have r1 := RepS.ext (K := X.K) (B := fun _ => none) e1 (sv := .ownD xs) (v := .ref a) ⟨a, vs, rfl, .of rfl, q2, q3, q4, q5, q6⟩
            obtain ⟨a', _, e, _, z1, _⟩ := r1
            cases e
            rw [z, hq] at z1
            cases z1
          refine ⟨a, b, vs, ms, rfl, rfl, q7, o1.sub _ _ hq, hne, ?_, d.nx W1 σ _ _ e1.le (g1.mutD hx h1 q7 (RepK.merge rl (q6.le e1.le))) hn⟩
          rw [q6.length, rl.length, sizeLine_eq]
          omega
      · exact h2.elim
    · exact w.elim
/-- from here on the dict stands still -/
def sFrzD (i : Nat) (s : PS') : PS' := fun P ρ => match gt ρ i with
  | some (.ownD xs) => s P (ρ.set i (some (.val (.dic xs))))
  | _ => False
theorem Good.freezeD {K : PySem.W.Frag} {W : Wd} {σ : L2.St} {H : Hp} {ρ : PEnv} {i : Nat} {xs : List (Key × PV)} (g : Good K T C W σ H ρ) (h : gt ρ i = some (.ownD xs)) : ∃ W', W.Le W' ∧ Good K T C W' σ H (ρ.set i (some (.val (.dic xs)))) := by
  have hρ := gt_get h
  obtain ⟨v, h1, a, vs, rfl, q1, q2, q3, q4, q5, q6⟩ := g.env.at_ i _ hρ
  have le : W.Le (W.add a (.dK vs)) := .add q2
  have ok := g.ok.track q5 q3 (by intro ps z; cases z)
  refine ⟨W.add a (.dK vs), le, ok, ⟨by rw [List.length_set, g.env.len], fun j sv hj => ?_, fun j k sj sk u hjk h2 h3 o1 o2 e1 e2 => ?_⟩, ⟨g.ext.le.trans le, g.ext.keep, fun b o hb => ?_, g.ext.newD, g.ext.newN⟩, g.exc⟩
  · rcases set_lt hj with ⟨ej, hl, es⟩ | ⟨hji, hj'⟩
    · subst ej es
      exact ⟨_, h1, .dic Wd.add_same (q6.le le)⟩
    · obtain ⟨u, h2, h3⟩ := g.env.at_ j sv hj'
      refine ⟨u, h2, ?_⟩
      have ne : ∀ b, sv.isOwn = true → u = .ref b → b ≠ a := fun b ho e z => g.env.sep j i _ _ (.ref a) hji hj' hρ ho rfl (by rw [h2, e, z]) h1
      cases sv with
      | val p => exact Rep.le le h3
      | lckD p =>
        obtain ⟨b, us, od, e, z1, z2⟩ := h3
        exact ⟨b, us, od, e, le.S _ _ z1, z2.le le⟩
      | own zs =>
        obtain ⟨b, us', e, z1, z2, z3, z4, z5, z6⟩ := h3
        exact ⟨b, us', e, z1, (upd_ne (H := W.S) (ne b rfl e)).trans z2, z3, z4, z5, z6.le le⟩
      | ownD zs =>
        obtain ⟨b, us', e, z1, z2, z3, z4, z5, z6⟩ := h3
        exact ⟨b, us', e, z1, (upd_ne (H := W.S) (ne b rfl e)).trans z2, z3, z4, z5, z6.le le⟩
  · rcases set_lt h2 with ⟨ej, hl, es⟩ | ⟨hj, h2'⟩
    · rw [es] at o1
      cases o1
    · rcases set_lt h3 with ⟨ek, hl2, es2⟩ | ⟨hk, h3'⟩
      · rw [es2] at o2
        cases o2
      · exact g.env.sep j k sj sk u hjk h2' h3' o1 o2 e1 e2
  · by_cases e : b = a
    · subst e
      exact .inr q1
    · exact g.ext.newS b o ((upd_ne (H := W.S) e).symm.trans hb)
theorem ls_frzD {i : Nat} (h : PS X st (upS X.K T C s)) : PS X st (upS X.K T C (sFrzD i s)) := PS.weak h fun D σ H ⟨W, ρ, P, g, w, d⟩ => by
  unfold sFrzD at w
  split at w
  · rename_i xs hx
    obtain ⟨W', le, g'⟩ := g.freezeD hx
    exact ⟨W', _, P, g', w, d.le le⟩
  · exact w.elim
end
end Pu

/-! The pure layer, part J: sum(lists, []). -/
namespace Pu
open PySem
section
variable {prog : Program} {w : World} {A : Around} {R : Result → Shared → Prop} {I : Addr} {fp wr : List Addr} {n : Nat} {P : Nat → Value → Prop} {St : Nat → Heap → Prop}
def LsAt (h : Heap) (l : Addr) (vs : List Value) : Prop := ∃ m, IsL h l vs.toArray m
theorem LsAt.keep {h h' : Heap} {l : Addr} {vs : List Value} (x : LsAt h l vs) (k : ∀ o, h.get? l = some o → h'.get? l = some o) : LsAt h' l vs := let ⟨m, e⟩ := x; ⟨m, k _ e⟩
theorem sumL_go (W : Walks prog w A.in1 I fp wr n P St) (b : Nat → Addr) (its : Nat → List Value) (hval : ∀ i v, P i v → v = .ref (b i)) (S : Addr) (hSf : S ∉ fp) (hb : ∀ i, i < n → b i ∉ wr ∧ b i ≠ S) (hws : ∀ x ∈ wr, x < S) : ∀ (k i : Nat) (s : Shared) (tot : Addr) (acc : List Value) (c : Nat),
    i + k = n → St i s.heap → IsL s.heap S #[.ref tot] c → (∀ j, j < n → LsAt s.heap (b j) (its j)) → LsAt s.heap tot acc → tot ∉ wr → tot ≠ S → acc.length + ((List.range' i k).flatMap its).length ≤ sizeLine →
    (∀ h' tk tot', (∀ x o, x ∉ wr → x ≠ S → s.heap.get? x = some o → h'.get? x = some o) → (k = 0 ∧ tot' = tot ∨ k ≠ 0 ∧ S < tot') → LsAt h' tot' (acc ++ (List.range' i k).flatMap its) → R (.ok (.ret (.ref tot'))) { s with heap := h', toks := tk }) →
    codeAny (model prog w) A (.builtin "sum.loop" ⟨[.ref I, .ref S, rawInt 2, rawInt 0], []⟩) R s := by
  have hSw : S ∉ wr := fun h => hSf (W.sub _ h)
  intro k
  induction k with
  | zero =>
    intro i s tot acc c hik hst hS hl ht htw hts hz hR
    obtain rfl : i = n := by omega
    refine codeAny_builtin F.entry_sum_loop ?_
    rw [Around.under_plainId F.plain_sum_loop _]
    show wpAny _ A.in1 (seqItems? (.ref S) >>= _) _ _ s
    refine wpAny_bind (wpAny_seqItems hS rfl ?_)
    show wpAny _ A.in1 (tryCatch (pyNext (.ref I)) _ >>= _) _ _ s
    refine wpAny_bind (wpAny_tryCatch (W.done s _ _ hst fun h' tk hk' => ?_))
    exact wpAny_pure (hR h' tk tot (fun x o hx _ e => hk' x o hx e) (.inl ⟨rfl, rfl⟩) (by
      rw [show acc ++ (List.range' i 0).flatMap its = acc from List.append_nil acc]
      exact ht.keep fun o e => hk' _ o htw e))
  | succ k ih =>
    intro i s tot acc c hik hst hS hl ht htw hts hz hR
    have hlt : i < n := by omega
    refine codeAny_builtin F.entry_sum_loop ?_
    rw [Around.under_plainId F.plain_sum_loop _]
    show wpAny _ A.in1 (seqItems? (.ref S) >>= _) _ _ s
    refine wpAny_bind (wpAny_seqItems hS rfl ?_)
    show wpAny _ A.in1 (tryCatch (pyNext (.ref I)) _ >>= _) _ _ s
    refine wpAny_bind (wpAny_tryCatch (W.item i s _ _ hlt hst fun v h1 tk hP st1 k1 => ?_))
    obtain rfl := hval i v hP
    have S1 := k1 S _ hSw hS
    have l1 : ∀ j, j < n → LsAt h1 (b j) (its j) := fun j hj => (hl j hj).keep fun o e => k1 _ o (hb j hj).1 e
    obtain ⟨m0, t1⟩ := ht.keep fun o e => k1 _ o htw e
    obtain ⟨m1, b1⟩ := l1 i hlt
    have er : (List.range' i (k + 1)).flatMap its = its i ++ (List.range' (i + 1) k).flatMap its := rfl
    rw [er, List.length_append] at hz
    show wpAny _ A.in1 ((holding [Value.ref (b i)] (binaryOp .Add (.ref tot) (.ref (b i)))).attempt >>= _) _ _ _
    refine wpAny_bind (wpAny_attempt (wpAny_holding (PySem.P.add_list t1 b1 ?_ (by rw [List.size_toArray, List.size_toArray]; omega))))
    have hSlt : S < h1.objs.size := Heap.lt_size S1
    have S2 := Heap.get?_push_of_some { cls := .type "list", data := .seq (acc.toArray ++ (its i).toArray) } S1
    show wpAny _ A.in1 (updateSeq S (fun _ => #[.ref h1.objs.size]) >>= _) _ _ _
    refine wpAny_bind (wpAny_updateSeq S2 rfl ?_)
    have S3 := Heap.get?_update_self (Obj.mapSeq fun _ => #[Value.ref h1.objs.size]) S2 rfl
    refine wpAny_bind (wpAny_letGo ?_)
    have S4 := Heap.get?_update_self (Obj.mapSeq fun _ => #[Value.ref h1.objs.size]) S3 rfl
    have keep : ∀ x o, x ≠ S → (h1.push { cls := .type "list", data := .seq (acc.toArray ++ (its i).toArray) }).get? x = some o → (((h1.push { cls := .type "list", data := .seq (acc.toArray ++ (its i).toArray) }).update S (Obj.mapSeq fun _ => #[Value.ref h1.objs.size])).update S (Obj.mapSeq fun _ => #[Value.ref h1.objs.size])).get? x = some o := fun x o hx e =>
      (Heap.get?_update_other _ _ (Ne.symm hx)).trans ((Heap.get?_update_other _ _ (Ne.symm hx)).trans e)
    have eA : acc.toArray ++ (its i).toArray = (acc ++ its i).toArray := by simp
    have new1 : (h1.push { cls := .type "list", data := .seq (acc.toArray ++ (its i).toArray) }).get? h1.objs.size = some { cls := .type "list", data := .seq (acc.toArray ++ (its i).toArray) } := Heap.get?_push_size _ rfl
    refine wpAny_bind (wpAny_updateSeq S3 rfl (wpAny_pure ⟨plainId_quiet F.plain_sum_loop _, ih (i + 1) _ h1.objs.size (acc ++ its i) _ (by omega) (W.frame _ _ _ st1 fun x hx o e => keep x o (fun z => hSf (by rw [← z]; exact hx)) (Heap.get?_push_of_some _ e)) S4
      (fun j hj => (l1 j hj).keep fun o e => keep _ o (hb j hj).2 (Heap.get?_push_of_some _ e)) ⟨0, (keep _ _ (Nat.ne_of_gt hSlt) new1).trans (by rw [eA])⟩ (fun z => ?_) (Nat.ne_of_gt hSlt) (by rw [List.length_append]; omega) fun h2 tk2 tot2 k2 hnew t2 => ?_⟩))
    · exact Nat.lt_asymm (hws _ z) hSlt
    · refine hR h2 tk2 tot2 (fun x o hx hxS e => k2 x o hx hxS (keep x o hxS (Heap.get?_push_of_some _ (k1 x o hx e)))) (.inr ⟨by omega, ?_⟩) (by rw [er, ← List.append_assoc]; exact t2)
      rcases hnew with ⟨_, rfl⟩ | ⟨_, z⟩
      · exact hSlt
      · exact z
end
section
variable {prog : Program} {w : World} {A : Around} {E : Value → Shared → Prop} {s : Shared}
theorem args_sum2 (a b : Value) : argsOk "sum" ⟨[a, b], []⟩ := by unfold argsOk; kernel_rfl
theorem sumL_call {l b : Addr} {bs : List Addr} {its : Nat → List Value} {Q : Value → Shared → Prop} (hh : A.handled = none) (hl : s.heap.IsList l ((bs.map Value.ref).toArray)) (hb : LsAt s.heap b []) (hi : ∀ (j : Nat) (a : Addr), bs[j]? = some a → LsAt s.heap a (its j))
    (hz : ((List.range' 0 bs.length).flatMap its).length ≤ sizeLine)
    (h : ∀ h' tk t', (∀ x o, s.heap.get? x = some o → h'.get? x = some o) → (bs = [] ∧ t' = b ∨ bs ≠ [] ∧ s.heap.objs.size ≤ t') → LsAt h' t' ((List.range' 0 bs.length).flatMap its) → Q (.ref t') { s with heap := h', toks := tk }) :
    wpAny (model prog w) A (call (.builtin "sum") [.ref l, .ref b]) Q E s := by
  have llt : l < s.heap.objs.size := by obtain ⟨_, e, _⟩ := hl; exact Heap.lt_size e
  obtain ⟨m0, hb0⟩ := hb
  have blt : b < s.heap.objs.size := Heap.lt_size hb0
  refine call_function_tree F.kind_sum F.plain_sum F.entry_sum (args_sum2 _ _) ?_
  unfold Builtin.«sum»
  simp only [List.length_cons, List.length_nil]
  rw [if_neg (by decide)]
  refine wpAny_bind (wpAny_of_eq (show Builtin.Builtins.bindParams "sum" ["start"] 0 ⟨[.ref b], []⟩ = pure [some (.ref b)] from rfl) ?_)
  refine wpAny_bind (wpAny_pyIter_list hl ?_)
  have hb1 : (s.heap.push { cls := .type "list_iterator", data := .fields #[.ref l, .int 0 0] }).get? b = _ := Heap.get?_push_of_some _ hb0
  have ty : Shared.TypeIs { s with heap := s.heap.push { cls := .type "list_iterator", data := .fields #[.ref l, .int 0 0] } } (.ref b) "list" := ⟨_, hb1, rfl⟩
  refine wpAny_bind (wpAny_pure ?_)
  simp only [List.forIn_cons, List.forIn_nil]
  refine wpAny_bind (wpAny_bind (wpAny_bind (wpAny_isInstance (T := "list") (b := false) ty F.sub_list_str ?_)))
  simp only [Bool.false_eq_true, if_false]
  refine wpAny_pure (wpAny_bind (wpAny_bind (wpAny_isInstance (T := "list") (b := false) ty F.sub_list_bytes ?_)))
  simp only [Bool.false_eq_true, if_false]
  refine wpAny_pure (wpAny_bind (wpAny_bind (wpAny_isInstance (T := "list") (b := false) ty F.sub_list_bytearray ?_)))
  simp only [Bool.false_eq_true, if_false]
  refine wpAny_pure (wpAny_pure ?_)
  refine wpAny_bind (wpAny_newObj_type ?_)
  have sz : (s.heap.push { cls := .type "list_iterator", data := .fields #[.ref l, .int 0 0] }).objs.size = s.heap.objs.size + 1 := Heap.size_push ..
  have W := Walks.list (prog := prog) (w := w) (A := A.in1) hh s.heap.objs.size l (Nat.ne_of_lt llt) (bs.map Value.ref).toArray
  have en : (bs.map Value.ref).toArray.size = bs.length := by simp
  rw [en] at W
  have h2 : ∀ (x : Addr) (o : Obj), s.heap.get? x = some o → ((s.heap.push { cls := .type "list_iterator", data := .fields #[.ref l, .int 0 0] }).push { cls := .type "list", data := .seq #[.ref b] }).get? x = some o := fun x o e => Heap.get?_push_of_some _ (Heap.get?_push_of_some _ e)
  have lt2 : ∀ (j : Nat), j < bs.length → bs.getD j 0 < s.heap.objs.size := fun j hj => by
    obtain ⟨m, e⟩ := hi j (bs.getD j 0) (by simp [hj])
    exact Heap.lt_size e
  refine wpAny_pure ⟨plainId_quiet F.plain_sum_loop _, sumL_go W (fun j => bs.getD j 0) its (fun i v e => ?_) (s.heap.push { cls := .type "list_iterator", data := .fields #[.ref l, .int 0 0] }).objs.size (fun z => ?_) (fun i hin => ?_) (fun x hx => ?_) bs.length 0 _ b [] 0 (Nat.zero_add _) ⟨⟨_, Heap.get?_push_of_some _ (Heap.get?_push_size _ rfl), rfl, rfl⟩, (hl.push _).push _⟩ (Heap.get?_push_size _ rfl)
    (fun j hj => (hi j (bs.getD j 0) (by simp [hj])).keep fun o e => h2 _ o e) ⟨m0, h2 _ _ hb0⟩ (fun z => ?_) (fun z => ?_) (by simpa using hz) fun h' tk tot' k1 hnew t1 => ?_⟩
  · have e : ((bs.map Value.ref).toArray)[i]? = some v := e
    rw [List.getElem?_toArray, List.getElem?_map] at e
    cases e2 : bs[i]? with
    | none => rw [e2] at e; cases e
    | some a =>
      rw [e2] at e
      cases e
      simp [e2]
  · rw [sz] at z
    simp only [List.mem_cons, List.not_mem_nil, or_false] at z
    rcases z with z | z
    · exact Nat.succ_ne_self _ z
    · exact absurd llt (by rw [← z]; exact Nat.not_lt_of_le (Nat.le_succ _))
  · have := lt2 i hin
    rw [sz]
    simp only [List.mem_cons, List.not_mem_nil, or_false]
    exact ⟨Nat.ne_of_lt this, Nat.ne_of_lt (Nat.lt_succ_of_lt this)⟩
  · simp only [List.mem_cons, List.not_mem_nil, or_false] at hx
    rw [sz, hx]
    exact Nat.lt_succ_self _
  · simp only [List.mem_cons, List.not_mem_nil, or_false] at z
    exact Nat.ne_of_lt blt z
  · rw [sz] at z
    exact Nat.ne_of_lt (Nat.lt_succ_of_lt blt) z
  · refine h h' tk tot' (fun x o e => k1 x o ?_ ?_ (h2 x o e)) ?_ (by simpa using t1)
    · simp only [List.mem_cons, List.not_mem_nil, or_false]
      exact Nat.ne_of_lt (Heap.lt_size e)
    · rw [sz]
      exact Nat.ne_of_lt (Nat.lt_succ_of_lt (Heap.lt_size e))
    · rcases hnew with ⟨z, rfl⟩ | ⟨z, q⟩
      · exact .inl ⟨List.length_eq_zero_iff.mp z, rfl⟩
      · rw [sz] at q
        exact .inr ⟨fun y => z (by rw [y]; rfl), Nat.le_of_lt (Nat.lt_of_succ_lt q)⟩
end
end Pu
namespace Pu
open PySem L2 PyProof.Rows
section
variable {X : Cx} {T : List (Addr × Str)}
/-- sum(lists, []) -/
def rSumL : List V → Hp → VK → Prop := fun xs H Q => ∃ (a b : Addr) (ps : List (Addr × List V)), xs = [.ref a, .ref b] ∧ H a = some (.lst (ps.map fun p => .ref p.1)) ∧ H b = some (.lst []) ∧ (∀ p ∈ ps, H p.1 = some (.lst p.2)) ∧ (ps.flatMap (·.2)).length ≤ sizeLine ∧
  (ps = [] → Q (.ref b) H) ∧ (ps ≠ [] → ∀ p, H p = none → Q (.ref p) (upd H p (.lst (ps.flatMap (·.2)))))
theorem vals_refs : ∀ {ps : List (Addr × List V)} {vs : List Value}, Vals (ps.map fun p => V.ref p.1) vs → vs = (ps.map (·.1)).map Value.ref
  | [], _, .nil => rfl
  | _ :: _, _, .cons r t => by
    cases r
    rw [vals_refs t]
    rfl
theorem vals_flat : ∀ (ps : List (Addr × List V)) (its : Nat → List Value) (i : Nat), (∀ (j : Nat) (hj : j < ps.length), Vals ps[j].2 (its (i + j))) → Vals (ps.flatMap (·.2)) ((List.range' i ps.length).flatMap its)
  | [], _, _, _ => .nil
  | p :: ps, its, i, h => by
    have h0 := h 0 (Nat.zero_lt_succ _)
    have ih := vals_flat ps its (i + 1) fun j hj => by
      have z := h (j + 1) (Nat.succ_lt_succ hj)
      rw [show i + (j + 1) = i + 1 + j by omega] at z
      exact z
    exact Vals.append h0 ih
theorem cr_sumL (hc : X.calm = true) : CallR X (.builtin "sum") rSumL := by
  intro pins s σ H xs us Q I r ⟨a, b, ps, ex, ha, hb, hp, hz, q1, q2⟩
  subst ex
  obtain ⟨u1, u2, rfl, r1, r2⟩ := vals2 r
  cases r1
  cases r2
  obtain ⟨_, its, m, rv, hob⟩ := I.hok a _ ha
  obtain rfl := vals_refs rv
  obtain ⟨_, its2, m2, rv2, hob2⟩ := I.hok b _ hb
  cases rv2
  have each : ∀ p ∈ ps, ∃ vs, Vals p.2 vs ∧ LsAt s.heap p.1 vs := fun p hm => by
    obtain ⟨_, vs, m, rv, e⟩ := I.hok p.1 _ (hp p hm)
    exact ⟨vs, rv, m, e⟩
  obtain ⟨its, hits⟩ : ∃ its : Nat → List Value, ∀ (j : Nat) (hj : j < ps.length), Vals ps[j].2 (its j) ∧ LsAt s.heap ps[j].1 (its j) :=
    ⟨fun j => if h : j < ps.length then (each ps[j] (List.getElem_mem h)).choose else [], fun j hj => by
      simp only [dif_pos hj]
      exact (each ps[j] (List.getElem_mem hj)).choose_spec⟩
  have vf := vals_flat ps its 0 fun j hj => by
    rw [Nat.zero_add]
    exact (hits j hj).1
  have lf : ((List.range' 0 ps.length).flatMap its).length = (ps.flatMap (·.2)).length := vf.length.symm
  refine sumL_call (bs := ps.map (·.1)) (its := its) (I.ok.hd hc) ⟨_, hob, rfl, _, rfl⟩ ⟨_, hob2⟩ (fun j c e => ?_) (by rw [List.length_map, lf]; exact hz) fun h' tk t' k hn ht => ?_
  · rw [List.getElem?_map] at e
    cases e2 : ps[j]? with
    | none => rw [e2] at e; cases e
    | some p =>
      rw [e2] at e
      cases e
      obtain ⟨hj, rfl⟩ := List.getElem?_eq_some_iff.mp e2
      exact (hits j hj).2
  · rcases hn with ⟨hn, rfl⟩ | ⟨hn, hle⟩
    · exact ⟨.ref t', H, I.kept (t' := tk) k, rfl, q1 (List.map_eq_nil_iff.mp hn)⟩
    · obtain ⟨m3, e3⟩ := ht
      rw [List.length_map] at e3
      have ok : ObjOk X.prog X.w (upd H t' (.lst (ps.flatMap (·.2)))) h' t' (.lst (ps.flatMap (·.2))) := ⟨hz, _, m3, vf, e3⟩
      exact ⟨.ref t', _, I.laid (t' := tk) k hle ok, rfl, q2 (fun y => hn (by rw [y]; rfl)) t' (I.hok.fresh hle)⟩
/-- the lists' sum, pure -/
def lists? : List PV → Option (List (List PV))
  | [] => some []
  | .lst xs :: r => (lists? r).map (xs :: ·)
  | _ => none
def gSumL : PFC := fun xs R => match xs with
  | [.lst ys, .lst []] => ∃ ls, lists? ys = some ls ∧ ls.flatten.length ≤ 100000 ∧ R (.lst ls.flatten)
  | _ => False
theorem RepL.lists {K : PySem.W.Frag} {W : Wd} : ∀ {ys : List PV} {vs : List V} {ls : List (List PV)}, RepL K W ys vs → lists? ys = some ls → ∃ ps : List (Addr × List V), vs = ps.map (fun p => V.ref p.1) ∧ (∀ p ∈ ps, W.S p.1 = some (.lst p.2)) ∧ RepL K W ls.flatten (ps.flatMap (·.2)) ∧ ps.length = ls.length
  | _, _, _, .nil, h => by
    cases h
    exact ⟨[], rfl, fun p hp => (by cases hp), .nil, rfl⟩
  | x :: r, _, _, .cons rx t, h => by
    cases rx with
    | lst hq rl =>
      obtain ⟨ls, h1, rfl⟩ := Option.map_eq_some_iff.mp h
      obtain ⟨ps, rfl, h2, h3, h4⟩ := RepL.lists t h1
      exact ⟨(_, _) :: ps, rfl, fun p hp => by
        rcases List.mem_cons.mp hp with rfl | hp
        · exact hq
        · exact h2 p hp, rl.append h3, congrArg Nat.succ h4⟩
    | _ => cases h
def rSumA (K : PySem.W.Frag) : List V → Hp → VK → Prop := rSumL
theorem rc_sumL {K : PySem.W.Frag} : RC K T rSumL gSumL := by
  intro W H xs pxs R Q o rx h k
  unfold gSumL at h
  split at h
  · obtain ⟨ls, h1, h2, h3⟩ := h
    cases rx with
    | cons r1 r2 =>
      cases r2 with
      | cons r2 r3 =>
        cases r3
        cases r1 with
        | lst hq rl =>
          cases r2 with
          | lst hq2 rl2 =>
            cases rl2
            obtain ⟨ps, rfl, hps, rf, hl⟩ := rl.lists h1
            refine ⟨_, _, ps, rfl, o.sub _ _ hq, o.sub _ _ hq2, fun p hp => o.sub _ _ (hps p hp), ?_, fun e => ?_, fun e p hp => ?_⟩
            · rw [rf.length, PySem.sizeLine_eq]
              omega
            · subst e
              have e0 : ls = [] := List.length_eq_zero_iff.mp hl.symm
              subst e0
              exact k.now o (.lst hq2 .nil) h3
            · exact k.newL o rf h3 p hp
  · exact h.elim
end
end Pu
namespace Pu
open PySem L2 PyProof.Rows
section
variable {X : Cx} {T : List (Addr × Str)}
/-- k in d, k not in d -/
def rInD (neg : Bool) : R2 := fun x y H Q => ∃ (a : Addr) (kvs : List (Key × V)) (k : Key), y = .ref a ∧ H a = some (.dK kvs) ∧ x = kV k ∧ Q (.bl (if neg then !(kvs.any fun kv => decide (kv.1 = k)) else kvs.any fun kv => decide (kv.1 = k))) H
theorem valV_any {k : Key} : ∀ kvs : List (Key × V), (valV kvs k).isSome = kvs.any fun kv => decide (kv.1 = k)
  | [] => rfl
  | kv :: kvs => by
    have ih := valV_any (k := k) kvs
    unfold valV at ih ⊢
    rw [List.any_cons]
    by_cases e : kv.1 = k
    · simp [e]
    · rw [Option.isSome_map] at ih
      simp [e, ih]
theorem op_inD (hu : X.A.units + 1 < cLine) : OpR X (compareOp .In) (rInD false) := by
  intro pins s σ H x y v u Q I rx ry ⟨a, kvs, k, ey, ha, ex, q⟩
  subst ey
  cases ry
  refine d_in hu I (.inl ⟨kvs, k, .inl ha, ex, rfl⟩) rx fun s' I' => ⟨.bl _, H, I', rfl, ?_⟩
  rw [valV_any]
  exact q
theorem op_notInD (hu : X.A.units + 1 < cLine) : OpR X (compareOp .NotIn) (rInD true) := by
  intro pins s σ H x y v u Q I rx ry ⟨a, kvs, k, ey, ha, ex, q⟩
  subst ey
  cases ry
  refine d_notIn hu I (.inl ⟨kvs, k, .inl ha, ex, rfl⟩) rx fun s' I' => ⟨.bl _, H, I', rfl, ?_⟩
  rw [valV_any]
  exact q
def fInD (neg : Bool) : PF2 := fun x y R => match y, keyP x with
  | .dic kvs, some k => R (.bl (if neg then !(kvs.any fun kv => decide (kv.1 = k)) else kvs.any fun kv => decide (kv.1 = k)))
  | _, _ => False
theorem rb_inD {K : PySem.W.Frag} {neg : Bool} : RB K T (rInD neg) (fInD neg) := by
  intro W H x y px py R Q o rx ry h k
  unfold fInD at h
  split at h
  · rename_i kvs kk hk
    cases ry with
    | dic hq rl =>
      refine ⟨_, _, kk, rfl, o.sub _ _ hq, keyP_rep rx hk, ?_⟩
      rw [RepK.any rl]
      exact k.now o (.bl _) h
  · exact h.elim
end
end Pu

/-! The pure layer, part I: lists of one's own by comprehensions; pop(); {} of one's own, d[k] = v. -/
namespace Pu
open PySem L2 PyProof.Rows
section
variable {X : Cx} {T : List (Addr × Str)} {C : Ct} {e : Expr} {p q : PP} {st : Stmt} {s : PS'} {t : Tgt} {vs : List Nat} {ps : PPA} {cond : PPT} {elt : PP} {pos : Pos}
/-- a list comprehension, its list as yet untold -/
theorem lc_own (hv : ∀ i ∈ t.slots, i ∈ vs) {σ : L2.St} {H : Hp} {Q : VK} {W : Wd} {ρ : PEnv} {R : PK} (g : Good X.K T C W σ H ρ) (w : pLc t vs ps cond elt ρ R)
    (k : ∀ (D : Addr) (H1 H2 : Hp) (W1 W2 : Wd) (acc : List PV) (vacc : List V), Ext W H W1 H1 → OkW T W1 H1 → H1 D = none → Ext W1 H1 W2 H2 → OkW T W2 H2 → W2.S D = none → ¬ W2.D D → ¬ W2.N D → H2 D = some (.lst vacc) → RepL X.K W2 acc vacc → R (.lst acc) → Q (.ref D) H2) :
    tLc (iUp X.K T C ps) (gT X.K t) (upT X.K T C.nox cond) (up X.K T C.nox elt) vs σ H Q := by
  refine ⟨W, ρ, _, g, w, fun J H1 W1 ys e1 o1 sim hz h1 D hD => ?_⟩
  have g1 := g.to e1 o1
  refine ⟨fun i m H2 => m = ys.length - i ∧ i ≤ ys.length ∧ ∃ W2 acc vacc, Ext W1 H1 W2 H2 ∧ OkW T W2 H2 ∧ W2.S D = none ∧ ¬ W2.D D ∧ ¬ W2.N D ∧ H2 D = some (.lst vacc) ∧ RepL X.K W2 acc vacc ∧ acc.length ≤ i ∧ lcGo t cond elt (wipeP ρ vs) (ys.drop i) acc R, ⟨ys.length, rfl, Nat.zero_le _, W1, [], [], ?_⟩, ?_⟩
  · refine ⟨.new0 hD, o1.new0 hD, ?_, fun d => ?_, fun d => ?_, upd_same, .nil, Nat.le_refl _, ?_⟩
    · cases q : W1.S D with
      | none => rfl
      | some u =>
        have z := o1.sub _ _ q
        rw [hD] at z
        cases z
    · obtain ⟨_, _, _, z, _⟩ := o1.draw D d
      rw [hD] at z
      cases z
    · obtain ⟨_, _, z⟩ := o1.nLst D d
      rw [hD] at z
      cases z
    · rw [List.drop_zero]
      exact h1
  · rintro i m H2 ⟨rfl, hi, W2, acc, vacc, e2, o2, s1, s2, s3, hd, ra, hla, hgo⟩
    by_cases hlt : i < ys.length
    · rw [List.drop_eq_getElem_cons hlt] at hgo
      obtain ⟨_, hstep⟩ := sim i W2 H2 e2.le o2
      obtain ⟨hgoJ, hyld⟩ := hstep ys[i] (List.getElem?_eq_getElem hlt)
      refine .inr ⟨hgoJ, fun H' => i + 1 ≤ ys.length ∧ ∃ W2 acc vacc, Ext W1 H1 W2 H' ∧ OkW T W2 H' ∧ W2.S D = none ∧ ¬ W2.D D ∧ ¬ W2.N D ∧ H' D = some (.lst vacc) ∧ RepL X.K W2 acc vacc ∧ acc.length ≤ i + 1 ∧ lcGo t cond elt (wipeP ρ vs) (ys.drop (i + 1)) acc R, fun H' hN => ⟨ys.length - (i + 1), by omega, rfl, hN.1, hN.2⟩, fun x H3 hy => ?_⟩
      obtain ⟨W3, e3, o3, r3⟩ := hyld x H3 hy
      have e13 := e2.trans e3 o2
      have keepD : ∀ {W' H'}, Ext W2 H2 W' H' → W'.S D = none ∧ ¬ W'.D D ∧ ¬ W'.N D ∧ H' D = some (.lst vacc) := fun {W' H'} ee => by
        have q := RepS.ext (K := X.K) (B := fun _ => none) ee (sv := .own acc) (v := .ref D) ⟨D, vacc, rfl, .of rfl, s1, s2, s3, hd, ra⟩
        obtain ⟨a, vs', e, _, q1, q2, q3, q4, q5⟩ := q
        cases e
        exact ⟨q1, q2, q3, ee.keep D _ hd s2 (by intro ps z; cases z)⟩
      refine tgt_ok (T := T) (B := C.H) o3 ((g1.env.ext e13).wipe vs) r3 hgo fun σ' ρ' en wi hc => ⟨by rw [wi vs hv, wipe_wipe fun _ z => z], ?_⟩
      have gG : Good X.K T C.nox W3 σ' H3 ρ' := ⟨o3, en, (g1.nox.ext.trans e13 o1), fun _ _ _ _ _ _ _ _ z => z.elim⟩
      refine ⟨W3, ρ', _, gG, hc, fun b H4 W4 e4 o4 h4 => ?_⟩
      cases b with
      | false =>
        obtain ⟨q1, q2, q3, q4⟩ := keepD (e3.trans e4 o3)
        exact ⟨hlt, W4, acc, vacc, e13.trans e4 o3, o4, q1, q2, q3, q4, (ra.le e3.le).le e4.le, by omega, h4⟩
      | true =>
        refine ⟨W4, ρ', _, gG.to e4 o4, h4, fun y H5 W5 py e5 o5 r5 h5 => ?_⟩
        obtain ⟨q1, q2, q3, q4⟩ := keepD ((e3.trans e4 o3).trans e5 o4)
        have ra5 := ((ra.le e3.le).le e4.le).le e5.le
        refine ⟨vacc, q4, by rw [ra.length]; omega, hlt, W5, acc ++ [py], vacc ++ [y], ?_, ?_, q1, q2, q3, upd_same, ra5.append (.cons r5 .nil), ?_, h5⟩
        · have e15 := (e13.trans e4 o3).trans e5 o4
          exact ⟨e15.le, fun b o hb hd hn => by rw [upd_ne (ne_of_none hb hD)]; exact e15.keep b o hb hd hn, e15.newS, e15.newD, e15.newN⟩
        · refine o5.heap q1 q2 q3 fun u hu => ?_
          rw [q4] at hu
          cases hu
          exact ⟨(by intro ps z; cases z), (by intro q z; unfold LamX.CodeO at z; cases z)⟩
        · rw [List.length_append]
          simp
          omega
    · have ei : i = ys.length := by omega
      subst ei
      rw [List.drop_length] at hgo
      exact .inl ⟨(sim ys.length W2 H2 e2.le o2).1 (Nat.le_refl _), k D H1 H2 W1 W2 acc vacc e1 o1 hD e2 o2 s1 s2 s3 hd ra hgo⟩
/-- x = [..], x of one's own -/
def sLcO (i : Nat) (p : PP) : PS' := fun P ρ => p ρ fun x => match x with
  | .lst xs => P.nx (ρ.set i (some (.own xs)))
  | _ => False
theorem ls_setLcO {i : Nat} {y : Str} {py : Pos} {elt' tg iter : Expr} {ifs : List Expr} {scope : Scope} {own : List (Str × Nat)} {spos : Pos} (hc : X.calm = true) (hN : X.N.Nodup) (hy : X.N[i]? = some y) (hyl : X.env.scope.names.lookup y = some .local)
    (hsw : swapsWith (.ListComp elt' [⟨tg, iter, ifs, 0⟩] scope pos) (some (.Name y py)) spos.line X.env = pure true) (hi : PI X tg iter (iUp X.K T C ps)) (ok : BlkOk X.N X.env.scope scope own) (hvs : own.map (·.2) = vs) (hv : ∀ i ∈ t.slots, i ∈ vs)
    (hg : ∀ (s : Shared) (H : Hp) (C' : Addr) (cl : List (Str × Addr)) (fp : List Addr), PG (X.blk s H scope (compEnvC scope cl C' X.env) fp) tg (gT X.K t)) (ht : ∀ (s : Shared) (H : Hp) (C' : Addr) (cl : List (Str × Addr)) (fp : List Addr), PTs (X.blk s H scope (compEnvC scope cl C' X.env) fp) ifs (upT X.K T C.nox cond))
    (he : ∀ (s : Shared) (H : Hp) (C' : Addr) (cl : List (Str × Addr)) (fp : List Addr), PE (X.blk s H scope (compEnvC scope cl C' X.env) fp) elt' (up X.K T C.nox elt)) (hs : ∀ x, foldedSetIterable iter X.env x = pure x := by intro _; rfl) :
    PS X (.Assign [.Name y py] (.ListComp elt' [⟨tg, iter, ifs, 0⟩] scope pos) spos) (upS X.K T C (sLcO i (pLc t vs ps cond elt))) := by
  subst hvs
  refine PS.weak (ps_setLc hc hN hy hyl hsw hi ok hg ht he hs) fun D σ H ⟨W, ρ, P, g, w, d⟩ => ?_
  refine lc_own hv g w fun A H1 H2 W1 W2 acc vacc e1 o1 hA e2 o2 s1 s2 s3 hd ra h => ?_
  have g1 := g.to e1 o1
  have g2 := g1.to e2 o2
  have rS : RepS X.K C.H W2 H2 (.own acc) (.ref A) := ⟨A, vacc, rfl, g1.ext.fr g1.ok (.of hA), s1, s2, s3, hd, ra⟩
  refine d.nx W2 _ H2 _ (e1.le.trans e2.le) (g2.envTo (g2.env.setOwn rS fun j sj hj h1 o1' z => ?_)) h
  obtain ⟨v, h2, h3⟩ := g1.env.at_ j sj h1
  rw [z] at h2
  cases h2
  obtain ⟨b, o, e, h4, _⟩ := own_ref h3 o1'
  cases e
  rw [hA] at h4
  cases h4
/-- x.pop(), its value dropped -/
def sPopD (i : Nat) : PS' := fun P ρ => match gt ρ i with
  | some (.own xs) => xs ≠ [] ∧ P.nx (ρ.set i (some (.own xs.dropLast)))
  | _ => False
theorem ls_popD {i : Nat} (h : PS X st (tDrop (tBM0 X.K "list" rPop (tVar i)))) : PS X st (upS X.K T C (sPopD i)) := PS.weak h fun D σ H ⟨W, ρ, P, g, w, d⟩ => by
  unfold sPopD at w
  split at w
  · rename_i xs hx
    obtain ⟨hne, hn⟩ := w
    obtain ⟨v, h1, a, vs, rfl, q1, q2, q3, q4, q5, q6⟩ := g.env.at_ i _ (gt_get hx)
    obtain ⟨y, hy⟩ : ∃ y, xs.getLast? = some y := ⟨xs.getLast hne, List.getLast?_eq_some_getLast hne⟩
    rw [List.getLast?_eq_getElem?] at hy
    obtain ⟨u, h2, h3⟩ := q6.get hy
    refine ⟨_, h1, .inl ⟨rfl, _, .of q5⟩, a, vs, u, rfl, rfl, q5, by rw [q6.length]; exact h2, ?_⟩
    exact d.nx W _ _ _ (.refl W) (g.mut hx h1 q5 q6.dropLast) hn
  · exact w.elim
/-- x = {}, x of one's own -/
def sOwnD0 (i : Nat) : PS' := fun P ρ => P.nx (ρ.set i (some (.ownD [])))
theorem ls_ownD0 {i : Nat} {x : Str} {pos' pos2 : Pos} (hN : X.N.Nodup) (hi : X.N[i]? = some x) (hx : Loc X.env.scope x) (hs : swapsWith (.Dict [] [] pos2) (some (.Name x pos')) pos.line X.env = pure false := by rfl) (hf : X.fn x = true ∨ X.env.scope.names.lookup x = some .local := by first | exact .inl rfl | exact .inr rfl | assumption) :
    PS X (.Assign [.Name x pos'] (.Dict [] [] pos2) pos) (upS X.K T C (sOwnD0 i)) :=
  PS.weak (ps_set hN hi hx pe_dnewK hs hf) fun D σ H ⟨W, ρ, P, g, w, d⟩ A hA => by
    have ex : Ext W H W (upd H A (.dK [])) := .new0 hA
    have ok := g.ok.new0 (o := .dK []) hA
    have g1 := g.to ex ok
    have s1 : W.S A = none := by
      cases q : W.S A with
      | none => rfl
      | some u =>
        have z := g.ok.sub _ _ q
        rw [hA] at z
        cases z
    have s2 : ¬ W.D A := fun d => by
      obtain ⟨_, _, _, z, _⟩ := g.ok.draw A d
      rw [hA] at z
      cases z
    have s3 : ¬ W.N A := fun d => by
      obtain ⟨_, _, z⟩ := g.ok.nLst A d
      rw [hA] at z
      cases z
    have rS : RepS X.K C.H W (upd H A (.dK [])) (.ownD []) (.ref A) := ⟨A, [], rfl, g.ext.fr g.ok (.of hA), s1, s2, s3, upd_same, .nil⟩
    refine d.nx W _ _ _ (.refl W) (g1.envTo (g1.env.setOwn rS fun j sj hj h1 o1 z => ?_)) w
    obtain ⟨v, h2, h3⟩ := g.env.at_ j sj h1
    rw [z] at h2
    cases h2
    obtain ⟨b, o, e, h4, _⟩ := own_ref h3 o1
    cases e
    rw [hA] at h4
    cases h4
/-- x[k] = v, x a dict of one's own -/
def sPut (i : Nat) (p q : PP) : PS' := fun P ρ => match gt ρ i with
  | some (.ownD kvs) => p ρ fun y => q ρ fun kx => match keyP kx with
    | some k => kvs.length < 100000 ∧ P.nx (ρ.set i (some (.ownD (putP kvs k y))))
    | none => False
  | _ => False
theorem ls_put {i : Nat} (h : PS X st (sDPut (tVar i) (up X.K T C q) (up X.K T C p))) : PS X st (upS X.K T C (sPut i p q)) := PS.weak h fun D σ H ⟨W, ρ, P, g, w, d⟩ => by
  unfold sPut at w
  split at w
  · rename_i kvs hx
    obtain ⟨v, h1, a, us, rfl, q1, q2, q3, q4, q5, q6⟩ := g.env.at_ i _ (gt_get hx)
    refine ⟨W, ρ, _, g, w, fun y H1 W1 py e1 o1 r1 w1 => ?_⟩
    have g1 := g.to e1 o1
    refine ⟨_, h1, W1, ρ, _, g1, w1, fun kx H2 W2 pk e2 o2 r2 w2 => ?_⟩
    have g2 := g1.to e2 o2
    split at w2
    · rename_i kk hk
      obtain ⟨hz, hn⟩ := w2
      have q7 : H2 a = some (.dK us) := (e1.trans e2 o1).keep a _ q5 q3 (by intro ps z; cases z)
      refine ⟨a, _, rfl, .inl ⟨us, kk, q7, keyP_rep r2 hk, ?_, rfl⟩, d.nx W2 σ _ _ (e1.le.trans e2.le) (g2.mutD hx h1 q7 (((q6.le e1.le).le e2.le).put (r1.le e2.le))) hn⟩
      rw [q6.length]
      rw [sizeLine_eq]
      omega
    · exact w2.elim
  · exact w.elim
end
end Pu

/-! The pure layer, part O: values new or plain, stored together; lists of one's own read, set, extended; ranges down. -/
namespace Pu
open PySem L2 PyProof.Rows
abbrev PO := PEnv → (SV → Prop) → Prop
theorem EnvR.setSV {K : PySem.W.Frag} {B : Hp} {W : Wd} {H : Hp} {σ : L2.St} {ρ : PEnv} {i : Nat} {sv : SV} {v : V} (g : EnvR K B W H σ ρ) (r : RepS K B W H sv v)
    (hn : sv.isOwn = true → ∀ (j : Nat) (sj : SV), j ≠ i → ρ[j]? = some (some sj) → sj.isOwn = true → σ[j]? ≠ some (some v)) : EnvR K B W H (σ.set i (some v)) (ρ.set i (some sv)) := by
  cases sv with
  | val p => exact g.set r
  | lckD p => exact g.setN rfl r
  | own xs =>
    obtain ⟨a, vs, rfl, z⟩ := r
    exact g.setOwn (sv := .own xs) ⟨a, vs, rfl, z⟩ (hn rfl)
  | ownD xs =>
    obtain ⟨a, vs, rfl, z⟩ := r
    exact g.setOwn (sv := .ownD xs) ⟨a, vs, rfl, z⟩ (hn rfl)
section
variable {X : Cx} {T : List (Addr × Str)} {C : Ct} {e e2 : Expr} {es : List Expr} {p q : PP} {po qo ro : PO} {pa : PPA} {n : Nat} {st : Stmt} {s : PS'} {pos : Pos}
theorem own_far {W W1 : Wd} {H H1 : Hp} {σ : L2.St} {ρ : PEnv} (g : Good X.K T C W σ H ρ) {sv : SV} {v : V} (h : sv.isOwn = true) (r : RepS X.K C.H W1 H1 sv v) (hn : ∀ a, v = .ref a → H a = none) : ∀ (j : Nat) (sj : SV), ρ[j]? = some (some sj) → sj.isOwn = true → σ[j]? ≠ some (some v) := by
  intro j sj h1 o1 z
  obtain ⟨a, _, rfl, _⟩ := own_ref r h
  obtain ⟨u, h2, h3⟩ := g.env.at_ j sj h1
  rw [z] at h2
  cases h2
  obtain ⟨b, o, e, h4, _⟩ := own_ref h3 o1
  cases e
  rw [hn a rfl] at h4
  cases h4
/-- plain -/
def pVal (p : PP) : PO := fun ρ R => p ρ fun x => R (.val x)
/-- a new list's way into the world -/
theorem newO {W : Wd} {H : Hp} {σ : L2.St} {ρ : PEnv} (g : Good X.K T C W σ H ρ) {a : Addr} {xs : List PV} {vs : List V} (ha : H a = none) (r : RepL X.K W xs vs) : Ext W H W (upd H a (.lst vs)) ∧ OkW T W (upd H a (.lst vs)) ∧ RepS X.K C.H W (upd H a (.lst vs)) (.own xs) (.ref a) := by
  refine ⟨.new0 ha, g.ok.new0 (o := .lst vs) ha, a, vs, rfl, g.ext.fr g.ok (.of ha), ?_, fun d => ?_, fun d => ?_, upd_same, r⟩
  · cases q : W.S a with
    | none => rfl
    | some u =>
      have z := g.ok.sub _ _ q
      rw [ha] at z
      cases z
  · obtain ⟨_, _, _, z, _⟩ := g.ok.draw a d
    rw [ha] at z
    cases z
  · obtain ⟨_, _, z⟩ := g.ok.nLst a d
    rw [ha] at z
    cases z
/-- [x, ..], of one's own -/
def pOL (pa : PPA) : PO := fun ρ R => pa ρ fun xs => xs.length ≤ 100000 ∧ R (.own xs)
end
section
variable (K : PySem.W.Frag) (T : List (Addr × Str)) (C : Ct)
/-- new at the end: nothing stood there just before -/
def upN (p : PO) : TE := fun σ H Q => ∃ W ρ R, Good K T C W σ H ρ ∧ p ρ R ∧ ∀ v H0 H' W' sv, Ext W H W' H0 → Ext W' H0 W' H' → OkW T W' H0 → OkW T W' H' → RepS K C.H W' H' sv v → (sv.isOwn = true → ∀ a, v = .ref a → H0 a = none) → R sv → Q v H'
end
section
variable {X : Cx} {T : List (Addr × Str)} {C : Ct} {e e2 : Expr} {es : List Expr} {p q : PP} {po qo ro : PO} {pa : PPA} {n : Nat} {st : Stmt} {s : PS'} {pos : Pos}
theorem len_val (h : PE X e (up X.K T C p)) : PE X e (upN X.K T C (pVal p)) := PE.weak h fun σ H Q ⟨W, ρ, R, g, w, k⟩ => ⟨W, ρ, _, g, w, fun v H' W' x e' o' r' h' => k v H' H' W' (.val x) e' (.refl W' H') o' o' r' (fun z => by cases z) h'⟩
theorem len_lst (h : PA X es (upA X.K T C n pa)) : PE X (.List es pos) (upN X.K T C (pOL pa)) := PE.weak (pe_lst h) fun σ H Q ⟨W, ρ, R, g, w, k⟩ => ⟨W, ρ, _, g, w, fun vs H' W' xs e' o' r' hl h' => by
  obtain ⟨hz, hR⟩ := h'
  refine ⟨by rw [r'.length, sizeLine_eq]; omega, fun a ha => ?_⟩
  obtain ⟨n1, n2, n3⟩ := newO (g.to e' o') ha r'
  exact k _ H' _ W' _ e' n1 o' n2 n3 (fun _ b hb => by cases hb; exact ha) hR⟩
/-- the state behind a store -/
theorem Good.store {W W' : Wd} {H0 H' : Hp} {σ : L2.St} {ρ : PEnv} {i : Nat} {sv : SV} {v : V} (g : Good X.K T C W σ H0 ρ) (e : Ext W H0 W' H') (o : OkW T W' H') (r : RepS X.K C.H W' H' sv v) (hn : sv.isOwn = true → ∀ a, v = .ref a → H0 a = none) : Good X.K T C W' (σ.set i (some v)) H' (ρ.set i (some sv)) :=
  (g.to e o).envTo ((g.to e o).env.setSV r fun ho j sj _ h1 o1 => own_far g ho r (hn ho) j sj h1 o1)
/-- x = e, e new or plain -/
def sSetO (i : Nat) (po : PO) : PS' := fun P ρ => po ρ fun sv => P.nx (ρ.set i (some sv))
theorem ls_setO {i : Nat} {x : Str} {pos' : Pos} (hN : X.N.Nodup) (hi : X.N[i]? = some x) (hx : Loc X.env.scope x) (he : PE X e (upN X.K T C po)) (hs : swapsWith e (some (.Name x pos')) pos.line X.env = pure false := by rfl) (hf : X.fn x = true ∨ X.env.scope.names.lookup x = some .local := by first | exact .inl rfl | exact .inr rfl | assumption) :
    PS X (.Assign [.Name x pos'] e pos) (upS X.K T C (sSetO i po)) :=
  PS.weak (ps_set hN hi hx he hs hf) fun D σ H ⟨W, ρ, P, g, w, d⟩ => ⟨W, ρ, _, g, w, fun v H0 H' W' sv e1 e2 o1 o2 r hn h => d.nx W' _ H' _ e1.le ((g.to e1 o1).store e2 o2 r hn) h⟩
/-- x, y = e, e2, new or plain -/
def sPar2O (i j : Nat) (po qo : PO) : PS' := fun P ρ => po ρ fun s1 => qo ρ fun s2 => P.nx ((ρ.set i (some s1)).set j (some s2))
def sPar3O (i j l : Nat) (po qo ro : PO) : PS' := fun P ρ => po ρ fun s1 => qo ρ fun s2 => ro ρ fun s3 => P.nx (((ρ.set i (some s1)).set j (some s2)).set l (some s3))
/-- a value kept, new ones beside it -/
theorem apart {W1 W2 : Wd} {H1 H2 : Hp} {s1 s2 : SV} {v1 v2 : V} (r1 : RepS X.K C.H W1 H1 s1 v1) (r2 : RepS X.K C.H W2 H2 s2 v2) (o1 : s1.isOwn = true) (o2 : s2.isOwn = true) (hn : ∀ a, v2 = .ref a → H1 a = none) : v1 ≠ v2 := by
  obtain ⟨a, o, rfl, h1, _⟩ := own_ref r1 o1
  obtain ⟨b, _, rfl, _⟩ := own_ref r2 o2
  intro z
  cases z
  rw [hn a rfl] at h1
  cases h1
theorem set_get {σ : L2.St} {i j : Nat} {u v : V} (h : (σ.set i (some u))[j]? = some (some v)) : (j = i ∧ v = u) ∨ (j ≠ i ∧ σ[j]? = some (some v)) := by
  rcases set_lt h with ⟨a, _, b⟩ | ⟨a, b⟩
  · exact .inl ⟨a, b⟩
  · exact .inr ⟨a, b⟩
theorem ls_par2O {i j : Nat} {x y : Str} {px py pt : Pos} {kt k2 pt2} (hc : X.calm = true) (hN : X.N.Nodup) (hi : X.N[i]? = some x) (hj : X.N[j]? = some y) (hij : i ≠ j)
    (hx : X.env.scope.names.lookup x = some .local) (hy : X.env.scope.names.lookup y = some .local) (ha : PE X e (upN X.K T C po)) (hb : PE X e2 (upN X.K T C qo))
    (hw : swappedStores [.Tuple [.Name x px, .Name y py] kt pt] (.Tuple [e, e2] k2 pt2) X.env = pure (some [x, y]))
    (hs : swapsWithSole [.Tuple [.Name x px, .Name y py] kt pt] (.Tuple [e, e2] k2 pt2) pos.line X.env = pure false := by rfl)
    (h1 : starEach [e, e2] X.env = (false, eval e X.env) :: starEach [e2] X.env := by rfl) (h2 : starEach [e2] X.env = (false, eval e2 X.env) :: starEach [] X.env := by rfl) :
    PS X (.Assign [.Tuple [.Name x px, .Name y py] kt pt] (.Tuple [e, e2] k2 pt2) pos) (upS X.K T C (sPar2O i j po qo)) :=
  PS.weak (ps_par hc hN hi hj hij hx hy (pa_cons ha (pa_cons hb pa_nil h2) h1) hw hs) fun D σ H ⟨W, ρ, P, g, w, d⟩ => ⟨W, ρ, _, g, w, fun v1 H0 H1 W1 s1 e0 e1 o0 o1 r1 n1 w1 =>
    ⟨W1, ρ, _, (g.to e0 o0).to e1 o1, w1, fun v2 H2 H3 W3 s2 e2 e3 o2 o3 r2 n2 w2 => by
      have g1 := (g.to e0 o0).to e1 o1
      have g2 := g1.to e2 o2
      have g3 := g2.to e3 o3
      have r1c := RepS.ext e2 r1
      have a1 := g3.env.setSV (i := i) (RepS.ext e3 r1c) fun ho k sk _ h o => own_far (g.to e0 o0) ho r1 (n1 ho) k sk h o
      have a2 := a1.setSV (i := j) r2 fun ho k sk hk h o z => by
        rcases set_lt h with ⟨rfl, _, rfl⟩ | ⟨hki, h⟩
        · rcases set_get z with ⟨_, e⟩ | ⟨c, _⟩
          · exact apart r1c r2 o ho (n2 ho) e.symm
          · exact c rfl
        · rcases set_get z with ⟨c, _⟩ | ⟨_, z⟩
          · exact hki c
          · exact own_far g2 ho r2 (n2 ho) k sk h o z
      exact ⟨v1, v2, rfl, d.nx W3 _ H3 _ (((e0.le.trans e1.le).trans e2.le).trans e3.le) (g3.envTo a2) w2⟩⟩⟩
theorem ls_par3O {i j l : Nat} {e3 : Expr} {x y z : Str} {px py pz pt : Pos} {kt k2 pt2} (hc : X.calm = true) (hN : X.N.Nodup) (hi : X.N[i]? = some x) (hj : X.N[j]? = some y) (hl : X.N[l]? = some z) (hij : i ≠ j) (hil : i ≠ l) (hjl : j ≠ l)
    (hx : X.env.scope.names.lookup x = some .local) (hy : X.env.scope.names.lookup y = some .local) (hz : X.env.scope.names.lookup z = some .local) (ha : PE X e (upN X.K T C po)) (hb : PE X e2 (upN X.K T C qo)) (hd : PE X e3 (upN X.K T C ro))
    (hw : swappedStores [.Tuple [.Name x px, .Name y py, .Name z pz] kt pt] (.Tuple [e, e2, e3] k2 pt2) X.env = pure (some [x, y, z]))
    (hs : swapsWithSole [.Tuple [.Name x px, .Name y py, .Name z pz] kt pt] (.Tuple [e, e2, e3] k2 pt2) pos.line X.env = pure false := by rfl)
    (h1 : starEach [e, e2, e3] X.env = (false, eval e X.env) :: starEach [e2, e3] X.env := by rfl) (h2 : starEach [e2, e3] X.env = (false, eval e2 X.env) :: starEach [e3] X.env := by rfl) (h3 : starEach [e3] X.env = (false, eval e3 X.env) :: starEach [] X.env := by rfl) :
    PS X (.Assign [.Tuple [.Name x px, .Name y py, .Name z pz] kt pt] (.Tuple [e, e2, e3] k2 pt2) pos) (upS X.K T C (sPar3O i j l po qo ro)) :=
  PS.weak (ps_par3 hc hN hi hj hl hij hil hjl hx hy hz (pa_cons ha (pa_cons hb (pa_cons hd pa_nil h3) h2) h1) hw hs) fun D σ H ⟨W, ρ, P, g, w, d⟩ => ⟨W, ρ, _, g, w, fun v1 H0 H1 W1 s1 e0 e1 o0 o1 r1 n1 w1 =>
    ⟨W1, ρ, _, (g.to e0 o0).to e1 o1, w1, fun v2 H2 H3 W3 s2 e2 e3 o2 o3 r2 n2 w2 => ⟨W3, ρ, _, (((g.to e0 o0).to e1 o1).to e2 o2).to e3 o3, w2, fun v3 H4 H5 W5 s3 e4 e5 o4 o5 r3 n3 w3 => by
      have g1 := (g.to e0 o0).to e1 o1
      have g2 := g1.to e2 o2
      have g3 := g2.to e3 o3
      have g4 := g3.to e4 o4
      have g5 := g4.to e5 o5
      have r1c := RepS.ext e2 r1
      have r1d := RepS.ext e4 (RepS.ext e3 r1c)
      have r2d := RepS.ext e4 r2
      have a1 := g5.env.setSV (i := i) (RepS.ext e5 r1d) fun ho k sk _ h o => own_far (g.to e0 o0) ho r1 (n1 ho) k sk h o
      have a2 := a1.setSV (i := j) (RepS.ext e5 r2d) fun ho k sk hk h o z => by
        rcases set_lt h with ⟨rfl, _, rfl⟩ | ⟨hki, h⟩
        · rcases set_get z with ⟨_, e⟩ | ⟨c, _⟩
          · exact apart r1c r2 o ho (n2 ho) e.symm
          · exact c rfl
        · rcases set_get z with ⟨c, _⟩ | ⟨_, z⟩
          · exact hki c
          · exact own_far g2 ho r2 (n2 ho) k sk h o z
      have a3 := a2.setSV (i := l) r3 fun ho k sk hk h o z => by
        rcases set_lt h with ⟨rfl, _, rfl⟩ | ⟨hkj, h⟩
        · rcases set_get z with ⟨_, e⟩ | ⟨c, _⟩
          · exact apart r2d r3 o ho (n3 ho) e.symm
          · exact c rfl
        · rcases set_get z with ⟨c, _⟩ | ⟨_, z⟩
          · exact hkj c
          · rcases set_lt h with ⟨rfl, _, rfl⟩ | ⟨hki, h⟩
            · rcases set_get z with ⟨_, e⟩ | ⟨c, _⟩
              · exact apart r1d r3 o ho (n3 ho) e.symm
              · exact c rfl
            · rcases set_get z with ⟨c, _⟩ | ⟨_, z⟩
              · exact hki c
              · exact own_far g4 ho r3 (n3 ho) k sk h o z
      exact ⟨v1, v2, v3, rfl, d.nx W5 _ H5 _ (((((e0.le.trans e1.le).trans e2.le).trans e3.le).trans e4.le).trans e5.le) (g5.envTo a3) w3⟩⟩⟩⟩
/-- xs[i], xs of one's own -/
def pOwnIx (i : Nat) (q : PP) : PP := fun ρ R => match gt ρ i with
  | some (.own xs) => q ρ fun k => match k with
    | .int k => ∃ v, atI xs k = some v ∧ R v
    | _ => False
  | _ => False
theorem le_ownIx {i : Nat} {a b : Expr} (ha : PE X a (tVar i)) (hb : PE X b (up X.K T C q)) (hs : PlainIx b) : PE X (.Subscript a b pos) (up X.K T C (pOwnIx i q)) := PE.weak (pe_ix ix_list ha hb hs) fun σ H Q ⟨W, ρ, R, g, w, k⟩ => by
  unfold pOwnIx at w
  split at w
  · rename_i xs hx
    obtain ⟨v, h1, a, vs, rfl, q1, q2, q3, q4, q5, q6⟩ := g.env.at_ i _ (gt_get hx)
    refine ⟨_, h1, W, ρ, _, g, w, fun y H1 W1 py e1 o1 r1 h2 => ?_⟩
    split at h2
    · obtain ⟨u, hu, hR⟩ := h2
      cases r1
      obtain ⟨v, hv, rv⟩ := (q6.le e1.le).atI hu
      exact ⟨a, vs, _, v, rfl, rfl, .inl (.inl (e1.keep a _ q5 q3 (by intro ps z; cases z))), hv, k v H1 W1 u e1 o1 rv hR⟩
    · exact h2.elim
  · exact w.elim
/-- xs.extend(e) -/
def sExt (i : Nat) (p : PP) : PS' := fun P ρ => match gt ρ i with
  | some (.own xs) => p ρ fun y => match y with
    | .lst ys => xs.length + ys.length ≤ sizeLine ∧ P.nx (ρ.set i (some (.own (xs ++ ys))))
    | _ => False
  | _ => False
theorem ls_ext {i : Nat} (h : PS X st (tDrop (tBM X.K "list" rExtend (tVar i) (tCons (up X.K T C p) tNil)))) : PS X st (upS X.K T C (sExt i p)) :=
  PS.weak h fun D σ H ⟨W, ρ, P, g, w, d⟩ => by
    unfold sExt at w
    split at w
    · rename_i xs hx
      obtain ⟨v, h1, a, vs, rfl, q1, q2, q3, q4, q5, q6⟩ := g.env.at_ i _ (gt_get hx)
      refine ⟨_, h1, .inl ⟨rfl, _, .of q5⟩, W, ρ, _, g, w, fun y H1 W1 py e1 o1 r1 h2 => ?_⟩
      split at h2
      · obtain ⟨hz, hn⟩ := h2
        cases r1 with
        | lst hq rl =>
          have g1 := g.to e1 o1
          have q7 : H1 a = some (.lst vs) := e1.keep a _ q5 q3 (by intro ps z; cases z)
          refine ⟨a, _, vs, _, rfl, rfl, q7, o1.sub _ _ hq, by rw [q6.length, rl.length]; exact hz, ?_⟩
          exact d.nx W1 σ _ _ e1.le (g1.mut hx h1 q7 ((q6.le e1.le).append rl)) hn
      · exact h2.elim
    · exact w.elim
/-- xs[k] = v, xs of one's own -/
def sPutL (i : Nat) (p q : PP) : PS' := fun P ρ => match gt ρ i with
  | some (.own xs) => p ρ fun y => q ρ fun k => match k with
    | .int k => ∃ j, ixN xs.length k = some j ∧ P.nx (ρ.set i (some (.own (xs.set j y))))
    | _ => False
  | _ => False
theorem RepL.setAt {K : PySem.W.Frag} {W : Wd} {y : PV} {u : V} (r : Rep K W y u) : ∀ {xs : List PV} {vs : List V} (j : Nat), RepL K W xs vs → RepL K W (xs.set j y) (vs.set j u)
  | _, _, _, .nil => .nil
  | _, _, 0, .cons _ t => .cons r t
  | _, _, j + 1, .cons h t => .cons h (RepL.setAt r j t)
theorem ls_putL {i : Nat} (h : PS X st (tAsg (up X.K T C p) (gSub (tVar i) (up X.K T C q) rSetL))) : PS X st (upS X.K T C (sPutL i p q)) := PS.weak h fun D σ H ⟨W, ρ, P, g, w, d⟩ => by
  unfold sPutL at w
  split at w
  · rename_i xs hx
    obtain ⟨v, h1, a, vs, rfl, q1, q2, q3, q4, q5, q6⟩ := g.env.at_ i _ (gt_get hx)
    refine ⟨W, ρ, _, g, w, fun y H1 W1 py e1 o1 r1 w1 => ?_⟩
    have g1 := g.to e1 o1
    refine ⟨_, h1, W1, ρ, _, g1, w1, fun kx H2 W2 pk e2 o2 r2 w2 => ?_⟩
    have g2 := g1.to e2 o2
    split at w2
    · obtain ⟨j, hj, hn⟩ := w2
      cases r2
      have q7 : H2 a = some (.lst vs) := (e1.trans e2 o1).keep a _ q5 q3 (by intro ps z; cases z)
      exact ⟨a, vs, _, j, rfl, rfl, q7, by rw [q6.length]; exact hj, d.nx W2 σ _ _ (e1.le.trans e2.le) (g2.mut hx h1 q7 (RepL.setAt (r1.le e2.le) j ((q6.le e1.le).le e2.le))) hn⟩
    · exact w2.elim
  · exact w.elim
/-- range(i, j, -1) -/
def downP (i j : Int) : List PV := (List.range (i - j).toNat).map fun k : Nat => PV.int (i + k * (-1))
theorem sim_down {K : PySem.W.Frag} {W : Wd} {i j : Int} : ItSim K T (Itc i (-1) (i - j).toNat) (downP i j) W := fun k W1 H1 le o => by
  refine ⟨fun hi => by
    show (i - j).toNat ≤ k
    simpa only [downP, List.length_map, List.length_range] using hi, fun y hy => ?_⟩
  simp only [downP, List.getElem?_map, Option.map_eq_some_iff] at hy
  obtain ⟨m, h1, h2⟩ := hy
  have hm : m < (i - j).toNat ∧ m = k := by
    rw [List.getElem?_eq_some_iff] at h1
    obtain ⟨h3, h4⟩ := h1
    simp at h3 h4
    exact ⟨by omega, h4.symm⟩
  obtain ⟨hm, e⟩ := hm
  subst e
  refine ⟨hm, fun x H2 hx => ?_⟩
  obtain ⟨e, hx⟩ := hx
  subst e
  rw [hx, ← h2]
  exact ⟨W1, .refl _ _, o, .int _⟩
def iDown (pa : PPA) : PPA := fun ρ R => pa ρ fun xs => match xs with
  | [.int i, .int j, .int c] => (c = -1 ∧ -(2 ^ 62) ≤ i ∧ i < 2 ^ 62 ∧ -(2 ^ 62) ≤ j ∧ j < 2 ^ 62 ∧ i - j ≤ 16777216) ∧ R (downP i j)
  | _ => False
theorem li_down {tg a b c : Expr} {pp : Pos} (hg : Gl X "range") (hm : X.mg "range" = none) (ha : PA X [a, b, c] (upA X.K T C n pa))
    (hs : starEach [a, b, c] X.env = (false, eval a X.env) :: starEach [b, c] X.env := by rfl) (hpl : (backTo pos (starEach [b, c] X.env)).any (·.1) = false := by rfl) :
    PI X tg (.Call (.Name "range" pp) [a, b, c] [] pos) (iUp X.K T C (iDown pa)) :=
  PI.weak (pi_range3 hg hm ha hs hpl) fun σ H R ⟨W, ρ, Q, g, w, k⟩ => ⟨W, ρ, _, g, w, fun vs H1 W1 xs e1 o1 r1 hl h1 => by
    split at h1
    · rename_i i j c
      obtain ⟨⟨rfl, b1, b2, b3, b4, b5⟩, h1⟩ := h1
      cases r1 with
      | cons r2 r3 =>
        cases r3 with
        | cons r3 r4 =>
          cases r4 with
          | cons r4 r5 =>
            cases r5
            cases r2
            cases r3
            cases r4
            refine ⟨i, j, -1, _, rfl, RgC.neg b1 b2 b3 b4, k _ H1 W1 _ e1 o1 sim_down ?_ h1⟩
            rw [sizeLine_eq]
            simp only [downP, List.length_map, List.length_range]
            omega
    · exact h1.elim⟩
/-- [x, ..] * n, of one's own -/
def pOMul (pa : PPA) (q : PP) : PO := fun ρ R => pa ρ fun xs => xs.length ≤ 100000 ∧ q ρ fun k => match k with
  | .int k => (-(2 ^ 62) ≤ k ∧ k < 2 ^ 62 ∧ xs.length * k.toNat ≤ sizeLine) ∧ R (.own (List.replicate k.toNat xs).flatten)
  | _ => False
theorem len_mul {pos2 : Pos} (h : PA X es (upA X.K T C n pa)) (h2 : PE X e2 (up X.K T C q)) : PE X (.BinOp (.List es pos2) .Mult e2 pos) (upN X.K T C (pOMul pa q)) :=
  PE.weak (pe_op op_rep (pe_lst h) h2) fun σ H Q ⟨W, ρ, R, g, w, k⟩ => ⟨W, ρ, _, g, w, fun vs H1 W1 xs e1 o1 r1 hl w1 => by
    obtain ⟨hz, w1⟩ := w1
    have g1 := g.to e1 o1
    refine ⟨by rw [r1.length, sizeLine_eq]; omega, fun a ha => ?_⟩
    have e2 := Ext.new (o := HO.lst vs) o1 ha
    have o2 := o1.new (o := HO.lst vs) ha (by intro ps z; cases z)
    refine ⟨W1.add a (.lst vs), ρ, _, g1.to e2 o2, w1, fun y H3 W3 py e3 o3 r3 h3 => ?_⟩
    split at h3
    · rename_i kk
      obtain ⟨⟨b1, b2, b3⟩, hR⟩ := h3
      cases r3
      have g3 := (g1.to e2 o2).to e3 o3
      have q : H3 a = some (.lst vs) := o3.sub _ _ (e3.le.S _ _ Wd.add_same)
      refine ⟨a, _, vs, rfl, rfl, q, by omega, by omega, by rw [r1.length]; exact b3, fun p hp => ?_⟩
      obtain ⟨n1, n2, n3⟩ := newO g3 hp (((r1.le e2.le).le e3.le).rep kk.toNat)
      exact k _ H3 _ W3 _ ((e1.trans e2 o1).trans e3 o2) n1 o3 n2 n3 (fun _ b hb => by cases hb; exact hp) hR
    · exact h3.elim⟩
end
end Pu
namespace Pu
open PySem L2 PyProof.Rows
/-! ### two generators -/
def lcIn (t1 : Tgt) (cond1 : PPT) (elt : PP) (ρ : PEnv) : List PV → List PV → (List PV → Prop) → Prop
  | [], acc, R => R acc
  | z :: zs, acc, R => tgt t1 z ρ fun ρ' => cond1 ρ' fun b => if b = true then elt ρ' fun v => acc.length < 100000 ∧ lcIn t1 cond1 elt ρ zs (acc ++ [v]) R else lcIn t1 cond1 elt ρ zs acc R
def lc2Go (t : Tgt) (cond : PPT) (ps1 : PPA) (t1 : Tgt) (vs1 : List Nat) (cond1 : PPT) (elt : PP) (ρ : PEnv) : List PV → List PV → PK → Prop
  | [], acc, R => R (.lst acc)
  | y :: ys, acc, R => tgt t y ρ fun ρ' => cond ρ' fun b => if b = true then ps1 ρ' fun zs => lcIn t1 cond1 elt (wipeP ρ' vs1) zs acc fun acc' => lc2Go t cond ps1 t1 vs1 cond1 elt ρ ys acc' R else lc2Go t cond ps1 t1 vs1 cond1 elt ρ ys acc R
def pLc2 (t : Tgt) (vs : List Nat) (ps : PPA) (cond : PPT) (ps1 : PPA) (t1 : Tgt) (vs1 : List Nat) (cond1 : PPT) (elt : PP) : PP := fun ρ R => ps ρ fun ys => lc2Go t cond ps1 t1 vs1 cond1 elt (wipeP ρ vs) ys [] R
section
variable {X : Cx} {T : List (Addr × Str)} {C : Ct} {pos : Pos} {t t1 : Tgt} {vs vs1 : List Nat} {ps ps1 : PPA} {cond cond1 : PPT} {elt : PP}
/-- the list that grows -/
def Grow (K : PySem.W.Frag) (T : List (Addr × Str)) (W1 : Wd) (H1 : Hp) (D : Addr) (W2 : Wd) (H2 : Hp) (acc : List PV) (vacc : List V) : Prop :=
  Ext W1 H1 W2 H2 ∧ OkW T W2 H2 ∧ W2.S D = none ∧ ¬ W2.D D ∧ ¬ W2.N D ∧ H2 D = some (.lst vacc) ∧ RepL K W2 acc vacc
theorem Grow.ext {K : PySem.W.Frag} {W1 W2 W3 : Wd} {H1 H2 H3 : Hp} {D : Addr} {acc : List PV} {vacc : List V} (g : Grow K T W1 H1 D W2 H2 acc vacc) (e : Ext W2 H2 W3 H3) (o : OkW T W3 H3) : Grow K T W1 H1 D W3 H3 acc vacc := by
  obtain ⟨e2, o2, s1, s2, s3, hd, ra⟩ := g
  have q := RepS.ext (K := K) (B := fun _ => none) e (sv := .own acc) (v := .ref D) ⟨D, vacc, rfl, .of rfl, s1, s2, s3, hd, ra⟩
  obtain ⟨a, vs', z, _, q1, q2, q3, q4, q5⟩ := q
  cases z
  exact ⟨e2.trans e o2, o, q1, q2, q3, e.keep D _ hd s2 (by intro ps z; cases z), ra.le e.le⟩
theorem Grow.app {K : PySem.W.Frag} {W1 W2 : Wd} {H1 H2 : Hp} {D : Addr} {acc : List PV} {vacc : List V} {py : PV} {y : V} (g : Grow K T W1 H1 D W2 H2 acc vacc) (hD : H1 D = none) (r : Rep K W2 py y) : Grow K T W1 H1 D W2 (upd H2 D (.lst (vacc ++ [y]))) (acc ++ [py]) (vacc ++ [y]) := by
  obtain ⟨e2, o2, s1, s2, s3, hd, ra⟩ := g
  refine ⟨⟨e2.le, fun b o hb hd hn => by rw [upd_ne (ne_of_none hb hD)]; exact e2.keep b o hb hd hn, e2.newS, e2.newD, e2.newN⟩, o2.heap s1 s2 s3 fun u hu => ?_, s1, s2, s3, upd_same, ra.append (.cons r .nil)⟩
  rw [hd] at hu
  cases hu
  exact ⟨(by intro ps z; cases z), (by intro q z; unfold LamX.CodeO at z; cases z)⟩
theorem setAll_sub : ∀ (is : List Nat) (xs : List PV) {ρ : PEnv} {R : PEnv → Prop}, setAll is xs ρ R → setAll is xs ρ fun ρ' => R ρ' ∧ ∀ (j : Nat) (sj : SV), ρ'[j]? = some (some sj) → sj.isOwn = true → ρ[j]? = some (some sj)
  | [], [], ρ, R, h => ⟨h, fun _ _ z _ => z⟩
  | i :: is, x :: xs, ρ, R, h => by
    have z := setAll_sub is xs (ρ := ρ.set i (some (.val x))) (R := R) h
    refine setAll_mono is xs z fun ρ' ⟨h1, h2⟩ => ⟨h1, fun j sj e o => ?_⟩
    rcases set_lt (h2 j sj e o) with ⟨_, _, rfl⟩ | ⟨_, q⟩
    · cases o
    · exact q
  | [], _ :: _, _, _, h => h.elim
  | _ :: _, [], _, _, h => h.elim
where setAll_mono : ∀ (is : List Nat) (xs : List PV) {ρ : PEnv} {R R' : PEnv → Prop}, setAll is xs ρ R → (∀ ρ', R ρ' → R' ρ') → setAll is xs ρ R'
  | [], [], _, _, _, h, k => k _ h
  | i :: is, x :: xs, _, _, _, h, k => setAll_mono is xs h k
  | [], _ :: _, _, _, _, h, _ => h.elim
  | _ :: _, [], _, _, _, h, _ => h.elim
theorem tgt_sub {t : Tgt} {y : PV} {ρ : PEnv} {R : PEnv → Prop} (h : tgt t y ρ R) : tgt t y ρ fun ρ' => R ρ' ∧ ∀ (j : Nat) (sj : SV), ρ'[j]? = some (some sj) → sj.isOwn = true → ρ[j]? = some (some sj) := by
  cases t with
  | nm i =>
    refine ⟨h, fun j sj e o => ?_⟩
    rcases set_lt e with ⟨_, _, rfl⟩ | ⟨_, q⟩
    · cases o
    · exact q
  | tp is =>
    cases y with
    | tup xs => exact setAll_sub is xs h
    | _ => exact h.elim
theorem wipeP_sub : ∀ (vs : List Nat) {ρ : PEnv} {j : Nat} {sj : SV}, (wipeP ρ vs)[j]? = some (some sj) → j ∉ vs ∧ ρ[j]? = some (some sj)
  | [], _, _, _, h => ⟨by simp, h⟩
  | v :: vs, ρ, j, sj, h => by
    have h : ((wipeP ρ vs).set v none)[j]? = some (some sj) := h
    by_cases e : v = j
    · subst e
      by_cases hl : v < (wipeP ρ vs).length
      · rw [List.getElem?_set_self hl] at h
        cases h
      · rw [List.getElem?_eq_none (by simpa using hl)] at h
        cases h
    · rw [List.getElem?_set_ne e] at h
      obtain ⟨a, b⟩ := wipeP_sub vs h
      exact ⟨fun z => by
        rcases List.mem_cons.mp z with z | z
        · exact e z.symm
        · exact a z, b⟩
theorem wipe_get {σ : L2.St} {j : Nat} : ∀ {vs : List Nat}, j ∉ vs → (wipe σ vs)[j]? = σ[j]?
  | [], _ => rfl
  | v :: vs, h => by
    show ((wipe σ vs).set v none)[j]? = _
    rw [List.getElem?_set_ne (fun z => h (by rw [z]; exact List.mem_cons_self)), wipe_get fun z => h (List.mem_cons_of_mem _ z)]
/-- an environment of a block, later -/
theorem EnvR.later {K : PySem.W.Frag} {B : Hp} {W1 W3 W6 : Wd} {H1 H3 H6 : Hp} {σ σ' : L2.St} {ρ ρ' : PEnv} (g : EnvR K B W1 H1 σ ρ) (en : EnvR K B W3 H3 σ' ρ') (le : W3.Le W6) (x : Ext W1 H1 W6 H6)
    (own : ∀ (j : Nat) (sj : SV), ρ'[j]? = some (some sj) → sj.isOwn = true → ρ[j]? = some (some sj) ∧ σ'[j]? = σ[j]?) : EnvR K B W6 H6 σ' ρ' := by
  refine ⟨en.len, fun j sj h => ?_, en.sep⟩
  by_cases o : sj.isOwn = true
  · obtain ⟨h1, h2⟩ := own j sj h o
    obtain ⟨v, h3, h4⟩ := g.at_ j sj h1
    exact ⟨v, by rw [h2]; exact h3, RepS.ext x h4⟩
  · obtain ⟨v, h3, h4⟩ := en.at_ j sj h
    refine ⟨v, h3, ?_⟩
    cases sj with
    | val p => exact Rep.le le h4
    | lckD p =>
      obtain ⟨b, us, od, e, z1, z2⟩ := h4
      exact ⟨b, us, od, e, le.S _ _ z1, z2.le le⟩
    | own _ => exact absurd rfl o
    | ownD _ => exact absurd rfl o
theorem lc2_lift (hv : ∀ i ∈ t.slots, i ∈ vs) (hv1 : ∀ i ∈ t1.slots, i ∈ vs1) : ∀ σ H Q, up X.K T C (pLc2 t vs ps cond ps1 t1 vs1 cond1 elt) σ H Q →
    tLc2 (iUp X.K T C ps) (gT X.K t) (upT X.K T C.nox cond) (iUp X.K T C.nox ps1) (gT X.K t1) (upT X.K T C.nox cond1) (up X.K T C.nox elt) vs vs1 σ H Q := by
  intro σ H Q ⟨W, ρ, R, g, w, k⟩
  refine ⟨W, ρ, _, g, w, fun J H1 W1 ys e1 o1 sim hz h1 D hD => ?_⟩
  have g1 := g.to e1 o1
  have k1 := k.pre e1 o1
  have grow0 : Grow X.K T W1 H1 D W1 (upd H1 D (.lst [])) [] [] := by
    refine ⟨.new0 hD, o1.new0 hD, ?_, fun d => ?_, fun d => ?_, upd_same, .nil⟩
    · cases q : W1.S D with
      | none => rfl
      | some u =>
        have z := o1.sub _ _ q
        rw [hD] at z
        cases z
    · obtain ⟨_, _, _, z, _⟩ := o1.draw D d
      rw [hD] at z
      cases z
    · obtain ⟨_, _, z⟩ := o1.nLst D d
      rw [hD] at z
      cases z
  refine ⟨fun i m H2 => m = ys.length - i ∧ i ≤ ys.length ∧ ∃ W2 acc vacc, Grow X.K T W1 H1 D W2 H2 acc vacc ∧ lc2Go t cond ps1 t1 vs1 cond1 elt (wipeP ρ vs) (ys.drop i) acc R, ⟨ys.length, rfl, Nat.zero_le _, W1, [], [], grow0, by rw [List.drop_zero]; exact h1⟩, ?_⟩
  rintro i m H2 ⟨rfl, hi, W2, acc, vacc, gr, hgo⟩
  obtain ⟨e2, o2, _⟩ := id gr
  by_cases hlt : i < ys.length
  · rw [List.drop_eq_getElem_cons hlt] at hgo
    obtain ⟨_, hstep⟩ := sim i W2 H2 e2.le o2
    obtain ⟨hgoJ, hyld⟩ := hstep ys[i] (List.getElem?_eq_getElem hlt)
    refine .inr ⟨hgoJ, fun H' => i + 1 ≤ ys.length ∧ ∃ W2 acc vacc, Grow X.K T W1 H1 D W2 H' acc vacc ∧ lc2Go t cond ps1 t1 vs1 cond1 elt (wipeP ρ vs) (ys.drop (i + 1)) acc R, fun H' hN => ⟨ys.length - (i + 1), by omega, rfl, hN.1, hN.2⟩, fun x H3 hy => ?_⟩
    obtain ⟨W3, e3, o3, r3⟩ := hyld x H3 hy
    have e13 := e2.trans e3 o2
    refine tgt_ok (T := T) (B := C.H) o3 ((g1.env.ext e13).wipe vs) r3 (tgt_sub hgo) fun σ' ρ' en wi hc => ⟨by rw [wi vs hv, wipe_wipe fun _ z => z], ?_⟩
    obtain ⟨hc, hsub⟩ := hc
    have wv : wipe σ' vs = wipe σ vs := by rw [wi vs hv, wipe_wipe fun _ z => z]
    have hown : ∀ (j : Nat) (sj : SV), ρ'[j]? = some (some sj) → sj.isOwn = true → ρ[j]? = some (some sj) ∧ σ'[j]? = σ[j]? := fun j sj h o => by
      obtain ⟨a, b⟩ := wipeP_sub vs (hsub j sj h o)
      refine ⟨b, ?_⟩
      have this : (wipe σ' vs)[j]? = (wipe σ vs)[j]? := by rw [wv]
      rw [wipe_get a, wipe_get a] at this
      exact this
    have gG : Good X.K T C.nox W3 σ' H3 ρ' := ⟨o3, en, (g1.nox.ext.trans e13 o1), fun _ _ _ _ _ _ _ _ z => z.elim⟩
    refine ⟨W3, ρ', _, gG, hc, fun b H4 W4 e4 o4 h4 => ?_⟩
    have gr4 := (gr.ext e3 o3).ext e4 o4
    cases b with
    | false => exact ⟨hlt, W4, acc, vacc, gr4, h4⟩
    | true =>
      refine ⟨W4, ρ', _, gG.to e4 o4, h4, fun J1 H5 W5 zs e5 o5 sim1 hz1 h5 => ?_⟩
      have gr5 := gr4.ext e5 o5
      refine ⟨fun j k H => k = zs.length - j ∧ j ≤ zs.length ∧ ∃ W6 acc vacc, Grow X.K T W1 H1 D W6 H acc vacc ∧ W5.Le W6 ∧ lcIn t1 cond1 elt (wipeP ρ' vs1) (zs.drop j) acc fun acc' => lc2Go t cond ps1 t1 vs1 cond1 elt (wipeP ρ vs) (ys.drop (i + 1)) acc' R,
        ⟨zs.length, rfl, Nat.zero_le _, W5, acc, vacc, gr5, .refl _, by rw [List.drop_zero]; exact h5⟩, ?_⟩
      rintro j k H6 ⟨rfl, hj, W6, acc6, vacc6, gr6, x56, hin⟩
      obtain ⟨_, o6, _⟩ := id gr6
      by_cases hlj : j < zs.length
      · rw [List.drop_eq_getElem_cons hlj] at hin
        obtain ⟨_, hstep1⟩ := sim1 j W6 H6 x56 o6
        obtain ⟨hgoJ1, hyld1⟩ := hstep1 zs[j] (List.getElem?_eq_getElem hlj)
        refine .inr ⟨hgoJ1, fun H' => j + 1 ≤ zs.length ∧ ∃ W6 acc vacc, Grow X.K T W1 H1 D W6 H' acc vacc ∧ W5.Le W6 ∧ lcIn t1 cond1 elt (wipeP ρ' vs1) (zs.drop (j + 1)) acc fun acc' => lc2Go t cond ps1 t1 vs1 cond1 elt (wipeP ρ vs) (ys.drop (i + 1)) acc' R, fun H' hN => ⟨zs.length - (j + 1), by omega, rfl, hN.1, hN.2⟩, fun x7 H7 hy7 => ?_⟩
        obtain ⟨W7, e7, o7, r7⟩ := hyld1 x7 H7 hy7
        have gr7 := gr6.ext e7 o7
        have en7 := g1.env.later en ((((e4.le.trans e5.le).trans x56).trans e7.le)) gr7.1 hown
        refine tgt_ok (T := T) (B := C.H) o7 (en7.wipe vs1) r7 hin fun σ8 ρ8 en8 wi8 hc8 => ⟨by rw [wi8 vs1 hv1, wipe_wipe fun _ z => z], ?_⟩
        have gG8 : Good X.K T C.nox W7 σ8 H7 ρ8 := ⟨o7, en8, g1.nox.ext.trans gr7.1 o1, fun _ _ _ _ _ _ _ _ z => z.elim⟩
        refine ⟨W7, ρ8, _, gG8, hc8, fun b H8 W8 e8 o8 h8 => ?_⟩
        have gr8 := gr7.ext e8 o8
        have x58 := (x56.trans e7.le).trans e8.le
        cases b with
        | false => exact ⟨hlj, W8, acc6, vacc6, gr8, x58, h8⟩
        | true =>
          refine ⟨W8, ρ8, _, gG8.to e8 o8, h8, fun y H9 W9 py e9 o9 r9 h9 => ?_⟩
          obtain ⟨hsz, h9⟩ := h9
          have gr9 := gr8.ext e9 o9
          obtain ⟨q1, q2, q3, q4, q5, q6, q7⟩ := id gr9
          exact ⟨vacc6, q6, by rw [q7.length, sizeLine_eq]; omega, hlj, W9, acc6 ++ [py], vacc6 ++ [y], gr9.app hD r9, x58.trans e9.le, h9⟩
      · have ej : j = zs.length := by omega
        subst ej
        rw [List.drop_length] at hin
        exact .inl ⟨(sim1 zs.length W6 H6 x56 o6).1 (Nat.le_refl _), hlt, W6, acc6, vacc6, gr6, hin⟩
  · have ei : i = ys.length := by omega
    subst ei
    rw [List.drop_length] at hgo
    obtain ⟨_, _, s1, s2, s3, hd, ra⟩ := gr
    refine .inl ⟨(sim ys.length W2 H2 e2.le o2).1 (Nat.le_refl _), ?_⟩
    have le2 : W2.Le (W2.add D (.lst vacc)) := .add s1
    refine k1 (.ref D) H2 (W2.add D (.lst vacc)) (.lst acc) ⟨e2.le.trans le2, e2.keep, fun b o hb => ?_, e2.newD, e2.newN⟩ (o2.track hd s2 (by intro ps z; cases z)) (.lst Wd.add_same (ra.le le2)) hgo
    by_cases e : b = D
    · subst e
      exact .inr (.of hD)
    · exact e2.newS b o ((upd_ne (H := W2.S) e).symm.trans hb)
theorem le_lc2 {elt' tg iter tg1 iter1 : Expr} {ifs ifs1 : List Expr} {scope : Scope} {own : List (Str × Nat)} (hc : X.calm = true) (hN : X.N.Nodup) (hi : PI X tg iter (iUp X.K T C ps)) (ok : BlkOk X.N X.env.scope scope own) (hvs : own.map (·.2) = vs) (hv : ∀ i ∈ t.slots, i ∈ vs) (hv1 : ∀ i ∈ t1.slots, i ∈ vs1) (hvv : ∀ i ∈ vs1, i ∈ vs)
    (hg : ∀ (s : Shared) (H : Hp) (C' : Addr) (cl : List (Str × Addr)) (fp : List Addr), PG (X.blk s H scope (compEnvC scope cl C' X.env) fp) tg (gT X.K t)) (ht : ∀ (s : Shared) (H : Hp) (C' : Addr) (cl : List (Str × Addr)) (fp : List Addr), PTs (X.blk s H scope (compEnvC scope cl C' X.env) fp) ifs (upT X.K T C.nox cond))
    (hi1 : ∀ (s : Shared) (H : Hp) (C' : Addr) (cl : List (Str × Addr)) (fp : List Addr), PI (X.blk s H scope (compEnvC scope cl C' X.env) fp) tg1 iter1 (iUp X.K T C.nox ps1))
    (hg1 : ∀ (s : Shared) (H : Hp) (C' : Addr) (cl : List (Str × Addr)) (fp : List Addr), PG (X.blk s H scope (compEnvC scope cl C' X.env) fp) tg1 (gT X.K t1)) (ht1 : ∀ (s : Shared) (H : Hp) (C' : Addr) (cl : List (Str × Addr)) (fp : List Addr), PTs (X.blk s H scope (compEnvC scope cl C' X.env) fp) ifs1 (upT X.K T C.nox cond1))
    (he : ∀ (s : Shared) (H : Hp) (C' : Addr) (cl : List (Str × Addr)) (fp : List Addr), PE (X.blk s H scope (compEnvC scope cl C' X.env) fp) elt' (up X.K T C.nox elt)) (hs : ∀ x, foldedSetIterable iter X.env x = pure x := by intro _; rfl) (hs1 : ∀ env x, foldedSetIterable iter1 env x = pure x := by intro _ _; rfl) :
    PE X (.ListComp elt' [⟨tg, iter, ifs, 0⟩, ⟨tg1, iter1, ifs1, 0⟩] scope pos) (up X.K T C (pLc2 t vs ps cond ps1 t1 vs1 cond1 elt)) := by
  subst hvs
  exact PE.weak (pe_lc2 hc hN hi ok hvv hg ht hi1 hg1 ht1 he hs hs1) (lc2_lift hv hv1)
end
end Pu

/-! The pure layer, part Ca: dicts of one's own: made from pairs, locked and walked, read, popped; == {}; list(d.values()); tuples stored with a list of one's own. -/
namespace Pu
open PySem L2 PyProof.Rows
/-! ### a world without an address -/
def Wd.del (W : Wd) (d : Addr) : Wd := ⟨fun b => if b = d then none else W.S b, W.D, W.N⟩
theorem Wd.del_same {W : Wd} {d : Addr} : (W.del d).S d = none := if_pos rfl
theorem Wd.del_ne {W : Wd} {d b : Addr} (h : b ≠ d) : (W.del d).S b = W.S b := if_neg h
section
variable {K : PySem.W.Frag} {W : Wd} {d : Addr} {od : Obj} {us : List (Key × V)}
theorem del_rd (hd : W.S d = some (.frz od (.dK us))) {a : Addr} {u : HO} (hn : ∀ us', u ≠ .dK us') (hf : ∀ o u', u ≠ .frz o u') (h : Rd W.S a u) : Rd (W.del d).S a u := by
  by_cases e : a = d
  · subst e
    rcases h with h | ⟨o, h⟩
    · rw [hd] at h
      cases h
      exact absurd rfl (hf _ _)
    · rw [hd] at h
      cases h
      exact absurd rfl (hn us)
  · rcases h with h | ⟨o, h⟩
    · exact .inl ((Wd.del_ne e).trans h)
    · exact .inr ⟨o, (Wd.del_ne e).trans h⟩
theorem del_sqT (hd : W.S d = some (.frz od (.dK us))) {a : Addr} {xs : List V} (h : SqT K W.S a xs) : SqT K (W.del d).S a xs := by
  rcases h with h | h
  · exact .inl (del_rd hd (by intro _ z; cases z) (by intro _ _ z; cases z) h)
  · exact .inr h
theorem del_sqL (hd : W.S d = some (.frz od (.dK us))) {a : Addr} {xs : List V} (h : SqL K W.S a xs) : SqL K (W.del d).S a xs := by
  rcases h with h | h
  · exact .inl (del_rd hd (by intro _ z; cases z) (by intro _ _ z; cases z) h)
  · exact .inr h
theorem del_at (hd : W.S d = some (.frz od (.dK us))) {a : Addr} {o : HO} (hf : ∀ o' u', o ≠ .frz o' u') (h : W.S a = some o) : (W.del d).S a = some o := by
  rw [Wd.del_ne fun e => by
    subst e
    rw [hd] at h
    cases h
    exact absurd rfl (hf _ _)]
  exact h
mutual
theorem Rep.del (hd : W.S d = some (.frz od (.dK us))) : ∀ {x : PV} {v : V}, Rep K W x v → Rep K (W.del d) x v
  | _, _, .non => .non
  | _, _, .bl b => .bl b
  | _, _, .int i => .int i
  | _, _, .str x => .str x
  | _, _, .tup h r => .tup (del_sqT hd h) (RepL.del hd r)
  | _, _, .lst h r => .lst (del_at hd (by intro _ _ z; cases z) h) (RepL.del hd r)
  | _, _, .dic h r => .dic (del_at hd (by intro _ _ z; cases z) h) (RepK.del hd r)
  | _, _, .scr h => .scr (del_sqL hd h)
  | _, _, .drw h => .drw h
  | _, _, .cel h => .cel h
  | _, _, .exc h => .exc (del_at hd (by intro _ _ z; unfold ExV at z; cases z) h)
  | _, _, .excD h0 h h2 r => .excD h0 (del_at hd (by intro _ _ z; unfold ExV at z; cases z) h) (del_at hd (by intro _ _ z; cases z) h2) (RepF.del hd r)
  | _, _, .ref a => .ref a
  | _, _, .ty n => .ty n
theorem RepL.del (hd : W.S d = some (.frz od (.dK us))) : ∀ {x : List PV} {v : List V}, RepL K W x v → RepL K (W.del d) x v
  | _, _, .nil => .nil
  | _, _, .cons h r => .cons (Rep.del hd h) (RepL.del hd r)
theorem RepK.del (hd : W.S d = some (.frz od (.dK us))) : ∀ {x : List (Key × PV)} {v : List (Key × V)}, RepK K W x v → RepK K (W.del d) x v
  | _, _, .nil => .nil
  | _, _, .cons h r => .cons (Rep.del hd h) (RepK.del hd r)
theorem RepF.del (hd : W.S d = some (.frz od (.dK us))) : ∀ {x : List (Str × PV)} {v : List (Str × V)}, RepF K W x v → RepF K (W.del d) x v
  | _, _, .nil => .nil
  | _, _, .cons h r => .cons (Rep.del hd h) (RepF.del hd r)
end
end
theorem OkW.del {T : List (Addr × Str)} {W : Wd} {H : Hp} (d : Addr) (o : OkW T W H) : OkW T (W.del d) H where
  sub := fun b u h => by
    by_cases e : b = d
    · subst e
      rw [Wd.del_same] at h
      cases h
    · rw [Wd.del_ne e] at h
      exact o.sub b u h
  not := fun b ps h => by
    by_cases e : b = d
    · subst e
      rw [Wd.del_same] at h
      cases h
    · rw [Wd.del_ne e] at h
      exact o.not b ps h
  dS := fun b h => by
    by_cases e : b = d
    · subst e
      exact Wd.del_same
    · rw [Wd.del_ne e]
      exact o.dS b h
  dN := o.dN
  draw := o.draw
  nLst := o.nLst
  tabs := o.tabs
section
variable {X : Cx} {T : List (Addr × Str)} {C : Ct} {e e2 : Expr} {es : List Expr} {p q : PP} {po qo ro : PO} {pa : PPA} {n : Nat} {st : Stmt} {s : PS'} {pos : Pos}
/-! ### locked -/
def pLock (i : Nat) (p : PP) : PP := fun ρ R => match gt ρ i with
  | some (.ownD kvs) => p (ρ.set i (some (.lckD kvs))) R
  | _ => False
theorem Good.lock {K : PySem.W.Frag} {W : Wd} {σ : L2.St} {H : Hp} {ρ : PEnv} {i : Nat} {a : Addr} {kvs : List (Key × PV)} {vs : List (Key × V)} (g : Good K T C W σ H ρ) (h : gt ρ i = some (.ownD kvs)) (hσ : σ[i]? = some (some (.ref a))) (od : Obj) (hH : H a = some (.dK vs)) (q1 : Fr C.H a) (q2 : W.S a = none) (q3 : ¬ W.D a) (q4 : ¬ W.N a) (r : RepK K W kvs vs) :
    Good K T C (W.add a (.frz od (.dK vs))) σ (upd H a (.frz od (.dK vs))) (ρ.set i (some (.lckD kvs))) := by
  have hρ := gt_get h
  have le : W.Le (W.add a (.frz od (.dK vs))) := .add q2
  have ok0 : OkW T W (upd H a (.frz od (.dK vs))) := g.ok.heap q2 q3 q4 fun u hu => by
    rw [hH] at hu
    cases hu
    exact ⟨(by intro ps z; cases z), (by intro q z; unfold LamX.CodeO at z; cases z)⟩
  have ok := ok0.track (o := .frz od (.dK vs)) upd_same q3 (by intro ps z; cases z)
  refine ⟨ok, ⟨by rw [List.length_set, g.env.len], fun j sv hj => ?_, fun j k sj sk u hjk h2 h3 o1 o2 e1 e2 => ?_⟩, ⟨g.ext.le.trans le, fun b o hb hD hn => ?_, fun b o hb => ?_, g.ext.newD, g.ext.newN⟩, g.exc⟩
  · rcases set_lt hj with ⟨ej, hl, es⟩ | ⟨hji, hj'⟩
    · subst ej es
      exact ⟨_, hσ, a, vs, od, rfl, Wd.add_same, r.le le⟩
    · obtain ⟨u, h2, h3⟩ := g.env.at_ j sv hj'
      refine ⟨u, h2, ?_⟩
      have ne : ∀ b, sv.isOwn = true → u = .ref b → b ≠ a := fun b ho e z => g.env.sep j i _ _ (.ref a) hji hj' hρ ho rfl (by rw [h2, e, z]) hσ
      cases sv with
      | val p => exact Rep.le le h3
      | lckD p =>
        obtain ⟨b, us, od', e, z1, z2⟩ := h3
        exact ⟨b, us, od', e, le.S _ _ z1, z2.le le⟩
      | own zs =>
        obtain ⟨b, us', e, z1, z2, z3, z4, z5, z6⟩ := h3
        exact ⟨b, us', e, z1, (upd_ne (H := W.S) (ne b rfl e)).trans z2, z3, z4, (upd_ne (ne b rfl e)).trans z5, z6.le le⟩
      | ownD zs =>
        obtain ⟨b, us', e, z1, z2, z3, z4, z5, z6⟩ := h3
        exact ⟨b, us', e, z1, (upd_ne (H := W.S) (ne b rfl e)).trans z2, z3, z4, (upd_ne (ne b rfl e)).trans z5, z6.le le⟩
  · rcases set_lt h2 with ⟨ej, hl, es⟩ | ⟨hj, h2'⟩
    · rw [es] at o1
      cases o1
    · rcases set_lt h3 with ⟨ek, hl2, es2⟩ | ⟨hk, h3'⟩
      · rw [es2] at o2
        cases o2
      · exact g.env.sep j k sj sk u hjk h2' h3' o1 o2 e1 e2
  · have nb : b ≠ a := fun z => q1.no (by rw [← z]; exact hb) hn
    rw [upd_ne nb]
    exact g.ext.keep b o hb hD hn
  · by_cases e : b = a
    · subst e
      exact .inr q1
    · exact g.ext.newS b o ((upd_ne (H := W.S) e).symm.trans hb)
theorem le_lock {i : Nat} (h : PE X e (up X.K T C p)) : PE X e (up X.K T C (pLock i p)) := PE.weak (pe_lock h) fun σ H Q ⟨W, ρ, R, g, w, k⟩ => by
  unfold pLock at w
  split at w
  · rename_i kvs hx
    obtain ⟨v, h1, a, vs, rfl, q1, q2, q3, q4, q5, q6⟩ := g.env.at_ i _ (gt_get hx)
    refine ⟨a, .dK vs, q5, trivial, fun od => ?_⟩
    refine ⟨W.add a (.frz od (.dK vs)), _, R, g.lock hx h1 od q5 q1 q2 q3 q4 q6, w, fun v H' W' x e' o' r' h' => ?_⟩
    have hd : W'.S a = some (.frz od (.dK vs)) := e'.le.S _ _ Wd.add_same
    have hH : H' a = some (.frz od (.dK vs)) := o'.sub _ _ hd
    have fr : ∀ b, Fr (upd H a (.frz od (.dK vs))) b → b ≠ a ∧ Fr H b := fun b f => by
      have ne : b ≠ a := fun z => by
        subst z
        exact f.no (o := .frz od (.dK vs)) upd_same (by intro ps z; cases z)
      exact ⟨ne, fun o ho => f o ((upd_ne ne).trans ho)⟩
    refine ⟨hH, k v _ (W'.del a) x ⟨⟨fun b o hb => ?_, e'.le.D, e'.le.N⟩, fun b o hb hD hn => ?_, fun b o hb => ?_, fun b hb => ?_, fun b hb => ?_⟩ ?_ (r'.del hd) h'⟩
    · have ne : b ≠ a := fun z => by
        subst z
        rw [q2] at hb
        cases hb
      rw [Wd.del_ne ne]
      exact e'.le.S _ _ ((upd_ne (H := W.S) ne).trans hb)
    · by_cases e : b = a
      · subst e
        rw [q5] at hb
        cases hb
        exact upd_same
      · rw [upd_ne e]
        exact e'.keep b o ((upd_ne e).trans hb) hD hn
    · have ne : b ≠ a := fun z => by
        subst z
        rw [Wd.del_same] at hb
        cases hb
      rw [Wd.del_ne ne] at hb
      rcases e'.newS b o hb with z | z
      · exact .inl ((upd_ne (H := W.S) ne).symm.trans z)
      · exact .inr (fr b z).2
    · rcases e'.newD b hb with z | z
      · exact .inl z
      · exact .inr (fr b z).2
    · rcases e'.newN b hb with z | z
      · exact .inl z
      · exact .inr (fr b z).2
    · refine (o'.del a).heap Wd.del_same (fun z => ?_) (fun z => ?_) fun u hu => ?_
      · have y := o'.dS a z
        rw [hd] at y
        cases y
      · obtain ⟨_, _, y⟩ := o'.nLst a z
        rw [hH] at y
        cases y
      · rw [hH] at hu
        cases hu
        exact ⟨(by intro ps z; cases z), (by intro q z; unfold LamX.CodeO at z; cases z)⟩
  · exact w.elim
def keyPV : Key → PV
  | .inl i => .int i
  | .inr x => .str x
theorem rep_key {K : PySem.W.Frag} {W : Wd} : ∀ k : Key, Rep K W (keyPV k) (kV k)
  | .inl i => .int i
  | .inr x => .str x
/-- the keys of a locked dict -/
def iKey (i : Nat) : PPA := fun ρ R => match gt ρ i with
  | some (.lckD kvs) => kvs.length ≤ 100000 ∧ R (kvs.map fun kv => keyPV kv.1)
  | _ => False
theorem li_keys {i : Nat} {tg : Expr} (h : PE X e (tVar i)) : PI X tg e (iUp X.K T C (iKey i)) := PI.weak (pi_keys h) fun σ H Q ⟨W, ρ, R, g, w, k⟩ => by
  unfold iKey at w
  split at w
  · rename_i kvs hx
    obtain ⟨hz, w⟩ := w
    obtain ⟨v, h1, a, vs, od, rfl, q1, q2⟩ := g.env.at_ i _ (gt_get hx)
    refine ⟨_, h1, a, od, rfl, .inl ⟨vs, g.ok.sub _ _ q1, k _ H W _ (.refl W H) g.ok (fun j W1 H1 le o1 => ⟨fun hj => ⟨o1.sub _ _ (le.S _ _ q1), ?_⟩, fun y hy => ?_⟩) ?_ w⟩⟩
    · rw [List.length_map] at hj
      rw [q2.length]
      exact hj
    · rw [List.getElem?_map] at hy
      obtain ⟨kv, h2, h3⟩ := Option.map_eq_some_iff.mp hy
      subst h3
      have hlt : j < kvs.length := (List.getElem?_eq_some_iff.mp h2).1
      refine ⟨⟨o1.sub _ _ (le.S _ _ q1), by rw [q2.length]; exact hlt⟩, fun x H2 ⟨eH, kk, vv, h4, h5⟩ => ?_⟩
      subst eH h5
      have ek : kk = kv.1 := by
        have z := congrArg (fun l => l[j]?) q2.keys
        simp only [List.getElem?_map, h4, h2, Option.map_some, Option.some.injEq] at z
        exact z
      subst ek
      exact ⟨W1, .refl W1 _, o1, rep_key kv.1⟩
    · rw [List.length_map, sizeLine_eq]
      omega
  · exact w.elim
def valP (kvs : List (Key × PV)) (k : Key) : Option PV := (kvs.find? fun kv => decide (kv.1 = k)).map (·.2)
theorem valP_pos {p : Key × PV} {r : List (Key × PV)} {k : Key} (e : p.1 = k) : valP (p :: r) k = some p.2 := by
  unfold valP
  rw [List.find?_cons_of_pos (by simp [e])]
  rfl
theorem valP_neg {p : Key × PV} {r : List (Key × PV)} {k : Key} (e : ¬ p.1 = k) : valP (p :: r) k = valP r k := by
  unfold valP
  rw [List.find?_cons_of_neg (by simp [e])]
theorem RepK.val {K : PySem.W.Frag} {W : Wd} {k : Key} : ∀ {x : List (Key × PV)} {v : List (Key × V)} {y : PV}, RepK K W x v → valP x k = some y → ∃ u, valV v k = some u ∧ Rep K W y u
  | _, _, _, .nil, h => by cases h
  | _, _, _, .cons (k := k2) r t, h => by
    by_cases e : k2 = k
    · rw [valP_pos e] at h
      cases h
      exact ⟨_, valV_pos e, r⟩
    · rw [valP_neg e] at h
      obtain ⟨u, h1, h2⟩ := RepK.val t h
      exact ⟨u, (valV_neg e).trans h1, h2⟩
/-- d[k], d locked -/
def pDIx (i : Nat) (q : PP) : PP := fun ρ R => match gt ρ i with
  | some (.lckD kvs) => q ρ fun kx => match keyP kx with
    | some k => ∃ y, valP kvs k = some y ∧ R y
    | none => False
  | _ => False
theorem le_dIx {i : Nat} (h : PE X e (tDGet (tVar i) (up X.K T C q))) : PE X e (up X.K T C (pDIx i q)) := PE.weak h fun σ H Q ⟨W, ρ, R, g, w, k⟩ => by
  unfold pDIx at w
  split at w
  · rename_i kvs hx
    obtain ⟨v, h1, a, vs, od, rfl, q1, q2⟩ := g.env.at_ i _ (gt_get hx)
    refine ⟨_, h1, W, ρ, _, g, w, fun kx H1 W1 pk e1 o1 r1 w1 => ?_⟩
    split at w1
    · rename_i kk hk
      obtain ⟨y, h2, h3⟩ := w1
      obtain ⟨u, h4, h5⟩ := RepK.val q2 h2
      exact ⟨a, u, rfl, .inl ⟨vs, kk, .inr ⟨od, o1.sub _ _ (e1.le.S _ _ q1)⟩, keyP_rep r1 hk, h4.symm⟩, k _ H1 W1 y e1 o1 (h5.le e1.le) h3⟩
    · exact w1.elim
  · exact w.elim
/-! ### dict([(k, v), ..]), of one's own -/
def pairs? : List PV → Option (List (Key × PV))
  | [] => some []
  | .tup [k, v] :: r => match keyP k with
    | some kk => (pairs? r).map ((kk, v) :: ·)
    | none => none
  | _ => none
theorem pairs_rep {K : PySem.W.Frag} {W : Wd} : ∀ {ys : List PV} {vs : List V} {kvs : List (Key × PV)}, RepL K W ys vs → pairs? ys = some kvs → ∃ (ps : List Addr) (us : List (Key × V)), vs = ps.map V.ref ∧ Paired (fun p kv => SqT K W.S p [kV kv.1, kv.2]) ps us ∧ RepK K W kvs us := by
  intro ys
  induction ys with
  | nil =>
    intro vs kvs r h
    cases r
    cases h
    exact ⟨[], [], rfl, .nil, .nil⟩
  | cons y ys ih =>
    intro vs kvs r h
    unfold pairs? at h
    split at h
    · rename_i e
      cases e
    · rename_i k v rest e
      cases e
      split at h
      · rename_i kk hk
        obtain ⟨ks, h1, h2⟩ := Option.map_eq_some_iff.mp h
        subst h2
        cases r with
        | cons r1 r2 =>
          obtain ⟨ps, us, e1, e2, e3⟩ := ih r2 h1
          cases r1 with
          | @tup _ a _ hq rl =>
            cases rl with
            | cons a1 a2 =>
              cases a2 with
              | cons b1 b2 =>
                cases b2
                have ek := keyP_rep a1 hk
                rw [ek] at hq
                exact ⟨a :: ps, (kk, _) :: us, by rw [e1]; rfl, .cons hq e2, .cons b1 e3⟩
      · cases h
    · cases h
def pODict (p : PP) : PO := fun ρ R => p ρ fun x => match x with
  | .lst ys => ∃ kvs, pairs? ys = some kvs ∧ R (.ownD (mergeP [] kvs))
  | _ => False
theorem newOD {W : Wd} {H : Hp} {σ : L2.St} {ρ : PEnv} (g : Good X.K T C W σ H ρ) {a : Addr} {xs : List (Key × PV)} {vs : List (Key × V)} (ha : H a = none) (r : RepK X.K W xs vs) : Ext W H W (upd H a (.dK vs)) ∧ OkW T W (upd H a (.dK vs)) ∧ RepS X.K C.H W (upd H a (.dK vs)) (.ownD xs) (.ref a) := by
  refine ⟨.new0 ha, g.ok.new0 (o := .dK vs) ha, a, vs, rfl, g.ext.fr g.ok (.of ha), ?_, fun d => ?_, fun d => ?_, upd_same, r⟩
  · cases q : W.S a with
    | none => rfl
    | some u =>
      have z := g.ok.sub _ _ q
      rw [ha] at z
      cases z
  · obtain ⟨_, _, _, z, _⟩ := g.ok.draw a d
    rw [ha] at z
    cases z
  · obtain ⟨_, _, z⟩ := g.ok.nLst a d
    rw [ha] at z
    cases z
theorem paired_mono {α β : Type} {F G : α → β → Prop} (h : ∀ a b, F a b → G a b) : ∀ {xs : List α} {ys : List β}, Paired F xs ys → Paired G xs ys
  | _, _, .nil => .nil
  | _, _, .cons a b => .cons (h _ _ a) (paired_mono h b)
theorem len_dict {pp : Pos} (hc : X.calm = true) (hg : Gl X "dict") (hm : X.mg "dict" = none) (ha : PE X e (up X.K T C p)) (he : starEach (e :: []) X.env = (false, eval e X.env) :: starEach [] X.env := by rfl) : PE X (.Call (.Name "dict" pp) [e] [] pos) (upN X.K T C (pODict p)) :=
  PE.weak (pe_callTy (call_dictP hc) hg hm (by decide +kernel) (pa_cons ha pa_nil he) (by decide) (by decide) he (by rfl)) fun σ H Q ⟨W, ρ, R, g, w, k⟩ => by
    refine ⟨W, ρ, _, g, w, fun v H1 W1 x e1 o1 r1 w1 => ?_⟩
    split at w1
    · obtain ⟨kvs, h1, h2⟩ := w1
      cases r1 with
      | lst hq rl =>
        obtain ⟨ps, us, e2, e3, e4⟩ := pairs_rep rl h1
        subst e2
        refine ⟨_, ps, us, rfl, .inl (.inl (o1.sub _ _ hq)), paired_mono (fun a b z => o1.tup z) e3, fun a ha => ?_⟩
        have r2 : RepK X.K W1 (mergeP [] kvs) (mergeK [] us) := RepK.merge e4 .nil
        obtain ⟨n1, n2, n3⟩ := newOD (g.to e1 o1) ha r2
        exact k _ H1 _ W1 _ e1 n1 o1 n2 n3 (fun _ b hb => by cases hb; exact ha) h2
    · exact w1.elim
/-! ### d == {} -/
def rEqD0 : R2 := fun x y H Q => ∃ a b ks, x = .ref a ∧ y = .ref b ∧ H a = some (.dK ks) ∧ H b = some (.dK []) ∧ Q (.bl ks.isEmpty) H
theorem op_eqD0 (hu : X.A.units < cLine) : OpR X (compareOp .Eq) rEqD0 := by
  intro pins s σ H x y v u Q I rx ry h
  obtain ⟨a, b, ks, rfl, rfl, ea, eb, q⟩ := h
  obtain rfl : v = Value.ref a := rx
  obtain rfl : u = Value.ref b := ry
  obtain ⟨_, ya, va, ra, da⟩ := (show ObjOk X.prog X.w H s.heap a (.dK ks) from I.hok a _ ea)
  obtain ⟨_, yb, vb, rb, db⟩ := (show ObjOk X.prog X.w H s.heap b (.dK []) from I.hok b _ eb)
  have hb : vb.length = 0 := (rb.length).symm
  have ha : va.length = ks.length := (ra.length).symm
  refine PySem.W.keq_eq (knd := mixKind X.prog X.w) (r := true) ya yb da db hu (fun hl => ?_) (fin_bl I q ?_)
  · have e : va = [] := List.length_eq_zero_iff.mp (hl.trans hb)
    subst e
    exact .nil
  · rw [ha, hb]
    cases ks <;> simp
def fEqD0 : PF2 := fun x y R => match x, y with
  | .dic ks, .dic [] => R (.bl ks.isEmpty)
  | _, _ => False
theorem rb_eqD0 {K : PySem.W.Frag} : RB K T rEqD0 fEqD0 := by
  intro W H x y px py R Q o rx ry h k
  unfold fEqD0 at h
  split at h
  · cases rx with
    | dic h1 r1 =>
      cases ry with
      | dic h2 r2 =>
        cases r2
        refine ⟨_, _, _, rfl, rfl, o.sub _ _ h1, o.sub _ _ h2, ?_⟩
        have e : ∀ {ks : List (Key × PV)} {vs : List (Key × V)}, RepK K W ks vs → vs.isEmpty = ks.isEmpty := fun r => by cases r <;> rfl
        rw [e r1]
        exact k.now o (.bl _) h
  · exact h.elim
/-! ### d.pop(k), its value dropped -/
def dropP (kvs : List (Key × PV)) (k : Key) : List (Key × PV) := kvs.filter fun kv => !decide (kv.1 = k)
def sDPop (i : Nat) (q : PP) : PS' := fun P ρ => match gt ρ i with
  | some (.ownD kvs) => q ρ fun kx => match keyP kx with
    | some k => (∃ y, valP kvs k = some y) ∧ P.nx (ρ.set i (some (.ownD (dropP kvs k))))
    | none => False
  | _ => False
theorem RepK.drop {K : PySem.W.Frag} {W : Wd} {k : Key} : ∀ {x : List (Key × PV)} {v : List (Key × V)}, RepK K W x v → RepK K W (dropP x k) (dropK v k)
  | _, _, .nil => .nil
  | _, _, .cons (k := k2) (x := x) (xs := xs) (v := v) (vs := vs) r t => by
    by_cases e : k2 = k
    · rw [dropK_pos (p := (k2, v)) e]
      show RepK K W (((k2, x) :: xs).filter fun kv => !decide (kv.1 = k)) _
      rw [List.filter_cons_of_neg (by simp [e])]
      exact RepK.drop t
    · rw [dropK_neg (p := (k2, v)) e]
      show RepK K W (((k2, x) :: xs).filter fun kv => !decide (kv.1 = k)) _
      rw [List.filter_cons_of_pos (by simp [e])]
      exact .cons r (RepK.drop t)
theorem ls_dPop {i : Nat} (h : PS X st (tDrop (tDPop1 (tVar i) (up X.K T C q)))) : PS X st (upS X.K T C (sDPop i q)) := PS.weak h fun D σ H ⟨W, ρ, P, g, w, d⟩ => by
  unfold sDPop at w
  split at w
  · rename_i kvs hx
    obtain ⟨v, h1, a, vs, rfl, q1, q2, q3, q4, q5, q6⟩ := g.env.at_ i _ (gt_get hx)
    refine ⟨_, h1, a, rfl, .inl ⟨vs, .inl q5⟩, W, ρ, _, g, w, fun kx H1 W1 pk e1 o1 r1 w1 => ?_⟩
    split at w1
    · rename_i kk hk
      obtain ⟨⟨y, h2⟩, h3⟩ := w1
      obtain ⟨u, h4, h5⟩ := RepK.val q6 h2
      have q7 : H1 a = some (.dK vs) := e1.keep a _ q5 q3 (by intro ps z; cases z)
      exact ⟨vs, kk, u, q7, keyP_rep r1 hk, h4, d.nx W1 σ _ _ e1.le ((g.to e1 o1).mutD hx h1 q7 ((q6.le e1.le).drop)) h3⟩
    · exact w1.elim
  · exact w.elim
/-! ### a, b = e, f and a, b, c = e, f, g by way of a tuple, new or plain values -/
theorem ls_tup2O {i j : Nat} {tg : Expr} {k2 : Nat} {pt2 : Pos} (hg : PG X tg (gTup X.K 2 (gCons (gName i) (gCons (gName j) gNil)))) (ha : PE X e (upN X.K T C po)) (hb : PE X e2 (upN X.K T C qo))
    (hs : swapsWithSole [tg] (.Tuple [e, e2] k2 pt2) pos.line X.env = pure false := by rfl) (hw : swappedStores [tg] (.Tuple [e, e2] k2 pt2) X.env = pure none := by rfl) (h0 : (assignEach [tg] X.env).map (·.2) = [assign tg X.env] := by rfl)
    (h1 : starEach [e, e2] X.env = (false, eval e X.env) :: starEach [e2] X.env := by rfl) (h2 : starEach [e2] X.env = (false, eval e2 X.env) :: starEach [] X.env := by rfl) :
    PS X (.Assign [tg] (.Tuple [e, e2] k2 pt2) pos) (upS X.K T C (sPar2O i j po qo)) :=
  PS.weak (ps_asg (pe_tup (pa_cons ha (pa_cons hb pa_nil h2) h1)) hg hs hw h0) fun D σ H ⟨W, ρ, P, g, w, d⟩ => ⟨W, ρ, _, g, w, fun v1 H0 H1 W1 s1 e0 e1 o0 o1 r1 n1 w1 =>
    ⟨W1, ρ, _, (g.to e0 o0).to e1 o1, w1, fun v2 H2 H3 W3 s2 e2 e3 o2 o3 r2 n2 w2 => by
      have g1 := (g.to e0 o0).to e1 o1
      have g2 := g1.to e2 o2
      have g3 := g2.to e3 o3
      have r1c := RepS.ext e2 r1
      have a1 := g3.env.setSV (i := i) (RepS.ext e3 r1c) fun ho k sk _ h o => own_far (g.to e0 o0) ho r1 (n1 ho) k sk h o
      have a2 := a1.setSV (i := j) r2 fun ho k sk hk h o z => by
        rcases set_lt h with ⟨rfl, _, rfl⟩ | ⟨hki, h⟩
        · rcases set_get z with ⟨_, e⟩ | ⟨c, _⟩
          · exact apart r1c r2 o ho (n2 ho) e.symm
          · exact c rfl
        · rcases set_get z with ⟨c, _⟩ | ⟨_, z⟩
          · exact hki c
          · exact own_far g2 ho r2 (n2 ho) k sk h o z
      exact ⟨by rw [sizeLine_eq]; show 2 ≤ _; omega, fun t ht => ⟨t, [v1, v2], rfl, .inl (.inl upd_same), rfl, v1, _, rfl, v2, [], rfl, rfl, d.nx W3 _ _ _ (((e0.le.trans e1.le).trans e2.le).trans e3.le) ((g3.envTo a2).to (.new0 ht) (o3.new0 ht)) w2⟩⟩⟩⟩
theorem ls_tup3O {i j l : Nat} {e3 tg : Expr} {k2 : Nat} {pt2 : Pos} (hg : PG X tg (gTup X.K 3 (gCons (gName i) (gCons (gName j) (gCons (gName l) gNil))))) (ha : PE X e (upN X.K T C po)) (hb : PE X e2 (upN X.K T C qo)) (hd : PE X e3 (upN X.K T C ro))
    (hs : swapsWithSole [tg] (.Tuple [e, e2, e3] k2 pt2) pos.line X.env = pure false := by rfl) (hw : swappedStores [tg] (.Tuple [e, e2, e3] k2 pt2) X.env = pure none := by rfl) (h0 : (assignEach [tg] X.env).map (·.2) = [assign tg X.env] := by rfl)
    (h1 : starEach [e, e2, e3] X.env = (false, eval e X.env) :: starEach [e2, e3] X.env := by rfl) (h2 : starEach [e2, e3] X.env = (false, eval e2 X.env) :: starEach [e3] X.env := by rfl) (h3 : starEach [e3] X.env = (false, eval e3 X.env) :: starEach [] X.env := by rfl) :
    PS X (.Assign [tg] (.Tuple [e, e2, e3] k2 pt2) pos) (upS X.K T C (sPar3O i j l po qo ro)) :=
  PS.weak (ps_asg (pe_tup (pa_cons ha (pa_cons hb (pa_cons hd pa_nil h3) h2) h1)) hg hs hw h0) fun D σ H ⟨W, ρ, P, g, w, d⟩ => ⟨W, ρ, _, g, w, fun v1 H0 H1 W1 s1 e0 e1 o0 o1 r1 n1 w1 =>
    ⟨W1, ρ, _, (g.to e0 o0).to e1 o1, w1, fun v2 H2 H3 W3 s2 e2 e3 o2 o3 r2 n2 w2 => ⟨W3, ρ, _, (((g.to e0 o0).to e1 o1).to e2 o2).to e3 o3, w2, fun v3 H4 H5 W5 s3 e4 e5 o4 o5 r3 n3 w3 => by
      have g1 := (g.to e0 o0).to e1 o1
      have g2 := g1.to e2 o2
      have g3 := g2.to e3 o3
      have g4 := g3.to e4 o4
      have g5 := g4.to e5 o5
      have r1c := RepS.ext e2 r1
      have r1d := RepS.ext e4 (RepS.ext e3 r1c)
      have r2d := RepS.ext e4 r2
      have a1 := g5.env.setSV (i := i) (RepS.ext e5 r1d) fun ho k sk _ h o => own_far (g.to e0 o0) ho r1 (n1 ho) k sk h o
      have a2 := a1.setSV (i := j) (RepS.ext e5 r2d) fun ho k sk hk h o z => by
        rcases set_lt h with ⟨rfl, _, rfl⟩ | ⟨hki, h⟩
        · rcases set_get z with ⟨_, e⟩ | ⟨c, _⟩
          · exact apart r1c r2 o ho (n2 ho) e.symm
          · exact c rfl
        · rcases set_get z with ⟨c, _⟩ | ⟨_, z⟩
          · exact hki c
          · exact own_far g2 ho r2 (n2 ho) k sk h o z
      have a3 := a2.setSV (i := l) r3 fun ho k sk hk h o z => by
        rcases set_lt h with ⟨rfl, _, rfl⟩ | ⟨hkj, h⟩
        · rcases set_get z with ⟨_, e⟩ | ⟨c, _⟩
          · exact apart r2d r3 o ho (n3 ho) e.symm
          · exact c rfl
        · rcases set_get z with ⟨c, _⟩ | ⟨_, z⟩
          · exact hkj c
          · rcases set_lt h with ⟨rfl, _, rfl⟩ | ⟨hki, h⟩
            · rcases set_get z with ⟨_, e⟩ | ⟨c, _⟩
              · exact apart r1d r3 o ho (n3 ho) e.symm
              · exact c rfl
            · rcases set_get z with ⟨c, _⟩ | ⟨_, z⟩
              · exact hki c
              · exact own_far g4 ho r3 (n3 ho) k sk h o z
      exact ⟨by rw [sizeLine_eq]; show 3 ≤ _; omega, fun t ht => ⟨t, [v1, v2, v3], rfl, .inl (.inl upd_same), rfl, v1, _, rfl, v2, _, rfl, v3, [], rfl, rfl, d.nx W5 _ _ _ (((((e0.le.trans e1.le).trans e2.le).trans e3.le).trans e4.le).trans e5.le) ((g5.envTo a3).to (.new0 ht) (o5.new0 ht)) w3⟩⟩⟩⟩⟩
/-! ### list(d.values()) -/
theorem vals_snd : ∀ {kvs : List (Key × V)} {vs : List (Key × Value)}, KV kvs vs → Vals (kvs.map (·.2)) (vs.map (·.2))
  | _, _, .nil => .nil
  | _, _, .cons h t => .cons h.2 (vals_snd t)
def tListVals (te : TE) : TE := fun σ H Q => te σ H fun x H1 => ∃ (d : Addr) (kvs : List (Key × V)), x = .ref d ∧ Rd H1 d (.dK kvs) ∧ ∀ p, H1 p = none → Q (.ref p) (upd H1 p (.lst (kvs.map (·.2))))
theorem pe_listVals {te : TE} {p apos cpos : Pos} (hc : X.calm = true) (he : PE X e te) (hg : Gl X "list") (hm : X.mg "list" = none) (hbase : attributeBase e "values" X.env (eval e X.env) = eval e X.env := by rfl) (hline : (apos.endLine == cpos.line) = true := by rfl)
    (hs : starEach [.Call (.Attribute e "values" apos) [] [] cpos] X.env = (false, eval (.Call (.Attribute e "values" apos) [] [] cpos) X.env) :: starEach [] X.env := by rfl) :
    PE X (.Call (.Name "list" p) [.Call (.Attribute e "values" apos) [] [] cpos] [] pos) (tListVals te) := by
  refine ⟨fun pins s σ H Q I hq => ?_⟩
  refine wpAny_Call_Name_kw (ld_blt I hg hm (u := .type "list") (by decide +kernel) ?_ (by decide) (by decide))
  refine PyProof.Rows.callWith_type1 ?_ hs rfl
  rw [hs]
  show wpAny _ _ (spliced ((false, eval (.Call (.Attribute e "values" apos) [] [] cpos) X.env) :: backTo pos (starEach [] X.env))) _ _ s
  refine Calls.spliced_cons ?_
  refine wpAny_Call_method (T := "dict") (id := "dict.values") hbase rfl hline F.plainAttrs_dict F.slot_dict_values F.type_dict_values (thn (he.run pins s σ H _ I hq) fun u s1 ⟨x, H1, I1, rx, d, kvs, ex, hd, q⟩ => ?_)
  subst ex
  obtain rfl : u = Value.ref d := rx
  obtain ⟨hz, hs0, vs, kv, hdo⟩ := dk_rd I1.hok hd
  obtain ⟨ep, hat⟩ := hdo.dictAt
  have lk : kvs.length = vs.length := Paired.length kv
  have I2 : Inv X pins σ H1 { s1 with heap := s1.heap.push { cls := .type "dict_values", data := .fields #[.ref d] } } := I1.kept (t' := s1.toks) fun b ob q => Heap.get?_push_of_some _ q
  refine ⟨hdo.typeIs, hdo.mapOf.noDict, ?_⟩
  show wpAny _ _ (callWith cpos (.builtin "dict.values") [.ref d] [] []) _ X.xe s1
  refine method_meetsIn F.slot_dict_values F.entry_dict_values rfl (PySem.evalArgs_none ⟨rfl, hdo.typeIs, F.args_dict_values_1 _, _, meets_dict_values (mixKind X.prog X.w) d hs0, ⟨vs, hdo⟩, ?_⟩)
  refine Calls.spliced_nil ?_
  refine PySem.W.kdl_call (PySem.W.kdl_values (knd := mixKind X.prog X.w) (kvs := vs) (ep := ep)) (I1.ok.hd hc) ⟨⟨_, Heap.get?_push_size _ rfl, rfl, rfl⟩, hat.push _⟩ (by omega) fun h' tk acc c hk hS hacc => ?_
  have lenA : acc.toList.length = kvs.length := by rw [Array.length_toList, hacc.1, lk]
  have hv : Vals (kvs.map (·.2)) acc.toList := by
    rw [PySem.W.kdl_vals_eq (kvs := vs) acc.toList (by rw [Array.length_toList, hacc.1]) fun j v h => hacc.2 j v (by rw [← Array.getElem?_toList]; exact h)]
    exact vals_snd kv
  refine ⟨.ref _, upd H1 _ (.lst (kvs.map (·.2))), I2.laid (t' := tk) hk (Nat.le_refl _) ⟨by rw [List.length_map]; omega, acc.toList, c, hv, by rw [Array.toArray_toList]; exact hS⟩, rfl, q _ (I2.hok.fresh (Nat.le_refl _))⟩
def pVals (p : PP) : PP := fun ρ R => p ρ fun x => match x with
  | .dic kvs => R (.lst (kvs.map (·.2)))
  | _ => False
theorem RepK.vals {K : PySem.W.Frag} {W : Wd} : ∀ {x : List (Key × PV)} {v : List (Key × V)}, RepK K W x v → RepL K W (x.map (·.2)) (v.map (·.2))
  | _, _, .nil => .nil
  | _, _, .cons r t => .cons r (RepK.vals t)
theorem le_vals {pp apos cpos : Pos} (hc : X.calm = true) (he : PE X e (up X.K T C p)) (hg : Gl X "list") (hm : X.mg "list" = none) (hbase : attributeBase e "values" X.env (eval e X.env) = eval e X.env := by rfl) (hline : (apos.endLine == cpos.line) = true := by rfl)
    (hs : starEach [.Call (.Attribute e "values" apos) [] [] cpos] X.env = (false, eval (.Call (.Attribute e "values" apos) [] [] cpos) X.env) :: starEach [] X.env := by rfl) :
    PE X (.Call (.Name "list" pp) [.Call (.Attribute e "values" apos) [] [] cpos] [] pos) (up X.K T C (pVals p)) :=
  PE.weak (pe_listVals hc he hg hm hbase hline hs) fun σ H Q ⟨W, ρ, R, g, w, k⟩ => by
    refine ⟨W, ρ, _, g, w, fun v H1 W1 x e1 o1 r1 w1 => ?_⟩
    split at w1
    · cases r1 with
      | dic hq rl => exact ⟨_, _, rfl, .inl (o1.sub _ _ hq), (k.pre e1 o1).newL o1 rl.vals w1⟩
    · exact w1.elim
/-- of a locked dict -/
def pLVals (i : Nat) : PP := fun ρ R => match gt ρ i with
  | some (.lckD kvs) => R (.lst (kvs.map (·.2)))
  | _ => False
theorem le_lvals {i : Nat} {pp apos cpos : Pos} (hc : X.calm = true) (he : PE X e (tVar i)) (hg : Gl X "list") (hm : X.mg "list" = none) (hbase : attributeBase e "values" X.env (eval e X.env) = eval e X.env := by rfl) (hline : (apos.endLine == cpos.line) = true := by rfl)
    (hs : starEach [.Call (.Attribute e "values" apos) [] [] cpos] X.env = (false, eval (.Call (.Attribute e "values" apos) [] [] cpos) X.env) :: starEach [] X.env := by rfl) :
    PE X (.Call (.Name "list" pp) [.Call (.Attribute e "values" apos) [] [] cpos] [] pos) (up X.K T C (pLVals i)) :=
  PE.weak (pe_listVals hc he hg hm hbase hline hs) fun σ H Q ⟨W, ρ, R, g, w, k⟩ => by
    unfold pLVals at w
    split at w
    · rename_i kvs hx
      obtain ⟨v, h1, a, vs, od, rfl, q1, q2⟩ := g.env.at_ i _ (gt_get hx)
      exact ⟨_, h1, a, vs, rfl, .inr ⟨od, g.ok.sub _ _ q1⟩, k.newL g.ok q2.vals w⟩
    · exact w.elim
/-! ### list(e), of one's own -/
def pOList (p : PP) : PO := fun ρ R => p ρ fun x => match x with
  | .lst ys => R (.own ys)
  | .tup ys => R (.own ys)
  | _ => False
theorem len_list {pp : Pos} (hg : Gl X "list") (hm : X.mg "list" = none) (ha : PE X e (up X.K T C p)) (he : starEach (e :: []) X.env = (false, eval e X.env) :: starEach [] X.env := by rfl) : PE X (.Call (.Name "list" pp) [e] [] pos) (upN X.K T C (pOList p)) :=
  PE.weak (pe_callTy call_list_of hg hm (by decide +kernel) (pa_cons ha pa_nil he) (by decide) (by decide) he (by rfl)) fun σ H Q ⟨W, ρ, R, g, w, k⟩ => by
    refine ⟨W, ρ, _, g, w, fun v H1 W1 x e1 o1 r1 w1 => ?_⟩
    split at w1
    · cases r1 with
      | lst hq rl =>
        refine ⟨_, _, rfl, .inl (.of (o1.sub _ _ hq)), fun a ha => ?_⟩
        obtain ⟨n1, n2, n3⟩ := newO (g.to e1 o1) ha rl
        exact k _ H1 _ W1 _ e1 n1 o1 n2 n3 (fun _ b hb => by cases hb; exact ha) w1
    · cases r1 with
      | tup hq rl =>
        refine ⟨_, _, rfl, .inr (o1.tup hq), fun a ha => ?_⟩
        obtain ⟨n1, n2, n3⟩ := newO (g.to e1 o1) ha rl
        exact k _ H1 _ W1 _ e1 n1 o1 n2 n3 (fun _ b hb => by cases hb; exact ha) w1
    · exact w1.elim
/-! ### xs[i], xs[j] = e, f, xs of one's own -/
def sSwap (i : Nat) (p1 p2 q1 q2 : PP) : PS' := fun P ρ => p1 ρ fun y1 => p2 ρ fun y2 => match gt ρ i with
  | some (.own xs) => q1 ρ fun k1 => match k1 with
    | .int k1 => ∃ j1, ixN xs.length k1 = some j1 ∧ q2 (ρ.set i (some (.own (xs.set j1 y1)))) fun k2 => match k2 with
      | .int k2 => ∃ j2, ixN xs.length k2 = some j2 ∧ P.nx ((ρ.set i (some (.own (xs.set j1 y1)))).set i (some (.own ((xs.set j1 y1).set j2 y2))))
      | _ => False
    | _ => False
  | _ => False
theorem gt_set : ∀ {ρ : PEnv} {i : Nat} {sv sv' : SV}, gt ρ i = some sv → gt (ρ.set i (some sv')) i = some sv'
  | [], _, _, _, h => by cases h
  | x :: r, 0, sv, sv', h => rfl
  | x :: r, i + 1, sv, sv', h => by
    have h' : gt r i = some sv := h
    exact gt_set (ρ := r) h'
theorem ls_swap {i : Nat} {p1 p2 q1 q2 : PP} (h : PS X st (tAsg (tTup (tCons (up X.K T C p1) (tCons (up X.K T C p2) tNil))) (gTup X.K 2 (gCons (gSub (tVar i) (up X.K T C q1) rSetL) (gCons (gSub (tVar i) (up X.K T C q2) rSetL) gNil))))) : PS X st (upS X.K T C (sSwap i p1 p2 q1 q2)) :=
  PS.weak h fun D σ H ⟨W, ρ, P, g, w, d⟩ => ⟨W, ρ, _, g, w, fun v1 H1 W1 y1 e1 o1 r1 w1 => ⟨W1, ρ, _, g.to e1 o1, w1, fun v2 H2 W2 y2 e2 o2 r2 w2 => by
    have g2 := (g.to e1 o1).to e2 o2
    refine ⟨by rw [sizeLine_eq]; show 2 ≤ _; omega, fun t ht => ?_⟩
    have e3 : Ext W2 H2 W2 (upd H2 t (.tup [v1, v2])) := .new0 ht
    have o3 : OkW T W2 (upd H2 t (.tup [v1, v2])) := o2.new0 ht
    have g3 := g2.to e3 o3
    split at w2
    · rename_i xs hx
      obtain ⟨v, h1, a, vs, rfl, z1, z2, z3, z4, z5, z6⟩ := g3.env.at_ i _ (gt_get hx)
      refine ⟨t, [v1, v2], rfl, .inl (.inl upd_same), rfl, v1, _, rfl, _, h1, W2, ρ, _, g3, w2, fun kx H4 W4 pk e4 o4 r4 w4 => ?_⟩
      have g4 := g3.to e4 o4
      split at w4
      · obtain ⟨j1, hj1, w5⟩ := w4
        cases r4
        have q7 : H4 a = some (.lst vs) := e4.keep a _ z5 z3 (by intro ps z; cases z)
        have hx4 : gt ρ i = some (.own xs) := hx
        have g5 := g4.mut hx4 h1 q7 (RepL.setAt (((r1.le e2.le).le e3.le).le e4.le) j1 (z6.le e4.le))
        have q8 : (upd H4 a (.lst (vs.set j1 v1))) a = some (.lst (vs.set j1 v1)) := upd_same
        refine ⟨a, vs, _, j1, rfl, rfl, q7, by rw [z6.length]; exact hj1, v2, [], rfl, _, h1, W4, _, _, g5, w5, fun kx2 H6 W6 pk2 e6 o6 r6 w6 => ?_⟩
        have g6 := g5.to e6 o6
        split at w6
        · obtain ⟨j2, hj2, hn⟩ := w6
          cases r6
          obtain ⟨v', h1', a', vs', ev, y1', y2', y3', y4', y5', y6'⟩ := g6.env.at_ i _ (gt_get (gt_set hx))
          have ea : a' = a := by
            have z := h1'.symm.trans h1
            cases ev
            cases z
            rfl
          subst ea ev
          have g7 := g6.mut (gt_set hx) h1' y5' (RepL.setAt ((((r2.le e3.le).le e4.le)).le e6.le) j2 y6')
          exact ⟨a', vs', _, j2, rfl, rfl, y5', by rw [y6'.length, List.length_set]; exact hj2, rfl, d.nx W6 σ _ _ ((((e1.le.trans e2.le).trans e3.le).trans e4.le).trans e6.le) g7 hn⟩
        · exact w6.elim
      · exact w4.elim
    · exact w2.elim⟩⟩
/-! ### d != {} -/
def rNeD0 : R2 := fun x y H Q => ∃ a b ks, x = .ref a ∧ y = .ref b ∧ H a = some (.dK ks) ∧ H b = some (.dK []) ∧ Q (.bl (!ks.isEmpty)) H
theorem op_neD0 (hu : X.A.units < cLine) : OpR X (compareOp .NotEq) rNeD0 := by
  intro pins s σ H x y v u Q I rx ry h
  obtain ⟨a, b, ks, rfl, rfl, ea, eb, q⟩ := h
  obtain rfl : v = Value.ref a := rx
  obtain rfl : u = Value.ref b := ry
  obtain ⟨_, ya, va, ra, da⟩ := (show ObjOk X.prog X.w H s.heap a (.dK ks) from I.hok a _ ea)
  obtain ⟨_, yb, vb, rb, db⟩ := (show ObjOk X.prog X.w H s.heap b (.dK []) from I.hok b _ eb)
  have hb : vb.length = 0 := (rb.length).symm
  have ha : va.length = ks.length := (ra.length).symm
  refine PySem.W.keq_ne (knd := mixKind X.prog X.w) (r := true) ya yb da db hu (fun hl => ?_) (fin_bl I q ?_)
  · have e : va = [] := List.length_eq_zero_iff.mp (hl.trans hb)
    subst e
    exact .nil
  · rw [ha, hb]
    cases ks <;> simp
def fNeD0 : PF2 := fun x y R => match x, y with
  | .dic ks, .dic [] => R (.bl (!ks.isEmpty))
  | _, _ => False
theorem rb_neD0 {K : PySem.W.Frag} : RB K T rNeD0 fNeD0 := by
  intro W H x y px py R Q o rx ry h k
  unfold fNeD0 at h
  split at h
  · cases rx with
    | dic h1 r1 =>
      cases ry with
      | dic h2 r2 =>
        cases r2
        refine ⟨_, _, _, rfl, rfl, o.sub _ _ h1, o.sub _ _ h2, ?_⟩
        have e : ∀ {ks : List (Key × PV)} {vs : List (Key × V)}, RepK K W ks vs → vs.isEmpty = ks.isEmpty := fun r => by cases r <;> rfl
        rw [e r1]
        exact k.now o (.bl _) h
  · exact h.elim
end
end Pu

/-! The pure layer, part Z: the end of a law. -/
namespace Pu
open PySem L2 LamX PySem.Spec PyProof.Rows
def look (l : List (String × Addr)) (x : String) : Addr := match l with
  | [] => 0
  | p :: r => if p.1 = x then p.2 else look r x
theorem look_hd {x : String} {a : Addr} {r : List (String × Addr)} : look ((x, a) :: r) x = a := if_pos rfl
theorem look_tl {x y : String} {a : Addr} {r : List (String × Addr)} (h : y ≠ x) : look ((y, a) :: r) x = look r x := if_neg h
section
variable {K : PySem.W.Frag} {mg : Str → Option Value} {Γ : String → Addr}
theorem defF_mk {h : Heap} {x : String} {st : Stmt} {ps : List Str} {f : Addr} {oc : Value} {od an : Option Addr} {osl : Array (Option Value)} {kV doc pm cdv ct : Value} (X : K.In h) (G : h.Ns mainGlobals mg) (hΓ : Γ x = f) (a : PySem.W.nsIn K mainGlobals (Str.ofString x) = some (some (.ref f)))
    (l : K.lookup f = some ⟨oc, od, .func (PySem.W.fnOf (Str.ofString x) (Str.ofString x) (defArgs st) (defBody st) (defScope st) .none kV doc pm an cdv ct), osl⟩) (c : PySem.W.codeIn K cdv (Str.ofString x) = true) (k : PySem.W.keepIn K (.ref f) = true)
    (hb : ∀ (kV doc pm : Value) (an : Option Addr) (cdv ct : Value) (us : List Value), us.length = ps.length → bindArgs (PySem.W.fnOf (Str.ofString x) (Str.ofString x) (defArgs st) (defBody st) (defScope st) .none kV doc pm an cdv ct) ⟨us, []⟩ = pure (ps.zip us)) : DefF K mg Γ x st ps := by
  subst hΓ
  have F := fun_mk l c k
  exact ⟨_, F, F.binds hb, PySem.W.mg_of X G a⟩
theorem defL_mk {h : Heap} {x : String} {st : Stmt} {ps : List Str} {f cod : Addr} {oc : Value} {od an : Option Addr} {osl : Array (Option Value)} {kV doc pm ct : Value} (X : K.In h) (G : h.Ns mainGlobals mg) (hΓ : Γ x = f) (a : PySem.W.nsIn K mainGlobals (Str.ofString x) = some (some (.ref f)))
    (l : K.lookup f = some ⟨oc, od, .func (PySem.W.fnOf (Str.ofString x) (Str.ofString x) (defArgs st) (defBody st) (defScope st) .none kV doc pm an (.ref cod) ct), osl⟩) (c : PySem.W.codeIn K (.ref cod) (Str.ofString x) = true) (k : PySem.W.keepIn K (.ref f) = true)
    (hb : ∀ (kV doc pm : Value) (an : Option Addr) (cdv ct : Value) (us : List Value), us.length = ps.length → bindArgs (PySem.W.fnOf (Str.ofString x) (Str.ofString x) (defArgs st) (defBody st) (defScope st) .none kV doc pm an cdv ct) ⟨us, []⟩ = pure (ps.zip us)) : DefL K mg Γ x st ps cod := by
  subst hΓ
  have F := fun_mk l c k
  exact ⟨_, F, F.binds hb, PySem.W.mg_of X G a, rfl⟩
/-- an own class of errors: all that is asked of it -/
structure ClsF (K : PySem.W.Frag) (mg : Str → Option Value) (x : String) (D : Addr) : Prop where
  g : mg (Str.ofString x) = some (.ref D)
  x : ExcF K D
  c : ExcC K D
theorem kit_ref {t : Value} {C : Addr} {b : Bool} (h1 : PySem.W.hasDictIn K C = true) (h2 : PySem.W.typeIn K (.ref C) = some (.type "type")) (h3 : PySem.W.subIn K t (.ref C) = some b) (h4 : t = .ref C → b = true) : PySem.W.kitOne K t (.ref C) = some b := by
  obtain ⟨cd, hc, _⟩ := PySem.W.any_some h1
  have e2 : ((PySem.W.clsIn K C).isSome && PySem.W.typeIn K (.ref C) == some (.type "type")) = true := by rw [hc, h2] <;> rfl
  show (if (t == Value.ref C) = true then some true else (if ((PySem.W.clsIn K C).isSome && PySem.W.typeIn K (.ref C) == some (.type "type")) = true then PySem.W.subIn K t (.ref C) else none)) = some b
  by_cases h : (t == Value.ref C) = true
  · rw [if_pos h, h4 (eq_of_beq h)]
  · rw [if_neg h, if_pos e2]
    exact h3
theorem sub_non {C : Addr} : PySem.W.subIn K (.type "NoneType") (.ref C) = some false := by
  have e : PySem.fastBuiltinMro "NoneType" = some [.type "NoneType", .type "object"] := by decide +kernel
  show (PySem.fastBuiltinMro "NoneType").map (·.contains (.ref C)) = _
  rw [e]
  rfl
theorem exm_of {D CS : Addr} {b : Bool} (h1 : PySem.W.subIn K (.ref CS) (.type "BaseException") = some true) (h2 : PySem.W.hasDictIn K CS = true) (h3 : PySem.W.typeIn K (.ref CS) = some (.type "type")) (h4 : PySem.W.subIn K (.ref D) (.ref CS) = some b) : PySem.W.exmOne K (.ref D) (.ref CS) = some b :=
  PySem.W.exm_ref h1 h2 h3 h4
end
/-- the script's world -/
def scrW (H : Hp) : Wd := ⟨fun b => match H b with
  | some (.tbl _) => none
  | o => o, fun _ => False, fun _ => False⟩
theorem scrW_at {H : Hp} {b : Addr} {o : HO} (h : H b = some o) (n : ∀ ps, o ≠ .tbl ps) : (scrW H).S b = some o := by
  show (match H b with
  | some (.tbl _) => none
  | o => o) = some o
  rw [h]
  cases o <;> first | rfl | exact absurd rfl (n _)
theorem scrW_of {H : Hp} {b : Addr} {o : HO} (h : (scrW H).S b = some o) : H b = some o ∧ ∀ ps, o ≠ .tbl ps := by
  have h : (match H b with
  | some (.tbl _) => none
  | o => o) = some o := h
  split at h
  · cases h
  · rename_i hn
    refine ⟨h, fun ps z => ?_⟩
    subst z
    exact hn ps h
theorem scrW_ok {T : List (Addr × Str)} {H : Hp} (t : Tabs T H) : OkW T (scrW H) H where
  sub := fun b o h => (scrW_of h).1
  not := fun b ps h => (scrW_of h).2 ps rfl
  dS := fun b h => h.elim
  dN := fun b h => h.elim
  draw := fun b h => h.elim
  nLst := fun b h => h.elim
  tabs := t
theorem scrW_sq {K : PySem.W.Frag} {H : Hp} {a : Addr} {xs : List V} (h : SqL K H a xs) : SqL K (scrW H).S a xs := by
  rcases h with (h | ⟨o, h⟩) | h
  · exact .inl (.inl (scrW_at h (by intro ps z; cases z)))
  · exact .inl (.inr ⟨o, scrW_at h (by intro ps z; cases z)⟩)
  · exact .inr h
theorem sp_law {K : PySem.W.Frag} {T : List (Addr × Str)} {φ : PSpec} {H : Hp} {a : Addr} {ns : List Int} (t : Tabs T H) (hs : SqL K H a (ns.map V.int)) (hφ : φ [.scr ns] (fun x => x = .bl true) fun _ => False) : pSp K T 1 φ [.ref a] H (fun v _ => v = .bl true) fun _ _ _ => False := by
  refine ⟨scrW H, [.scr ns], _, _, scrW_ok t, .cons (.scr (scrW_sq hs)) .nil, rfl, hφ, fun v H' W' p _ _ r e => ?_, fun _ _ _ _ _ _ _ _ z => z⟩
  subst e
  cases r
  rfl
section
variable {l : PySem.W.OpenLaw} {w : World} {K : PySem.W.Frag} {k n : Nat} {mg : Str → Option Value} {fa : Addr} {h : Heap} {Γ : String → Addr} {st : Stmt} {c tab : Addr} {q : Str} {φ : PSpec}
theorem lawAt (D : DefL K mg Γ "law" st ["script"] c) (hfa : mg "law" = some (.ref fa))
    (hb : ∀ (kV doc pm : Value) (an : Option Addr) (cdv ct : Value) (us : List Value), us.length = 1 → bindArgs (PySem.W.fnOf "law" "law" (defArgs st) (defBody st) (defScope st) .none kV doc pm an cdv ct) ⟨us, []⟩ = pure ((["script"] : List Str).zip us))
    (hT : h.get? tab = some { cls := .none, data := .fields #[] }) (nT : K.lookup tab = none) (C : PySem.W.CodeHd h c tab)
    (ok : ∀ base : Heap, K.In base → base.Ns mainGlobals mg → TabB base mg c tab → OkF l.prog w K mg base [(tab, q)] Γ "law" ["script"] k φ)
    (hφ : ∀ ns : List Int, ns.length ≤ n → (∀ z ∈ ns, Builtin.Int.intBits z ≤ 1048576) → φ [.scr ns] (fun x => x = .bl true) fun _ => False) : LawAtS l w K (L2.CX l.prog w) k n "script" mg fa h := by
  obtain ⟨fd, F, b, m, hc⟩ := D
  have e := hfa.symm.trans m
  cases e
  obtain ⟨oc, od, kV, doc, pm, an, cdv, ct, osl, rfl, lk, hcd⟩ := F.ex
  refine ⟨_, [(c, tab)], pSp K [(tab, q)] 1 φ, fun p hp => ?_, fun p hp => ?_, fun p hp => ?_, fun s u => .of_eq (hb kV doc pm an cdv ct [u] rfl), fun H a ns h1 h2 h3 h4 => sp_law (fun p hp => ?_) h4 (hφ ns h1 h2), fun base KX G TB => ?_⟩
  · rw [List.mem_singleton] at hp
    rw [hp]
    exact hT
  · rw [List.mem_singleton] at hp
    rw [hp]
    exact nT
  · rw [List.mem_singleton] at hp
    rw [hp]
    exact C
  · rw [List.mem_singleton] at hp
    rw [hp]
    exact .nil (h3 (c, tab) List.mem_cons_self)
  · obtain ⟨fd2, F2, _, _, _, oc2, od2, osl2, lk2⟩ := ok base KX G (TB (c, tab) List.mem_cons_self)
    rw [lk] at lk2
    cases lk2
    exact F2
theorem lawAt0 (D : DefF K mg Γ "law" st ["script"]) (hfa : mg "law" = some (.ref fa))
    (hb : ∀ (kV doc pm : Value) (an : Option Addr) (cdv ct : Value) (us : List Value), us.length = 1 → bindArgs (PySem.W.fnOf "law" "law" (defArgs st) (defBody st) (defScope st) .none kV doc pm an cdv ct) ⟨us, []⟩ = pure ((["script"] : List Str).zip us))
    (ok : ∀ base : Heap, K.In base → base.Ns mainGlobals mg → OkF l.prog w K mg base [] Γ "law" ["script"] k φ)
    (hφ : ∀ ns : List Int, ns.length ≤ n → (∀ z ∈ ns, Builtin.Int.intBits z ≤ 1048576) → φ [.scr ns] (fun x => x = .bl true) fun _ => False) : LawAtS l w K (L2.CX l.prog w) k n "script" mg fa h := by
  obtain ⟨fd, F, b, m⟩ := D
  have e := hfa.symm.trans m
  cases e
  obtain ⟨oc, od, kV, doc, pm, an, cdv, ct, osl, rfl, lk, hcd⟩ := F.ex
  refine ⟨_, [], pSp K [] 1 φ, fun p hp => (by cases hp), fun p hp => (by cases hp), fun p hp => (by cases hp), fun s u => .of_eq (hb kV doc pm an cdv ct [u] rfl), fun H a ns h1 h2 h3 h4 => sp_law (fun p hp => (by cases hp)) h4 (hφ ns h1 h2), fun base KX G TB => ?_⟩
  obtain ⟨fd2, F2, _, _, _, oc2, od2, osl2, lk2⟩ := ok base KX G
  rw [lk] at lk2
  cases lk2
  exact F2
end
theorem cx_none {P : Program} {w : World} {H : Hp} {s : Shared} {e : Value} {s' : Shared} (h : L2.CX P w [] H s (fun _ _ _ => False) e s') : False := by
  obtain ⟨_, _, _, _, _, _, _, _, _, _, _, _, z⟩ := h
  exact z
end Pu

/-! The plain side, part V: comprehensions and loops as facts; lots. -/
namespace Pu
open PySem L2
/-! ### comprehensions -/
theorem lcGo_all {t : Tgt} {cond : PPT} {elt : PP} {ρ : PEnv} {A : PV → PV → Prop} {R : PK} : ∀ (ys acc : List PV),
    (∀ y ∈ ys, ∀ (Q1 : PK) (Q2 : Prop), (∀ v, A y v → Q1 v) → Q2 → tgt t y ρ fun ρ' => cond ρ' fun b => if b = true then elt ρ' Q1 else Q2) →
    (∀ l : List PV, l.length ≤ ys.length → (∀ v ∈ l, ∃ y ∈ ys, A y v) → R (.lst (acc ++ l))) → lcGo t cond elt ρ ys acc R
  | [], acc, _, h => by
    have q := h [] (Nat.le_refl _) (by simp)
    rw [List.append_nil] at q
    exact q
  | y :: ys, acc, hs, h => by
    refine hs y List.mem_cons_self _ _ (fun v hv => ?_) ?_
    · refine lcGo_all ys (acc ++ [v]) (fun z hz => hs z (List.mem_cons_of_mem _ hz)) fun l hl ha => ?_
      rw [List.append_assoc]
      refine h (v :: l) (Nat.succ_le_succ hl) fun u hu => ?_
      rcases List.mem_cons.mp hu with e | hu
      · subst e
        exact ⟨y, List.mem_cons_self, hv⟩
      · obtain ⟨z, h1, h2⟩ := ha u hu
        exact ⟨z, List.mem_cons_of_mem _ h1, h2⟩
    · refine lcGo_all ys acc (fun z hz => hs z (List.mem_cons_of_mem _ hz)) fun l hl ha => ?_
      refine h l (Nat.le_succ_of_le hl) fun u hu => ?_
      obtain ⟨z, h1, h2⟩ := ha u hu
      exact ⟨z, List.mem_cons_of_mem _ h1, h2⟩
/-- every turn yields one: as many as there are -/
theorem lcGo_each {t : Tgt} {elt : PP} {ρ : PEnv} {A : PV → PV → Prop} {R : PK} : ∀ (ys acc : List PV),
    (∀ y ∈ ys, ∀ (Q1 : PK), (∀ v, A y v → Q1 v) → tgt t y ρ fun ρ' => elt ρ' Q1) →
    (∀ l : List PV, l.length = ys.length → (∀ v ∈ l, ∃ y ∈ ys, A y v) → R (.lst (acc ++ l))) → lcGo t cYes elt ρ ys acc R
  | [], acc, _, h => by
    have q := h [] rfl (by simp)
    rw [List.append_nil] at q
    exact q
  | y :: ys, acc, hs, h => by
    have z := hs y List.mem_cons_self (fun v => lcGo t cYes elt ρ ys (acc ++ [v]) R) (fun v hv => by
      refine lcGo_each ys (acc ++ [v]) (fun z hz => hs z (List.mem_cons_of_mem _ hz)) fun l hl ha => ?_
      rw [List.append_assoc]
      refine h (v :: l) (congrArg Nat.succ hl) fun u hu => ?_
      rcases List.mem_cons.mp hu with e | hu
      · subst e
        exact ⟨y, List.mem_cons_self, hv⟩
      · obtain ⟨z, h1, h2⟩ := ha u hu
        exact ⟨z, List.mem_cons_of_mem _ h1, h2⟩)
    exact z
/-- filtered and mapped, for certain -/
theorem lcGo_map {t : Tgt} {cond : PPT} {elt : PP} {ρ : PEnv} {R : PK} (keep : PV → Bool) (g : PV → PV) : ∀ (ys acc : List PV),
    (∀ y ∈ ys, ∀ (Q1 : PK) (Q2 : Prop), (keep y = true → Q1 (g y)) → (keep y = false → Q2) → tgt t y ρ fun ρ' => cond ρ' fun b => if b = true then elt ρ' Q1 else Q2) →
    R (.lst (acc ++ (ys.filter keep).map g)) → lcGo t cond elt ρ ys acc R
  | [], acc, _, h => by
    have q : R (.lst (acc ++ [])) := h
    rw [List.append_nil] at q
    exact q
  | y :: ys, acc, hs, h => by
    refine hs y List.mem_cons_self _ _ (fun k => ?_) (fun k => ?_)
    · refine lcGo_map keep g ys _ (fun z hz => hs z (List.mem_cons_of_mem _ hz)) ?_
      rw [List.filter_cons, if_pos k, List.map_cons] at h
      rw [List.append_assoc]
      exact h
    · refine lcGo_map keep g ys _ (fun z hz => hs z (List.mem_cons_of_mem _ hz)) ?_
      rw [List.filter_cons, if_neg (by rw [k]; simp)] at h
      exact h
/-- mapped, for certain -/
theorem lcGo_map1 {t : Tgt} {elt : PP} {ρ : PEnv} {R : PK} (g : PV → PV) : ∀ (ys acc : List PV), (∀ y ∈ ys, ∀ (Q1 : PK), Q1 (g y) → tgt t y ρ fun ρ' => elt ρ' Q1) → R (.lst (acc ++ ys.map g)) → lcGo t cYes elt ρ ys acc R
  | [], acc, _, h => by
    have q : R (.lst (acc ++ [])) := h
    rw [List.append_nil] at q
    exact q
  | y :: ys, acc, hs, h => by
    refine hs y List.mem_cons_self (fun v => lcGo t cYes elt ρ ys (acc ++ [v]) R) ?_
    refine lcGo_map1 g ys _ (fun z hz => hs z (List.mem_cons_of_mem _ hz)) ?_
    rw [List.append_assoc]
    exact h
/-- a loop whose state is told by an invariant over the number of turns done -/
theorem forGo_inv {tg : Tgt} {body : PS'} {P : PEnds} (I : Nat → PEnv → Prop) : ∀ (ys : List PV) (k : Nat) (ρ : PEnv), I k ρ →
    (∀ (j : Nat) (y : PV) (ρ : PEnv), ys[j]? = some y → I (k + j) ρ → ∀ P' : PEnds, P'.rt = P.rt → (∀ ρ', I (k + j + 1) ρ' → P'.nx ρ') → (∀ ρ', I (k + j + 1) ρ' → P'.ct ρ') → P'.bk = P.nx → tgt tg y ρ fun ρ' => body P' ρ') →
    (∀ ρ, I (k + ys.length) ρ → P.nx ρ) → forGo tg body P ys ρ
  | [], k, ρ, h, _, hn => hn ρ h
  | y :: ys, k, ρ, h, hs, hn => by
    have go : ∀ ρ', I (k + 0 + 1) ρ' → forGo tg body P ys ρ' := fun ρ' h' => forGo_inv I ys (k + 1) ρ' h' (fun j z ρ2 hz hI P' h1 h2 h3 h4 => by
      have e : k + 1 + j = k + (j + 1) := by omega
      refine hs (j + 1) z ρ2 (by simpa using hz) (by rw [← e]; exact hI) P' h1 (fun ρ3 h5 => h2 ρ3 ?_) (fun ρ3 h5 => h3 ρ3 ?_) h4
      · rw [e]; exact h5
      · rw [e]; exact h5) fun ρ2 h5 => hn ρ2 (by
        have e : k + (y :: ys).length = k + 1 + ys.length := by simp; omega
        rw [e]; exact h5)
    exact hs 0 y ρ rfl h _ rfl go go rfl
/-! ### values -/
def isInt : PV → Bool
  | .int _ => true
  | _ => false
def rise : List Int → Bool
  | a :: b :: r => decide (a < b) && rise (b :: r)
  | _ => true
def btw (lo hi n : Int) : Bool := decide (lo ≤ n) && decide (n ≤ hi)
def risingP (lo hi : Int) (x : PV) : Bool := match x with
  | .tup xs => (match ints? xs with
    | some ns => ns.all (btw lo hi) && rise ns
    | none => false)
  | _ => false
def okT : PV → Bool
  | .tup xs => decide (xs.length ≤ 100000)
  | _ => true
/-- what may be asked whether it is a lot -/
def dataP (x : PV) : Bool := match x with
  | .dic _ => true
  | .tup xs => xs.all okT && pdk 30 x
  | y => pdk 30 y
def lot? : PV → Option (List Int × Int × List Int)
  | .tup [.tup xs, .int m, .tup zs] => (ints? xs).bind fun ns => (ints? zs).map fun rs => (ns, m, rs)
  | _ => none
def lotB (ns : List Int) (m : Int) (rs : List Int) : Bool := ns.all (btw (-1000) 1000) && rise ns && decide (ns.length ≤ 40) && btw 1 60 m && (rs.all (btw 0 (m - 1)) && rise rs) && (if rs = [] then decide (m = 1) && !ns.isEmpty else !(ns.any fun n => rs.any (· == n % m)))
def isLotP (x : PV) : Bool := match lot? x with
  | some (ns, m, rs) => lotB ns m rs
  | none => false
def mkLot (ns : List Int) (m : Int) (rs : List Int) : PV := .tup [.tup (ns.map PV.int), .int m, .tup (rs.map PV.int)]
theorem lot?_mk (ns : List Int) (m : Int) (rs : List Int) : lot? (mkLot ns m rs) = some (ns, m, rs) := by
  show ((ints? (ns.map PV.int)).bind fun ns => (ints? (rs.map PV.int)).map fun rs => (ns, m, rs)) = _
  rw [ints_map, ints_map]
  rfl
theorem isLotP_mk (ns : List Int) (m : Int) (rs : List Int) : isLotP (mkLot ns m rs) = lotB ns m rs := by
  unfold isLotP
  rw [lot?_mk]
theorem lot_of {x : PV} (h : isLotP x = true) : ∃ ns m rs, x = mkLot ns m rs ∧ lotB ns m rs = true := by
  unfold isLotP at h
  split at h
  · rename_i ns m rs e
    refine ⟨ns, m, rs, ?_, h⟩
    unfold lot? at e
    split at e
    · rename_i xs m' zs
      obtain ⟨ns', h1, h2⟩ := Option.bind_eq_some_iff.mp e
      obtain ⟨rs', h3, h4⟩ := Option.map_eq_some_iff.mp h2
      cases h4
      rw [ints_inv h1, ints_inv h3]
      rfl
    · cases e
  · cases h
def hasB (ns : List Int) (m : Int) (rs : List Int) (k : Int) : Bool := ns.any (· == k) || rs.any (· == k % m)
theorem ints_none {xs : List PV} (h : ints? xs = none) : ∃ x ∈ xs, isInt x = false := by
  induction xs with
  | nil => cases h
  | cons x xs ih =>
    cases x with
    | int i =>
      have h : (ints? xs).map (i :: ·) = none := h
      rw [Option.map_eq_none_iff] at h
      obtain ⟨y, h1, h2⟩ := ih h
      exact ⟨y, List.mem_cons_of_mem _ h1, h2⟩
    | _ => exact ⟨_, List.mem_cons_self, rfl⟩
theorem pdk_isD {n : Nat} {x : PV} (h : pdk n x = true) : isD x = true := by
  cases n with
  | zero => cases h
  | succ n => cases x <;> first | rfl | cases h
theorem dataP_isD {x : PV} (h : dataP x = true) : isD x = true := by
  unfold dataP at h
  split at h
  · rfl
  · rfl
  · exact pdk_isD h
end Pu
namespace Pu
open PySem L2
/-! ### steps -/
theorem iteB {c : Bool} {A B : Prop} (h1 : c = true → A) (h2 : c = false → B) : if c = true then A else B := by
  cases c with
  | true => exact h1 rfl
  | false => exact h2 rfl
theorem bools_mapf (h : PV → Bool) : ∀ ys : List PV, bools? (ys.map fun y => PV.bl (h y)) = some (ys.map h)
  | [] => rfl
  | y :: ys => by
    show (bools? (ys.map fun y => PV.bl (h y))).map (h y :: ·) = _
    rw [bools_mapf h ys]
    rfl
theorem cut_tail (xs : List PV) : cutP xs (some 1) none = xs.tail := by
  unfold cutP
  have e1 : HT.sIx xs.length 0 (some 1) = min 1 xs.length := rfl
  have e2 : HT.sIx xs.length xs.length none = xs.length := rfl
  rw [e1, e2]
  cases xs with
  | nil => rfl
  | cons x xs =>
    have e3 : min 1 (x :: xs).length = 1 := by simp
    rw [e3]
    show (xs.take (xs.length + 1 - 1)) = xs
    exact List.take_length
def pairI (f : Int → Int → Bool) : PV → Bool
  | .tup [.int a, .int b] => f a b
  | _ => false
theorem zip_ints : ∀ (ns ms : List Int), ∀ y ∈ zipP (ns.map PV.int) (ms.map PV.int), ∃ a b, y = .tup [.int a, .int b]
  | [], _, y, h => by simp [zipP] at h
  | _ :: _, [], y, h => by simp [zipP] at h
  | a :: ns, b :: ms, y, h => by
    have h : y ∈ PV.tup [.int a, .int b] :: zipP (ns.map PV.int) (ms.map PV.int) := h
    rcases List.mem_cons.mp h with e | h
    · exact ⟨a, b, e⟩
    · exact zip_ints ns ms y h
theorem zip_rise : ∀ (ns : List Int), ((zipP (ns.map PV.int) (ns.map PV.int).tail).map (pairI fun a b => decide (a < b))).all id = rise ns
  | [] => rfl
  | [a] => rfl
  | a :: b :: r => by
    have z := zip_rise (b :: r)
    show (decide (a < b) && ((zipP ((b :: r).map PV.int) ((b :: r).map PV.int).tail).map (pairI fun a b => decide (a < b))).all id) = (decide (a < b) && rise (b :: r))
    rw [z]
theorem zip_rise2 : ∀ (ns : List Int), ((zipP (ns.map PV.int) (ns.map PV.int).tail).filter (pairI fun a b => decide (b ≤ a))).isEmpty = rise ns
  | [] => rfl
  | [a] => rfl
  | a :: b :: r => by
    have z := zip_rise2 (b :: r)
    have e : zipP ((a :: b :: r).map PV.int) ((a :: b :: r).map PV.int).tail = .tup [.int a, .int b] :: zipP ((b :: r).map PV.int) ((b :: r).map PV.int).tail := rfl
    rw [e, List.filter_cons]
    have e2 : pairI (fun a b => decide (b ≤ a)) (.tup [.int a, .int b]) = decide (b ≤ a) := rfl
    rw [e2]
    show _ = (decide (a < b) && rise (b :: r))
    by_cases h : b ≤ a
    · rw [if_pos (decide_eq_true h), decide_eq_false (by omega)]
      rfl
    · rw [if_neg (by rw [decide_eq_false h]; simp), decide_eq_true (by omega), z]
      rfl
theorem zip_len (xs : List PV) : (zipP xs xs.tail).length ≤ xs.length := by
  rw [zipP_len]
  omega
def inR (lo hi : Int) : PV → Bool
  | .int n => btw lo hi n
  | _ => false
theorem inR_ints {lo hi : Int} : ∀ {xs : List PV}, xs.all (inR lo hi) = true → ∃ ns, ints? xs = some ns ∧ ns.all (btw lo hi) = true
  | [], _ => ⟨[], rfl, rfl⟩
  | x :: xs, h => by
    rw [List.all_cons, Bool.and_eq_true] at h
    obtain ⟨ns, h1, h2⟩ := inR_ints h.2
    cases x with
    | int i => exact ⟨i :: ns, by show (ints? xs).map (i :: ·) = _; rw [h1]; rfl, by rw [List.all_cons, h2, Bool.and_true]; exact h.1⟩
    | _ => cases h.1
theorem inR_rise {lo hi : Int} (xs : List PV) (h : xs.all (inR lo hi) = false) : risingP lo hi (.tup xs) = false := by
  unfold risingP
  dsimp only
  split
  · rename_i ns e
    rw [ints_inv e] at h
    have e2 : (ns.map PV.int).all (inR lo hi) = ns.all (btw lo hi) := by
      rw [List.all_map]
      rfl
    rw [e2] at h
    rw [h]
    rfl
  · rfl
theorem risingP_ints {lo hi : Int} (ns : List Int) : risingP lo hi (.tup (ns.map PV.int)) = (ns.all (btw lo hi) && rise ns) := by
  unfold risingP
  dsimp only
  rw [ints_map]
theorem risingP_inv {lo hi : Int} {x : PV} (h : risingP lo hi x = true) : ∃ ns, x = .tup (ns.map PV.int) ∧ ns.all (btw lo hi) = true ∧ rise ns = true := by
  unfold risingP at h
  split at h
  · split at h
    · rename_i ns e
      rw [Bool.and_eq_true] at h
      exact ⟨ns, by rw [ints_inv e], h.1, h.2⟩
    · cases h
  · cases h
theorem sz5 {n : Nat} (h : n ≤ 100000) : n ≤ sizeLine := OkW.line h
end Pu
namespace Pu
theorem nb_t {b : Bool} (h : (!b) = true) : b = false := by
  cases b with
  | false => rfl
  | true => cases h
theorem nb_f {b : Bool} (h : (!b) = false) : b = true := by
  cases b with
  | true => rfl
  | false => cases h
end Pu
namespace Pu
theorem inP_ints (k : Int) : ∀ rs : List Int, inP (.int k) (rs.map PV.int) = rs.any (· == k)
  | [] => rfl
  | r :: rs => by
    show (peq (.int r) (.int k) || inP (.int k) (rs.map PV.int)) = ((r == k) || rs.any (· == k))
    rw [inP_ints k rs]
    unfold peq
    rfl
theorem flat_map : ∀ rs : List Int, (rs.map PV.int).all flatP = true
  | [] => rfl
  | r :: rs => by
    rw [List.map_cons, List.all_cons, flat_map rs]
    rfl
theorem flat_ints (k : Int) (rs : List Int) : (flatP (.int k) && (rs.map PV.int).all flatP) = true := by
  rw [flat_map]
  rfl
def modIn (m : Int) (rs : List Int) : PV → Bool
  | .int n => inP (.int (n % m)) (rs.map PV.int)
  | _ => false
theorem modIn_eq (m n : Int) (rs : List Int) : modIn m rs (.int n) = inP (.int (n % m)) (rs.map PV.int) := rfl
theorem modIn_any (m : Int) (rs ns : List Int) : ((ns.map PV.int).map (modIn m rs)).any id = ns.any fun n => rs.any (· == n % m) := by
  rw [List.any_map, List.any_map]
  congr 1
  funext n
  show inP (.int (n % m)) (rs.map PV.int) = _
  rw [inP_ints]
end Pu
namespace Pu
theorem peq_nil (rs : List Int) : peq (.tup (rs.map PV.int)) (.tup []) = rs.isEmpty := by
  unfold peq
  rw [peqs_nil]
  cases rs <;> rfl
theorem lotB_pos {ns rs : List Int} {m : Int} (h : lotB ns m rs = true) : 0 < m := by
  unfold lotB btw at h
  simp only [Bool.and_eq_true, decide_eq_true_eq] at h
  omega
theorem mkLot_inj {ns rs ns' rs' : List Int} {m m' : Int} (h : mkLot ns m rs = mkLot ns' m' rs') : ns = ns' ∧ m = m' ∧ rs = rs' := by
  have e := lot?_mk ns m rs
  rw [h, lot?_mk] at e
  cases e
  exact ⟨rfl, rfl, rfl⟩
end Pu
namespace Pu
open PySem
theorem getI {ns : List Int} {j : Nat} {y : PV} (h : (ns.map PV.int)[j]? = some y) : ∃ c ∈ ns, y = .int c := by
  rw [List.getElem?_map] at h
  cases e : ns[j]? with
  | none => rw [e] at h; cases h
  | some c =>
    rw [e] at h
    cases h
    exact ⟨c, List.mem_of_getElem? e, rfl⟩
theorem getI1 {ns : List Int} {w : Int} {j : Nat} {y : PV} (h : (ns.map PV.int ++ [PV.int w])[j]? = some y) : ∃ c, y = .int c := by
  have e : ns.map PV.int ++ [PV.int w] = (ns ++ [w]).map PV.int := by simp
  rw [e] at h
  obtain ⟨c, _, e⟩ := getI h
  exact ⟨c, e⟩
theorem bits_lt {z : Int} {b : Nat} (h : Builtin.Int.intBits z ≤ b) : z.natAbs < 2 ^ b := by
  unfold Builtin.Int.intBits at h
  split at h
  · rename_i h0
    have : z.natAbs = 0 := by simpa using h0
    rw [this]
    exact Nat.lt_of_lt_of_le Nat.zero_lt_one Nat.one_le_two_pow
  · exact Nat.lt_of_lt_of_le Nat.lt_log2_self (Nat.pow_le_pow_right (by decide) h)
theorem bits_le {z : Int} {b : Nat} (h : z.natAbs < 2 ^ b) : Builtin.Int.intBits z ≤ b := by
  unfold Builtin.Int.intBits
  split
  · exact Nat.zero_le _
  · rename_i h0
    have h1 : z.natAbs ≠ 0 := by
      intro e
      exact h0 (by simpa using e)
    exact (Nat.log2_lt h1).mpr h
theorem mul_ok {a b : Nat} {x y : Int} (hx : x.natAbs < 2 ^ a) (hy : y.natAbs < 2 ^ b) (h : a + b ≤ 134217728) : IntMulOk x y := by
  have h1 := bits_le hx
  have h2 := bits_le hy
  have e : bitsLine = 134217728 := by decide
  unfold IntMulOk
  intro z
  rw [Bool.and_eq_true] at z
  have z2 := z.2
  unfold Builtin.Int.intTooBig at z2
  have z3 := of_decide_eq_true z2
  rw [e] at z3
  omega
theorem grow_lt {a b : Nat} {w c : Int} (hw : w.natAbs < 2 ^ a) (hc : c.natAbs < 2 ^ b) (h0 : 1000000000000000000 ≤ c) : (w * (c - 1000000000000000000 + 1) + (c - 1000000000000000000)).natAbs < 2 ^ (a + b) := by
  have h1 : (w * (c - 1000000000000000000 + 1) + (c - 1000000000000000000)).natAbs ≤ w.natAbs * (c - 1000000000000000000 + 1).natAbs + (c - 1000000000000000000).natAbs := by
    refine Nat.le_trans (Int.natAbs_add_le _ _) ?_
    rw [Int.natAbs_mul]
    exact Nat.le_refl _
  have h2 : (c - 1000000000000000000).natAbs < (c - 1000000000000000000 + 1).natAbs := by omega
  have h3 : (c - 1000000000000000000 + 1).natAbs ≤ 2 ^ b := by omega
  have h4 : w.natAbs * (c - 1000000000000000000 + 1).natAbs + (c - 1000000000000000000).natAbs < (w.natAbs + 1) * (c - 1000000000000000000 + 1).natAbs := by
    rw [Nat.add_mul, Nat.one_mul]
    omega
  have h5 : (w.natAbs + 1) * (c - 1000000000000000000 + 1).natAbs ≤ 2 ^ a * 2 ^ b := Nat.mul_le_mul hw h3
  rw [Nat.pow_add]
  omega
theorem OkW.lt {n : Nat} (h : n < 100000) : n < sizeLine := by
  rw [PySem.sizeLine_eq]
  omega
theorem atI_in {xs : List PV} {k : Int} (h0 : 0 ≤ k) (h : k < xs.length) : ∃ v, L2.atI xs k = some v ∧ v ∈ xs := by
  obtain ⟨n, rfl⟩ := Int.eq_ofNat_of_zero_le h0
  have hn : n < xs.length := by omega
  exact ⟨xs[n], L2.atI_nat (List.getElem?_eq_getElem hn), List.getElem_mem hn⟩
end Pu
namespace Pu
open PySem
theorem filter_empty (xs : List PV) (f : PV → Bool) : (xs.filter fun y => !f y).isEmpty = xs.all f := by
  induction xs with
  | nil => rfl
  | cons x xs ih =>
    rw [List.filter_cons, List.all_cons]
    cases h : f x with
    | true =>
      rw [if_neg (by simp), ih, Bool.true_and]
    | false =>
      rw [if_pos (by simp), Bool.false_and]
      rfl
mutual
def wt : PV → Nat
  | .lst xs => 1 + wts xs
  | .tup xs => 1 + wts xs
  | _ => 1
def wts : List PV → Nat
  | [] => 0
  | x :: xs => wt x + wts xs
end
theorem wt_pos (x : PV) : 1 ≤ wt x := by
  cases x <;> (unfold wt; omega)
theorem wts_len : ∀ xs : List PV, xs.length ≤ wts xs
  | [] => Nat.zero_le _
  | x :: xs => by
    have h1 := wts_len xs
    have h2 := wt_pos x
    unfold wts
    rw [List.length_cons]
    omega
theorem wts_append : ∀ xs ys : List PV, wts (xs ++ ys) = wts xs + wts ys
  | [], ys => by
    rw [List.nil_append]
    unfold wts
    cases ys <;> simp
  | x :: xs, ys => by
    have h := wts_append xs ys
    rw [List.cons_append]
    show wts (x :: (xs ++ ys)) = wts (x :: xs) + wts ys
    have e1 : wts (x :: (xs ++ ys)) = wt x + wts (xs ++ ys) := by rw [wts]
    have e2 : wts (x :: xs) = wt x + wts xs := by rw [wts]
    rw [e1, e2, h]
    omega
theorem wts_snoc (xs : List PV) (y : PV) : wts (xs ++ [y]) = wts xs + wt y := by
  rw [wts_append]
  have e : wts [y] = wt y := by rw [wts, wts]; omega
  rw [e]
/-- what a thing is called -/
def kind1 : PV → PV
  | .non => .str "None"
  | .bl b => .str (if b then "True" else "False")
  | .int _ => .str "number"
  | .str _ => .str "string"
  | .lst _ => .str "list"
  | .tup _ => .str "tuple"
  | _ => .str "other"
def subs : PV → List PV
  | .lst xs => xs
  | .tup xs => xs
  | _ => []
def kindsGo : Nat → List PV → List PV → List PV
  | 0, _, found => found
  | m + 1, line, found => match line.getLast? with
    | none => found
    | some y => kindsGo m (line.dropLast ++ subs y) (found ++ [kind1 y])
def kindsP (x : PV) : List PV := kindsGo (wts [x]) [x] []
theorem kindsGo_snoc (m : Nat) (rest : List PV) (y : PV) (found : List PV) : kindsGo (m + 1) (rest ++ [y]) found = kindsGo m (rest ++ subs y) (found ++ [kind1 y]) := by
  rw [kindsGo, List.getLast?_concat]
  show kindsGo m ((rest ++ [y]).dropLast ++ subs y) _ = _
  rw [List.dropLast_concat]
theorem kinds0 (m : Nat) (rest found : List PV) : kindsGo m (rest ++ []) found = kindsGo m rest found := by rw [List.append_nil]
theorem kind1_dat (x : PV) : pdk 2 (kind1 x) = true := by
  cases x with
  | bl b => cases b <;> exact (by decide +kernel)
  | non => exact (by decide +kernel : pdk 2 (.str "None") = true)
  | int _ => exact (by decide +kernel : pdk 2 (.str "number") = true)
  | str _ => exact (by decide +kernel : pdk 2 (.str "string") = true)
  | lst _ => exact (by decide +kernel : pdk 2 (.str "list") = true)
  | tup _ => exact (by decide +kernel : pdk 2 (.str "tuple") = true)
  | _ => exact (by decide +kernel : pdk 2 (.str "other") = true)
theorem kindsGo_dat : ∀ (m : Nat) (line found : List PV), found.all (pdk 2) = true → (kindsGo m line found).all (pdk 2) = true
  | 0, _, _, h => h
  | m + 1, line, found, h => by
    rw [kindsGo]
    split
    · exact h
    · exact kindsGo_dat m _ _ (by rw [List.all_append, h, List.all_cons, kind1_dat]; rfl)
theorem kindsP_dat (x : PV) : pdk 3 (.lst (kindsP x)) = true := kindsGo_dat _ _ _ rfl
end Pu
namespace Pu
theorem lt61 {m : Int} : decide (m < (61 : Int)) = decide (m ≤ (60 : Int)) := by
  by_cases h : m < 61
  · rw [decide_eq_true h, decide_eq_true (by omega)]
  · rw [decide_eq_false h, decide_eq_false (by omega)]
theorem filter_any (xs : List PV) (f : PV → Bool) : (xs.filter f).isEmpty = !((xs.map f).any id) := by
  induction xs with
  | nil => rfl
  | cons x xs ih =>
    rw [List.filter_cons, List.map_cons, List.any_cons]
    cases h : f x with
    | true =>
      rw [if_pos rfl]
      rfl
    | false =>
      rw [if_neg (by simp), ih]
      rfl
end Pu
namespace Pu
theorem pints_of {l : List PV} {P : Int → Prop} (h : ∀ v ∈ l, ∃ i : Int, v = .int i ∧ P i) : ∃ ms : List Int, l = ms.map PV.int ∧ ∀ i ∈ ms, P i := by
  induction l with
  | nil => exact ⟨[], rfl, fun i hi => by cases hi⟩
  | cons x l ih =>
    obtain ⟨ms, e, hm⟩ := ih fun v hv => h v (List.mem_cons_of_mem _ hv)
    obtain ⟨i, e1, hi⟩ := h x List.mem_cons_self
    refine ⟨i :: ms, by rw [e, e1]; rfl, fun j hj => ?_⟩
    rcases List.mem_cons.mp hj with z | z
    · rw [z]; exact hi
    · exact hm j z
theorem mem_rangeP {i j : Int} {y : PV} (h : y ∈ rangeP i j) : ∃ k, y = .int k ∧ i ≤ k ∧ k < j := by
  unfold rangeP at h
  obtain ⟨n, h1, h2⟩ := List.mem_map.mp h
  have := List.mem_range.mp h1
  exact ⟨i + n, h2.symm, by omega, by omega⟩
theorem cut_take (xs : List PV) (n : Nat) : cutP xs none (some (n : Int)) = xs.take n := by
  unfold cutP
  have e1 : HT.sIx xs.length 0 none = 0 := rfl
  have e2 : HT.sIx xs.length xs.length (some (n : Int)) = min n xs.length := by
    show (if (n : Int) < 0 then ((n : Int) + (xs.length : Int)).toNat else min (n : Int).toNat xs.length) = _
    rw [if_neg (by omega)]
    rfl
  rw [e1, e2, List.drop_zero, Nat.sub_zero]
  rcases Nat.le_total n xs.length with h | h
  · rw [Nat.min_eq_left h]
  · rw [Nat.min_eq_right h, List.take_length, List.take_of_length_le h]
theorem rise_pw : ∀ {ns : List Int}, ns.Pairwise (· < ·) → rise ns = true
  | [], _ => rfl
  | [_], _ => rfl
  | a :: b :: r, h => by
    rw [List.pairwise_cons] at h
    have h1 := h.1 b List.mem_cons_self
    show (decide (a < b) && rise (b :: r)) = true
    rw [decide_eq_true h1, rise_pw h.2]
    rfl
theorem len_insU : ∀ {x : Int} {ns : List Int}, (insU x ns).length ≤ ns.length + 1
  | x, [] => by simp [insU]
  | x, n :: r => by
    unfold insU
    split
    · simp
    · split
      · simp
      · have := len_insU (x := x) (ns := r)
        simp only [List.length_cons]
        omega
theorem len_setI : ∀ {ns : List Int}, (setI ns).length ≤ ns.length
  | [] => by simp [setI]
  | n :: r => by
    have h := len_setI (ns := r)
    have h2 := len_insU (x := n) (ns := setI r)
    show (insU n (setI r)).length ≤ r.length + 1
    omega
theorem setI_ne {ns : List Int} (h : ns ≠ []) : setI ns ≠ [] := fun z => by
  cases ns with
  | nil => exact h rfl
  | cons n r =>
    have : n ∈ setI (n :: r) := mem_setI.mpr List.mem_cons_self
    rw [z] at this
    cases this
theorem all_btw {ns : List Int} {lo hi : Int} (h : ∀ i ∈ ns, lo ≤ i ∧ i ≤ hi) : ns.all (btw lo hi) = true := by
  rw [List.all_eq_true]
  intro i hi'
  unfold btw
  rw [decide_eq_true (h i hi').1, decide_eq_true (h i hi').2]
  rfl
theorem lotB_fin {ms : List Int} (hne : ms ≠ []) (hl : ms.length ≤ 40) (h : ∀ i ∈ ms, -1000 ≤ i ∧ i ≤ 1000) : lotB (setI ms) 1 [] = true := by
  have h1 : (setI ms).all (btw (-1000) 1000) = true := all_btw fun i hi => h i (mem_setI.mp hi)
  have h2 : rise (setI ms) = true := rise_pw pw_setI
  have h3 : decide ((setI ms).length ≤ 40) = true := decide_eq_true (Nat.le_trans len_setI hl)
  unfold lotB
  rw [h1, h2, h3]
  have h4 := setI_ne hne
  cases e : setI ms with
  | nil => exact absurd e h4
  | cons _ _ => rfl
theorem pw_filter {ns : List Int} {f : Int → Bool} (h : ns.Pairwise (· < ·)) : (ns.filter f).Pairwise (· < ·) := h.filter f
theorem lotB_end {ms qs : List Int} {k : Int} (hne : ms ≠ []) (h : ∀ i ∈ ms, 0 ≤ i ∧ i ≤ k) (hk0 : 0 ≤ k) (hk : k ≤ 59) (hq : ∀ i ∈ qs, -1000 ≤ i ∧ i ≤ 1000) (hl : qs.length ≤ 40) :
    lotB ((setI qs).filter fun p => !((setI ms).any (· == p % (1 + k)))) (1 + k) (setI ms) = true := by
  have h1 : ((setI qs).filter fun p => !((setI ms).any (· == p % (1 + k)))).all (btw (-1000) 1000) = true := all_btw fun i hi => hq i (mem_setI.mp (List.mem_filter.mp hi).1)
  have h2 : rise ((setI qs).filter fun p => !((setI ms).any (· == p % (1 + k)))) = true := rise_pw (pw_filter pw_setI)
  have h3 : decide (((setI qs).filter fun p => !((setI ms).any (· == p % (1 + k)))).length ≤ 40) = true := decide_eq_true (Nat.le_trans (List.length_filter_le _ _) (Nat.le_trans len_setI hl))
  have h4 : btw 1 60 (1 + k) = true := by
    unfold btw
    rw [decide_eq_true (by omega), decide_eq_true (by omega)]
    rfl
  have h5 : (setI ms).all (btw 0 (1 + k - 1)) = true := all_btw fun i hi => by
    have := h i (mem_setI.mp hi)
    omega
  have h6 : rise (setI ms) = true := rise_pw pw_setI
  unfold lotB
  rw [h1, h2, h3, h4, h5, h6, if_neg (setI_ne hne)]
  have h7 : (((setI qs).filter fun p => !((setI ms).any (· == p % (1 + k)))).any fun n => (setI ms).any (· == n % (1 + k))) = false := by
    rw [List.any_eq_false]
    intro n hn
    have := (List.mem_filter.mp hn).2
    intro z
    rw [z] at this
    cases this
  rw [h7]
  rfl
end Pu
namespace Pu
theorem lotB_rs {ns rs : List Int} {m : Int} (h : lotB ns m rs = true) : ∀ r ∈ rs, 0 ≤ r ∧ r < m := fun r hr => by
  unfold lotB at h
  simp only [Bool.and_eq_true] at h
  have h1 := List.all_eq_true.mp h.1.2.1 r hr
  unfold btw at h1
  simp only [Bool.and_eq_true, decide_eq_true_eq] at h1
  omega
theorem lotB_m {ns rs : List Int} {m : Int} (h : lotB ns m rs = true) : m ≤ 60 := by
  unfold lotB btw at h
  simp only [Bool.and_eq_true, decide_eq_true_eq] at h
  omega
theorem lotB_len {ns rs : List Int} {m : Int} (h : lotB ns m rs = true) : ns.length ≤ 40 := by
  unfold lotB at h
  simp only [Bool.and_eq_true, decide_eq_true_eq] at h
  omega
theorem rise_len : ∀ {rs : List Int} {lo hi : Int}, rise rs = true → (∀ r ∈ rs, lo ≤ r ∧ r ≤ hi) → (rs.length : Int) ≤ max 0 (hi - lo + 1)
  | [], _, _, _, _ => by simp; omega
  | [a], lo, hi, _, h => by
    have := h a List.mem_cons_self
    simp
    omega
  | a :: b :: r, lo, hi, h, hb => by
    have h : (decide (a < b) && rise (b :: r)) = true := h
    rw [Bool.and_eq_true, decide_eq_true_eq] at h
    have h0 := hb a List.mem_cons_self
    have hb1 := hb b (List.mem_cons_of_mem _ List.mem_cons_self)
    have ih := rise_len (rs := b :: r) (lo := a + 1) (hi := hi) h.2 (fun c hc => by
      have h2 := hb c (List.mem_cons_of_mem _ hc)
      have h3 : b ≤ c := rise_min h.2 c hc
      omega)
    have e : (((a :: b :: r).length : Nat) : Int) = ((b :: r).length : Nat) + 1 := by simp
    rw [e]
    omega
where rise_min : ∀ {b : Int} {r : List Int}, rise (b :: r) = true → ∀ c ∈ b :: r, b ≤ c
  | b, [], _, c, hc => by
    have : c = b := by simpa using hc
    omega
  | b, d :: r, h, c, hc => by
    have h : (decide (b < d) && rise (d :: r)) = true := h
    rw [Bool.and_eq_true, decide_eq_true_eq] at h
    rcases List.mem_cons.mp hc with e | hc
    · omega
    · have := rise_min h.2 c hc
      omega
theorem lotB_rise {ns rs : List Int} {m : Int} (h : lotB ns m rs = true) : rise ns = true ∧ rise rs = true := by
  unfold lotB at h
  simp only [Bool.and_eq_true] at h
  exact ⟨h.1.1.1.1.2, h.1.2.2⟩
theorem lotB_r60 {ns rs : List Int} {m : Int} (h : lotB ns m rs = true) : rs.length ≤ 60 := by
  have h1 := rise_len (lo := 0) (hi := m - 1) (lotB_rise h).2 fun r hr => by
    have := lotB_rs h r hr
    omega
  have h2 := lotB_m h
  have h3 := lotB_pos h
  omega
theorem lotB_rlen {ns rs : List Int} {m : Int} (h : lotB ns m rs = true) : rs.length ≤ 100000 := by
  have := lotB_r60 h
  omega
end Pu
namespace Pu
theorem lcGo_yes {t : Tgt} {cond : PPT} {elt : PP} {ρ : PEnv} {A : PV → PV → Prop} {R : PK} : ∀ (ys acc : List PV),
    (∀ y ∈ ys, ∀ (Q1 : PK) (Q2 : Prop), (∀ v, A y v → Q1 v) → tgt t y ρ fun ρ' => cond ρ' fun b => if b = true then elt ρ' Q1 else Q2) →
    (∀ l : List PV, l.length = ys.length → (∀ v ∈ l, ∃ y ∈ ys, A y v) → R (.lst (acc ++ l))) → lcGo t cond elt ρ ys acc R
  | [], acc, _, h => by
    have q := h [] rfl (by simp)
    rw [List.append_nil] at q
    exact q
  | y :: ys, acc, hs, h => by
    refine hs y List.mem_cons_self _ _ fun v hv => ?_
    refine lcGo_yes ys (acc ++ [v]) (fun z hz => hs z (List.mem_cons_of_mem _ hz)) fun l hl ha => ?_
    rw [List.append_assoc]
    refine h (v :: l) (congrArg Nat.succ hl) fun u hu => ?_
    rcases List.mem_cons.mp hu with e | hu
    · subst e
      exact ⟨y, List.mem_cons_self, hv⟩
    · obtain ⟨z, h1, h2⟩ := ha u hu
      exact ⟨z, List.mem_cons_of_mem _ h1, h2⟩
theorem lotB_ne {ns : List Int} {m : Int} (h : lotB ns m [] = true) : ns ≠ [] := fun z => by
  subst z
  unfold lotB at h
  simp at h
end Pu
namespace Pu
/-- a part of what may be a lot -/
def okc (x : PV) : Bool := okT x && pdk 29 x
theorem data3 {a b c : PV} (ha : okc a = true) (hb : okc b = true) (hc : okc c = true) : dataP (.tup [a, b, c]) = true := by
  unfold okc at ha hb hc
  rw [Bool.and_eq_true] at ha hb hc
  show ((okT a && (okT b && (okT c && true))) && (pdk 29 a && (pdk 29 b && (pdk 29 c && true)))) = true
  rw [ha.1, ha.2, hb.1, hb.2, hc.1, hc.2]
  rfl
theorem data2 {a b : PV} (ha : okc a = true) (hb : okc b = true) : dataP (.tup [a, b]) = true := by
  unfold okc at ha hb
  rw [Bool.and_eq_true] at ha hb
  show ((okT a && (okT b && true)) && (pdk 29 a && (pdk 29 b && true))) = true
  rw [ha.1, ha.2, hb.1, hb.2]
  rfl
theorem okc_tup {xs : List PV} (h : xs.all (pdk 28) = true) (hl : xs.length ≤ 100000) : okc (.tup xs) = true := by
  unfold okc
  rw [Bool.and_eq_true]
  exact ⟨decide_eq_true hl, h⟩
theorem okc_lst {xs : List PV} (h : xs.all (pdk 28) = true) : okc (.lst xs) = true := by
  unfold okc
  rw [Bool.and_eq_true]
  exact ⟨rfl, h⟩
theorem okc_ints {ns : List Int} (hl : ns.length ≤ 100000) : okc (.tup (ns.map PV.int)) = true := okc_tup (pdk_ints ns) (by rw [List.length_map]; exact hl)
def atomP : PV → Bool
  | .non => true
  | .bl _ => true
  | .int _ => true
  | .str x => PySem.PyData.strOk x
  | _ => false
theorem okc_atom {x : PV} (h : atomP x = true) : okc x = true := by
  cases x <;> first | rfl | (cases h; done) | exact h
theorem pdk_atom {x : PV} {n : Nat} (h : atomP x = true) : pdk (n + 1) x = true := by
  cases x <;> first | rfl | (cases h; done) | exact h
theorem okc_snoc {ns : List Int} {x : PV} (h : atomP x = true) (hl : ns.length ≤ 1000) : okc (.tup (ns.map PV.int ++ [x])) = true := okc_tup (by
  rw [List.all_append, pdk_ints ns, List.all_cons, pdk_atom h]
  rfl) (by rw [List.length_append, List.length_map]; show ns.length + 1 ≤ 100000; omega)
theorem data_lot {ns rs : List Int} {m : Int} (h : lotB ns m rs = true) : dataP (mkLot ns m rs) = true := by
  have := lotB_len h
  exact data3 (okc_ints (by omega)) rfl (okc_ints (lotB_rlen h))
end Pu
namespace Pu
theorem lotAll {ns rs : List Int} {m : Int} {P : List Int → Int → List Int → Prop} (h : P ns m rs) : ∀ ns' m' rs', mkLot ns m rs = mkLot ns' m' rs' → P ns' m' rs' := fun ns' m' rs' e => by
  obtain ⟨rfl, rfl, rfl⟩ := mkLot_inj e
  exact h
theorem says2 {x : PV} (h : pdk 49 x = true) : pdk 50 (.lst [x, x]) = true := by
  show (pdk 49 x && (pdk 49 x && true)) = true
  rw [h]
  rfl
theorem wt2 {x : PV} (h : wt x ≤ 20000) : wt (.lst [x, x]) ≤ 50000 := by
  have e : wt (.lst [x, x]) = 1 + (wt x + (wt x + 0)) := by
    rw [wt, wts, wts, wts]
  omega
end Pu
namespace Pu
def hasV (x : PV) (k : Int) : Bool := match lot? x with
  | some (ns, m, rs) => hasB ns m rs k
  | none => false
def sizeV (x : PV) : PV := match lot? x with
  | some (ns, _, rs) => if rs = [] then .int ns.length else .non
  | none => .non
def endlessV (x : PV) : Bool := match lot? x with
  | some (_, _, rs) => !rs.isEmpty
  | none => false
theorem hasV_mk (ns rs : List Int) (m k : Int) : hasV (mkLot ns m rs) k = hasB ns m rs k := by
  unfold hasV
  rw [lot?_mk]
theorem sizeV_mk (ns rs : List Int) (m : Int) : sizeV (mkLot ns m rs) = if rs = [] then .int ns.length else .non := by
  unfold sizeV
  rw [lot?_mk]
theorem endlessV_mk (ns rs : List Int) (m : Int) : endlessV (mkLot ns m rs) = !rs.isEmpty := by
  unfold endlessV
  rw [lot?_mk]
theorem sizeV_two (x : PV) : (∃ n : Nat, sizeV x = .int n) ∨ sizeV x = .non := by
  unfold sizeV
  split
  · split
    · exact .inl ⟨_, rfl⟩
    · exact .inr rfl
  · exact .inr rfl
theorem sizeV_dat (x : PV) : pdk 49 (sizeV x) = true ∧ wt (sizeV x) ≤ 20000 := by
  rcases sizeV_two x with ⟨n, e⟩ | e
  · rw [e]
    exact ⟨rfl, by unfold wt; omega⟩
  · rw [e]
    exact ⟨rfl, by unfold wt; omega⟩
end Pu
namespace Pu
/-! ### primes -/
def PrimeI (n : Int) : Prop := 2 ≤ n ∧ ∀ d : Int, 2 ≤ d → d < n → n % d ≠ 0
noncomputable def primeB (n : Int) : Bool := @decide (PrimeI n) (Classical.propDecidable _)
theorem primeB_t {n : Int} (h : PrimeI n) : primeB n = true := by
  unfold primeB
  exact @decide_eq_true _ (Classical.propDecidable _) h
theorem primeB_f {n : Int} (h : ¬ PrimeI n) : primeB n = false := by
  unfold primeB
  exact @decide_eq_false _ (Classical.propDecidable _) h
theorem primeB_iff {n : Int} : primeB n = true ↔ PrimeI n := by
  constructor
  · intro h
    by_cases q : PrimeI n
    · exact q
    · rw [primeB_f q] at h
      cases h
  · exact primeB_t
theorem prime_end {n p : Int} (h2 : 2 ≤ p) (hn : p ≤ n) (hp : n < p * p) (h : ∀ d : Int, 2 ≤ d → d < p → n % d ≠ 0) : PrimeI n := by
  refine ⟨by omega, fun d hd hdn hm => ?_⟩
  by_cases hdp : d < p
  · exact h d hd hdp hm
  · have e : n = d * (n / d) := by
      have := Int.mul_ediv_add_emod n d
      omega
    have q0 : 2 ≤ n / d := by
      rcases Int.lt_or_le (n / d) 2 with z | z
      · exfalso
        have z1 : n / d ≤ 1 := by omega
        have z2 : d * (n / d) ≤ d * 1 := Int.mul_le_mul_of_nonneg_left z1 (by omega)
        omega
      · exact z
    have q1 : n / d < p := by
      rcases Int.lt_or_le (n / d) p with z | z
      · exact z
      · exfalso
        have z2 : p * p ≤ d * (n / d) := Int.mul_le_mul (by omega) z (by omega) (by omega)
        omega
    refine h (n / d) q0 q1 ?_
    have e2 : n = (n / d) * d := by rw [Int.mul_comm]; exact e
    have : (n / d * d) % (n / d) = 0 := Int.mul_emod_right _ _
    rw [← e2] at this
    exact this
end Pu

/-! The plain side, part T: counting residues. -/
namespace Pu
theorem sub_full {rs : List Int} : rs.Nodup → ∀ {P : List Int}, (∀ x ∈ rs, x ∈ P) → P.length ≤ rs.length → ∀ x ∈ P, x ∈ rs := by
  induction rs with
  | nil =>
    intro _ P _ hl x hx
    cases P with
    | nil => exact hx
    | cons _ _ => simp at hl
  | cons r rs ih =>
    intro hn P hs hl x hx
    rw [List.nodup_cons] at hn
    have hr : r ∈ P := hs r List.mem_cons_self
    have hlen : (P.erase r).length ≤ rs.length := by
      rw [List.length_erase_of_mem hr]
      simp at hl
      omega
    have hsub : ∀ y ∈ rs, y ∈ P.erase r := fun y hy => by
      have hne : y ≠ r := fun e => hn.1 (by rw [← e]; exact hy)
      exact (List.mem_erase_of_ne hne).mpr (hs y (List.mem_cons_of_mem _ hy))
    by_cases e : x = r
    · rw [e]
      exact List.mem_cons_self
    · exact List.mem_cons_of_mem _ (ih hn.2 hsub hlen x ((List.mem_erase_of_ne e).mpr hx))
theorem sub_len {rs : List Int} : rs.Nodup → ∀ {P : List Int}, (∀ x ∈ rs, x ∈ P) → rs.length ≤ P.length := by
  induction rs with
  | nil => intro _ P _; exact Nat.zero_le _
  | cons r rs ih =>
    intro hn P hs
    rw [List.nodup_cons] at hn
    have hr : r ∈ P := hs r List.mem_cons_self
    have hsub : ∀ y ∈ rs, y ∈ P.erase r := fun y hy => by
      have hne : y ≠ r := fun e => hn.1 (by rw [← e]; exact hy)
      exact (List.mem_erase_of_ne hne).mpr (hs y (List.mem_cons_of_mem _ hy))
    have := ih hn.2 hsub
    rw [List.length_erase_of_mem hr] at this
    have hp : 0 < P.length := List.length_pos_of_mem hr
    simp
    omega
/-- the numbers below l * q whose rest modulo l stands in ks -/
def blow (l : Int) (q : Nat) (ks : List Int) : List Int := ks.flatMap fun c => (List.range q).map fun t : Nat => c + l * t
theorem blow_len (l : Int) (q : Nat) : ∀ ks : List Int, (blow l q ks).length = ks.length * q
  | [] => by simp [blow]
  | k :: ks => by
    have h := blow_len l q ks
    show (((List.range q).map fun t : Nat => k + l * t) ++ blow l q ks).length = _
    rw [List.length_append, h, List.length_map, List.length_range, List.length_cons, Nat.add_mul, Nat.one_mul]
    omega
theorem mem_blow {l : Int} {q : Nat} {ks : List Int} {x : Int} (hl : 0 < l) (hk : ∀ c ∈ ks, 0 ≤ c ∧ c < l) : x ∈ blow l q ks ↔ 0 ≤ x ∧ x < l * q ∧ x % l ∈ ks := by
  unfold blow
  rw [List.mem_flatMap]
  constructor
  · rintro ⟨c, hc, hx⟩
    obtain ⟨t, ht, rfl⟩ := List.mem_map.mp hx
    have ht := List.mem_range.mp ht
    have hc2 := hk c hc
    have h1 : 0 ≤ l * (t : Int) := Int.mul_nonneg (by omega) (by omega)
    have h2 : l * ((t : Int) + 1) ≤ l * (q : Int) := Int.mul_le_mul_of_nonneg_left (by omega) (by omega)
    have h3 : l * ((t : Int) + 1) = l * t + l := by rw [Int.mul_add, Int.mul_one]
    refine ⟨by omega, by omega, ?_⟩
    rw [Int.add_mul_emod_self_left, Int.emod_eq_of_lt hc2.1 hc2.2]
    exact hc
  · rintro ⟨h0, h1, h2⟩
    refine ⟨x % l, h2, List.mem_map.mpr ⟨(x / l).toNat, ?_, ?_⟩⟩
    · rw [List.mem_range]
      have h3 : x / l < q := Int.ediv_lt_of_lt_mul hl (by rw [Int.mul_comm]; exact h1)
      have h4 : 0 ≤ x / l := Int.ediv_nonneg h0 (by omega)
      omega
    · have h4 : 0 ≤ x / l := Int.ediv_nonneg h0 (by omega)
      rw [Int.toNat_of_nonneg h4]
      exact Int.emod_add_mul_ediv x l
/-- as many as there could be: all of them -/
theorem blow_all {l : Int} {q : Nat} {ks rs : List Int} (hl : 0 < l) (hn : rs.Nodup) (hk : ∀ c, c ∈ ks ↔ ∃ r ∈ rs, r % l = c) (hr : ∀ r ∈ rs, 0 ≤ r ∧ r < l * q) (h : ks.length * q = rs.length) : ∀ x, 0 ≤ x → x < l * q → x % l ∈ ks → x ∈ rs := fun x h0 h1 h2 => by
  have hk0 : ∀ c ∈ ks, 0 ≤ c ∧ c < l := fun c hc => by
    obtain ⟨r, _, e⟩ := (hk c).mp hc
    rw [← e]
    exact ⟨Int.emod_nonneg _ (by omega), Int.emod_lt_of_pos _ hl⟩
  refine sub_full hn (P := blow l q ks) (fun y hy => (mem_blow hl hk0).mpr ⟨(hr y hy).1, (hr y hy).2, (hk _).mpr ⟨y, hy, rfl⟩⟩) (by rw [blow_len, h]; exact Nat.le_refl _) x ((mem_blow hl hk0).mpr ⟨h0, h1, h2⟩)
end Pu
namespace Pu
open PySem L2
theorem putP_keys {acc : List (Key × PV)} {ks : List Int} {c : Int} {v : PV} (h : acc.map (·.1) = ks.map Sum.inl) : (putP acc (.inl c) v).map (·.1) = (if c ∈ ks then ks else ks ++ [c]).map Sum.inl := by
  have e : (acc.any fun kv => decide (kv.1 = Sum.inl c)) = decide (c ∈ ks) := by
    have h2 : (acc.any fun kv => decide (kv.1 = Sum.inl c)) = ((acc.map (·.1)).any fun k => decide (k = Sum.inl c)) := by
      rw [List.any_map]
      rfl
    rw [h2, h, List.any_map]
    rw [Bool.eq_iff_iff, List.any_eq_true, decide_eq_true_iff]
    constructor
    · rintro ⟨x, hx, hc⟩
      have hc := of_decide_eq_true hc
      cases hc
      exact hx
    · intro hc
      exact ⟨c, hc, decide_eq_true rfl⟩
  unfold putP
  rw [e]
  by_cases hc : c ∈ ks
  · rw [if_pos (decide_eq_true hc), if_pos hc, ← h, List.map_map]
    apply List.map_congr_left
    intro kv _
    show (if kv.1 = Sum.inl c then (kv.1, v) else kv).1 = kv.1
    split <;> rfl
  · rw [if_neg (by rw [decide_eq_false hc]; simp), if_neg hc, List.map_append, h, List.map_append]
    rfl
theorem dcGo_set {t : Tgt} {ke ve : PP} {ρ : PEnv} {R : PK} (g : PV → Int) (v : PV) : ∀ (ys : List PV) (acc : List (Key × PV)) (ks : List Int), acc.map (·.1) = ks.map Sum.inl → ks.Nodup →
    (∀ y ∈ ys, ∀ Q : PV → PV → Prop, Q (.int (g y)) v → tgt t y ρ fun ρ' => ke ρ' fun kx => ve ρ' fun w => Q kx w) →
    (∀ (acc' : List (Key × PV)) (ks' : List Int), acc'.map (·.1) = ks'.map Sum.inl → ks'.Nodup → (∀ c, c ∈ ks' ↔ c ∈ ks ∨ ∃ y ∈ ys, g y = c) → ks'.length ≤ ks.length + ys.length → R (.dic acc')) → dcGo t cYes ke ve ρ ys acc R
  | [], acc, ks, h1, h2, _, h => h acc ks h1 h2 (fun c => by simp) (by simp)
  | y :: ys, acc, ks, h1, h2, hs, h => by
    refine hs y List.mem_cons_self (fun kx w => match keyP kx with
      | some k => dcGo t cYes ke ve ρ ys (putP acc k w) R
      | none => False) ?_
    show dcGo t cYes ke ve ρ ys (putP acc (.inl (g y)) v) R
    refine dcGo_set g v ys _ _ (putP_keys h1) ?_ (fun z hz => hs z (List.mem_cons_of_mem _ hz)) fun acc' ks' a1 a2 a3 a4 => h acc' ks' a1 a2 (fun c => ?_) ?_
    · split
      · exact h2
      · rename_i hc
        rw [List.nodup_append]
        exact ⟨h2, by simp, fun a ha b hb e => by
          have : b = g y := by simpa using hb
          exact hc (by rw [← this, ← e]; exact ha)⟩
    · rw [a3 c]
      have e : (c ∈ if g y ∈ ks then ks else ks ++ [g y]) ↔ c ∈ ks ∨ g y = c := by
        split
        · rename_i hc
          constructor
          · exact .inl
          · rintro (z | z)
            · exact z
            · rw [← z]; exact hc
        · rw [List.mem_append, List.mem_singleton]
          constructor
          · rintro (z | z)
            · exact .inl z
            · exact .inr z.symm
          · rintro (z | z)
            · exact .inl z
            · exact .inr z.symm
      rw [e]
      constructor
      · rintro ((z | z) | ⟨w, hw, z⟩)
        · exact .inl z
        · exact .inr ⟨y, List.mem_cons_self, z⟩
        · exact .inr ⟨w, List.mem_cons_of_mem _ hw, z⟩
      · rintro (z | ⟨w, hw, z⟩)
        · exact .inl (.inl z)
        · rcases List.mem_cons.mp hw with e | hw
          · rw [e] at z
            exact .inl (.inr z)
          · exact .inr ⟨w, hw, z⟩
    · have : (if g y ∈ ks then ks else ks ++ [g y]).length ≤ ks.length + 1 := by
        split
        · omega
        · rw [List.length_append]; exact Nat.le_refl _
      simp only [List.length_cons]
      omega
theorem sortI_rise {ks : List Int} (h : ks.Nodup) : (sortI ks).Pairwise (· < ·) := by
  have h1 := sortI_le ks
  have h2 : (sortI ks).Nodup := (sortI_perm ks).nodup_iff.mpr h
  have h3 := h1.and h2
  exact h3.imp fun {a b} ⟨x, y⟩ => by omega
theorem mem_sortI {ks : List Int} {c : Int} : c ∈ sortI ks ↔ c ∈ ks := (sortI_perm ks).mem_iff
end Pu
namespace Pu
/-- less is no modulus of the rests rs below m -/
def NotC (m : Int) (rs : List Int) (l : Int) : Prop := ∀ ks : List Int, ks.Nodup → (∀ c, c ∈ ks ↔ ∃ r ∈ rs, r % l = c) → (ks.length : Int) * (m / l) ≠ rs.length
structure TrimP (m : Int) (rs : List Int) (less : Int) (some : List Int) : Prop where
  lo : 1 ≤ less
  hi : less ≤ m
  dv : m % less = 0
  pw : some.Pairwise (· < ·)
  bd : ∀ c ∈ some, 0 ≤ c ∧ c < less
  eq : ∀ x, 0 ≤ x → x < m → (x ∈ rs ↔ x % less ∈ some)
  mn : ∀ l, 1 ≤ l → l < less → less % l = 0 → NotC less some l
  mm : ∀ l, 1 ≤ l → l < less → m % l = 0 → NotC m rs l
  cl : ¬ NotC m rs less
  me : ∀ c, c ∈ some ↔ ∃ r ∈ rs, r % less = c
theorem TrimP.uniq {m less less' : Int} {rs some some' : List Int} (a : TrimP m rs less some) (b : TrimP m rs less' some') : less = less' ∧ some = some' := by
  have e : less = less' := by
    rcases Int.lt_trichotomy less less' with h | h | h
    · exact absurd (b.mm less a.lo h a.dv) a.cl
    · exact h
    · exact absurd (a.mm less' b.lo h b.dv) b.cl
  subst e
  exact ⟨rfl, rise_eq a.pw b.pw fun k => (a.me k).trans (b.me k).symm⟩
theorem same_len {ks ks' : List Int} (h1 : ks.Nodup) (h2 : ks'.Nodup) (h : ∀ c, c ∈ ks ↔ c ∈ ks') : ks.length = ks'.length :=
  Nat.le_antisymm (sub_len h1 fun x hx => (h x).mp hx) (sub_len h2 fun x hx => (h x).mpr hx)
theorem trim_mk {m less : Int} {rs ks : List Int} (h1 : 1 ≤ less) (h2 : less ≤ m) (hd : m % less = 0) (hn : rs.Nodup) (hr : ∀ r ∈ rs, 0 ≤ r ∧ r < m) (kn : ks.Nodup) (hk : ∀ c, c ∈ ks ↔ ∃ r ∈ rs, r % less = c) (hl : (ks.length : Int) * (m / less) = rs.length)
    (hmin : ∀ l, 1 ≤ l → l < less → m % l = 0 → NotC m rs l) : TrimP m rs less (sortI ks) := by
  have hm : m = less * (m / less) := by
    have := Int.mul_ediv_add_emod m less
    omega
  have q0 : 0 ≤ m / less := Int.ediv_nonneg (by omega) (by omega)
  obtain ⟨q, hq⟩ := Int.eq_ofNat_of_zero_le q0
  have hmq : m = less * (q : Int) := by rw [← hq]; exact hm
  have hlen : ks.length * q = rs.length := by
    rw [hq] at hl
    exact_mod_cast hl
  have bd : ∀ c ∈ sortI ks, 0 ≤ c ∧ c < less := fun c hc => by
    obtain ⟨r, _, e⟩ := (hk c).mp (mem_sortI.mp hc)
    rw [← e]
    exact ⟨Int.emod_nonneg _ (by omega), Int.emod_lt_of_pos _ (by omega)⟩
  refine ⟨h1, h2, hd, sortI_rise kn, bd, fun x h0 hx => ⟨fun hxr => mem_sortI.mpr ((hk _).mpr ⟨x, hxr, rfl⟩), fun hxk => ?_⟩, fun l a1 a2 a3 ks' b1 b2 b3 => ?_, hmin, fun z => z ks kn hk hl, fun c => mem_sortI.trans (hk c)⟩
  · exact blow_all (l := less) (q := q) (ks := ks) (by omega) hn hk (fun r hr' => by rw [← hmq]; exact hr r hr') hlen x h0 (by rw [← hmq]; exact hx) (mem_sortI.mp hxk)
  · have hl' : less = l * (less / l) := by
      have := Int.mul_ediv_add_emod less l
      omega
    have hml : m % l = 0 := by
      rw [hmq, hl', Int.mul_assoc]
      exact Int.mul_emod_right _ _
    have hdl : m / l = (less / l) * (m / less) := by
      have e : m = l * ((less / l) * (m / less)) := by rw [← Int.mul_assoc, ← hl']; exact hm
      have e2 : l * ((less / l) * (m / less)) / l = (less / l) * (m / less) := Int.mul_ediv_cancel_left _ (by omega)
      rw [← e] at e2
      exact e2
    refine hmin l a1 a2 hml ks' b1 (fun c => ?_) ?_
    · rw [b2 c]
      constructor
      · rintro ⟨s, hs, e⟩
        obtain ⟨r, hr', e2⟩ := (hk s).mp (mem_sortI.mp hs)
        refine ⟨r, hr', ?_⟩
        rw [← e, ← e2]
        exact (Int.emod_emod_of_dvd r ⟨_, hl'⟩).symm
      · rintro ⟨r, hr', e⟩
        refine ⟨r % less, mem_sortI.mpr ((hk _).mpr ⟨r, hr', rfl⟩), ?_⟩
        rw [← e]
        exact Int.emod_emod_of_dvd r ⟨_, hl'⟩
    · rw [hdl, ← Int.mul_assoc, b3, ← hl]
      rw [(sortI_perm ks).length_eq]
end Pu

/-! The plain side, part U: parts of lots. -/
namespace Pu
theorem prime_coprime {p m : Int} (hp : PrimeI p) (hm : 0 < m) (h : m % p ≠ 0) : Nat.gcd m.natAbs p.natAbs = 1 := by
  have p2 := hp.1
  have hg : Nat.gcd m.natAbs p.natAbs ∣ p.natAbs := Nat.gcd_dvd_right _ _
  have hg2 : Nat.gcd m.natAbs p.natAbs ∣ m.natAbs := Nat.gcd_dvd_left _ _
  have hpos : 0 < Nat.gcd m.natAbs p.natAbs := Nat.gcd_pos_of_pos_left _ (by omega)
  have hle : Nat.gcd m.natAbs p.natAbs ≤ p.natAbs := Nat.le_of_dvd (by omega) hg
  revert hg hg2 hpos hle
  generalize Nat.gcd m.natAbs p.natAbs = g
  intro hg hg2 hpos hle
  have i1 : (g : Int) ∣ p := by
    have z : (g : Int) ∣ ((p.natAbs : Nat) : Int) := Int.natCast_dvd_natCast.mpr hg
    rw [Int.natAbs_of_nonneg (by omega)] at z
    exact z
  have i2 : (g : Int) ∣ m := by
    have z : (g : Int) ∣ ((m.natAbs : Nat) : Int) := Int.natCast_dvd_natCast.mpr hg2
    rw [Int.natAbs_of_nonneg (by omega)] at z
    exact z
  rcases Nat.lt_or_ge g 2 with z | z
  · omega
  · exfalso
    rcases Int.lt_or_le (g : Int) p with y | y
    · exact hp.2 g (by omega) y (Int.emod_eq_zero_of_dvd i1)
    · have e : (g : Int) = p := by omega
      rw [e] at i2
      exact h (Int.emod_eq_zero_of_dvd i2)
theorem cop_inj {p m a b : Int} (hc : Nat.gcd m.natAbs p.natAbs = 1) (ha : 0 ≤ a ∧ a < m) (hb : 0 ≤ b ∧ b < m) (h : (a * p) % m = (b * p) % m) : a = b := by
  have d : m ∣ (a - b) * p := by
    have : m ∣ a * p - b * p := Int.dvd_of_emod_eq_zero (Int.emod_eq_emod_iff_emod_sub_eq_zero.mp h)
    rw [Int.sub_mul]
    exact this
  have d2 : m.natAbs ∣ (a - b).natAbs * p.natAbs := by
    have := Int.natAbs_dvd_natAbs.mpr d
    rw [Int.natAbs_mul] at this
    exact this
  have d3 : m.natAbs ∣ (a - b).natAbs := Nat.Coprime.dvd_of_dvd_mul_right hc d2
  rcases Nat.eq_zero_or_pos (a - b).natAbs with z | z
  · omega
  · have := Nat.le_of_dvd z d3
    omega
theorem inv_ex {p m : Int} (hm : 1 ≤ m) (hc : Nat.gcd m.natAbs p.natAbs = 1) : ∃ b, 0 ≤ b ∧ b < m ∧ (b * p) % m = 1 % m := by
  have hn : ((List.range m.toNat).map fun k : Nat => ((k : Int) * p) % m).Nodup := by
    rw [List.nodup_iff_pairwise_ne, List.pairwise_map]
    refine List.Pairwise.imp_of_mem ?_ (List.nodup_iff_pairwise_ne.mp (List.nodup_range (n := m.toNat)))
    intro a b ha hb hab e
    have ha := List.mem_range.mp ha
    have hb := List.mem_range.mp hb
    have := cop_inj hc (a := a) (b := b) (by omega) (by omega) e
    omega
  have hin := sub_full hn (P := (List.range m.toNat).map fun k : Nat => (k : Int)) (fun x hx => by
    obtain ⟨k, _, rfl⟩ := List.mem_map.mp hx
    have h0 := Int.emod_nonneg ((k : Int) * p) (show m ≠ 0 by omega)
    have h1 := Int.emod_lt_of_pos ((k : Int) * p) (show 0 < m by omega)
    refine List.mem_map.mpr ⟨(((k : Int) * p) % m).toNat, List.mem_range.mpr (by omega), by omega⟩) (by simp) (1 % m) (by
    have h0 := Int.emod_nonneg 1 (show m ≠ 0 by omega)
    have h1 := Int.emod_lt_of_pos 1 (show 0 < m by omega)
    exact List.mem_map.mpr ⟨(1 % m).toNat, List.mem_range.mpr (by omega), by omega⟩)
  obtain ⟨k, hk, e⟩ := List.mem_map.mp hin
  exact ⟨k, by omega, by have := List.mem_range.mp hk; omega, e⟩
end Pu
namespace Pu
def partN (p r : Int) (ns : List Int) : List Int := (ns.filter fun n => n % p == r).map fun n => (n - r) / p
def lateA (p r less : Int) (rs : List Int) : List Int := (rs.filter fun i => i % p == r).map fun i => (i - r) / p % less
def lateB (p r m back : Int) (rs : List Int) : List Int := rs.map fun i => (i - r) * back % m
/-- the least inverse -/
def IsInv (m p back : Int) : Prop := (0 ≤ back ∧ back < m ∧ (back * p) % m = 1 % m) ∧ ∀ b : Int, 0 ≤ b → b < m → (b * p) % m = 1 % m → back ≤ b
theorem IsInv.uniq {m p a b : Int} (x : IsInv m p a) (y : IsInv m p b) : a = b := by
  have h1 := x.2 b y.1.1 y.1.2.1 y.1.2.2
  have h2 := y.2 a x.1.1 x.1.2.1 x.1.2.2
  omega
/-- what part_by makes of rests -/
inductive LateP (m : Int) (rs : List Int) (p r : Int) : Int → List Int → Prop
  | dv : m % p = 0 → LateP m rs p r (m / p) (lateA p r (m / p) rs)
  | nd {back : Int} : m % p ≠ 0 → IsInv m p back → LateP m rs p r m (lateB p r m back rs)
theorem LateP.uniq {m p r a b : Int} {rs x y : List Int} (h1 : LateP m rs p r a x) (h2 : LateP m rs p r b y) : a = b ∧ x = y := by
  cases h1 with
  | dv h =>
    cases h2 with
    | dv h' => exact ⟨rfl, rfl⟩
    | nd h' _ => exact absurd h h'
  | nd h i =>
    cases h2 with
    | dv h' => exact absurd h' h
    | nd h' i' =>
      rw [i.uniq i']
      exact ⟨rfl, rfl⟩
/-- what part_by answers -/
inductive PartP (ns : List Int) (m : Int) (rs : List Int) (p r : Int) : PV → Prop
  | none {less : Int} : LateP m rs p r less [] → partN p r ns = [] → PartP ns m rs p r .non
  | fin {less : Int} : LateP m rs p r less [] → partN p r ns ≠ [] → PartP ns m rs p r (mkLot (partN p r ns) 1 [])
  | lot {less l : Int} {late some : List Int} : LateP m rs p r less late → late ≠ [] → TrimP less (sortI late) l some → PartP ns m rs p r (mkLot (partN p r ns) l some)
theorem PartP.uniq {ns rs : List Int} {m p r : Int} {a b : PV} (x : PartP ns m rs p r a) (y : PartP ns m rs p r b) : a = b := by
  cases x with
  | none h1 h2 =>
    cases y with
    | none _ _ => rfl
    | fin _ h3 => exact absurd h2 h3
    | lot h3 h4 _ => exact absurd (h3.uniq h1).2 h4
  | fin h1 h2 =>
    cases y with
    | none _ h3 => exact absurd h3 h2
    | fin _ h3 => rfl
    | lot h3 h4 _ => exact absurd (h3.uniq h1).2 h4
  | lot h1 h2 h3 =>
    cases y with
    | none h4 _ => exact absurd (h1.uniq h4).2 h2
    | fin h4 _ => exact absurd (h1.uniq h4).2 h2
    | lot h4 h5 h6 =>
      obtain ⟨e1, e2⟩ := h1.uniq h4
      subst e1 e2
      obtain ⟨e3, e4⟩ := h3.uniq h6
      subst e3 e4
      rfl
end Pu
namespace Pu
def keepI (f : Int → Bool) : PV → Bool
  | .int n => f n
  | _ => false
def mapI (h : Int → Int) : PV → PV
  | .int n => .int (h n)
  | x => x
theorem lc_ints (f : Int → Bool) (h : Int → Int) : ∀ ns : List Int, ([] : List PV) ++ ((ns.map PV.int).filter (keepI f)).map (mapI h) = ((ns.filter f).map h).map PV.int
  | [] => rfl
  | n :: ns => by
    have ih := lc_ints f h ns
    rw [List.nil_append] at ih ⊢
    rw [List.map_cons, List.filter_cons, List.filter_cons]
    show (if f n = true then PV.int n :: (ns.map PV.int).filter (keepI f) else (ns.map PV.int).filter (keepI f)).map (mapI h) = _
    split
    · rw [List.map_cons, List.map_cons, List.map_cons, ih]
      rfl
    · exact ih
theorem lc_ints1 (h : Int → Int) (ns : List Int) : ([] : List PV) ++ (ns.map PV.int).map (mapI h) = (ns.map h).map PV.int := by
  rw [List.nil_append, List.map_map, List.map_map]
  rfl
end Pu
namespace Pu
theorem LateP.good {m p r less : Int} {rs late : List Int} (h : LateP m rs p r less late) (hm : 1 ≤ m) (hp : PrimeI p) (hr0 : 0 ≤ r) (hrp : r < p) (hn : rs.Nodup) (hb : ∀ i ∈ rs, 0 ≤ i ∧ i < m) : 1 ≤ less ∧ less ≤ m ∧ late.Nodup ∧ ∀ c ∈ late, 0 ≤ c ∧ c < less := by
  have pp := hp.1
  cases h with
  | dv h =>
    have em : m = p * (m / p) := by
      have := Int.mul_ediv_add_emod m p
      omega
    have q1 : 1 ≤ m / p := by
      rcases Int.lt_or_le (m / p) 1 with z | z
      · exfalso
        have : p * (m / p) ≤ p * 0 := Int.mul_le_mul_of_nonneg_left (by omega) (by omega)
        omega
      · exact z
    have q2 : m / p ≤ m := Int.ediv_le_self _ (by omega)
    have val : ∀ i ∈ rs, i % p = r → (i - r) / p % (m / p) = i / p ∧ i = p * (i / p) + r := fun i hi e => by
      have e1 : i = p * (i / p) + r := by
        have := Int.mul_ediv_add_emod i p
        omega
      have e2 : (i - r) / p = i / p := by
        have e3 : i - r = p * (i / p) := by omega
        rw [e3, Int.mul_ediv_cancel_left _ (by omega)]
      have e4 : 0 ≤ i / p := Int.ediv_nonneg (hb i hi).1 (by omega)
      have e5 : i / p < m / p := by
        refine Int.ediv_lt_of_lt_mul (by omega) ?_
        rw [Int.mul_comm, ← em]
        exact (hb i hi).2
      rw [e2]
      exact ⟨Int.emod_eq_of_lt e4 e5, e1⟩
    refine ⟨q1, q2, ?_, fun c hc => ?_⟩
    · unfold lateA
      rw [List.nodup_iff_pairwise_ne, List.pairwise_map]
      refine List.Pairwise.imp_of_mem ?_ (List.nodup_iff_pairwise_ne.mp (hn.filter _))
      intro a b ha hb' hab e
      have ha := List.mem_filter.mp ha
      have hb' := List.mem_filter.mp hb'
      have v1 := val a ha.1 (eq_of_beq ha.2)
      have v2 := val b hb'.1 (eq_of_beq hb'.2)
      rw [v1.1, v2.1] at e
      exact hab (by rw [v1.2, v2.2, e])
    · unfold lateA at hc
      obtain ⟨i, _, rfl⟩ := List.mem_map.mp hc
      exact ⟨Int.emod_nonneg _ (by omega), Int.emod_lt_of_pos _ (by omega)⟩
  | nd h i =>
    rename_i back
    refine ⟨hm, Int.le_refl _, ?_, fun c hc => ?_⟩
    · unfold lateB
      rw [List.nodup_iff_pairwise_ne, List.pairwise_map]
      refine List.Pairwise.imp_of_mem ?_ (List.nodup_iff_pairwise_ne.mp hn)
      intro a b ha hb' hab e
      have key : ∀ i : Int, ((i - r) * back % m * p) % m = (i - r) % m := fun x => by
        have e1 : ((x - r) * back % m * p) % m = ((x - r) * back * p) % m := by rw [Int.mul_emod, Int.emod_emod_of_dvd _ (Int.dvd_refl m), ← Int.mul_emod]
        rw [e1, Int.mul_assoc, Int.mul_emod, i.1.2.2, ← Int.mul_emod, Int.mul_one]
      have z := key a
      rw [e, key b] at z
      have d : m ∣ (b - r) - (a - r) := Int.dvd_of_emod_eq_zero (Int.emod_eq_emod_iff_emod_sub_eq_zero.mp z)
      have ha := hb a ha
      have hb' := hb b hb'
      obtain ⟨t, ht⟩ := d
      have : t = 0 := by
        rcases Int.lt_trichotomy t 0 with q | q | q
        · exfalso
          have : m * t ≤ m * (-1) := Int.mul_le_mul_of_nonneg_left (by omega) (by omega)
          omega
        · exact q
        · exfalso
          have : m * 1 ≤ m * t := Int.mul_le_mul_of_nonneg_left (by omega) (by omega)
          omega
      subst this
      omega
    · unfold lateB at hc
      obtain ⟨i, _, rfl⟩ := List.mem_map.mp hc
      exact ⟨Int.emod_nonneg _ (by omega), Int.emod_lt_of_pos _ (by omega)⟩
end Pu
namespace Pu
theorem rise_to : ∀ {ns : List Int}, rise ns = true → ns.Pairwise (· < ·)
  | [], _ => .nil
  | [_], _ => by simp
  | a :: b :: r, h => by
    have h : (decide (a < b) && rise (b :: r)) = true := h
    rw [Bool.and_eq_true, decide_eq_true_eq] at h
    have ih := rise_to (ns := b :: r) h.2
    rw [List.pairwise_cons] at ih ⊢
    refine ⟨fun c hc => ?_, rise_to (ns := b :: r) h.2⟩
    rcases List.mem_cons.mp hc with e | hc
    · omega
    · have := ih.1 c hc
      omega
theorem range_ints (i j : Int) : ∃ ks : List Int, rangeP i j = ks.map PV.int ∧ ∀ k, k ∈ ks ↔ i ≤ k ∧ k < j := by
  refine ⟨(List.range (j - i).toNat).map fun k : Nat => i + (k : Int), by unfold rangeP; rw [List.map_map]; rfl, fun k => ?_⟩
  rw [List.mem_map]
  constructor
  · rintro ⟨n, hn, rfl⟩
    have := List.mem_range.mp hn
    omega
  · rintro ⟨h1, h2⟩
    exact ⟨(k - i).toNat, List.mem_range.mpr (by omega), by omega⟩
end Pu
namespace Pu
noncomputable def okPrime : PV → Bool
  | .int p => decide (p < 2000) && primeB p
  | _ => false
def okRest (p : Int) : PV → Bool
  | .int r => decide (0 ≤ r) && decide (r < p)
  | _ => false
end Pu

/-! The plain side, part W: parts keep membership. -/
namespace Pu
theorem mod_eq {a b m : Int} : a % m = b % m ↔ ∃ t, a - b = m * t := by
  rw [Int.emod_eq_emod_iff_emod_sub_eq_zero]
  constructor
  · intro h
    obtain ⟨t, e⟩ := Int.dvd_of_emod_eq_zero h
    exact ⟨t, e⟩
  · rintro ⟨t, e⟩
    rw [e]
    exact Int.mul_emod_right _ _
theorem LateP.mem {m p r less : Int} {rs late : List Int} (h : LateP m rs p r less late) (hm : 1 ≤ m) (hp : PrimeI p) (hr0 : 0 ≤ r) (hrp : r < p) (hb : ∀ i ∈ rs, 0 ≤ i ∧ i < m) (y : Int) : y % less ∈ late ↔ (r + p * y) % m ∈ rs := by
  have pp := hp.1
  cases h with
  | dv h =>
    have em : m = p * (m / p) := by
      have := Int.mul_ediv_add_emod m p
      omega
    generalize hq : m / p = q at em
    have q1 : 1 ≤ q := by
      rcases Int.lt_or_le q 1 with z | z
      · exfalso
        have : p * q ≤ p * 0 := Int.mul_le_mul_of_nonneg_left (by omega) (by omega)
        omega
      · exact z
    have y0 := Int.emod_nonneg y (show q ≠ 0 by omega)
    have y1 := Int.emod_lt_of_pos y (show 0 < q by omega)
    have hv : (r + p * y) % m = r + p * (y % q) := by
      have e1 : r + p * y = (r + p * (y % q)) + m * (y / q) := by
        have := Int.mul_ediv_add_emod y q
        rw [em, Int.mul_assoc, Int.add_assoc, ← Int.mul_add]
        congr 2
        omega
      rw [e1, Int.add_mul_emod_self_left]
      have z1 : 0 ≤ p * (y % q) := Int.mul_nonneg (by omega) y0
      have z2 : p * (y % q + 1) ≤ p * q := Int.mul_le_mul_of_nonneg_left (by omega) (by omega)
      rw [Int.mul_add, Int.mul_one] at z2
      exact Int.emod_eq_of_lt (by omega) (by omega)
    rw [hv]
    unfold lateA
    rw [List.mem_map]
    constructor
    · rintro ⟨i, hi, e⟩
      obtain ⟨hi, hir⟩ := List.mem_filter.mp hi
      have hir : i % p = r := eq_of_beq hir
      have e1 : i = p * (i / p) + r := by
        have := Int.mul_ediv_add_emod i p
        omega
      have e2 : (i - r) / p = i / p := by
        have e3 : i - r = p * (i / p) := by omega
        rw [e3, Int.mul_ediv_cancel_left _ (by omega)]
      have e4 : 0 ≤ i / p := Int.ediv_nonneg (hb i hi).1 (by omega)
      have e5 : i / p < q := by
        refine Int.ediv_lt_of_lt_mul (by omega) ?_
        rw [Int.mul_comm, ← em]
        exact (hb i hi).2
      rw [e2, Int.emod_eq_of_lt e4 e5] at e
      rw [← e, show r + p * (i / p) = i by omega]
      exact hi
    · intro hi
      refine ⟨r + p * (y % q), List.mem_filter.mpr ⟨hi, ?_⟩, ?_⟩
      · rw [Int.add_mul_emod_self_left, Int.emod_eq_of_lt hr0 hrp]
        exact beq_self_eq_true r
      · have e3 : r + p * (y % q) - r = p * (y % q) := by omega
        rw [e3, Int.mul_ediv_cancel_left _ (by omega), Int.emod_eq_of_lt y0 y1]
  | nd h i =>
    rename_i back
    have hback := i.1.2.2
    unfold lateB
    rw [List.mem_map]
    obtain ⟨u, hu⟩ := mod_eq.mp hback
    constructor
    · rintro ⟨x, hx, e⟩
      obtain ⟨t, ht⟩ := mod_eq.mp e
      have k2 : (r + p * y) % m = x % m := mod_eq.mpr ⟨(x - r) * u - p * t, by
        have e1 : m * ((x - r) * u - p * t) = (x - r) * (m * u) - p * (m * t) := by
          rw [Int.mul_sub, Int.mul_left_comm, Int.mul_left_comm m p t]
        rw [e1, ← hu, ← ht]
        have e2 : (x - r) * (back * p - 1) = (x - r) * back * p - (x - r) := by rw [Int.mul_sub, Int.mul_one, Int.mul_assoc]
        have e3 : p * ((x - r) * back - y) = (x - r) * back * p - p * y := by rw [Int.mul_sub, Int.mul_comm p ((x - r) * back)]
        rw [e2, e3]
        omega⟩
      rw [k2, Int.emod_eq_of_lt (hb x hx).1 (hb x hx).2]
      exact hx
    · intro hx
      refine ⟨(r + p * y) % m, hx, ?_⟩
      have e0 : (r + p * y) % m = r + p * y - m * ((r + p * y) / m) := by
        have := Int.mul_ediv_add_emod (r + p * y) m
        omega
      rw [e0]
      refine mod_eq.mpr ⟨y * u - ((r + p * y) / m) * back, ?_⟩
      generalize (r + p * y) / m = w
      have e1 : m * (y * u - w * back) = y * (m * u) - m * w * back := by
        rw [Int.mul_sub, Int.mul_left_comm, Int.mul_assoc]
      rw [e1, ← hu]
      have e2 : y * (back * p - 1) = p * y * back - y := by
        rw [Int.mul_sub, Int.mul_one, Int.mul_comm back p, ← Int.mul_assoc, Int.mul_comm y p]
      have e3 : (r + p * y - m * w - r) * back = p * y * back - m * w * back := by
        rw [show r + p * y - m * w - r = p * y - m * w by omega, Int.sub_mul]
      rw [e2, e3]
      omega
end Pu
namespace Pu
theorem mem_partN {p r y : Int} {ns : List Int} (hp : 2 ≤ p) (hr0 : 0 ≤ r) (hrp : r < p) : y ∈ partN p r ns ↔ r + p * y ∈ ns := by
  unfold partN
  rw [List.mem_map]
  constructor
  · rintro ⟨n, hn, e⟩
    obtain ⟨hn, h⟩ := List.mem_filter.mp hn
    have h : n % p = r := eq_of_beq h
    have e1 := Int.mul_ediv_add_emod n p
    have e2 : (n - r) / p = n / p := by
      have e3 : n - r = p * (n / p) := by omega
      rw [e3, Int.mul_ediv_cancel_left _ (by omega)]
    rw [e2] at e
    rw [← e, show r + p * (n / p) = n by omega]
    exact hn
  · intro h
    refine ⟨r + p * y, List.mem_filter.mpr ⟨h, ?_⟩, ?_⟩
    · rw [Int.add_mul_emod_self_left, Int.emod_eq_of_lt hr0 hrp]
      exact beq_self_eq_true r
    · have e3 : r + p * y - r = p * y := by omega
      rw [e3, Int.mul_ediv_cancel_left _ (by omega)]
theorem hasB_iff {ns rs : List Int} {m k : Int} : hasB ns m rs k = true ↔ k ∈ ns ∨ k % m ∈ rs := by
  unfold hasB
  rw [Bool.or_eq_true, List.any_eq_true, List.any_eq_true]
  constructor
  · rintro (⟨x, hx, e⟩ | ⟨x, hx, e⟩)
    · rw [← eq_of_beq e]; exact .inl hx
    · rw [← eq_of_beq e]; exact .inr hx
  · rintro (h | h)
    · exact .inl ⟨_, h, beq_self_eq_true _⟩
    · exact .inr ⟨_, h, beq_self_eq_true _⟩
end Pu
namespace Pu
/-- membership is kept -/
theorem PartP.has {ns rs : List Int} {m p r : Int} {out : PV} (h : PartP ns m rs p r out) (hm : 1 ≤ m) (hp : PrimeI p) (hr0 : 0 ≤ r) (hrp : r < p) (hb : ∀ i ∈ rs, 0 ≤ i ∧ i < m) (hn : rs.Nodup) (y : Int) :
    hasV out y = hasB ns m rs (r + p * y) := by
  have pp := hp.1
  have key : ∀ b c : Bool, (b = true ↔ c = true) → b = c := fun b c z => by cases b <;> cases c <;> simp at z ⊢
  refine key _ _ ?_
  rw [hasB_iff]
  cases h with
  | none hl he =>
    have hm := hl.mem hm hp hr0 hrp hb y
    have hn := mem_partN (y := y) (ns := ns) pp hr0 hrp
    rw [he] at hn
    constructor
    · intro z
      cases z
    · rintro (z | z)
      · exact absurd (hn.mpr z) (by simp)
      · exact absurd (hm.mpr z) (by simp)
  | fin hl he =>
    have hm := hl.mem hm hp hr0 hrp hb y
    rw [hasV_mk, hasB_iff, mem_partN pp hr0 hrp, ← hm]
    simp
  | lot hl hne ht =>
    rename_i less l late some
    obtain ⟨g1, g2, g3, g4⟩ := hl.good hm hp hr0 hrp hn hb
    have hm2 := hl.mem hm hp hr0 hrp hb y
    rw [hasV_mk, hasB_iff, mem_partN pp hr0 hrp, ← hm2]
    have y0 := Int.emod_nonneg y (show less ≠ 0 by omega)
    have y1 := Int.emod_lt_of_pos y (show 0 < less by omega)
    have e := ht.eq (y % less) y0 y1
    rw [mem_sortI] at e
    have el : y % less % l = y % l := Int.emod_emod_of_dvd y (Int.dvd_of_emod_eq_zero ht.dv)
    rw [el] at e
    rw [e]
end Pu
namespace Pu
theorem partN_bd {p r : Int} {ns : List Int} (hp : 2 ≤ p) (hr0 : 0 ≤ r) (hrp : r < p) (h : ∀ n ∈ ns, -1000 ≤ n ∧ n ≤ 1000) : ∀ y ∈ partN p r ns, -1000 ≤ y ∧ y ≤ 1000 := fun y hy => by
  have z := h _ ((mem_partN hp hr0 hrp).mp hy)
  constructor
  · rcases Int.lt_or_le y (-1000) with q | q
    · exfalso
      have : p * y ≤ p * (-1001) := Int.mul_le_mul_of_nonneg_left (by omega) (by omega)
      omega
    · exact q
  · rcases Int.lt_or_le 1000 y with q | q
    · exfalso
      have : p * 1001 ≤ p * y := Int.mul_le_mul_of_nonneg_left (by omega) (by omega)
      omega
    · exact q
theorem partN_pw {p r : Int} {ns : List Int} (hp : 2 ≤ p) (h : ns.Pairwise (· < ·)) : (partN p r ns).Pairwise (· < ·) := by
  unfold partN
  rw [List.pairwise_map]
  refine List.Pairwise.imp_of_mem ?_ (h.filter _)
  intro a b ha hb hab
  have ha := eq_of_beq (List.mem_filter.mp ha).2
  have hb := eq_of_beq (List.mem_filter.mp hb).2
  have e1 := Int.mul_ediv_add_emod a p
  have e2 := Int.mul_ediv_add_emod b p
  have e3 : (a - r) / p = a / p := by
    have e : a - r = p * (a / p) := by omega
    rw [e, Int.mul_ediv_cancel_left _ (by omega)]
  have e4 : (b - r) / p = b / p := by
    have e : b - r = p * (b / p) := by omega
    rw [e, Int.mul_ediv_cancel_left _ (by omega)]
  rw [e3, e4]
  rcases Int.lt_or_le (a / p) (b / p) with q | q
  · exact q
  · exfalso
    have : p * (b / p) ≤ p * (a / p) := Int.mul_le_mul_of_nonneg_left q (by omega)
    omega
end Pu
namespace Pu
theorem lotB_mk {ns rs : List Int} {m : Int} (h1 : ∀ n ∈ ns, -1000 ≤ n ∧ n ≤ 1000) (h2 : ns.Pairwise (· < ·)) (h3 : ns.length ≤ 40) (h4 : 1 ≤ m) (h5 : m ≤ 60) (h6 : ∀ r ∈ rs, 0 ≤ r ∧ r < m) (h7 : rs.Pairwise (· < ·)) (h8 : rs = [] → m = 1 ∧ ns ≠ []) (h9 : ∀ n ∈ ns, n % m ∉ rs) : lotB ns m rs = true := by
  have a1 : ns.all (btw (-1000) 1000) = true := all_btw h1
  have a5 : rs.all (btw 0 (m - 1)) = true := all_btw fun i hi => by
    have := h6 i hi
    omega
  have a4 : btw 1 60 m = true := by
    unfold btw
    rw [decide_eq_true h4, decide_eq_true h5]
    rfl
  unfold lotB
  rw [a1, rise_pw h2, decide_eq_true h3, a4, a5, rise_pw h7]
  by_cases e : rs = []
  · obtain ⟨e1, e2⟩ := h8 e
    rw [if_pos e, decide_eq_true e1]
    cases ns with
    | nil => exact absurd rfl e2
    | cons _ _ => rfl
  · rw [if_neg e]
    have : (ns.any fun n => rs.any (· == n % m)) = false := by
      rw [List.any_eq_false]
      intro n hn z
      obtain ⟨x, hx, hz⟩ := List.any_eq_true.mp z
      exact h9 n hn (by rw [← eq_of_beq hz]; exact hx)
    rw [this]
    rfl
theorem lotB_no {ns rs : List Int} {m : Int} (h : lotB ns m rs = true) : ∀ n ∈ ns, n % m ∉ rs := fun n hn hr => by
  have hne : rs ≠ [] := fun z => by rw [z] at hr; cases hr
  unfold lotB at h
  rw [if_neg hne] at h
  simp only [Bool.and_eq_true] at h
  have h := nb_t h.2
  rw [List.any_eq_false] at h
  exact h n hn (List.any_eq_true.mpr ⟨_, hr, beq_self_eq_true _⟩)
end Pu
namespace Pu
/-- the answer, where it is one, is a lot -/
theorem PartP.isLot {ns rs : List Int} {m p r : Int} {out : PV} (h : PartP ns m rs p r out) (hL : lotB ns m rs = true) (hp : PrimeI p) (hr0 : 0 ≤ r) (hrp : r < p) : out = .non ∨ isLotP out = true := by
  have pp := hp.1
  have hm := lotB_pos hL
  have hm60 := lotB_m hL
  have hb := lotB_rs hL
  have hpw := rise_to (lotB_rise hL).2
  have hnd : rs.Nodup := hpw.imp fun {a b} z => by omega
  have hnb : ∀ n ∈ ns, -1000 ≤ n ∧ n ≤ 1000 := fun n hn => by
    unfold lotB at hL
    simp only [Bool.and_eq_true] at hL
    have z := List.all_eq_true.mp hL.1.1.1.1.1 n hn
    unfold btw at z
    simp only [Bool.and_eq_true, decide_eq_true_eq] at z
    exact z
  have hnl : (partN p r ns).length ≤ 40 := by
    have h1 : (partN p r ns).length ≤ ns.length := by
      unfold partN
      rw [List.length_map]
      exact List.length_filter_le _ _
    have := lotB_len hL
    omega
  have b1 := partN_bd pp hr0 hrp hnb
  have b2 := partN_pw (r := r) pp (rise_to (lotB_rise hL).1)
  cases h with
  | none _ _ => exact .inl rfl
  | fin hl he =>
    refine .inr ?_
    rw [isLotP_mk]
    exact lotB_mk b1 b2 hnl (by decide) (by decide) (fun r hr => by cases hr) .nil (fun _ => ⟨rfl, he⟩) (fun n _ z => by cases z)
  | lot hl hne ht =>
    rename_i less l late some
    refine .inr ?_
    rw [isLotP_mk]
    obtain ⟨g1, g2, g3, g4⟩ := hl.good (by omega) hp hr0 hrp hnd hb
    refine lotB_mk b1 b2 hnl ht.lo (by have := ht.hi; omega) ht.bd ht.pw (fun z => ?_) (fun n hn z => ?_)
    · exfalso
      obtain ⟨c, hc⟩ := List.exists_mem_of_ne_nil late hne
      have := (ht.me (c % l)).mpr ⟨c, mem_sortI.mpr hc, rfl⟩
      rw [z] at this
      cases this
    · have y0 := Int.emod_nonneg n (show less ≠ 0 by omega)
      have y1 := Int.emod_lt_of_pos n (show 0 < less by omega)
      have e := ht.eq (n % less) y0 y1
      have el : n % less % l = n % l := Int.emod_emod_of_dvd n (Int.dvd_of_emod_eq_zero ht.dv)
      rw [el, mem_sortI] at e
      have h2 := (hl.mem (by omega) hp hr0 hrp hb n).mp (e.mpr z)
      exact lotB_no hL _ ((mem_partN pp hr0 hrp).mp hn) h2
end Pu
namespace Pu
theorem LateP.ne {m p r less : Int} {rs late : List Int} (h : LateP m rs p r less late) (hm : 1 ≤ m) (hp : PrimeI p) (hr0 : 0 ≤ r) (hrp : r < p) (hn : rs.Nodup) (hb : ∀ i ∈ rs, 0 ≤ i ∧ i < m) : late ≠ [] ↔ ∃ k : Int, 0 ≤ k ∧ k < m * p ∧ k % m ∈ rs ∧ k % p = r := by
  have pp := hp.1
  obtain ⟨g1, g2, g3, g4⟩ := h.good hm hp hr0 hrp hn hb
  constructor
  · intro hne
    obtain ⟨c, hc⟩ := List.exists_mem_of_ne_nil late hne
    have hc2 := g4 c hc
    have e : c % less = c := Int.emod_eq_of_lt hc2.1 hc2.2
    have z := (h.mem hm hp hr0 hrp hb c).mp (by rw [e]; exact hc)
    have z1 : 0 ≤ p * c := Int.mul_nonneg (by omega) hc2.1
    have z2 : p * (c + 1) ≤ p * m := Int.mul_le_mul_of_nonneg_left (by omega) (by omega)
    rw [Int.mul_add, Int.mul_one, Int.mul_comm p m] at z2
    refine ⟨r + p * c, by omega, by omega, z, ?_⟩
    rw [Int.add_mul_emod_self_left]
    exact Int.emod_eq_of_lt hr0 hrp
  · rintro ⟨k, k0, k1, k2, k3⟩ z
    have e := Int.mul_ediv_add_emod k p
    have e2 : r + p * (k / p) = k := by omega
    have q := (h.mem hm hp hr0 hrp hb (k / p)).mpr (by rw [e2]; exact k2)
    rw [z] at q
    cases q
end Pu
namespace Pu
/-- the answer's modulus is the least -/
theorem PartP.least {ns rs ns' rs' : List Int} {m p r m' : Int} (h : PartP ns m rs p r (mkLot ns' m' rs')) : ∀ l, 1 ≤ l → l < m' → m' % l = 0 → NotC m' rs' l := by
  generalize e : mkLot ns' m' rs' = out at h
  cases h with
  | none _ _ => cases e
  | fin _ _ =>
    obtain ⟨_, rfl, _⟩ := mkLot_inj e
    intro l a b _
    omega
  | lot _ _ ht =>
    obtain ⟨_, rfl, rfl⟩ := mkLot_inj e
    exact ht.mn
end Pu

/-! The plain side, part X: primes at hand, parts at hand. -/
namespace Pu
theorem prime_by (n : Int) (k : Nat) (h2 : 2 ≤ k) (hk : (k : Int) ≤ n) (hn : n < (k : Int) * k) (hd : ∀ d : Fin k, 2 ≤ d.1 → n % (d.1 : Int) ≠ 0) : PrimeI n :=
  prime_end (p := k) (by omega) hk hn fun d d2 dk => by
    have z := hd ⟨d.toNat, by omega⟩ (by show 2 ≤ d.toNat; omega)
    have e : ((d.toNat : Nat) : Int) = d := Int.toNat_of_nonneg (by omega)
    have z : n % ((d.toNat : Nat) : Int) ≠ 0 := z
    rw [e] at z
    exact z
theorem prime2 : PrimeI 2 := prime_by 2 2 (by decide) (by decide) (by decide) (by decide)
theorem prime3 : PrimeI 3 := prime_by 3 2 (by decide) (by decide) (by decide) (by decide)
theorem prime5 : PrimeI 5 := prime_by 5 3 (by decide) (by decide) (by decide) (by decide)
theorem prime7 : PrimeI 7 := prime_by 7 3 (by decide) (by decide) (by decide) (by decide)
theorem prime13 : PrimeI 13 := prime_by 13 4 (by decide) (by decide) (by decide) (by decide)
theorem prime1999 : PrimeI 1999 := prime_by 1999 45 (by decide) (by decide) (by decide) (by decide)
theorem okPrime_t {p : Int} (h : PrimeI p) (h2 : p < 2000) : okPrime (.int p) = true := by
  show (decide (p < 2000) && primeB p) = true
  rw [decide_eq_true h2, primeB_t h]
  rfl
theorem okRest_t {p r : Int} (h : 0 ≤ r) (h2 : r < p) : okRest p (.int r) = true := by
  show (decide (0 ≤ r) && decide (r < p)) = true
  rw [decide_eq_true h, decide_eq_true h2]
  rfl
theorem inv1 (p : Int) : IsInv 1 p 0 := ⟨⟨by omega, by omega, by rw [Int.zero_mul]; rfl⟩, fun b h _ _ => h⟩
theorem one_mod {p : Int} (h : 2 ≤ p) : (1 : Int) % p ≠ 0 := by
  rw [Int.emod_eq_of_lt (by omega) (by omega)]
  omega
theorem trim1 : TrimP 1 [0] 1 [0] := by
  refine ⟨by omega, by omega, by decide, by simp, by simp, fun x h0 h1 => ?_, fun l a b _ => by omega, fun l a b _ => by omega, fun z => z [0] (by simp) (fun c => ?_) rfl, fun c => ?_⟩
  · have : x = 0 := by omega
    subst this
    simp
  · simp [eq_comm]
  · simp [eq_comm]
theorem trim2 : TrimP 2 [0] 2 [0] := by
  have no : ∀ l : Int, 1 ≤ l → l < 2 → NotC 2 [0] l := fun l a b ks kn kk => by
    have : l = 1 := by omega
    subst this
    have e : ks.length = 1 := same_len (ks' := [0]) kn (by simp) fun c => by rw [kk]; simp [eq_comm]
    rw [e]
    decide
  refine ⟨by omega, by omega, by decide, by simp, by simp, fun x h0 h1 => ?_, fun l a b _ => no l a b, fun l a b _ => no l a b, fun z => z [0] (by simp) (fun c => ?_) rfl, fun c => ?_⟩
  · rw [Int.emod_eq_of_lt h0 h1]
  · simp [eq_comm]
  · simp [eq_comm]
theorem part_a : PartP [5, 7] 1 [] 2 1 (mkLot [2, 3] 1 []) := .fin (.nd (one_mod (by decide)) (inv1 2)) (by decide)
theorem sortI0 : sortI [0] = [0] := List.perm_singleton.mp (sortI_perm [0])
theorem part_b : PartP [] 4 [1, 2] 2 1 (mkLot [] 2 [0]) := .lot (late := [0]) (.dv (p := 2) (r := 1) (m := 4) (rs := [1, 2]) (by decide)) (by decide) (by rw [sortI0]; exact trim2)
theorem part_c : PartP [1] 1 [] 2 0 .non := .none (.nd (one_mod (by decide)) (inv1 2)) (by decide)
theorem part_d : PartP [] 1 [0] 1999 7 (mkLot [] 1 [0]) := .lot (late := [0]) (.nd (one_mod (by decide)) (inv1 1999)) (by decide) (by rw [sortI0]; exact trim1)
theorem pdk_lot (ns rs : List Int) (m : Int) : pdk 3 (mkLot ns m rs) = true := by
  show ((pdk 2 (.tup (ns.map PV.int))) && (true && (pdk 2 (.tup (rs.map PV.int)) && true))) = true
  have e1 : pdk 2 (.tup (ns.map PV.int)) = true := pdk_ints ns
  have e2 : pdk 2 (.tup (rs.map PV.int)) = true := pdk_ints rs
  rw [e1, e2]
  rfl
theorem dat_lot (ns rs : List Int) (m : Int) : dat (mkLot ns m rs) := dat_of (pdk_lot ns rs m) (by decide)
theorem PartP.pdk {ns rs : List Int} {m p r : Int} {out : PV} (h : PartP ns m rs p r out) : pdk 3 out = true := by
  cases h with
  | none _ _ => rfl
  | fin _ _ => exact pdk_lot _ _ _
  | lot _ _ _ => exact pdk_lot _ _ _
theorem PartP.two {ns rs : List Int} {m p r : Int} {out : PV} (h : PartP ns m rs p r out) : out = .non ∨ ∃ a b c, out = mkLot a b c := by
  cases h with
  | none _ _ => exact .inl rfl
  | fin _ _ => exact .inr ⟨_, _, _, rfl⟩
  | lot _ _ _ => exact .inr ⟨_, _, _, rfl⟩
theorem PartP.non_of {ns rs : List Int} {m p r : Int} (h : PartP ns m rs p r .non) : partN p r ns = [] ∧ ∃ less, LateP m rs p r less [] := by
  generalize e : PV.non = out at h
  cases h with
  | none h1 h2 => exact ⟨h2, _, h1⟩
  | fin _ _ => cases e
  | lot _ _ _ => cases e
theorem PartP.some_of {ns rs a c : List Int} {m p r b : Int} (h : PartP ns m rs p r (mkLot a b c)) : partN p r ns ≠ [] ∨ ∃ less late, late ≠ [] ∧ LateP m rs p r less late := by
  generalize e : mkLot a b c = out at h
  cases h with
  | none _ _ => cases e
  | fin _ h2 => exact .inl h2
  | lot h1 h2 _ => exact .inr ⟨_, _, h2, h1⟩
theorem filter_no {α : Type} (l : List α) : l.filter (fun _ => false) = [] := by simp
end Pu

/-! The plain side, part Q: lots within lots, rests by a divisor. -/
namespace Pu
def subP (x y : PV) : Prop := ∀ k : Int, hasV x k = true → hasV y k = true
noncomputable def subB (x y : PV) : Bool := @decide (subP x y) (Classical.propDecidable _)
theorem subB_iff {x y : PV} : subB x y = true ↔ subP x y := by
  unfold subB
  exact @decide_eq_true_iff _ (Classical.propDecidable _)
theorem subB_eq {x y : PV} {b : Bool} (h : b = true ↔ subP x y) : b = subB x y := by
  have z := h.trans subB_iff.symm
  cases b <;> cases e : subB x y <;> simp [e] at z ⊢
theorem mod_shift {k M m t : Int} (d : M % m = 0) : (k + M * t) % m = k % m := by
  obtain ⟨q, e⟩ := Int.dvd_of_emod_eq_zero d
  rw [e, Int.mul_assoc, Int.add_mul_emod_self_left]
theorem lotB_ns {ns rs : List Int} {m : Int} (h : lotB ns m rs = true) : ∀ n ∈ ns, -1000 ≤ n ∧ n ≤ 1000 := fun n hn => by
  unfold lotB at h
  simp only [Bool.and_eq_true] at h
  have z := List.all_eq_true.mp h.1.1.1.1.1 n hn
  unfold btw at z
  simp only [Bool.and_eq_true, decide_eq_true_eq] at z
  exact z
theorem within_iff {ns rs ns' rs' : List Int} {m m' : Int} (hb : lotB ns m rs = true) (hb' : lotB ns' m' rs' = true) {M a : Int} (hM : 0 < M) (d1 : M % m = 0) (d2 : M % m' = 0) :
    subP (mkLot ns m rs) (mkLot ns' m' rs') ↔ (∀ n ∈ ns, hasB ns' m' rs' n = true) ∧ ∀ k, a ≤ k → k < a + M → k % m ∈ rs → k % m' ∈ rs' := by
  have e : ∀ k, (hasV (mkLot ns m rs) k = true ↔ k ∈ ns ∨ k % m ∈ rs) := fun k => by rw [hasV_mk, hasB_iff]
  have e' : ∀ k, (hasV (mkLot ns' m' rs') k = true ↔ k ∈ ns' ∨ k % m' ∈ rs') := fun k => by rw [hasV_mk, hasB_iff]
  constructor
  · intro h
    refine ⟨fun n hn => ?_, fun k h0 h1 h2 => ?_⟩
    · have := h n ((e n).mpr (.inl hn))
      rw [hasV_mk] at this
      exact this
    · have hK : (k + M * (1001 + k.natAbs)) % m = k % m := mod_shift d1
      have hK' : (k + M * (1001 + k.natAbs)) % m' = k % m' := mod_shift d2
      rcases (e' _).mp (h (k + M * (1001 + k.natAbs)) ((e _).mpr (.inr (by rw [hK]; exact h2)))) with z | z
      · exfalso
        have b := lotB_ns hb' _ z
        have : 1 * (1001 + (k.natAbs : Int)) ≤ M * (1001 + k.natAbs) := Int.mul_le_mul_of_nonneg_right (by omega) (by omega)
        omega
      · rw [hK'] at z
        exact z
  · rintro ⟨h1, h2⟩ k hk
    rcases (e k).mp hk with hk | hk
    · rw [hasV_mk]
      exact h1 k hk
    · refine (e' k).mpr (.inr ?_)
      have e0 : a + (k - a) % M = k + M * (-((k - a) / M)) := by
        have := Int.mul_ediv_add_emod (k - a) M
        rw [Int.mul_neg]
        omega
      have m0 := Int.emod_nonneg (k - a) (show M ≠ 0 by omega)
      have m1 := Int.emod_lt_of_pos (k - a) hM
      have z := h2 (a + (k - a) % M) (by omega) (by omega) (by rw [e0, mod_shift d1]; exact hk)
      rw [e0, mod_shift d2] at z
      exact z
/-- the rests of the members by d, in sequence -/
structure RestP (x : PV) (d : Int) (L : List Int) : Prop where
  pw : L.Pairwise (· < ·)
  me : ∀ c, c ∈ L ↔ ∃ k, hasV x k = true ∧ k % d = c
theorem RestP.uniq {x : PV} {d : Int} {L L' : List Int} (a : RestP x d L) (b : RestP x d L') : L = L' := rise_eq a.pw b.pw fun k => (a.me k).trans (b.me k).symm
theorem RestP.len {x : PV} {d : Int} {L : List Int} (a : RestP x d L) (hd : 0 < d) : (L.length : Int) ≤ d := by
  have z := rise_len (lo := 0) (hi := d - 1) (rise_pw a.pw) fun c hc => by
    obtain ⟨k, _, rfl⟩ := (a.me c).mp hc
    have h0 := Int.emod_nonneg k (show d ≠ 0 by omega)
    have h1 := Int.emod_lt_of_pos k hd
    omega
  omega
/-- two rests at once -/
theorem crt {m d g r c : Int} (hm : 0 < m) (hd : 0 < d) (hg : g = (Nat.gcd m.natAbs d.natAbs : Nat)) (r0 : 0 ≤ r) (r1 : r < m) (c0 : 0 ≤ c) (c1 : c < d) (h : r % g = c % g) : ∃ k : Int, k % m = r ∧ k % d = c := by
  have gp : 0 < Nat.gcd m.natAbs d.natAbs := Nat.gcd_pos_of_pos_left _ (by omega)
  have g0 : 0 < g := by omega
  have gm : g ∣ m := by
    have z : ((Nat.gcd m.natAbs d.natAbs : Nat) : Int) ∣ ((m.natAbs : Nat) : Int) := Int.natCast_dvd_natCast.mpr (Nat.gcd_dvd_left _ _)
    rw [Int.natAbs_of_nonneg (by omega), ← hg] at z
    exact z
  have gd : g ∣ d := by
    have z : ((Nat.gcd m.natAbs d.natAbs : Nat) : Int) ∣ ((d.natAbs : Nat) : Int) := Int.natCast_dvd_natCast.mpr (Nat.gcd_dvd_right _ _)
    rw [Int.natAbs_of_nonneg (by omega), ← hg] at z
    exact z
  obtain ⟨m', em⟩ := gm
  obtain ⟨d', ed⟩ := gd
  obtain ⟨q, eq⟩ := mod_eq.mp h
  have m'p : 1 ≤ m' := by
    rcases Int.lt_or_le m' 1 with z | z
    · exfalso
      have : g * m' ≤ g * 0 := Int.mul_le_mul_of_nonneg_left (by omega) (by omega)
      omega
    · exact z
  have d'p : 1 ≤ d' := by
    rcases Int.lt_or_le d' 1 with z | z
    · exfalso
      have : g * d' ≤ g * 0 := Int.mul_le_mul_of_nonneg_left (by omega) (by omega)
      omega
    · exact z
  have cop : Nat.gcd m'.natAbs d'.natAbs = 1 := by
    have e1 : m.natAbs = g.natAbs * m'.natAbs := by rw [em, Int.natAbs_mul]
    have e2 : d.natAbs = g.natAbs * d'.natAbs := by rw [ed, Int.natAbs_mul]
    have e3 : g.natAbs = Nat.gcd m.natAbs d.natAbs := by omega
    rw [e1, e2, Nat.gcd_mul_left] at e3
    have e4 : g.natAbs * 1 = g.natAbs * Nat.gcd m'.natAbs d'.natAbs := by omega
    exact (Nat.eq_of_mul_eq_mul_left (by omega) e4).symm
  obtain ⟨b, _, _, hb⟩ := inv_ex m'p cop
  obtain ⟨u, hu⟩ := mod_eq.mp hb
  refine ⟨c + d * (q * b), ?_, ?_⟩
  · have e : c + d * (q * b) - r = m * (q * u) := by
      have e1 : d * (q * b) = g * (q * (b * d')) := by
        rw [ed, Int.mul_assoc, Int.mul_left_comm d' q b, Int.mul_comm d' b]
      have e2 : b * d' = 1 + m' * u := by omega
      rw [e1, e2, Int.mul_add, Int.mul_one, Int.mul_add, em, ← eq]
      have e3 : g * (q * (m' * u)) = g * m' * (q * u) := by
        rw [Int.mul_assoc, Int.mul_left_comm q m' u]
      rw [e3]
      omega
    have := (mod_eq (a := c + d * (q * b)) (b := r) (m := m)).mpr ⟨q * u, e⟩
    rw [this]
    exact Int.emod_eq_of_lt r0 r1
  · rw [Int.add_mul_emod_self_left]
    exact Int.emod_eq_of_lt c0 c1
end Pu
namespace Pu
open PySem L2
theorem dcGo_setK {t : Tgt} {cond : PPT} {ke ve : PP} {ρ : PEnv} {R : PK} (keep : PV → Bool) (g : PV → Int) (v : PV) : ∀ (ys : List PV) (acc : List (Key × PV)) (ks : List Int), acc.map (·.1) = ks.map Sum.inl → ks.Nodup →
    (∀ y ∈ ys, ∀ (Q1 : PV → PV → Prop) (Q2 : Prop), (keep y = true → Q1 (.int (g y)) v) → (keep y = false → Q2) → tgt t y ρ fun ρ' => cond ρ' fun b => if b = true then ke ρ' fun kx => ve ρ' fun w => Q1 kx w else Q2) →
    (∀ (acc' : List (Key × PV)) (ks' : List Int), acc'.map (·.1) = ks'.map Sum.inl → ks'.Nodup → (∀ c, c ∈ ks' ↔ c ∈ ks ∨ ∃ y ∈ ys, keep y = true ∧ g y = c) → ks'.length ≤ ks.length + ys.length → R (.dic acc')) → dcGo t cond ke ve ρ ys acc R
  | [], acc, ks, h1, h2, _, h => h acc ks h1 h2 (fun c => by simp) (by simp)
  | y :: ys, acc, ks, h1, h2, hs, h => by
    refine hs y List.mem_cons_self (fun kx w => match keyP kx with
      | some k => dcGo t cond ke ve ρ ys (putP acc k w) R
      | none => False) _ (fun kp => ?_) (fun kp => ?_)
    · show dcGo t cond ke ve ρ ys (putP acc (.inl (g y)) v) R
      have e : ∀ c, (c ∈ if g y ∈ ks then ks else ks ++ [g y]) ↔ c ∈ ks ∨ g y = c := fun c => by
        split
        · rename_i hc
          constructor
          · exact .inl
          · rintro (z | z)
            · exact z
            · rw [← z]; exact hc
        · rw [List.mem_append, List.mem_singleton, eq_comm (a := c)]
      refine dcGo_setK keep g v ys _ _ (putP_keys h1) ?_ (fun z hz => hs z (List.mem_cons_of_mem _ hz)) fun acc' ks' a1 a2 a3 a4 => h acc' ks' a1 a2 (fun c => ?_) ?_
      · split
        · exact h2
        · rename_i hc
          rw [List.nodup_append]
          exact ⟨h2, by simp, fun a ha b hb e => by
            have : b = g y := by simpa using hb
            exact hc (by rw [← this, ← e]; exact ha)⟩
      · rw [a3 c, e c]
        constructor
        · rintro ((z | z) | ⟨w, hw, z⟩)
          · exact .inl z
          · exact .inr ⟨y, List.mem_cons_self, kp, z⟩
          · exact .inr ⟨w, List.mem_cons_of_mem _ hw, z⟩
        · rintro (z | ⟨w, hw, z1, z⟩)
          · exact .inl (.inl z)
          · rcases List.mem_cons.mp hw with e | hw
            · rw [e] at z
              exact .inl (.inr z)
            · exact .inr ⟨w, hw, z1, z⟩
      · have : (if g y ∈ ks then ks else ks ++ [g y]).length ≤ ks.length + 1 := by
          split
          · omega
          · rw [List.length_append]; exact Nat.le_refl _
        simp only [List.length_cons]
        omega
    · refine dcGo_setK keep g v ys acc ks h1 h2 (fun z hz => hs z (List.mem_cons_of_mem _ hz)) fun acc' ks' a1 a2 a3 a4 => h acc' ks' a1 a2 (fun c => ?_) (by simp only [List.length_cons]; omega)
      rw [a3 c]
      constructor
      · rintro (z | ⟨w, hw, z⟩)
        · exact .inl z
        · exact .inr ⟨w, List.mem_cons_of_mem _ hw, z⟩
      · rintro (z | ⟨w, hw, z1, z⟩)
        · exact .inl z
        · rcases List.mem_cons.mp hw with e | hw
          · rw [e, kp] at z1
            cases z1
          · exact .inr ⟨w, hw, z1, z⟩
theorem mergeP_keys : ∀ {more kvs : List (Key × PV)} {ks2 ks : List Int}, kvs.map (·.1) = ks.map Sum.inl → ks.Nodup → more.map (·.1) = ks2.map Sum.inl →
    ∃ ks' : List Int, (mergeP kvs more).map (·.1) = ks'.map Sum.inl ∧ ks'.Nodup ∧ (∀ c, c ∈ ks' ↔ c ∈ ks ∨ c ∈ ks2) ∧ ks'.length ≤ ks.length + ks2.length
  | [], kvs, [], ks, h1, h2, _ => ⟨ks, h1, h2, fun c => by simp, by simp⟩
  | [], _, _ :: _, _, _, _, h => by cases h
  | _ :: _, _, [], _, _, _, h => by cases h
  | (k, v) :: more, kvs, c0 :: ks2, ks, h1, h2, h3 => by
    have h3 : k :: more.map (·.1) = Sum.inl c0 :: ks2.map Sum.inl := h3
    obtain ⟨ek, h4⟩ := List.cons.inj h3
    subst ek
    have e : ∀ c, (c ∈ if c0 ∈ ks then ks else ks ++ [c0]) ↔ c ∈ ks ∨ c0 = c := fun c => by
      split
      · rename_i hc
        constructor
        · exact .inl
        · rintro (z | z)
          · exact z
          · rw [← z]; exact hc
      · rw [List.mem_append, List.mem_singleton, eq_comm (a := c)]
    have nd : (if c0 ∈ ks then ks else ks ++ [c0]).Nodup := by
      split
      · exact h2
      · rename_i hc
        rw [List.nodup_append]
        exact ⟨h2, by simp, fun a ha b hb e => by
          have : b = c0 := by simpa using hb
          exact hc (by rw [← this, ← e]; exact ha)⟩
    obtain ⟨ks', a1, a2, a3, a4⟩ := mergeP_keys (putP_keys (v := v) (c := c0) h1) nd h4
    refine ⟨ks', a1, a2, fun c => ?_, ?_⟩
    · rw [a3 c, e c, List.mem_cons, eq_comm (a := c0)]
      constructor
      · rintro ((z | z) | z)
        · exact .inl z
        · exact .inr (.inl z)
        · exact .inr (.inr z)
      · rintro (z | z | z)
        · exact .inl (.inl z)
        · exact .inl (.inr z)
        · exact .inr z
    · have : (if c0 ∈ ks then ks else ks ++ [c0]).length ≤ ks.length + 1 := by
        split
        · omega
        · rw [List.length_append]; exact Nat.le_refl _
      simp only [List.length_cons]
      omega
theorem key_any {kvs : List (Key × PV)} {ks : List Int} {c : Int} (h : kvs.map (·.1) = ks.map Sum.inl) : (kvs.any fun kv => decide (kv.1 = Sum.inl c)) = decide (c ∈ ks) := by
  have h2 : (kvs.any fun kv => decide (kv.1 = Sum.inl c)) = ((kvs.map (·.1)).any fun k => decide (k = Sum.inl c)) := by
    rw [List.any_map]
    rfl
  rw [h2, h, List.any_map, Bool.eq_iff_iff, List.any_eq_true, decide_eq_true_iff]
  constructor
  · rintro ⟨x, hx, hc⟩
    have hc := of_decide_eq_true hc
    cases hc
    exact hx
  · intro hc
    exact ⟨c, hc, decide_eq_true rfl⟩
/-- what rests_of finds -/
theorem rest_mk {ns rs ks sm : List Int} {m d : Int} (hb : lotB ns m rs = true) (hd : 0 < d) (hn : ks.Nodup) (hs : ∀ c, c ∈ sm ↔ ∃ r ∈ rs, r % ((Nat.gcd m.natAbs d.natAbs : Nat) : Int) = c)
    (hk : ∀ c, c ∈ ks ↔ (∃ n ∈ ns, n % d = c) ∨ (0 ≤ c ∧ c < d ∧ c % ((Nat.gcd m.natAbs d.natAbs : Nat) : Int) ∈ sm)) : RestP (mkLot ns m rs) d (sortI ks) := by
  have hm := lotB_pos hb
  have hr := lotB_rs hb
  refine ⟨sortI_rise hn, fun c => ?_⟩
  rw [mem_sortI, hk c]
  constructor
  · rintro (⟨n, hn, e⟩ | ⟨c0, c1, hc⟩)
    · exact ⟨n, by rw [hasV_mk, hasB_iff]; exact .inl hn, e⟩
    · obtain ⟨r, hrr, e⟩ := (hs _).mp hc
      obtain ⟨k, k1, k2⟩ := crt hm hd rfl (hr r hrr).1 (hr r hrr).2 c0 c1 e
      exact ⟨k, by rw [hasV_mk, hasB_iff]; exact .inr (by rw [k1]; exact hrr), k2⟩
  · rintro ⟨k, h, e⟩
    rw [hasV_mk, hasB_iff] at h
    rcases h with h | h
    · exact .inl ⟨k, h, e⟩
    · have c0 := Int.emod_nonneg k (show d ≠ 0 by omega)
      have c1 := Int.emod_lt_of_pos k hd
      refine .inr ⟨by omega, by omega, (hs _).mpr ⟨k % m, h, ?_⟩⟩
      have gm : ((Nat.gcd m.natAbs d.natAbs : Nat) : Int) ∣ m := by
        have z : ((Nat.gcd m.natAbs d.natAbs : Nat) : Int) ∣ ((m.natAbs : Nat) : Int) := Int.natCast_dvd_natCast.mpr (Nat.gcd_dvd_left _ _)
        rw [Int.natAbs_of_nonneg (by omega)] at z
        exact z
      have gd : ((Nat.gcd m.natAbs d.natAbs : Nat) : Int) ∣ d := by
        have z : ((Nat.gcd m.natAbs d.natAbs : Nat) : Int) ∣ ((d.natAbs : Nat) : Int) := Int.natCast_dvd_natCast.mpr (Nat.gcd_dvd_right _ _)
        rw [Int.natAbs_of_nonneg (by omega)] at z
        exact z
      rw [← e, Int.emod_emod_of_dvd k gm, Int.emod_emod_of_dvd k gd]
theorem lcm_facts {m m' : Int} (h : 0 < m) (h' : 0 < m') : 0 < ((m.natAbs.lcm m'.natAbs : Nat) : Int) ∧ ((m.natAbs.lcm m'.natAbs : Nat) : Int) ≤ m * m' ∧ ((m.natAbs.lcm m'.natAbs : Nat) : Int) % m = 0 ∧ ((m.natAbs.lcm m'.natAbs : Nat) : Int) % m' = 0 := by
  have p : 0 < m.natAbs.lcm m'.natAbs := Nat.lcm_pos (by omega) (by omega)
  have l : m.natAbs.lcm m'.natAbs ≤ m.natAbs * m'.natAbs := Nat.le_of_dvd (Nat.mul_pos (by omega) (by omega)) (Nat.lcm_dvd (Nat.dvd_mul_right _ _) (Nat.dvd_mul_left _ _))
  have e : ((m.natAbs * m'.natAbs : Nat) : Int) = m * m' := by
    rw [Int.natCast_mul, Int.natAbs_of_nonneg (by omega), Int.natAbs_of_nonneg (by omega)]
  have d1 : m ∣ ((m.natAbs.lcm m'.natAbs : Nat) : Int) := by
    have z : ((m.natAbs : Nat) : Int) ∣ ((m.natAbs.lcm m'.natAbs : Nat) : Int) := Int.natCast_dvd_natCast.mpr (Nat.dvd_lcm_left _ _)
    rw [Int.natAbs_of_nonneg (by omega)] at z
    exact z
  have d2 : m' ∣ ((m.natAbs.lcm m'.natAbs : Nat) : Int) := by
    have z : ((m'.natAbs : Nat) : Int) ∣ ((m.natAbs.lcm m'.natAbs : Nat) : Int) := Int.natCast_dvd_natCast.mpr (Nat.dvd_lcm_right _ _)
    rw [Int.natAbs_of_nonneg (by omega)] at z
    exact z
  exact ⟨by omega, by omega, Int.emod_eq_zero_of_dvd d1, Int.emod_eq_zero_of_dvd d2⟩
def okDiv : PV → Bool
  | .int d => decide (1 ≤ d) && decide (d ≤ 2000)
  | _ => false
theorem lst_empty (l : List Int) : peq (.lst (l.map PV.int)) (.lst []) = l.isEmpty := by
  unfold peq
  rw [peqs_nil]
  cases l <;> rfl
theorem dat_ints (l : List Int) : dat (.lst (l.map PV.int)) := dat_of (n := 2) (pdk_ints l) (by decide)
theorem dat_nil : dat (.lst []) := dat_of (n := 1) rfl (by decide)
end Pu

/-! The plain side, part R: sums of ratios, of whole numbers; rests of their values. -/
namespace Pu
def GREAT : Int := 1000000000000000000000000000000000000000000000000000000000000
/-- a ratio in its least form, of at most sixty digits -/
def ratB : PV → Bool
  | .tup [.int a, .int b] => decide (0 < b) && (decide (b < GREAT) && (decide ((if a < 0 then -a else a) < GREAT) && ((Nat.gcd a.natAbs b.natAbs : Nat) : Int) == 1))
  | _ => false
def lastNo0 (xs : List PV) : Bool := match xs.getLast? with
  | none => true
  | some (.tup (.int a :: _)) => !(a == 0)
  | some _ => false
def sumB : PV → Bool
  | .tup xs => decide (xs.length ≤ 13) && (xs.all ratB && lastNo0 xs)
  | _ => false
def pr1 (c : Int) : PV := .tup [.int c, .int 1]
def mixP (cs : List Int) : PV := .tup (cs.map pr1)
structure OkCs (cs : List Int) : Prop where
  len : cs.length ≤ 13
  bd : ∀ c ∈ cs, (if c < 0 then -c else c) < GREAT
  last : cs.getLast? ≠ some 0
theorem ratB_inv {x : PV} (h : ratB x = true) : ∃ a b : Int, x = .tup [.int a, .int b] ∧ 0 < b ∧ b < GREAT ∧ (if a < 0 then -a else a) < GREAT ∧ Nat.gcd a.natAbs b.natAbs = 1 := by
  unfold ratB at h
  split at h
  · rename_i a b
    simp only [Bool.and_eq_true, decide_eq_true_eq, beq_iff_eq] at h
    exact ⟨a, b, rfl, h.1, h.2.1, h.2.2.1, by omega⟩
  · cases h
theorem ratB_pr1 (c : Int) : ratB (pr1 c) = decide ((if c < 0 then -c else c) < GREAT) := by
  have e : ((Nat.gcd c.natAbs (1 : Int).natAbs : Nat) : Int) = 1 := by
    show ((Nat.gcd c.natAbs 1 : Nat) : Int) = 1
    rw [Nat.gcd_one_right]
    rfl
  show (decide ((0 : Int) < 1) && (decide ((1 : Int) < GREAT) && (decide ((if c < 0 then -c else c) < GREAT) && ((Nat.gcd c.natAbs (1 : Int).natAbs : Nat) : Int) == 1))) = _
  rw [e]
  have e1 : decide ((1 : Int) < GREAT) = true := by decide
  rw [e1]
  cases decide ((if c < 0 then -c else c) < GREAT) <;> rfl
theorem last_pr1 (cs : List Int) : lastNo0 (cs.map pr1) = true ↔ cs.getLast? ≠ some 0 := by
  unfold lastNo0
  rw [List.getLast?_map]
  cases e : cs.getLast? with
  | none => simp
  | some c =>
    show (!(c == 0)) = true ↔ _
    by_cases z : c = 0
    · subst z; simp
    · simp [z]
theorem OkCs.sum {cs : List Int} (h : OkCs cs) : sumB (mixP cs) = true := by
  show (decide ((cs.map pr1).length ≤ 13) && ((cs.map pr1).all ratB && lastNo0 (cs.map pr1))) = true
  rw [List.length_map, decide_eq_true h.len, (last_pr1 cs).mpr h.last, Bool.and_true, Bool.true_and, List.all_map, List.all_eq_true]
  intro c hc
  show ratB (pr1 c) = true
  rw [ratB_pr1, decide_eq_true (h.bd c hc)]
theorem OkCs.of {cs : List Int} (h : sumB (mixP cs) = true) : OkCs cs := by
  have h : (decide ((cs.map pr1).length ≤ 13) && ((cs.map pr1).all ratB && lastNo0 (cs.map pr1))) = true := h
  simp only [Bool.and_eq_true, decide_eq_true_eq, List.length_map] at h
  refine ⟨h.1, fun c hc => ?_, (last_pr1 cs).mp h.2.2⟩
  have z := List.all_eq_true.mp h.2.1 _ (List.mem_map.mpr ⟨c, hc, rfl⟩)
  rw [ratB_pr1] at z
  exact of_decide_eq_true z
def wholeV : PV → Bool
  | .tup [.int _, .int b] => b == 1
  | _ => false
theorem wholes {xs : List PV} (h : xs.all ratB = true) (h2 : xs.all wholeV = true) : ∃ cs : List Int, xs = cs.map pr1 := by
  induction xs with
  | nil => exact ⟨[], rfl⟩
  | cons x xs ih =>
    rw [List.all_cons, Bool.and_eq_true] at h h2
    obtain ⟨cs, rfl⟩ := ih h.2 h2.2
    obtain ⟨a, b, rfl, _⟩ := ratB_inv h.1
    have e : b = 1 := eq_of_beq h2.1
    subst e
    exact ⟨a :: cs, rfl⟩
theorem whole_all (cs : List Int) : (cs.map pr1).all wholeV = true := by
  rw [List.all_map, List.all_eq_true]
  intro c _
  rfl
/-- a sum of whole numbers -/
def isWs (y : PV) : Prop := ∃ cs, y = mixP cs ∧ OkCs cs
/-! ### values -/
def hor (x : Int) (l : List Int) (a : Int) : Int := l.foldl (fun acc c => acc * x + c) a
def evalI (cs : List Int) (x : Int) : Int := hor x cs.reverse 0
theorem hor_mod {x y d : Int} (h : x % d = y % d) : ∀ (l : List Int) (a b : Int), a % d = b % d → hor x l a % d = hor y l b % d
  | [], _, _, e => e
  | c :: l, a, b, e => by
    refine hor_mod h l _ _ ?_
    rw [Int.add_emod, Int.mul_emod, e, h, ← Int.mul_emod, ← Int.add_emod]
theorem eval_mod {x y d : Int} (h : x % d = y % d) (cs : List Int) : evalI cs x % d = evalI cs y % d := hor_mod h _ _ _ rfl
theorem hor_snoc (x : Int) (l : List Int) (a c : Int) : hor x (l ++ [c]) a = hor x l a * x + c := by
  unfold hor
  rw [List.foldl_append]
  rfl
structure RestV (x : PV) (cs : List Int) (d : Int) (L : List Int) : Prop where
  pw : L.Pairwise (· < ·)
  me : ∀ c, c ∈ L ↔ ∃ k, hasV x k = true ∧ evalI cs k % d = c
theorem RestV.uniq {x : PV} {cs : List Int} {d : Int} {L L' : List Int} (a : RestV x cs d L) (b : RestV x cs d L') : L = L' := rise_eq a.pw b.pw fun k => (a.me k).trans (b.me k).symm
theorem RestV.len {x : PV} {cs : List Int} {d : Int} {L : List Int} (a : RestV x cs d L) (hd : 0 < d) : (L.length : Int) ≤ d := by
  have z := rise_len (lo := 0) (hi := d - 1) (rise_pw a.pw) fun c hc => by
    obtain ⟨k, _, rfl⟩ := (a.me c).mp hc
    have h0 := Int.emod_nonneg (evalI cs k) (show d ≠ 0 by omega)
    have h1 := Int.emod_lt_of_pos (evalI cs k) hd
    omega
  omega
/-- from the rests of the members to those of the values -/
theorem RestV.mk' {x : PV} {cs : List Int} {d : Int} {L ks : List Int} (hp : RestP x d L) (hn : ks.Nodup) (hk : ∀ c, c ∈ ks ↔ ∃ r ∈ L, evalI cs r % d = c) : RestV x cs d (sortI ks) := by
  refine ⟨sortI_rise hn, fun c => ?_⟩
  rw [mem_sortI, hk c]
  constructor
  · rintro ⟨r, hr, e⟩
    obtain ⟨k, hk, rfl⟩ := (hp.me r).mp hr
    exact ⟨k, hk, by rw [← e]; exact eval_mod (Int.emod_emod_of_dvd k (Int.dvd_refl d)).symm cs⟩
  · rintro ⟨k, hk, e⟩
    exact ⟨k % d, (hp.me _).mpr ⟨k, hk, rfl⟩, by rw [← e]; exact eval_mod (Int.emod_emod_of_dvd k (Int.dvd_refl d)) cs⟩
theorem RestV.own {x : PV} {cs : List Int} {d : Int} {Ms : List Int} (h1 : ∀ k ∈ Ms, hasV x k = true) (h2 : ∀ c, (∃ k, hasV x k = true ∧ k % d = c) → ∃ k ∈ Ms, k % d = c) : RestV x cs d (setI (Ms.map fun k => evalI cs k % d)) := by
  refine ⟨pw_setI, fun c => ?_⟩
  rw [mem_setI, List.mem_map]
  constructor
  · rintro ⟨k, hk, e⟩
    exact ⟨k, h1 k hk, e⟩
  · rintro ⟨k, hk, e⟩
    obtain ⟨k', hk', e'⟩ := h2 _ ⟨k, hk, rfl⟩
    exact ⟨k', hk', by rw [← e]; exact eval_mod e' cs⟩
theorem prime_dvd {p a b : Int} (hp : PrimeI p) (h : p ∣ a * b) : p ∣ a ∨ p ∣ b := by
  have pp := hp.1
  by_cases z : a % p = 0
  · exact .inl (Int.dvd_of_emod_eq_zero z)
  · right
    have na : a.natAbs % p.natAbs ≠ 0 := fun e => z (Int.emod_eq_zero_of_dvd (Int.natAbs_dvd_natAbs.mp (Nat.dvd_of_mod_eq_zero e)))
    have a0 : 0 < (a.natAbs : Int) := by
      rcases Nat.eq_zero_or_pos a.natAbs with e | e
      · rw [e] at na
        exact absurd (Nat.zero_mod _) na
      · omega
    have g : Nat.gcd ((a.natAbs : Nat) : Int).natAbs p.natAbs = 1 := prime_coprime hp a0 (by
      intro e
      apply na
      have : ((a.natAbs % p.natAbs : Nat) : Int) = 0 := by
        rw [Int.natCast_emod]
        have ep : ((p.natAbs : Nat) : Int) = p := Int.natAbs_of_nonneg (by omega)
        rw [ep]
        exact e
      omega)
    have d2 : p.natAbs ∣ a.natAbs * b.natAbs := by
      have := Int.natAbs_dvd_natAbs.mpr h
      rw [Int.natAbs_mul] at this
      exact this
    have c : Nat.Coprime p.natAbs a.natAbs := by
      rw [Nat.coprime_iff_gcd_eq_one, Nat.gcd_comm]
      simpa using g
    exact Int.natAbs_dvd_natAbs.mp (c.dvd_of_dvd_mul_left d2)
theorem sq_eval (k : Int) : evalI [0, 0, 1] k = k * k := by
  show ((0 * k + 1) * k + 0) * k + 0 = k * k
  rw [Int.zero_mul, Int.zero_add, Int.one_mul, Int.add_zero, Int.add_zero]
theorem sq_count {x : PV} {L : List Int} (hx : ∀ k, hasV x k = true) (h : RestV x [0, 0, 1] 1999 L) : L.length = 1000 := by
  have nd : ((List.range 1000).map fun k : Nat => ((k : Int) * k) % 1999).Nodup := by
    rw [List.nodup_iff_pairwise_ne, List.pairwise_map]
    refine List.Pairwise.imp_of_mem ?_ (List.nodup_iff_pairwise_ne.mp (List.nodup_range (n := 1000)))
    intro a b ha hb hab e
    have ha := List.mem_range.mp ha
    have hb := List.mem_range.mp hb
    have d : (1999 : Int) ∣ ((a : Int) - b) * (a + b) := by
      have z := Int.dvd_of_emod_eq_zero (Int.emod_eq_emod_iff_emod_sub_eq_zero.mp e)
      have e2 : ((a : Int) - b) * (a + b) = a * a - b * b := by
        rw [Int.sub_mul, Int.mul_add, Int.mul_add, Int.mul_comm (b : Int) a]
        omega
      rw [e2]
      exact z
    rcases prime_dvd prime1999 d with ⟨t, e3⟩ | ⟨t, e3⟩
    · omega
    · omega
  have e : L.length = ((List.range 1000).map fun k : Nat => ((k : Int) * k) % 1999).length := same_len (h.pw.imp fun {a b} z => by omega) nd fun c => by
    rw [h.me c, List.mem_map]
    constructor
    · rintro ⟨k, _, e⟩
      rw [sq_eval] at e
      have k0 := Int.emod_nonneg k (show (1999 : Int) ≠ 0 by decide)
      have k1 := Int.emod_lt_of_pos k (show (0 : Int) < 1999 by decide)
      rcases Int.lt_or_le (k % 1999) 1000 with z | z
      · refine ⟨(k % 1999).toNat, List.mem_range.mpr (by omega), ?_⟩
        rw [Int.toNat_of_nonneg k0, ← Int.mul_emod]
        exact e
      · refine ⟨(1999 - k % 1999).toNat, List.mem_range.mpr (by omega), ?_⟩
        rw [Int.toNat_of_nonneg (by omega), ← e]
        have e2 : (1999 - k % 1999) * (1999 - k % 1999) = k % 1999 * (k % 1999) + 1999 * (1999 - 2 * (k % 1999)) := by
          rw [Int.sub_mul, Int.mul_sub, Int.mul_sub, Int.mul_sub]
          generalize k % 1999 * (k % 1999) = u
          omega
        rw [e2, Int.add_mul_emod_self_left, ← Int.mul_emod]
    · rintro ⟨n, _, e⟩
      exact ⟨n, hx _, by rw [sq_eval]; exact e⟩
  rw [e, List.length_map, List.length_range]
theorem pr1s_of {P : Int → Prop} {l : List PV} (h : ∀ v ∈ l, ∃ c : Int, v = pr1 c ∧ P c) : ∃ cs : List Int, l = cs.map pr1 ∧ ∀ c ∈ cs, P c := by
  induction l with
  | nil => exact ⟨[], rfl, fun c hc => by cases hc⟩
  | cons v l ih =>
    obtain ⟨cs, e1, e2⟩ := ih fun u hu => h u (List.mem_cons_of_mem _ hu)
    obtain ⟨c, rfl, hc⟩ := h v List.mem_cons_self
    refine ⟨c :: cs, by rw [e1]; rfl, fun d hd => ?_⟩
    rcases List.mem_cons.mp hd with rfl | hd
    · exact hc
    · exact e2 d hd
theorem pdk_pr1 (n : Nat) (cs : List Int) : (cs.map pr1).all (pdk (n + 2)) = true := by
  rw [List.all_map, List.all_eq_true]
  intro c _
  rfl
theorem peq_pr1 (c : Int) : peq (pr1 c) (.tup [.int 0, .int 1]) = (c == 0) := by
  unfold pr1
  simp [peq, peqs]
end Pu
namespace Pu
theorem lists_map {f : Int → List Int} : ∀ rs : List Int, lists? (rs.map fun r => PV.lst ((f r).map PV.int)) = some (rs.map fun r => (f r).map PV.int)
  | [] => rfl
  | r :: rs => by
    show (lists? (rs.map fun r => PV.lst ((f r).map PV.int))).map ((f r).map PV.int :: ·) = _
    rw [lists_map rs]
    rfl
theorem flat_ints' {f : Int → List Int} : ∀ rs : List Int, (rs.map fun r => (f r).map PV.int).flatten = (rs.flatMap f).map PV.int
  | [] => rfl
  | r :: rs => by
    rw [List.map_cons, List.flatten_cons, flat_ints' rs, List.flatMap_cons, List.map_append]
theorem flat_len {f : Int → List Int} {n : Nat} (h : ∀ r, (f r).length = n) : ∀ rs : List Int, (rs.flatMap f).length = rs.length * n
  | [] => by simp
  | r :: rs => by
    rw [List.flatMap_cons, List.length_append, flat_len h rs, h r, List.length_cons, Nat.add_mul, Nat.one_mul]
    omega
end Pu

/-! The plain side, part P: powers of a prime, members taken one by one, rows put together. -/
namespace Pu
/-- how often p divides x -/
def vpF (p : Int) : Nat → Int → Nat
  | 0, _ => 0
  | n + 1, x => if x % p = 0 then vpF p n (x / p) + 1 else 0
def vp (p x : Int) : Nat := vpF p x.natAbs x
theorem div_lt {p x : Int} (hp : 2 ≤ p) (hx : x ≠ 0) (h : x % p = 0) : x / p ≠ 0 ∧ (x / p).natAbs < x.natAbs := by
  have e := Int.mul_ediv_add_emod x p
  rw [h, Int.add_zero] at e
  have n0 : x / p ≠ 0 := fun z => hx (by rw [← e, z, Int.mul_zero])
  refine ⟨n0, ?_⟩
  have e2 : x.natAbs = p.natAbs * (x / p).natAbs := by rw [← Int.natAbs_mul, e]
  have : 2 * (x / p).natAbs ≤ p.natAbs * (x / p).natAbs := Nat.mul_le_mul_right _ (by omega)
  omega
theorem vpF_eq {p : Int} (hp : 2 ≤ p) : ∀ (n m : Nat) (x : Int), x ≠ 0 → x.natAbs ≤ n → x.natAbs ≤ m → vpF p n x = vpF p m x
  | 0, _, x, hx, h, _ => by omega
  | _ + 1, 0, x, hx, _, h => by omega
  | n + 1, m + 1, x, hx, h1, h2 => by
    unfold vpF
    split
    · rename_i h
      obtain ⟨a, b⟩ := div_lt hp hx h
      rw [vpF_eq hp n m (x / p) a (by omega) (by omega)]
    · rfl
theorem vp_mul {p x : Int} (hp : 2 ≤ p) (hx : x ≠ 0) : vp p (p * x) = vp p x + 1 := by
  have h0 : p * x ≠ 0 := Int.mul_ne_zero (by omega) hx
  have e : (p * x) / p = x := Int.mul_ediv_cancel_left _ (by omega)
  have h1 : (p * x) % p = 0 := Int.mul_emod_right _ _
  obtain ⟨_, b⟩ := div_lt hp h0 h1
  rw [e] at b
  unfold vp
  obtain ⟨n, hn⟩ : ∃ n, (p * x).natAbs = n + 1 := ⟨(p * x).natAbs - 1, by omega⟩
  rw [hn]
  show (if (p * x) % p = 0 then vpF p n (p * x / p) + 1 else 0) = _
  rw [if_pos h1, e, vpF_eq hp n x.natAbs x hx (by omega) (Nat.le_refl _)]
theorem vp_no {p x : Int} (h : x % p ≠ 0) : vp p x = 0 := by
  unfold vp
  cases x.natAbs with
  | zero => rfl
  | succ n =>
    show (if x % p = 0 then _ else 0) = 0
    rw [if_neg h]
/-- the power of p in the product of differences from as -/
def V (p : Int) : List Int → Int → Nat
  | [], _ => 0
  | a :: as, x => vp p (x - a) + V p as x
theorem V_append (p : Int) : ∀ (as bs : List Int) (x : Int), V p (as ++ bs) x = V p as x + V p bs x
  | [], _, _ => (Nat.zero_add _).symm
  | a :: as, bs, x => by
    show vp p (x - a) + V p (as ++ bs) x = vp p (x - a) + V p as x + V p bs x
    rw [V_append p as bs x]
    omega
theorem partN_cons {p r a : Int} {as : List Int} : partN p r (a :: as) = if a % p = r then (a - r) / p :: partN p r as else partN p r as := by
  unfold partN
  rw [List.filter_cons]
  by_cases h : a % p = r
  · rw [if_pos (beq_iff_eq.mpr h), if_pos h, List.map_cons]
  · rw [if_neg (fun z => h (beq_iff_eq.mp z)), if_neg h]
theorem partN_append {p r : Int} {as bs : List Int} : partN p r (as ++ bs) = partN p r as ++ partN p r bs := by
  unfold partN
  rw [List.filter_append, List.map_append]
theorem V_part {p r y : Int} (hp : 2 ≤ p) (r0 : 0 ≤ r) (r1 : r < p) : ∀ {as : List Int}, r + p * y ∉ as → V p as (r + p * y) = (partN p r as).length + V p (partN p r as) y
  | [], _ => rfl
  | a :: as, h => by
    have ih := V_part hp r0 r1 (as := as) fun z => h (List.mem_cons_of_mem _ z)
    have hne : r + p * y ≠ a := fun z => h (by rw [z]; exact List.mem_cons_self)
    show vp p (r + p * y - a) + V p as (r + p * y) = _
    rw [partN_cons]
    have ea := Int.mul_ediv_add_emod a p
    by_cases e : a % p = r
    · rw [if_pos e]
      have e1 : (a - r) / p = a / p := by
        have z : a - r = p * (a / p) := by omega
        rw [z, Int.mul_ediv_cancel_left _ (by omega)]
      have e2 : r + p * y - a = p * (y - a / p) := by
        rw [Int.mul_sub]
        omega
      have e3 : y - a / p ≠ 0 := fun z => hne (by
        have : y = a / p := by omega
        rw [this]
        omega)
      rw [e2, vp_mul hp e3, ih, e1]
      show _ = (partN p r as).length + 1 + (vp p (y - a / p) + V p (partN p r as) y)
      omega
    · rw [if_neg e]
      have : (r + p * y - a) % p ≠ 0 := fun z => by
        apply e
        have h2 := Int.emod_eq_emod_iff_emod_sub_eq_zero.mpr z
        rw [Int.add_mul_emod_self_left, Int.emod_eq_of_lt r0 r1] at h2
        exact h2.symm
      rw [vp_no this, ih]
      omega
/-! ### one by one -/
inductive Gr (p : Int) (S : Int → Prop) : List Int → List Nat → Prop
  | nil : Gr p S [] []
  | snoc {as : List Int} {vs : List Nat} {x : Int} : Gr p S as vs → S x → x ∉ as → (∀ y, S y → y ∉ as → V p as x ≤ V p as y) → Gr p S (as ++ [x]) (vs ++ [V p as x])
theorem Gr.len {p : Int} {S : Int → Prop} {as : List Int} {vs : List Nat} (h : Gr p S as vs) : vs.length = as.length := by
  induction h with
  | nil => rfl
  | snoc _ _ _ _ ih => rw [List.length_append, List.length_append, ih]; rfl
theorem Gr.mem {p : Int} {S : Int → Prop} {as : List Int} {vs : List Nat} (h : Gr p S as vs) : ∀ a ∈ as, S a := by
  induction h with
  | nil => exact fun a ha => by cases ha
  | snoc _ hx _ _ ih =>
    intro a ha
    rcases List.mem_append.mp ha with ha | ha
    · exact ih a ha
    · rw [List.mem_singleton.mp ha]; exact hx
theorem Gr.nodup {p : Int} {S : Int → Prop} {as : List Int} {vs : List Nat} (h : Gr p S as vs) : as.Nodup := by
  induction h with
  | nil => exact List.nodup_nil
  | snoc _ _ hn _ ih =>
    rw [List.nodup_append]
    exact ⟨ih, by simp, fun a ha b hb e => by
      have z := List.mem_singleton.mp hb
      exact hn (by rw [← z, ← e]; exact ha)⟩
theorem Gr.asc {p : Int} {S : Int → Prop} {as : List Int} {vs : List Nat} (h : Gr p S as vs) : vs.Pairwise (· ≤ ·) ∧ ∀ y, S y → y ∉ as → ∀ v ∈ vs, v ≤ V p as y := by
  induction h with
  | nil => exact ⟨.nil, fun _ _ _ v hv => by cases hv⟩
  | @snoc as vs x _ hx hn hm ih =>
    obtain ⟨i1, i2⟩ := ih
    refine ⟨?_, fun y hy hyn v hv => ?_⟩
    · rw [List.pairwise_append]
      exact ⟨i1, by simp, fun v hv w hw => by
        rw [List.mem_singleton.mp hw]
        exact i2 x hx hn v hv⟩
    · have hyn1 : y ∉ as := fun z => hyn (List.mem_append.mpr (.inl z))
      rw [V_append]
      rcases List.mem_append.mp hv with hv | hv
      · have := i2 y hy hyn1 v hv
        omega
      · rw [List.mem_singleton.mp hv]
        have := hm y hy hyn1
        omega
theorem min_ex {p : Int} {S : Int → Prop} {as : List Int} : ∀ (n : Nat) (y : Int), V p as y ≤ n → S y → y ∉ as → ∃ x, S x ∧ x ∉ as ∧ ∀ y, S y → y ∉ as → V p as x ≤ V p as y
  | 0, y, h, hy, hn => ⟨y, hy, hn, fun z _ _ => by omega⟩
  | n + 1, y, h, hy, hn => by
    by_cases c : ∃ z, S z ∧ z ∉ as ∧ V p as z ≤ n
    · obtain ⟨z, h1, h2, h3⟩ := c
      exact min_ex n z h3 h1 h2
    · refine ⟨y, hy, hn, fun z h1 h2 => ?_⟩
      rcases Nat.lt_or_ge n (V p as z) with q | q
      · omega
      · exact absurd ⟨z, h1, h2, q⟩ c
def Full (S : Int → Prop) (n : Nat) (as : List Int) : Prop := as.length = n ∨ (as.length ≤ n ∧ ∀ x, S x → x ∈ as)
theorem Gr.fill {p : Int} {S : Int → Prop} {n : Nat} : ∀ (k : Nat) {as : List Int} {vs : List Nat}, Gr p S as vs → as.length + k = n → ∃ bs ws, Gr p S (as ++ bs) (vs ++ ws) ∧ Full S n (as ++ bs)
  | 0, as, vs, h, e => ⟨[], [], by simpa using h, .inl (by simpa using e)⟩
  | k + 1, as, vs, h, e => by
    by_cases c : ∃ y, S y ∧ y ∉ as
    · obtain ⟨y, hy, hn⟩ := c
      obtain ⟨x, h1, h2, h3⟩ := min_ex (p := p) _ y (Nat.le_refl _) hy hn
      obtain ⟨bs, ws, h4, h5⟩ := Gr.fill (n := n) k (h.snoc h1 h2 h3) (by rw [List.length_append, List.length_singleton]; omega)
      refine ⟨x :: bs, V p as x :: ws, ?_, ?_⟩
      · rw [List.append_assoc, List.append_assoc] at h4
        exact h4
      · rw [List.append_assoc] at h5
        exact h5
    · refine ⟨[], [], by rw [List.append_nil, List.append_nil]; exact h, .inr ⟨by rw [List.append_nil]; omega, fun x hx => ?_⟩⟩
      rw [List.append_nil]
      by_cases q : x ∈ as
      · exact q
      · exact absurd ⟨x, hx, q⟩ c
def pad (n : Nat) (vs : List Nat) : List (Option Nat) := vs.map some ++ List.replicate (n - vs.length) none
/-- l is the row of S, n places of it, whichever members are taken -/
def IsRow (p : Int) (S : Int → Prop) (n : Nat) (l : List (Option Nat)) : Prop := ∀ as vs, Gr p S as vs → Full S n as → l = pad n vs
/-! ### put together -/
def addIx : Nat → List Nat → List Nat
  | _, [] => []
  | i, v :: l => (v + i) :: addIx (i + 1) l
def itemsN : Nat → List (Option Nat) → List Nat
  | _, [] => []
  | i, none :: l => itemsN (i + 1) l
  | i, some v :: l => (v + i) :: itemsN (i + 1) l
theorem addIx_append : ∀ (i : Nat) (l m : List Nat), addIx i (l ++ m) = addIx i l ++ addIx (i + l.length) m
  | i, [], m => rfl
  | i, v :: l, m => by
    show (v + i) :: addIx (i + 1) (l ++ m) = (v + i) :: (addIx (i + 1) l ++ addIx (i + (l.length + 1)) m)
    rw [addIx_append (i + 1) l m, show i + 1 + l.length = i + (l.length + 1) by omega]
theorem itemsN_none : ∀ (i n : Nat), itemsN i (List.replicate n none) = []
  | _, 0 => rfl
  | i, n + 1 => itemsN_none (i + 1) n
theorem itemsN_pad : ∀ (i : Nat) (vs : List Nat) (k : Nat), itemsN i (vs.map some ++ List.replicate k none) = addIx i vs
  | i, [], k => itemsN_none i k
  | i, v :: vs, k => by
    show (v + i) :: itemsN (i + 1) (vs.map some ++ List.replicate k none) = (v + i) :: addIx (i + 1) vs
    rw [itemsN_pad (i + 1) vs k]
theorem addIx_ge : ∀ (i : Nat) (l : List Nat) (b : Nat), (∀ v ∈ l, b ≤ v) → ∀ u ∈ addIx i l, b + i ≤ u
  | i, v :: l, b, h, u, hu => by
    rcases List.mem_cons.mp hu with rfl | hu
    · have := h v List.mem_cons_self
      omega
    · have := addIx_ge (i + 1) l b (fun v hv => h v (List.mem_cons_of_mem _ hv)) u hu
      omega
  | _, [], _, _, u, hu => by cases hu
def resI (p : Int) : List Int := (List.range p.toNat).map fun k : Nat => (k : Int)
theorem mem_resI {p r : Int} : r ∈ resI p ↔ 0 ≤ r ∧ r < p := by
  unfold resI
  rw [List.mem_map]
  constructor
  · rintro ⟨k, hk, rfl⟩
    have := List.mem_range.mp hk
    omega
  · rintro ⟨h0, h1⟩
    exact ⟨r.toNat, List.mem_range.mpr (by omega), by omega⟩
theorem resI_nodup (p : Int) : (resI p).Nodup := by
  unfold resI
  rw [List.nodup_iff_pairwise_ne, List.pairwise_map]
  exact (List.nodup_iff_pairwise_ne.mp List.nodup_range).imp fun {a b} h e => h (by omega)
theorem flatMap_upd {r0 : Int} {e : List Nat} {f g : Int → List Nat} (hg : ∀ r, r ≠ r0 → g r = f r) (h0 : (g r0).Perm (f r0 ++ e)) : ∀ {rs : List Int}, rs.Nodup → r0 ∈ rs → (rs.flatMap g).Perm (rs.flatMap f ++ e)
  | r :: rs, hn, hm => by
    rw [List.nodup_cons] at hn
    rw [List.flatMap_cons, List.flatMap_cons]
    by_cases c : r = r0
    · subst c
      have : rs.flatMap g = rs.flatMap f := by
        have : ∀ r' ∈ rs, g r' = f r' := fun r' hr => hg r' fun z => hn.1 (by rw [← z]; exact hr)
        clear hn hm h0 hg
        induction rs with
        | nil => rfl
        | cons x xs ih => rw [List.flatMap_cons, List.flatMap_cons, this x List.mem_cons_self, ih fun y hy => this y (List.mem_cons_of_mem _ hy)]
      rw [this]
      refine (h0.append_right _).trans ?_
      rw [List.append_assoc, List.append_assoc]
      exact List.Perm.append_left _ List.perm_append_comm
    · have hm : r0 ∈ rs := by
        rcases List.mem_cons.mp hm with z | z
        · exact absurd z.symm c
        · exact z
      rw [hg r c, List.append_assoc]
      exact (flatMap_upd hg h0 hn.2 hm).append_left _
  | [], _, hm => by cases hm
theorem flatMap_perm2 {f g e : Int → List Nat} : ∀ {rs : List Int}, (∀ r ∈ rs, (g r).Perm (f r ++ e r)) → (rs.flatMap g).Perm (rs.flatMap f ++ rs.flatMap e)
  | [], _ => by simp
  | r :: rs, h => by
    rw [List.flatMap_cons, List.flatMap_cons, List.flatMap_cons]
    have ih := flatMap_perm2 (rs := rs) fun r' hr => h r' (List.mem_cons_of_mem _ hr)
    refine ((h r List.mem_cons_self).append ih).trans ?_
    rw [List.append_assoc, List.append_assoc]
    refine List.Perm.append_left _ ?_
    rw [← List.append_assoc, ← List.append_assoc]
    exact List.Perm.append_right _ List.perm_append_comm
/-- what is taken, by rests -/
theorem Gr.split {p : Int} (hp : 2 ≤ p) {S : Int → Prop} {as : List Int} {vs : List Nat} (h : Gr p S as vs) :
    ∃ f : Int → List Nat, (∀ r, 0 ≤ r → r < p → Gr p (fun y => S (r + p * y)) (partN p r as) (f r)) ∧ ((resI p).flatMap fun r => addIx 0 (f r)).Perm vs := by
  induction h with
  | nil =>
    refine ⟨fun _ => [], fun r _ _ => .nil, ?_⟩
    have : ((resI p).flatMap fun _ => addIx 0 []) = [] := by
      induction resI p with
      | nil => rfl
      | cons x xs ih => rw [List.flatMap_cons, ih]; rfl
    rw [this]
  | @snoc as vs x hg hx hn hm ih =>
    obtain ⟨f, h1, h2⟩ := ih
    have r0 := Int.emod_nonneg x (show p ≠ 0 by omega)
    have r1 := Int.emod_lt_of_pos x (show 0 < p by omega)
    have ex := Int.mul_ediv_add_emod x p
    have exx : x % p + p * (x / p) = x := by omega
    have key : ∀ r, 0 ≤ r → r < p → ∀ y, y ∉ partN p r as → r + p * y ∉ as := fun r a b y hy z => hy ((mem_partN hp a b).mpr z)
    have px : partN p (x % p) [x] = [x / p] := by
      rw [partN_cons, if_pos rfl]
      have e : x - x % p = p * (x / p) := by omega
      rw [e, Int.mul_ediv_cancel_left _ (by omega)]
      rfl
    have vx := V_part (y := x / p) hp r0 r1 (as := as) (by rw [exx]; exact hn)
    rw [exx] at vx
    refine ⟨fun r => if r = x % p then f r ++ [V p (partN p r as) (x / p)] else f r, fun r a b => ?_, ?_⟩
    · dsimp only
      rw [partN_append]
      by_cases c : r = x % p
      · subst c
        rw [if_pos rfl, px]
        refine (h1 _ a b).snoc (by show S (x % p + p * (x / p)); rw [exx]; exact hx) (fun z => hn (by have := (mem_partN hp a b).mp z; rw [exx] at this; exact this)) fun y hy hyn => ?_
        have vy := V_part (y := y) hp r0 r1 (as := as) (key _ a b y hyn)
        have := hm _ hy (key _ a b y hyn)
        omega
      · rw [if_neg c, partN_cons, if_neg fun z => c z.symm]
        show Gr p _ (partN p r as ++ []) _
        rw [List.append_nil]
        exact h1 r a b
    · refine (flatMap_upd (r0 := x % p) (e := [V p as x]) (f := fun r => addIx 0 (f r)) (fun r hr => by simp only [if_neg hr]) ?_ (resI_nodup p) (mem_resI.mpr ⟨r0, r1⟩)).trans (h2.append_right _)
      simp only [if_pos]
      rw [addIx_append]
      have l1 := (h1 _ r0 r1).len
      refine List.Perm.append_left _ ?_
      show [V p (partN p (x % p) as) (x / p) + (0 + (f (x % p)).length)].Perm _
      rw [l1, vx, Nat.zero_add, Nat.add_comm]
theorem sortedN_eq : ∀ {a b : List Nat}, a.Perm b → a.Pairwise (· ≤ ·) → b.Pairwise (· ≤ ·) → a = b
  | [], b, h, _, _ => h.nil_eq
  | x :: a, [], h, _, _ => by cases h.symm.nil_eq
  | x :: a, y :: b, h, ha, hb => by
    have ha' := List.pairwise_cons.mp ha
    have hb' := List.pairwise_cons.mp hb
    have hx : x ∈ y :: b := h.mem_iff.mp List.mem_cons_self
    have hy : y ∈ x :: a := h.mem_iff.mpr List.mem_cons_self
    have e : x = y := by
      rcases List.mem_cons.mp hx with e | hx
      · exact e
      · rcases List.mem_cons.mp hy with e | hy
        · exact e.symm
        · have := ha'.1 y hy
          have := hb'.1 x hx
          omega
    subst e
    rw [sortedN_eq (List.Perm.cons_inv h) ha'.2 hb'.2]
theorem sort_ex : ∀ l : List Nat, ∃ s : List Nat, s.Perm l ∧ s.Pairwise (· ≤ ·) := fun l => ⟨l.mergeSort, List.mergeSort_perm .., by
  have := List.pairwise_mergeSort (le := fun a b : Nat => decide (a ≤ b)) (fun a b c => by simp; omega) (fun a b => by simp; omega) l
  exact this.imp fun {a b} h => by simpa using h⟩
theorem gr_at : ∀ {p : Int} {S : Int → Prop} {as bs : List Int} {vs ws : List Nat} {y : Int} {w : Nat}, Gr p S (as ++ y :: bs) (vs ++ w :: ws) → vs.length = as.length → w = V p as y := by
  intro p S as bs vs ws y w h hl
  generalize e1 : as ++ y :: bs = cs at h
  generalize e2 : vs ++ w :: ws = us at h
  induction h generalizing bs ws with
  | nil => cases as <;> cases e1
  | @snoc cs us x hg _ _ _ ih =>
    cases hb : bs.reverse with
    | nil =>
      have hb : bs = [] := by simpa using hb
      subst hb
      obtain ⟨rfl, e3⟩ := List.append_inj' e1 rfl
      cases e3
      have hw : ws = [] := by
        have := congrArg List.length e2
        have l := hg.len
        simp at this
        have : ws.length = 0 := by omega
        exact List.length_eq_zero_iff.mp this
      subst hw
      obtain ⟨_, e4⟩ := List.append_inj' e2 rfl
      cases e4
      rfl
    | cons z zs =>
      have hb : bs = zs.reverse ++ [z] := by
        have := congrArg List.reverse hb
        simpa using this
      subst hb
      have e1' : (as ++ y :: zs.reverse) ++ [z] = cs ++ [x] := by rw [← e1]; simp
      obtain ⟨e3, _⟩ := List.append_inj' e1' rfl
      cases hw : ws.reverse with
      | nil =>
        have hw : ws = [] := by simpa using hw
        subst hw
        have := congrArg List.length e2
        have l := hg.len
        have l3 := congrArg List.length e3
        simp at this l3
        omega
      | cons u us' =>
        have hw : ws = us'.reverse ++ [u] := by
          have := congrArg List.reverse hw
          simpa using this
        subst hw
        have e2' : (vs ++ w :: us'.reverse) ++ [u] = us ++ [V p cs x] := by rw [← e2]; simp
        obtain ⟨e4, _⟩ := List.append_inj' e2' rfl
        exact ih e3 e4
/-- the row, put together from those of the parts -/
theorem merge_row {p : Int} (hp : 2 ≤ p) {S : Int → Prop} {q n : Nat} {ls : Int → List (Option Nat)} (h : ∀ r, 0 ≤ r → r < p → IsRow p (fun y => S (r + p * y)) q (ls r))
    (hq : ∀ as vs, Gr p S as vs → Full S n as → ∀ r, 0 ≤ r → r < p → (partN p r as).length ≤ q) {s : List Nat} (sp : s.Perm ((resI p).flatMap fun r => itemsN 0 (ls r))) (ss : s.Pairwise (· ≤ ·)) : IsRow p S n (pad n (s.take n)) := by
  intro as vs hg hf
  obtain ⟨f, h1, h2⟩ := hg.split hp
  have ext : ∀ r, ∃ bs ws, 0 ≤ r → r < p → Gr p (fun y => S (r + p * y)) (partN p r as ++ bs) (f r ++ ws) ∧ Full (fun y => S (r + p * y)) q (partN p r as ++ bs) := fun r => by
    by_cases c : 0 ≤ r ∧ r < p
    · obtain ⟨bs, ws, z⟩ := Gr.fill (n := q) (q - (partN p r as).length) (h1 r c.1 c.2) (by have := hq as vs hg hf r c.1 c.2; omega)
      exact ⟨bs, ws, fun _ _ => z⟩
    · exact ⟨[], [], fun a b => absurd ⟨a, b⟩ c⟩
  have ext2 : ∃ (B : Int → List Int) (E : Int → List Nat), ∀ r, 0 ≤ r → r < p → Gr p (fun y => S (r + p * y)) (partN p r as ++ B r) (f r ++ E r) ∧ Full (fun y => S (r + p * y)) q (partN p r as ++ B r) :=
    ⟨fun r => (ext r).choose, fun r => (ext r).choose_spec.choose, fun r a b => (ext r).choose_spec.choose_spec a b⟩
  obtain ⟨B, E, hBE⟩ := ext2
  have it : ∀ r ∈ resI p, (itemsN 0 (ls r)).Perm (addIx 0 (f r) ++ addIx (f r).length (E r)) := fun r hr => by
    obtain ⟨a, b⟩ := mem_resI.mp hr
    obtain ⟨g1, g2⟩ := hBE r a b
    rw [h r a b _ _ g1 g2]
    unfold pad
    rw [itemsN_pad, addIx_append, Nat.zero_add]
  have pm : s.Perm (vs ++ (resI p).flatMap fun r => addIx (f r).length (E r)) := (sp.trans (flatMap_perm2 it)).trans (h2.append_right _)
  obtain ⟨as1, as2⟩ := hg.asc
  have ge : ∀ u ∈ (resI p).flatMap fun r => addIx (f r).length (E r), ∀ v ∈ vs, v ≤ u := fun u hu v hv => by
    obtain ⟨r, hr, hu⟩ := List.mem_flatMap.mp hu
    obtain ⟨a, b⟩ := mem_resI.mp hr
    obtain ⟨g1, _⟩ := hBE r a b
    have l1 := (h1 r a b).len
    have l2 := g1.len
    rw [List.length_append, List.length_append, l1] at l2
    cases eb : B r with
    | nil =>
      rw [eb] at l2
      have : E r = [] := List.length_eq_zero_iff.mp (by simpa using l2)
      rw [this] at hu
      cases hu
    | cons y ys =>
      rw [eb] at g1
      have hy : S (r + p * y) := g1.mem y (List.mem_append.mpr (.inr List.mem_cons_self))
      have hyn : y ∉ partN p r as := fun z => by
        have nd := g1.nodup
        rw [List.nodup_append] at nd
        exact nd.2.2 y z y List.mem_cons_self rfl
      have hyn2 : r + p * y ∉ as := fun z => hyn ((mem_partN hp a b).mpr z)
      have e1 := as2 _ hy hyn2 v hv
      rw [V_part hp a b hyn2] at e1
      -- the first of the rest is the least of the rest
      cases ee : E r with
      | nil => rw [ee] at hu; cases hu
      | cons w ws =>
        rw [ee] at hu g1
        have wmin : w = V p (partN p r as) y ∨ V p (partN p r as) y ≤ w := by
          right
          -- w is the value of y
          have := gr_at g1 (by rw [l1])
          omega
        have pw := (List.pairwise_append.mp g1.asc.1).2.1
        have hw : ∀ x ∈ w :: ws, w ≤ x := fun x hx => by
          rcases List.mem_cons.mp hx with rfl | hx
          · exact Nat.le_refl _
          · exact (List.pairwise_cons.mp pw).1 x hx
        have := addIx_ge _ _ w hw u hu
        omega
  obtain ⟨t, t1, t2⟩ := sort_ex ((resI p).flatMap fun r => addIx (f r).length (E r))
  have es : s = vs ++ t := sortedN_eq (pm.trans (t1.symm.append_left _)) ss (List.pairwise_append.mpr ⟨as1, t2, fun v hv u hu => ge u (t1.mem_iff.mp hu) v hv⟩)
  rcases hf with hf | ⟨hf1, hf2⟩
  · rw [es, List.take_append_of_le_length (by rw [hg.len]; omega), List.take_of_length_le (by rw [hg.len]; omega)]
  · have t0 : t = [] := by
      have : ((resI p).flatMap fun r => addIx (f r).length (E r)) = [] := by
        rw [List.flatMap_eq_nil_iff]
        intro r hr
        obtain ⟨a, b⟩ := mem_resI.mp hr
        obtain ⟨g1, _⟩ := hBE r a b
        have l1 := (h1 r a b).len
        have l2 := g1.len
        rw [List.length_append, List.length_append, l1] at l2
        cases eb : B r with
        | nil =>
          rw [eb] at l2
          have : E r = [] := List.length_eq_zero_iff.mp (by simpa using l2)
          rw [this]
          rfl
        | cons y ys =>
          exfalso
          rw [eb] at g1
          have hy : S (r + p * y) := g1.mem y (List.mem_append.mpr (.inr List.mem_cons_self))
          have nd := g1.nodup
          rw [List.nodup_append] at nd
          exact nd.2.2 y ((mem_partN hp a b).mpr (hf2 _ hy)) y List.mem_cons_self rfl
      rw [this] at t1
      exact List.perm_nil.mp t1
    rw [es, t0, List.append_nil, List.take_of_length_le (by rw [hg.len]; omega)]
end Pu

/-! The plain side, part Ba: rows of one member, of dense lots. -/
namespace Pu
theorem gr_min {p : Int} {S : Int → Prop} {as bs : List Int} {vs ws : List Nat} {y : Int} {w : Nat} (h : Gr p S (as ++ y :: bs) (vs ++ w :: ws)) (hl : vs.length = as.length) : w = V p as y ∧ ∀ z, S z → z ∉ as → w ≤ V p as z := by
  refine ⟨gr_at h hl, ?_⟩
  generalize e1 : as ++ y :: bs = cs at h
  generalize e2 : vs ++ w :: ws = us at h
  induction h generalizing bs ws with
  | nil => cases as <;> cases e1
  | @snoc cs us x hg _ _ hm ih =>
    cases hb : bs.reverse with
    | nil =>
      have hb : bs = [] := by simpa using hb
      subst hb
      obtain ⟨rfl, e3⟩ := List.append_inj' e1 rfl
      cases e3
      have hw : ws = [] := by
        have := congrArg List.length e2
        have l := hg.len
        simp at this
        have : ws.length = 0 := by omega
        exact List.length_eq_zero_iff.mp this
      subst hw
      obtain ⟨_, e4⟩ := List.append_inj' e2 rfl
      cases e4
      exact hm
    | cons z zs =>
      have hb : bs = zs.reverse ++ [z] := by
        have := congrArg List.reverse hb
        simpa using this
      subst hb
      have e1' : (as ++ y :: zs.reverse) ++ [z] = cs ++ [x] := by rw [← e1]; simp
      obtain ⟨e3, _⟩ := List.append_inj' e1' rfl
      cases hw : ws.reverse with
      | nil =>
        have hw : ws = [] := by simpa using hw
        subst hw
        have := congrArg List.length e2
        have l := hg.len
        have l3 := congrArg List.length e3
        simp at this l3
        omega
      | cons u us' =>
        have hw : ws = us'.reverse ++ [u] := by
          have := congrArg List.reverse hw
          simpa using this
        subst hw
        have e2' : (vs ++ w :: us'.reverse) ++ [u] = us ++ [V p cs x] := by rw [← e2]; simp
        obtain ⟨e4, _⟩ := List.append_inj' e2' rfl
        exact ih e3 e4
theorem row_empty {p : Int} {S : Int → Prop} {n : Nat} (h : ∀ x, ¬ S x) : IsRow p S n (List.replicate n none) := by
  intro as vs hg _
  have e : as = [] := by
    cases as with
    | nil => rfl
    | cons a as => exact absurd (hg.mem a List.mem_cons_self) (h a)
  subst e
  have := hg.len
  have e2 : vs = [] := List.length_eq_zero_iff.mp this
  subst e2
  rfl
theorem row_one {p : Int} {S : Int → Prop} {n : Nat} {a : Int} (h : ∀ x, S x ↔ x = a) : IsRow p S n ((some 0 :: List.replicate n none).take n) := by
  intro as vs hg hf
  cases n with
  | zero =>
    have e : as.length = 0 := by
      rcases hf with hf | hf
      · exact hf
      · omega
    have e2 : vs = [] := List.length_eq_zero_iff.mp (by rw [hg.len, e])
    subst e2
    rfl
  | succ n =>
    have ha : a ∈ as := by
      rcases hf with hf | hf
      · cases as with
        | nil => cases hf
        | cons b as =>
          have := (h b).mp (hg.mem b List.mem_cons_self)
          subst this
          exact List.mem_cons_self
      · exact hf.2 a ((h a).mpr rfl)
    have e : as = [a] := by
      have nd := hg.nodup
      have al : ∀ b ∈ as, b = a := fun b hb => (h b).mp (hg.mem b hb)
      match as, ha, nd, al with
      | [b], _, _, al => rw [al b List.mem_cons_self]
      | b :: c :: _, _, nd, al =>
        exfalso
        rw [List.nodup_cons] at nd
        exact nd.1 (by rw [al b List.mem_cons_self, ← al c (List.mem_cons_of_mem _ List.mem_cons_self)]; exact List.mem_cons_self)
    subst e
    have l := hg.len
    match vs, l with
    | [v], _ =>
      have := gr_at (as := []) (vs := []) hg rfl
      subst this
      show some 0 :: (List.replicate (n + 1) none).take n = some 0 :: ([] ++ List.replicate (n + 1 - 1) none)
      rw [List.take_replicate, Nat.min_eq_left (Nat.le_succ n)]
      rfl
/-! ### dense -/
structure Dns (p : Int) (S : Int → Prop) : Prop where
  ex : ∃ c m : Int, 0 < m ∧ m % p ≠ 0 ∧ ∀ t, S (c + m * t)
theorem Dns.inf {p : Int} {S : Int → Prop} (h : Dns p S) (as : List Int) : ∃ x, S x ∧ x ∉ as := by
  obtain ⟨c, m, hm, _, hS⟩ := h.ex
  have bd : ∃ B : Int, ∀ a ∈ as, a < B := by
    induction as with
    | nil => exact ⟨0, fun a ha => by cases ha⟩
    | cons a as ih =>
      obtain ⟨B, hB⟩ := ih
      refine ⟨max B (a + 1), fun b hb => ?_⟩
      rcases List.mem_cons.mp hb with rfl | hb
      · omega
      · have := hB b hb
        omega
  obtain ⟨B, hB⟩ := bd
  refine ⟨c + m * (B.natAbs + c.natAbs), hS _, fun z => ?_⟩
  have := hB _ z
  have h1 : 1 * ((B.natAbs : Int) + c.natAbs) ≤ m * (B.natAbs + c.natAbs) := Int.mul_le_mul_of_nonneg_right (by omega) (by omega)
  omega
theorem Dns.part {p r : Int} {S : Int → Prop} (hp : PrimeI p) (h : Dns p S) (r0 : 0 ≤ r) (r1 : r < p) : Dns p (fun y => S (r + p * y)) := by
  have pp := hp.1
  obtain ⟨c, m, hm, hmp, hS⟩ := h.ex
  obtain ⟨b, _, _, hb⟩ := inv_ex (by omega) (prime_coprime hp hm hmp)
  obtain ⟨u, hu⟩ := mod_eq.mp hb
  refine ⟨(c - r) * b, m, hm, hmp, fun t => ?_⟩
  have e : r + p * ((c - r) * b + m * t) = c + m * ((c - r) * u + p * t) := by
    have e1 : p * ((c - r) * b) = (c - r) * (b * p) := by rw [Int.mul_left_comm, Int.mul_comm p b]
    have e2 : b * p = 1 + m * u := by omega
    rw [Int.mul_add, e1, e2, Int.mul_add, Int.mul_one, Int.mul_add, Int.mul_left_comm m (c - r) u, Int.mul_left_comm p m t]
    omega
  show S _
  rw [e]
  exact hS _
/-- the powers of p in the plain factorials -/
def wP (p : Int) : Nat → Nat
  | 0 => 0
  | k + 1 => wP p k + vp p ((k : Int) + 1)
theorem wP_div {p : Int} (hp : 2 ≤ p) : ∀ k : Nat, wP p k = wP p (k / p.toNat) + k / p.toNat
  | 0 => by rw [Nat.zero_div]; rfl
  | k + 1 => by
    obtain ⟨P, hP⟩ : ∃ P : Nat, p = (P : Int) := ⟨p.toNat, by omega⟩
    subst hP
    rw [Int.toNat_natCast]
    have ih := wP_div hp k
    rw [Int.toNat_natCast] at ih
    have hP2 : 2 ≤ P := by omega
    show wP _ k + vp _ ((k : Int) + 1) = _
    by_cases c : (k + 1) % P = 0
    · obtain ⟨j, hj⟩ := Nat.dvd_of_mod_eq_zero c
      have j1 : 1 ≤ j := by
        rcases Nat.eq_zero_or_pos j with z | z
        · subst z; omega
        · exact z
      obtain ⟨i, rfl⟩ : ∃ i, j = i + 1 := ⟨j - 1, by omega⟩
      have e1 : (k + 1) / P = i + 1 := by rw [hj, Nat.mul_div_cancel_left _ (by omega)]
      have e2 : k / P = i := by
        refine Nat.div_eq_of_lt_le ?_ ?_
        · rw [Nat.mul_add, Nat.mul_one] at hj
          rw [Nat.mul_comm]
          omega
        · rw [Nat.mul_add, Nat.mul_one] at hj
          rw [Nat.add_mul, Nat.mul_comm i P]
          omega
      rw [ih, e1, e2]
      have e3 : ((k : Int) + 1) = (P : Int) * ((i : Int) + 1) := by
        have : ((k + 1 : Nat) : Int) = ((P * (i + 1) : Nat) : Int) := congrArg Int.ofNat hj
        rw [Int.natCast_mul] at this
        exact this
      rw [e3, vp_mul hp (by omega)]
      show _ = wP _ i + vp _ ((i : Int) + 1) + (i + 1)
      omega
    · have e1 : (k + 1) / P = k / P := by
        rw [Nat.succ_div]
        rw [if_neg (fun z => c (Nat.mod_eq_zero_of_dvd z))]
        rfl
      have e2 : vp (P : Int) ((k : Int) + 1) = 0 := vp_no fun z => c (by
        have : (((k + 1) % P : Nat) : Int) = 0 := by
          rw [Int.natCast_emod]
          exact z
        omega)
      rw [e1, e2, ih]
      omega
theorem wP_mono (p : Int) (k : Nat) : ∀ i, wP p k ≤ wP p (k + i)
  | 0 => Nat.le_refl _
  | i + 1 => Nat.le_trans (wP_mono p k i) (Nat.le_add_right _ _)
def wl (p : Int) (n : Nat) : List Nat := (List.range n).map (wP p)
theorem itemsN_some : ∀ (i : Nat) (l : List Nat), itemsN i (l.map some) = addIx i l
  | _, [] => rfl
  | i, v :: l => by
    show (v + i) :: itemsN (i + 1) (l.map some) = _
    rw [itemsN_some (i + 1) l]
    rfl
theorem addIx_range (f : Nat → Nat) : ∀ n : Nat, addIx 0 ((List.range n).map f) = (List.range n).map fun j => f j + j
  | 0 => rfl
  | n + 1 => by
    rw [List.range_succ, List.map_append, addIx_append, addIx_range f n, List.map_append, List.length_map, List.length_range, Nat.zero_add]
    rfl
theorem flat_const (x : Nat) : ∀ rs : List Int, (rs.flatMap fun _ => [x]) = List.replicate rs.length x
  | [] => rfl
  | r :: rs => by rw [List.flatMap_cons, flat_const x rs]; rfl
theorem copies (f : Nat → Nat) {p : Int} (hp : 2 ≤ p) : ∀ N : Nat, ((List.range (p.toNat * N)).map fun k => f (k / p.toNat)).Perm ((resI p).flatMap fun _ => (List.range N).map f)
  | 0 => by
    rw [Nat.mul_zero]
    have : ((resI p).flatMap fun _ => (List.range 0).map f) = [] := by
      rw [List.flatMap_eq_nil_iff]
      intro r _
      rfl
    rw [this]
    exact List.Perm.refl _
  | N + 1 => by
    have h1 : ((resI p).flatMap fun _ => (List.range (N + 1)).map f).Perm (((resI p).flatMap fun _ => (List.range N).map f) ++ ((resI p).flatMap fun _ => [f N])) := flatMap_perm2 fun r _ => by
      rw [List.range_succ, List.map_append]
      exact List.Perm.refl _
    refine List.Perm.trans ?_ h1.symm
    have hl : (resI p).length = p.toNat := by unfold resI; rw [List.length_map, List.length_range]
    rw [flat_const, hl]
    have e : (List.range (p.toNat * (N + 1))).map (fun k => f (k / p.toNat)) = (List.range (p.toNat * N)).map (fun k => f (k / p.toNat)) ++ List.replicate p.toNat (f N) := by
      rw [Nat.mul_add, Nat.mul_one, List.range_add, List.map_append, List.map_map]
      congr 1
      rw [List.eq_replicate_iff]
      refine ⟨by rw [List.length_map, List.length_range], fun b hb => ?_⟩
      obtain ⟨k, hk, rfl⟩ := List.mem_map.mp hb
      have hk := List.mem_range.mp hk
      show f ((p.toNat * N + k) / p.toNat) = f N
      rw [Nat.mul_add_div (by omega), Nat.div_eq_of_lt hk, Nat.add_zero]
    rw [e]
    exact (copies f hp N).append_right _
theorem row_plain {p : Int} (hp : PrimeI p) : ∀ (n : Nat) {S : Int → Prop}, Dns p S → IsRow p S n ((wl p n).map some) := by
  intro n
  induction n using Nat.strongRecOn with
  | _ n ih =>
    intro S hS
    have pp := hp.1
    have full : ∀ as, Full S n as → as.length = n := fun as hf => by
      rcases hf with hf | hf
      · exact hf
      · obtain ⟨x, h1, h2⟩ := hS.inf as
        exact absurd (hf.2 x h1) h2
    match n, ih, full with
    | 0, _, full =>
      intro as vs hg hf
      have e2 : vs = [] := List.length_eq_zero_iff.mp (by rw [hg.len, full as hf])
      subst e2
      rfl
    | 1, _, full =>
      intro as vs hg hf
      have l := full as hf
      have l2 := hg.len
      match as, vs, l, l2 with
      | [x], [v], _, _ =>
        have := gr_at (as := []) (vs := []) hg rfl
        subst this
        rfl
    | n + 2, ih, full =>
      have parts : ∀ r, 0 ≤ r → r < p → IsRow p (fun y => S (r + p * y)) (n + 1) ((wl p (n + 1)).map some) := fun r a b => ih (n + 1) (Nat.lt_succ_self _) (hS.part hp a b)
      have hq : ∀ as vs, Gr p S as vs → Full S (n + 2) as → ∀ r, 0 ≤ r → r < p → (partN p r as).length ≤ n + 1 := fun as vs hg hf r a b => by
        have l := full as hf
        have l2 := hg.len
        have le : (partN p r as).length ≤ as.length := by
          unfold partN
          rw [List.length_map]
          exact List.length_filter_le _ _
        rcases Nat.lt_or_ge n.succ (partN p r as).length with q | q
        · exfalso
          have all : ∀ z ∈ as, z % p = r := by
            have e : (as.filter fun n => n % p == r).length = as.length := by
              unfold partN at q le
              rw [List.length_map] at q le
              omega
            have := List.length_filter_eq_length_iff.mp e
            exact fun z hz => eq_of_beq (this z hz)
          match as, vs, l, l2, all with
          | x :: y :: as, v :: w :: vs, _, _, all =>
            obtain ⟨e1, e2⟩ := gr_min (as := [x]) (vs := [v]) (y := y) (w := w) (bs := as) (ws := vs) hg rfl
            -- another class
            obtain ⟨r', h0, h1, hne⟩ : ∃ r', 0 ≤ r' ∧ r' < p ∧ r' ≠ r := by
              by_cases c : r = 0
              · exact ⟨1, by omega, by omega, by omega⟩
              · exact ⟨0, by omega, by omega, fun z => c z.symm⟩
            obtain ⟨z, hz, _⟩ := (hS.part hp h0 h1).inf []
            have zr : (r' + p * z) % p = r' := by rw [Int.add_mul_emod_self_left, Int.emod_eq_of_lt h0 h1]
            have hx := all x List.mem_cons_self
            have hy := all y (List.mem_cons_of_mem _ List.mem_cons_self)
            have v0 : V p [x] (r' + p * z) = 0 := by
              show vp p (r' + p * z - x) + 0 = 0
              rw [vp_no]
              intro c
              have := Int.emod_eq_emod_iff_emod_sub_eq_zero.mpr c
              rw [zr, hx] at this
              exact hne this
            have v1 : 1 ≤ V p [x] y := by
              show 1 ≤ vp p (y - x) + 0
              have nd := hg.nodup
              have hxy : y ≠ x := fun c => by
                rw [List.nodup_cons] at nd
                exact nd.1 (by rw [← c]; exact List.mem_cons_self)
              have e3 : y - x = p * ((y - x) / p) := by
                have := Int.mul_ediv_add_emod (y - x) p
                have : (y - x) % p = 0 := Int.emod_eq_emod_iff_emod_sub_eq_zero.mp (by rw [hx, hy])
                omega
              rw [e3, vp_mul pp (fun c => by rw [c] at e3; omega)]
              omega
            have := e2 _ hz (by
              simp only [List.mem_singleton]
              intro c
              rw [c, hx] at zr
              exact hne zr.symm)
            omega
        · exact q
      have sp := copies (fun j => wP p j + j) pp (n + 1)
      have em : ((resI p).flatMap fun r => itemsN 0 ((wl p (n + 1)).map some)) = (resI p).flatMap fun _ => (List.range (n + 1)).map fun j => wP p j + j := by
        congr 1
        funext r
        rw [itemsN_some]
        exact addIx_range _ _
      have z := merge_row (s := (List.range (p.toNat * (n + 1))).map fun k => wP p (k / p.toNat) + k / p.toNat) pp parts hq (by rw [em]; exact sp) (by
        rw [List.pairwise_map]
        refine List.Pairwise.imp_of_mem ?_ (List.pairwise_le_range ..)
        intro a b _ _ hab
        have hd : a / p.toNat ≤ b / p.toNat := Nat.div_le_div_right hab
        obtain ⟨i, hi⟩ := Nat.le.dest hd
        have := wP_mono p (a / p.toNat) i
        rw [hi] at this
        omega)
      have ew : (((List.range (p.toNat * (n + 1))).map fun k => wP p (k / p.toNat) + k / p.toNat).take (n + 2)) = wl p (n + 2) := by
        rw [← List.map_take, List.take_range, Nat.min_eq_left (by
          have : 2 * (n + 1) ≤ p.toNat * (n + 1) := Nat.mul_le_mul_right _ (by omega)
          omega)]
        unfold wl
        refine List.map_congr_left fun k _ => (wP_div pp k).symm
      have ep : pad (n + 2) (((List.range (p.toNat * (n + 1))).map fun k => wP p (k / p.toNat) + k / p.toNat).take (n + 2)) = (wl p (n + 2)).map some := by
        rw [ew]
        unfold pad
        have : (wl p (n + 2)).length = n + 2 := by unfold wl; rw [List.length_map, List.length_range]
        rw [this, Nat.sub_self, List.replicate_zero, List.append_nil]
      rw [← ep]
      exact z
end Pu

/-! The plain side, part Bb: a part of the members that is enough; rows at places together. -/
namespace Pu
/-! ### differences -/
def Df : Nat → (Int → Int) → Prop
  | 0, f => ∀ t, f t = 0
  | k + 1, f => Df k fun t => f (t + 1) - f t
theorem Df.congr {k : Nat} {f g : Int → Int} (h : ∀ t, f t = g t) (d : Df k f) : Df k g := by
  have : f = g := funext h
  rw [← this]
  exact d
theorem Df.add : ∀ {k : Nat} {f g : Int → Int}, Df k f → Df k g → Df k fun t => f t + g t
  | 0, f, g, a, b => fun t => by show f t + g t = 0; rw [a t, b t]; rfl
  | k + 1, f, g, a, b => by
    show Df k fun t => (f (t + 1) + g (t + 1)) - (f t + g t)
    exact Df.congr (k := k) (fun t => by omega) (Df.add (k := k) a b)
theorem Df.smul (c : Int) : ∀ {k : Nat} {f : Int → Int}, Df k f → Df k fun t => c * f t
  | 0, f, a => fun t => by show c * f t = 0; rw [a t, Int.mul_zero]
  | k + 1, f, a => Df.congr (k := k) (fun t => by rw [Int.mul_sub]) (Df.smul c (k := k) a)
theorem Df.up : ∀ {k : Nat} {f : Int → Int}, Df k f → Df (k + 1) f
  | 0, f, a => fun t => by show f (t + 1) - f t = 0; rw [a t, a (t + 1)]; rfl
  | k + 1, f, a => Df.up (k := k) a
theorem Df.lin (b : Int) : ∀ {k : Nat} (a : Int) {f : Int → Int}, Df k f → Df (k + 1) fun t => (a + b * t) * f t
  | 0, a, f, d => fun t => by
    show (a + b * (t + 1)) * f (t + 1) - (a + b * t) * f t = 0
    rw [d t, d (t + 1), Int.mul_zero, Int.mul_zero]
    rfl
  | k + 1, a, f, d => by
    have h1 : Df (k + 1) fun t => (a + b * t) * (f (t + 1) - f t) := Df.lin b (k := k) a d
    have h2 : Df (k + 1) fun t => b * f t := Df.smul b d
    have h3 : Df (k + 1) fun t => b * (f (t + 1) - f t) := Df.smul b (Df.up (k := k) d)
    show Df (k + 1) fun t => (a + b * (t + 1)) * f (t + 1) - (a + b * t) * f t
    refine Df.congr (k := k + 1) (fun t => ?_) ((h1.add h2).add h3)
    have e1 : (a + b * (t + 1)) * f (t + 1) = (a + b * t) * f (t + 1) + b * f (t + 1) := by
      rw [← Int.add_mul]
      congr 1
      rw [Int.mul_add, Int.mul_one]
      omega
    show (a + b * t) * (f (t + 1) - f t) + b * f t + b * (f (t + 1) - f t) = (a + b * (t + 1)) * f (t + 1) - (a + b * t) * f t
    rw [e1, Int.mul_sub, Int.mul_sub]
    omega
theorem Df.dvd {q : Int} : ∀ {k : Nat} {f : Int → Int}, Df k f → (∀ j : Nat, j < k → q ∣ f j) → ∀ t, q ∣ f t
  | 0, f, d, _, t => by rw [d t]; exact Int.dvd_zero q
  | k + 1, f, d, h, t => by
    have hd : ∀ t, q ∣ f (t + 1) - f t := Df.dvd (k := k) d fun j hj => Int.dvd_sub (h (j + 1) (by omega)) (h j (by omega))
    have h0 : q ∣ f 0 := h 0 (Nat.zero_lt_succ k)
    have pos : ∀ n : Nat, q ∣ f n := fun n => by
      induction n with
      | zero => exact h0
      | succ n ih =>
        have := Int.dvd_add (hd n) ih
        rw [Int.sub_add_cancel] at this
        exact this
    have neg : ∀ n : Nat, q ∣ f (-(n : Int)) := fun n => by
      induction n with
      | zero => exact h0
      | succ n ih =>
        have e : (-((n + 1 : Nat) : Int)) + 1 = -(n : Int) := by omega
        have := hd (-((n + 1 : Nat) : Int))
        rw [e] at this
        have z := Int.dvd_sub ih this
        have e2 : f (-(n : Int)) - (f (-(n : Int)) - f (-((n + 1 : Nat) : Int))) = f (-((n + 1 : Nat) : Int)) := by omega
        rw [e2] at z
        exact z
    rcases Int.le_total 0 t with z | z
    · obtain ⟨n, rfl⟩ := Int.eq_ofNat_of_zero_le z
      exact pos n
    · obtain ⟨n, hn⟩ := Int.eq_ofNat_of_zero_le (show 0 ≤ -t by omega)
      have : t = -(n : Int) := by omega
      rw [this]
      exact neg n
/-! ### powers -/
theorem vp_mul2 {p : Int} (hp : PrimeI p) : ∀ (n : Nat) (x y : Int), x ≠ 0 → y ≠ 0 → x.natAbs + y.natAbs ≤ n → vp p (x * y) = vp p x + vp p y
  | 0, x, y, hx, hy, h => by omega
  | n + 1, x, y, hx, hy, h => by
    have pp := hp.1
    by_cases cx : x % p = 0
    · obtain ⟨a, b⟩ := div_lt pp hx cx
      have e : x = p * (x / p) := by
        have := Int.mul_ediv_add_emod x p
        omega
      have ih := vp_mul2 hp n (x / p) y a hy (by omega)
      have e2 : x * y = p * (x / p * y) := by rw [← Int.mul_assoc, ← e]
      rw [e2, vp_mul pp (Int.mul_ne_zero a hy), ih]
      have e3 : vp p x = vp p (x / p) + 1 := by
        have := vp_mul pp a
        rw [← e] at this
        exact this
      rw [e3]
      omega
    · by_cases cy : y % p = 0
      · obtain ⟨a, b⟩ := div_lt pp hy cy
        have e : y = p * (y / p) := by
          have := Int.mul_ediv_add_emod y p
          omega
        have ih := vp_mul2 hp n x (y / p) hx a (by omega)
        have e2 : x * y = p * (x * (y / p)) := by rw [Int.mul_left_comm, ← e]
        rw [e2, vp_mul pp (Int.mul_ne_zero hx a), ih]
        have e3 : vp p y = vp p (y / p) + 1 := by
          have := vp_mul pp a
          rw [← e] at this
          exact this
        rw [e3]
        omega
      · rw [vp_no cx, vp_no cy, vp_no]
        intro z
        rcases prime_dvd hp (Int.dvd_of_emod_eq_zero z) with z | z
        · exact cx (Int.emod_eq_zero_of_dvd z)
        · exact cy (Int.emod_eq_zero_of_dvd z)
theorem pow_dvd {p : Int} (hp : 2 ≤ p) : ∀ (e : Nat) {x : Int}, x ≠ 0 → (p ^ e ∣ x ↔ e ≤ vp p x)
  | 0, x, hx => by
    rw [Int.pow_zero]
    exact ⟨fun _ => Nat.zero_le _, fun _ => Int.one_dvd x⟩
  | e + 1, x, hx => by
    constructor
    · rintro ⟨u, hu⟩
      have e1 : x = p * (p ^ e * u) := by rw [hu, Int.pow_succ, Int.mul_comm (p ^ e) p, Int.mul_assoc]
      have hu0 : p ^ e * u ≠ 0 := fun z => hx (by rw [e1, z, Int.mul_zero])
      have := (pow_dvd hp e hu0).mp ⟨u, rfl⟩
      rw [e1, vp_mul hp hu0]
      omega
    · intro h
      have cx : x % p = 0 := by
        by_cases c : x % p = 0
        · exact c
        · rw [vp_no c] at h
          omega
      obtain ⟨a, _⟩ := div_lt hp hx cx
      have e1 : x = p * (x / p) := by
        have := Int.mul_ediv_add_emod x p
        omega
      have e2 := vp_mul hp a
      rw [← e1] at e2
      obtain ⟨u, hu⟩ := (pow_dvd hp e a).mpr (by omega)
      refine ⟨u, ?_⟩
      rw [Int.pow_succ, Int.mul_comm (p ^ e) p, Int.mul_assoc, ← hu]
      exact e1
def PF (c m : Int) : List Int → Int → Int
  | [], _ => 1
  | a :: as, t => (c - a + m * t) * PF c m as t
theorem PF.df (c m : Int) : ∀ as : List Int, Df (as.length + 1) (PF c m as)
  | [] => fun t => by show (1 : Int) - 1 = 0; rfl
  | a :: as => Df.lin m (c - a) (PF.df c m as)
theorem PF.zero {c m t : Int} : ∀ {as : List Int}, c + m * t ∈ as → PF c m as t = 0
  | a :: as, h => by
    show (c - a + m * t) * PF c m as t = 0
    rcases List.mem_cons.mp h with e | h
    · have : c - a + m * t = 0 := by omega
      rw [this, Int.zero_mul]
    · rw [PF.zero h, Int.mul_zero]
  | [], h => by cases h
theorem PF.vp {p c m t : Int} (hp : PrimeI p) : ∀ {as : List Int}, c + m * t ∉ as → PF c m as t ≠ 0 ∧ vp p (PF c m as t) = V p as (c + m * t)
  | [], _ => ⟨by show (1 : Int) ≠ 0; decide, by
    show Pu.vp p 1 = 0
    have pp := hp.1
    exact vp_no (one_mod pp)⟩
  | a :: as, h => by
    obtain ⟨h1, h2⟩ := PF.vp hp (as := as) fun z => h (List.mem_cons_of_mem _ z)
    have h0 : c - a + m * t ≠ 0 := fun z => h (List.mem_cons.mpr (.inl (by omega)))
    refine ⟨Int.mul_ne_zero h0 h1, ?_⟩
    show Pu.vp p ((c - a + m * t) * PF c m as t) = Pu.vp p (c + m * t - a) + V p as (c + m * t)
    rw [vp_mul2 hp _ _ _ h0 h1 (Nat.le_refl _), h2]
    congr 2
    omega
/-- T is enough of S for n places -/
structure Smp (T S : Int → Prop) (n : Nat) : Prop where
  sub : ∀ x, T x → S x
  cov : ∀ x, S x → T x ∨ ∃ c m t : Int, m ≠ 0 ∧ x = c + m * t ∧ ∀ j : Nat, j < n → T (c + m * j)
theorem Smp.gr {p : Int} (hp : PrimeI p) {T S : Int → Prop} {n : Nat} (h : Smp T S n) {as : List Int} {vs : List Nat} (g : Gr p T as vs) : as.length ≤ n → Gr p S as vs := by
  have pp := hp.1
  induction g with
  | nil => exact fun _ => .nil
  | @snoc as vs x g hx hn hm ih =>
    intro hl
    rw [List.length_append, List.length_singleton] at hl
    refine (ih (by omega)).snoc (h.sub x hx) hn fun y hy hyn => ?_
    rcases h.cov y hy with hT | ⟨c, m, t, m0, rfl, hj⟩
    · exact hm y hT hyn
    · obtain ⟨z1, z2⟩ := PF.vp hp hyn
      rw [← z2]
      refine (pow_dvd pp _ z1).mp ?_
      refine (PF.df c m as).dvd (fun j hjl => ?_) t
      by_cases c1 : c + m * (j : Int) ∈ as
      · rw [PF.zero c1]
        exact Int.dvd_zero _
      · obtain ⟨w1, w2⟩ := PF.vp hp c1
        refine (pow_dvd pp _ w1).mpr ?_
        rw [w2]
        exact hm _ (hj j (by omega)) c1
theorem Smp.full {T S : Int → Prop} {n : Nat} (h : Smp T S n) {as : List Int} (hf : Full T n as) : Full S n as := by
  rcases hf with hf | ⟨h1, h2⟩
  · exact .inl hf
  · by_cases c : ∃ y, S y ∧ y ∉ as
    · obtain ⟨y, hy, hn⟩ := c
      rcases h.cov y hy with hT | ⟨c, m, t, m0, _, hj⟩
      · exact absurd (h2 y hT) hn
      · left
        have nd : ((List.range n).map fun j : Nat => c + m * (j : Int)).Nodup := by
          rw [List.nodup_iff_pairwise_ne, List.pairwise_map]
          exact (List.nodup_iff_pairwise_ne.mp List.nodup_range).imp fun {a b} hab e => hab (by
            have : m * (a : Int) = m * b := by omega
            have := Int.eq_of_mul_eq_mul_left m0 this
            omega)
        have := sub_len nd (P := as) fun x hx => by
          obtain ⟨j, hjr, rfl⟩ := List.mem_map.mp hx
          exact h2 _ (hj j (List.mem_range.mp hjr))
        rw [List.length_map, List.length_range] at this
        omega
    · refine .inr ⟨h1, fun x hx => ?_⟩
      by_cases q : x ∈ as
      · exact q
      · exact absurd ⟨x, hx, q⟩ c
/-! ### together -/
theorem mem_getD' {l : List Nat} {k : Nat} (h : k < l.length) : l.getD k 0 ∈ l := by
  rw [List.getD_eq_getElem?_getD, List.getElem?_eq_getElem h]
  exact List.getElem_mem h
theorem srt_ge : ∀ {l : List Nat} {a k : Nat}, l.Pairwise (· ≤ ·) → k < l.length → (l.filter fun u => decide (u < a)).length ≤ k → a ≤ l.getD k 0
  | x :: l, a, k, h, hk, hf => by
    have h' := List.pairwise_cons.mp h
    rw [List.filter_cons] at hf
    by_cases c : x < a
    · rw [if_pos (decide_eq_true c), List.length_cons] at hf
      cases k with
      | zero => omega
      | succ k =>
        rw [List.getD_cons_succ]
        exact srt_ge h'.2 (by simpa using hk) (by omega)
    · cases k with
      | zero =>
        rw [List.getD_cons_zero]
        omega
      | succ k =>
        rw [List.getD_cons_succ]
        have hk' : k < l.length := by simpa using hk
        have := h'.1 (l.getD k 0) (mem_getD' hk')
        omega
theorem srt_le : ∀ {l : List Nat} {b k : Nat}, l.Pairwise (· ≤ ·) → k < (l.filter fun u => decide (u ≤ b)).length → k < l.length ∧ l.getD k 0 ≤ b
  | x :: l, b, k, h, hf => by
    have h' := List.pairwise_cons.mp h
    rw [List.filter_cons] at hf
    by_cases c : x ≤ b
    · rw [if_pos (decide_eq_true c), List.length_cons] at hf
      cases k with
      | zero => exact ⟨by simp, c⟩
      | succ k =>
        obtain ⟨a1, a2⟩ := srt_le (b := b) (k := k) h'.2 (by omega)
        exact ⟨by simpa using a1, by rw [List.getD_cons_succ]; exact a2⟩
    · rw [if_neg (by rw [decide_eq_false c]; simp)] at hf
      exfalso
      have : (l.filter fun u => decide (u ≤ b)) = [] := by
        rw [List.filter_eq_nil_iff]
        intro u hu z
        have := of_decide_eq_true z
        have := h'.1 u hu
        omega
      rw [this] at hf
      cases hf
  | [], b, k, _, hf => by cases hf
theorem srt_lt_c : ∀ {l : List Nat} {k : Nat}, l.Pairwise (· ≤ ·) → k < l.length → (l.filter fun u => decide (u < l.getD k 0)).length ≤ k
  | x :: l, k, h, hk => by
    have h' := List.pairwise_cons.mp h
    cases k with
    | zero =>
      rw [List.getD_cons_zero]
      have : ((x :: l).filter fun u => decide (u < x)) = [] := by
        rw [List.filter_eq_nil_iff]
        intro u hu z
        have := of_decide_eq_true z
        rcases List.mem_cons.mp hu with rfl | hu
        · omega
        · have := h'.1 u hu
          omega
      rw [this]
      exact Nat.le_refl _
    | succ k =>
      rw [List.getD_cons_succ, List.filter_cons]
      have ih := srt_lt_c (k := k) h'.2 (by simpa using hk)
      split
      · rw [List.length_cons]
        omega
      · omega
theorem srt_le_c : ∀ {l : List Nat} {k : Nat}, l.Pairwise (· ≤ ·) → k < l.length → k + 1 ≤ (l.filter fun u => decide (u ≤ l.getD k 0)).length
  | x :: l, k, h, hk => by
    have h' := List.pairwise_cons.mp h
    cases k with
    | zero =>
      rw [List.getD_cons_zero, List.filter_cons, if_pos (decide_eq_true (Nat.le_refl _)), List.length_cons]
      omega
    | succ k =>
      have hk' : k < l.length := by simpa using hk
      have hx := h'.1 (l.getD k 0) (mem_getD' hk')
      rw [List.getD_cons_succ, List.filter_cons, if_pos (decide_eq_true hx), List.length_cons]
      have ih := srt_le_c (k := k) h'.2 hk'
      omega
theorem flat_filter {f : Nat → Bool} {g : Int → List Nat} : ∀ rs : List Int, ((rs.flatMap g).filter f).length = (rs.map fun r => ((g r).filter f).length).sum
  | [] => rfl
  | r :: rs => by
    rw [List.flatMap_cons, List.filter_append, List.length_append, flat_filter rs, List.map_cons, List.sum_cons]
theorem pigeon {K L N : Int → Nat} : ∀ rs : List Int, (rs.map K).sum + (rs.map L).sum < (rs.map N).sum → ∃ r ∈ rs, K r + L r < N r
  | [], h => by cases h
  | r :: rs, h => by
    rw [List.map_cons, List.map_cons, List.map_cons, List.sum_cons, List.sum_cons, List.sum_cons] at h
    by_cases c : K r + L r < N r
    · exact ⟨r, List.mem_cons_self, c⟩
    · obtain ⟨r', h1, h2⟩ := pigeon (K := K) (L := L) (N := N) rs (by omega)
      exact ⟨r', List.mem_cons_of_mem _ h1, h2⟩
theorem addIx_len : ∀ (i : Nat) (l : List Nat), (addIx i l).length = l.length
  | _, [] => rfl
  | i, v :: l => congrArg Nat.succ (addIx_len (i + 1) l)
theorem addIx_get : ∀ (i : Nat) (l : List Nat) (k : Nat), k < l.length → (addIx i l).getD k 0 = l.getD k 0 + (i + k)
  | i, v :: l, 0, _ => rfl
  | i, v :: l, k + 1, h => by
    have := addIx_get (i + 1) l k (by simpa using h)
    show (addIx (i + 1) l).getD k 0 = l.getD k 0 + (i + (k + 1))
    rw [this]
    omega
theorem addIx_sum : ∀ (i : Nat) (l : List Nat), l.sum + i * l.length ≤ (addIx i l).sum
  | i, [] => by simp [addIx]
  | i, v :: l => by
    have := addIx_sum (i + 1) l
    show (v :: l).sum + i * (l.length + 1) ≤ ((v + i) :: addIx (i + 1) l).sum
    rw [List.sum_cons, List.sum_cons, Nat.mul_add, Nat.mul_one]
    have e : (i + 1) * l.length = i * l.length + l.length := by rw [Nat.add_mul, Nat.one_mul]
    omega
theorem addIx_sum2 (l : List Nat) (h : 2 ≤ l.length) : l.sum + 1 ≤ (addIx 0 l).sum := by
  match l, h with
  | a :: b :: l, _ =>
    have := addIx_sum 2 l
    show (a :: b :: l).sum + 1 ≤ ((a + 0) :: (b + 1) :: addIx 2 l).sum
    rw [List.sum_cons, List.sum_cons, List.sum_cons, List.sum_cons]
    omega
theorem addIx_asc : ∀ (i : Nat) {l : List Nat}, l.Pairwise (· ≤ ·) → (addIx i l).Pairwise (· ≤ ·)
  | _, [], _ => .nil
  | i, v :: l, h => by
    have h' := List.pairwise_cons.mp h
    refine List.pairwise_cons.mpr ⟨fun u hu => ?_, addIx_asc (i + 1) h'.2⟩
    have := addIx_ge (i + 1) l v h'.1 u hu
    omega
theorem sum_mem {g : Int → List Nat} : ∀ {rs : List Int} {r : Int}, r ∈ rs → (g r).sum ≤ (rs.flatMap g).sum ∧ (g r).length ≤ (rs.flatMap g).length
  | x :: rs, r, h => by
    rw [List.flatMap_cons, List.sum_append, List.length_append]
    rcases List.mem_cons.mp h with rfl | h
    · omega
    · have := sum_mem (g := g) h
      omega
  | [], _, h => by cases h
/-- at k and l together at most what is at both -/
theorem Gr.sup {p : Int} (hp : 2 ≤ p) : ∀ (N : Nat) {S : Int → Prop} {as : List Int} {vs : List Nat}, Gr p S as vs → vs.length + vs.sum ≤ N → ∀ i j, i + j < vs.length → vs.getD i 0 + vs.getD j 0 ≤ vs.getD (i + j) 0 := by
  intro N
  induction N with
  | zero =>
    intro S as vs _ hN i j hij
    omega
  | succ N ih =>
    intro S as vs hg hN i j hij
    have v0 : vs.getD 0 0 = 0 := by
      have l := hg.len
      match as, vs, l with
      | [], [], _ => rfl
      | a :: as, v :: vs, _ =>
        have := gr_at (as := []) (vs := []) hg rfl
        rw [List.getD_cons_zero, this]
        rfl
    rcases Nat.eq_zero_or_pos i with z | i1
    · subst z
      rw [v0, Nat.zero_add, Nat.zero_add]
      exact Nat.le_refl _
    rcases Nat.eq_zero_or_pos j with z | j1
    · subst z
      rw [v0]
      exact Nat.le_refl _
    obtain ⟨f, h1, h2⟩ := hg.split hp
    have as1 := hg.asc.1
    rcases Nat.lt_or_ge (vs.getD (i + j) 0) (vs.getD i 0 + vs.getD j 0) with q | q
    · exfalso
      have cK := srt_lt_c as1 (show i < vs.length by omega)
      have cL := srt_lt_c as1 (show j < vs.length by omega)
      have cN := srt_le_c as1 hij
      have pf : ∀ P : Nat → Bool, (vs.filter P).length = ((resI p).map fun r => ((addIx 0 (f r)).filter P).length).sum := fun P => by
        rw [← (h2.filter P).length_eq, flat_filter]
      rw [pf] at cK cL cN
      obtain ⟨r, hr, hlt⟩ := pigeon (resI p) (Nat.lt_of_le_of_lt (Nat.add_le_add cK cL) cN)
      obtain ⟨a, b⟩ := mem_resI.mp hr
      have gr := h1 r a b
      have ga := addIx_asc 0 gr.asc.1
      generalize hK : ((addIx 0 (f r)).filter fun u => decide (u < vs.getD i 0)).length = K at hlt
      generalize hL : ((addIx 0 (f r)).filter fun u => decide (u < vs.getD j 0)).length = L at hlt
      obtain ⟨kl, kle⟩ := srt_le ga hlt
      rw [addIx_len] at kl
      have gK := srt_ge (a := vs.getD i 0) (k := K) ga (by rw [addIx_len]; omega) (by rw [hK]; exact Nat.le_refl _)
      have gL := srt_ge (a := vs.getD j 0) (k := L) ga (by rw [addIx_len]; omega) (by rw [hL]; exact Nat.le_refl _)
      rw [addIx_get 0 (f r) _ (by omega)] at gK gL kle
      obtain ⟨s1, s2⟩ := sum_mem (g := fun r => addIx 0 (f r)) hr
      rw [h2.sum_nat, h2.length_eq, addIx_len] at *
      have meas : (f r).length + (f r).sum ≤ N := by
        have z := addIx_sum 0 (f r)
        rcases Nat.lt_or_ge (f r).length 2 with y | y
        · omega
        · have := addIx_sum2 (f r) y
          omega
      have := ih gr meas K L kl
      omega
    · exact q
end Pu

/-! The plain side, part Cb: the rows of a lot by those of its parts. -/
namespace Pu
def PartOf (x : PV) (p r : Int) (out : PV) : Prop := ∃ ns m rs, x = mkLot ns m rs ∧ PartP ns m rs p r out
def SV' (x : PV) : Int → Prop := fun k => hasV x k = true
def endB (x : PV) (p : Int) : Bool := match lot? x with
  | some (ns, m, rs) => if rs = [] then ((ns.length : Int) == 1) else !(m % p == 0)
  | none => false
theorem endB_mk (ns rs : List Int) (m p : Int) : endB (mkLot ns m rs) p = if rs = [] then ((ns.length : Int) == 1) else !(m % p == 0) := by
  unfold endB
  rw [lot?_mk]
/-! ### weights -/
def dsum (a : Int) (l : List Int) : Nat := (l.map fun y => (y - a).natAbs).sum
def ps : List Int → Nat
  | [] => 0
  | a :: l => dsum a l + ps l
def wL (x : PV) : Nat := match lot? x with
  | some (ns, m, rs) => (if rs = [] then 0 else m.toNat * m.toNat) + ps ns + ns.length
  | none => 0
theorem wL_mk (ns rs : List Int) (m : Int) : wL (mkLot ns m rs) = (if rs = [] then 0 else m.toNat * m.toNat) + ps ns + ns.length := by
  unfold wL
  rw [lot?_mk]
theorem dsum_part {p r a : Int} (hp : 2 ≤ p) (ha : a % p = r) : ∀ l : List Int, 2 * dsum ((a - r) / p) (partN p r l) ≤ dsum a l
  | [] => Nat.le_refl _
  | y :: l => by
    have ih := dsum_part hp ha l
    rw [partN_cons]
    show _ ≤ (y - a).natAbs + dsum a l
    split
    · rename_i hy
      show 2 * (((y - r) / p - (a - r) / p).natAbs + dsum ((a - r) / p) (partN p r l)) ≤ _
      have e1 := Int.mul_ediv_add_emod (y - r) p
      have e2 := Int.mul_ediv_add_emod (a - r) p
      have z1 : (y - r) % p = 0 := Int.emod_eq_emod_iff_emod_sub_eq_zero.mp (by rw [hy, ← ha, Int.emod_emod])
      have z2 : (a - r) % p = 0 := Int.emod_eq_emod_iff_emod_sub_eq_zero.mp (by rw [← ha, Int.emod_emod])
      have e3 : p * ((y - r) / p - (a - r) / p) = y - a := by
        rw [Int.mul_sub]
        omega
      have e4 : p.natAbs * ((y - r) / p - (a - r) / p).natAbs = (y - a).natAbs := by rw [← Int.natAbs_mul, e3]
      have : 2 * ((y - r) / p - (a - r) / p).natAbs ≤ p.natAbs * ((y - r) / p - (a - r) / p).natAbs := Nat.mul_le_mul_right _ (by omega)
      omega
    · omega
theorem sum_zero : ∀ {l : List Nat}, (∀ x ∈ l, x = 0) → l.sum = 0
  | [], _ => rfl
  | a :: l, h => by
    rw [List.sum_cons, h a List.mem_cons_self, sum_zero fun x hx => h x (List.mem_cons_of_mem _ hx)]
theorem one_sum (c : Int) (g : Int → Nat) : ∀ {L : List Int}, L.Nodup → (L.map fun r => if c = r then g r else 0).sum ≤ g c
  | [], _ => Nat.zero_le _
  | r :: L, h => by
    have hn := List.nodup_cons.mp h
    rw [List.map_cons, List.sum_cons]
    by_cases e : c = r
    · have z : (L.map fun r => if c = r then g r else 0).sum = 0 := by
        refine sum_zero fun x hx => ?_
        obtain ⟨r', h1, rfl⟩ := List.mem_map.mp hx
        rw [if_neg (fun z => hn.1 (by rw [← e, z]; exact h1))]
      rw [z, if_pos e, e]
      omega
    · rw [if_neg e]
      have := one_sum c g hn.2
      omega
theorem sum_add {α : Type} (f g : α → Nat) : ∀ L : List α, (L.map fun r => f r + g r).sum = (L.map f).sum + (L.map g).sum
  | [] => rfl
  | r :: L => by
    simp only [List.map_cons, List.sum_cons]
    rw [sum_add f g L]
    omega
theorem sum_le {α : Type} {f g : α → Nat} : ∀ {L : List α}, (∀ r ∈ L, f r ≤ g r) → (L.map f).sum ≤ (L.map g).sum
  | [], _ => Nat.le_refl _
  | r :: L, h => by
    simp only [List.map_cons, List.sum_cons]
    have h1 := h r List.mem_cons_self
    have h2 := sum_le (L := L) fun r hr => h r (List.mem_cons_of_mem _ hr)
    omega
theorem len_parts {p : Int} {L : List Int} (hn : L.Nodup) : ∀ ns : List Int, (L.map fun r => (partN p r ns).length).sum ≤ ns.length
  | [] => by
    rw [sum_zero]
    · exact Nat.zero_le _
    · intro x hx
      obtain ⟨r, _, rfl⟩ := List.mem_map.mp hx
      rfl
  | a :: l => by
    have ih := len_parts (p := p) hn l
    have e : (L.map fun r => (partN p r (a :: l)).length) = L.map fun r => (if a % p = r then 1 else 0) + (partN p r l).length := by
      apply List.map_congr_left
      intro r _
      rw [partN_cons]
      split
      · rw [List.length_cons]
        omega
      · omega
    rw [e, sum_add (fun r => if a % p = r then 1 else 0) (fun r => (partN p r l).length) L]
    have := one_sum (a % p) (fun _ => 1) hn
    rw [List.length_cons]
    omega
theorem ps_parts {p : Int} (hp : 2 ≤ p) {L : List Int} (hn : L.Nodup) : ∀ ns : List Int, 2 * (L.map fun r => ps (partN p r ns)).sum ≤ ps ns
  | [] => by
    rw [sum_zero]
    · exact Nat.zero_le _
    · intro x hx
      obtain ⟨r, _, rfl⟩ := List.mem_map.mp hx
      rfl
  | a :: l => by
    have ih := ps_parts hp hn l
    have e : (L.map fun r => ps (partN p r (a :: l))) = L.map fun r => (if a % p = r then dsum ((a - r) / p) (partN p r l) else 0) + ps (partN p r l) := by
      apply List.map_congr_left
      intro r _
      rw [partN_cons]
      split
      · rfl
      · omega
    rw [e, sum_add (fun r => if a % p = r then dsum ((a - r) / p) (partN p r l) else 0) (fun r => ps (partN p r l)) L]
    have h1 := one_sum (a % p) (fun r => dsum ((a - r) / p) (partN p r l)) hn
    have h2 := dsum_part hp rfl l (a := a) (r := a % p)
    show _ ≤ dsum a l + ps l
    omega
theorem dsum_pos {a : Int} : ∀ {l : List Int}, l ≠ [] → a ∉ l → 1 ≤ dsum a l
  | [], h, _ => absurd rfl h
  | y :: l, _, h => by
    show 1 ≤ (y - a).natAbs + dsum a l
    have : y ≠ a := fun z => h (by rw [z]; exact List.mem_cons_self)
    omega
theorem ps_pos : ∀ {ns : List Int}, ns.Nodup → 2 ≤ ns.length → 1 ≤ ps ns
  | [], _, h => by simp at h
  | [_], _, h => by simp at h
  | a :: b :: l, h, _ => by
    have := dsum_pos (a := a) (l := b :: l) (by simp) (List.nodup_cons.mp h).1
    show 1 ≤ dsum a (b :: l) + _
    omega
theorem dsum_le {a : Int} (h0 : -1000 ≤ a ∧ a ≤ 1000) : ∀ {l : List Int}, (∀ y ∈ l, -1000 ≤ y ∧ y ≤ 1000) → dsum a l ≤ 2000 * l.length
  | [], _ => Nat.le_refl _
  | y :: l, h => by
    have := dsum_le h0 (l := l) fun z hz => h z (List.mem_cons_of_mem _ hz)
    have := h y List.mem_cons_self
    show (y - a).natAbs + dsum a l ≤ 2000 * (l.length + 1)
    omega
theorem ps_le {k : Nat} : ∀ {ns : List Int}, (∀ y ∈ ns, -1000 ≤ y ∧ y ≤ 1000) → ns.length ≤ k → ps ns ≤ 2000 * k * ns.length
  | [], _, _ => Nat.le_refl _
  | a :: l, h, hk => by
    rw [List.length_cons] at hk
    have h1 := dsum_le (h a List.mem_cons_self) (l := l) fun z hz => h z (List.mem_cons_of_mem _ hz)
    have h2 := ps_le (k := k) (ns := l) (fun z hz => h z (List.mem_cons_of_mem _ hz)) (by omega)
    have h3 : 2000 * l.length ≤ 2000 * k := by omega
    show dsum a l + ps l ≤ 2000 * k * (l.length + 1)
    rw [Nat.mul_add, Nat.mul_one]
    omega
theorem hasV_iff {ns rs : List Int} {m k : Int} : hasV (mkLot ns m rs) k = true ↔ k ∈ ns ∨ k % m ∈ rs := by
  rw [hasV_mk]
  exact hasB_iff
theorem wL_pos {x : PV} (h : isLotP x = true) : 1 ≤ wL x := by
  obtain ⟨ns, m, rs, rfl, hb⟩ := lot_of h
  have hm := lotB_pos hb
  rw [wL_mk]
  split
  · rename_i e
    subst e
    have := List.length_pos_iff.mpr (lotB_ne hb)
    omega
  · have : 1 * 1 ≤ m.toNat * m.toNat := Nat.mul_le_mul (by omega) (by omega)
    omega
theorem wL_le {x : PV} (h : isLotP x = true) : wL x ≤ 4000000 := by
  obtain ⟨ns, m, rs, rfl, hb⟩ := lot_of h
  have hm := lotB_m hb
  have hl := lotB_len hb
  have h1 := ps_le (k := 40) (lotB_ns hb) hl
  have h2 : m.toNat * m.toNat ≤ 60 * 60 := Nat.mul_le_mul (by omega) (by omega)
  rw [wL_mk]
  split <;> omega
/-! ### parts -/
theorem PartOf.has {x : PV} {p r : Int} {out : PV} (h : PartOf x p r out) (hL : isLotP x = true) (hp : PrimeI p) (r0 : 0 ≤ r) (r1 : r < p) (y : Int) : hasV out y = hasV x (r + p * y) := by
  obtain ⟨ns, m, rs, rfl, hP⟩ := h
  have hb : lotB ns m rs = true := by rw [← isLotP_mk]; exact hL
  have hpw : rs.Pairwise (· < ·) := rise_to (lotB_rise hb).2
  rw [hasV_mk]
  exact hP.has (lotB_pos hb) hp r0 r1 (lotB_rs hb) (hpw.imp fun {a b} z => by omega) y
theorem PartOf.lot {x : PV} {p r : Int} {out : PV} (h : PartOf x p r out) (hL : isLotP x = true) (hp : PrimeI p) {k : Int} (hk : hasV x k = true) (e : k % p = r) : isLotP out = true := by
  have pp := hp.1
  have r0 : 0 ≤ r := by rw [← e]; exact Int.emod_nonneg _ (by omega)
  have r1 : r < p := by rw [← e]; exact Int.emod_lt_of_pos _ (by omega)
  have z := h.has hL hp r0 r1 (k / p)
  rw [show r + p * (k / p) = k by have := Int.mul_ediv_add_emod k p; omega, hk] at z
  obtain ⟨ns, m, rs, rfl, hP⟩ := h
  have hb : lotB ns m rs = true := by rw [← isLotP_mk]; exact hL
  rcases hP.isLot hb hp r0 r1 with rfl | q
  · cases z
  · exact q
theorem late_nil {p r less m : Int} {late : List Int} (h : LateP m [] p r less late) : late = [] := by
  cases h <;> rfl
theorem PartOf.wt {ns rs : List Int} {m p r : Int} {out : PV} (h : PartOf (mkLot ns m rs) p r out) (hb : lotB ns m rs = true) (hne : rs ≠ [] → m % p = 0) : wL out ≤ (if rs = [] then 0 else (m / p).toNat * (m / p).toNat) + ps (partN p r ns) + (partN p r ns).length := by
  obtain ⟨ns', m', rs', e, hP⟩ := h
  obtain ⟨rfl, rfl, rfl⟩ := mkLot_inj e
  cases hP with
  | none h1 h2 => exact Nat.zero_le _
  | fin h1 h2 =>
    rw [wL_mk, if_pos rfl]
    omega
  | @lot less l late some h1 h2 h3 =>
    rw [wL_mk]
    by_cases c : rs = []
    · subst c
      exact absurd (late_nil h1) h2
    · rw [if_neg c]
      cases h1 with
      | nd z _ => exact absurd (hne c) z
      | dv _ =>
        have a1 := h3.lo
        have a2 := h3.hi
        have : l.toNat * l.toNat ≤ (m / p).toNat * (m / p).toNat := Nat.mul_le_mul (by omega) (by omega)
        split <;> omega
theorem RestP.nodup {x : PV} {d : Int} {L : List Int} (h : RestP x d L) : L.Nodup := h.pw.imp fun {a b} z => by omega
theorem wt_parts {x : PV} {p : Int} {L : List Int} {ys : List PV} (hL : isLotP x = true) (hp : PrimeI p) (he : endB x p = false) (hR : RestP x p L) (hl : ys.length = L.length) (hy : ∀ (t : Nat) (r : Int) (v : PV), L[t]? = some r → ys[t]? = some v → PartOf x p r v) : (ys.map wL).sum + 1 ≤ wL x := by
  have pp := hp.1
  obtain ⟨ns, m, rs, rfl, hb⟩ := lot_of hL
  have hm := lotB_pos hb
  rw [endB_mk] at he
  have hne : rs ≠ [] → m % p = 0 := fun c => by
    rw [if_neg c] at he
    simpa using he
  have s1 : (ys.map wL).sum ≤ (L.map fun r => (if rs = [] then 0 else (m / p).toNat * (m / p).toNat) + ps (partN p r ns) + (partN p r ns).length).sum := by
    clear hR he
    induction L generalizing ys with
    | nil =>
      have : ys = [] := List.length_eq_zero_iff.mp (by simpa using hl)
      subst this
      exact Nat.le_refl _
    | cons r L ih =>
      cases ys with
      | nil => simp at hl
      | cons y ys =>
        have a := (hy 0 r y rfl rfl).wt hb hne
        have b := ih (by simpa using hl) fun t r' v h1 h2 => hy (t + 1) r' v (by simpa using h1) (by simpa using h2)
        simp only [List.map_cons, List.sum_cons]
        omega
  rw [sum_add (fun r => (if rs = [] then 0 else (m / p).toNat * (m / p).toNat) + ps (partN p r ns)) (fun r => (partN p r ns).length) L, sum_add (fun _ => if rs = [] then 0 else (m / p).toNat * (m / p).toNat) (fun r => ps (partN p r ns)) L] at s1
  have s2 := len_parts (p := p) hR.nodup ns
  have s3 := ps_parts pp hR.nodup ns
  have s4 := hR.len (by omega)
  have cst : ∀ (c : Nat) (L : List Int), (L.map fun _ => c).sum = L.length * c := fun c L => by
    induction L with
    | nil => simp
    | cons a l ih =>
      rw [List.map_cons, List.sum_cons, ih, List.length_cons, Nat.add_mul, Nat.one_mul]
      omega
  rw [cst] at s1
  rw [wL_mk]
  by_cases c : rs = []
  · rw [if_pos c] at s1 he ⊢
    have h1 : ns.length ≠ 1 := fun z => by
      rw [z] at he
      cases he
    subst c
    have h0 := List.length_pos_iff.mpr (lotB_ne hb)
    have hpw : ns.Pairwise (· < ·) := rise_to (lotB_rise hb).1
    have := ps_pos (ns := ns) (hpw.imp fun {a b} z => by omega) (by omega)
    omega
  · rw [if_neg c] at s1 ⊢
    have e0 := hne c
    have e1 := Int.mul_ediv_add_emod m p
    obtain ⟨P, hP⟩ : ∃ P : Nat, p = (P : Int) := ⟨p.toNat, by omega⟩
    obtain ⟨M, hM⟩ : ∃ M : Nat, m = (M : Int) := ⟨m.toNat, by omega⟩
    subst hP hM
    have e2 : (M : Int) / (P : Int) = ((M / P : Nat) : Int) := rfl
    rw [e2] at s1 e1
    simp only [Int.toNat_natCast] at s1 ⊢
    have e3 : P * (M / P) = M := by
      have : ((P * (M / P) : Nat) : Int) = (M : Int) := by
        rw [Int.natCast_mul]
        omega
      omega
    have l1 : L.length * (M / P * (M / P)) ≤ P * (M / P * (M / P)) := Nat.mul_le_mul_right _ (by omega)
    rw [← Nat.mul_assoc P, e3] at l1
    have l2 : 2 * (M / P) ≤ P * (M / P) := Nat.mul_le_mul_right _ (by omega)
    have l3 : M * (M / P) + M * 1 ≤ M * M := by
      rw [← Nat.mul_add]
      exact Nat.mul_le_mul_left _ (by omega)
    omega
theorem rest_len {x : PV} {p : Int} {L : List Int} (hL : isLotP x = true) (hp : PrimeI p) (he : endB x p = false) (hR : RestP x p L) : L.length ≤ 100 ∧ L ≠ [] := by
  have pp := hp.1
  obtain ⟨ns, m, rs, rfl, hb⟩ := lot_of hL
  have hm := lotB_pos hb
  rw [endB_mk] at he
  constructor
  · have := sub_len hR.nodup (P := ns.map (· % p) ++ rs.map (· % p)) fun r hr => by
      obtain ⟨k, hk, e⟩ := (hR.me r).mp hr
      rcases hasV_iff.mp hk with h | h
      · exact List.mem_append.mpr (.inl (List.mem_map.mpr ⟨k, h, e⟩))
      · have c : rs ≠ [] := fun z => by rw [z] at h; cases h
        rw [if_neg c] at he
        have h0 : m % p = 0 := by simpa using he
        refine List.mem_append.mpr (.inr (List.mem_map.mpr ⟨k % m, h, ?_⟩))
        rw [← e]
        exact Int.emod_emod_of_dvd k (Int.dvd_of_emod_eq_zero h0)
    rw [List.length_append, List.length_map, List.length_map] at this
    have h1 := lotB_len hb
    have h2 := lotB_r60 hb
    omega
  · have : ∃ k, hasV (mkLot ns m rs) k = true := by
      by_cases c : rs = []
      · subst c
        obtain ⟨a, l, e⟩ := List.exists_cons_of_ne_nil (lotB_ne hb)
        exact ⟨a, hasV_iff.mpr (.inl (by rw [e]; exact List.mem_cons_self))⟩
      · obtain ⟨a, l, e⟩ := List.exists_cons_of_ne_nil c
        have ha : a ∈ rs := by rw [e]; exact List.mem_cons_self
        have := lotB_rs hb a ha
        exact ⟨a, hasV_iff.mpr (.inr (by rw [Int.emod_eq_of_lt this.1 this.2]; exact ha))⟩
    obtain ⟨k, hk⟩ := this
    intro z
    have := (hR.me (k % p)).mpr ⟨k, hk, rfl⟩
    rw [z] at this
    cases this
/-! ### rows -/
theorem IsRow.len {p : Int} {S : Int → Prop} {n : Nat} {l : List (Option Nat)} (h : IsRow p S n l) : l.length = n := by
  obtain ⟨bs, ws, h1, h2⟩ := Gr.fill (p := p) (S := S) (n := n) n .nil (by simp)
  rw [h _ _ h1 h2]
  have e := h1.len
  unfold pad
  rw [List.length_append, List.length_map, List.length_replicate]
  rcases h2 with h2 | ⟨h2, _⟩ <;> omega
theorem IsRow.uniq {p : Int} {S : Int → Prop} {n : Nat} {l l' : List (Option Nat)} (h : IsRow p S n l) (h' : IsRow p S n l') : l = l' := by
  obtain ⟨bs, ws, h1, h2⟩ := Gr.fill (p := p) (S := S) (n := n) n .nil (by simp)
  rw [h _ _ h1 h2, h' _ _ h1 h2]
def endRow (x : PV) (p : Int) (n : Nat) : List (Option Nat) := if endlessV x = true then (wl p n).map some else (some 0 :: List.replicate n none).take n
theorem end_row {x : PV} {p : Int} (n : Nat) (hL : isLotP x = true) (hp : PrimeI p) (he : endB x p = true) : IsRow p (SV' x) n (endRow x p n) := by
  obtain ⟨ns, m, rs, rfl, hb⟩ := lot_of hL
  have hm := lotB_pos hb
  rw [endB_mk] at he
  unfold endRow
  rw [endlessV_mk]
  by_cases c : rs = []
  · subst c
    have he : ((ns.length : Int) == 1) = true := he
    have h1 : ns.length = 1 := by
      have := eq_of_beq he
      omega
    obtain ⟨a, rfl⟩ := List.length_eq_one_iff.mp h1
    exact row_one fun k => by
      show hasV _ k = true ↔ k = a
      rw [hasV_iff]
      simp
  · rw [if_neg c] at he
    have hmp : m % p ≠ 0 := by simpa using he
    obtain ⟨a, l, e⟩ := List.exists_cons_of_ne_nil c
    have ha : a ∈ rs := by rw [e]; exact List.mem_cons_self
    have hr := lotB_rs hb a ha
    have e2 : (!rs.isEmpty) = true := by
      rw [e]
      rfl
    rw [if_pos e2]
    exact row_plain hp n ⟨⟨a, m, hm, hmp, fun t => hasV_iff.mpr (.inr (by rw [Int.add_mul_emod_self_left, Int.emod_eq_of_lt hr.1 hr.2]; exact ha))⟩⟩
def pickL (d : List (Option Nat)) : List Int → List (List (Option Nat)) → Int → List (Option Nat)
  | a :: L, l :: ls, r => if a = r then l else pickL d L ls r
  | _, _, _ => d
theorem pickL_no {d : List (Option Nat)} : ∀ {L : List Int} {ls : List (List (Option Nat))} {r : Int}, r ∉ L → pickL d L ls r = d
  | [], _, _, _ => by unfold pickL; rfl
  | _ :: _, [], _, _ => by unfold pickL; rfl
  | a :: L, l :: ls, r, h => by
    unfold pickL
    rw [if_neg (fun z => h (by rw [z]; exact List.mem_cons_self))]
    exact pickL_no fun z => h (List.mem_cons_of_mem _ z)
theorem pickL_at {d : List (Option Nat)} : ∀ {L : List Int} {ls : List (List (Option Nat))}, L.Nodup → L.length = ls.length → ∀ {r : Int}, r ∈ L → ∃ (t : Nat) (l : List (Option Nat)), L[t]? = some r ∧ ls[t]? = some l ∧ pickL d L ls r = l
  | [], _, _, _, _, h => by cases h
  | _ :: _, [], _, hl, _, _ => by simp at hl
  | a :: L, l :: ls, hn, hl, r, h => by
    unfold pickL
    by_cases e : a = r
    · rw [if_pos e]
      exact ⟨0, l, by rw [e]; rfl, rfl, rfl⟩
    · rw [if_neg e]
      have h : r ∈ L := by
        rcases List.mem_cons.mp h with z | z
        · exact absurd z.symm e
        · exact z
      obtain ⟨t, l', h1, h2, h3⟩ := pickL_at (d := d) (List.nodup_cons.mp hn).2 (by simpa using hl) h
      exact ⟨t + 1, l', by simpa using h1, by simpa using h2, h3⟩
theorem pickL_flat {d : List (Option Nat)} {f : List (Option Nat) → List Nat} : ∀ {L : List Int} {ls : List (List (Option Nat))}, L.Nodup → L.length = ls.length → (L.flatMap fun r => f (pickL d L ls r)) = ls.flatMap f
  | [], [], _, _ => rfl
  | [], _ :: _, _, h => by simp at h
  | _ :: _, [], _, h => by simp at h
  | a :: L, l :: ls, hn, hl => by
    have hn' := List.nodup_cons.mp hn
    rw [List.flatMap_cons, List.flatMap_cons]
    have e1 : pickL d (a :: L) (l :: ls) a = l := by
      unfold pickL
      rw [if_pos rfl]
    have e2 : (L.flatMap fun r => f (pickL d (a :: L) (l :: ls) r)) = L.flatMap fun r => f (pickL d L ls r) := by
      rw [List.flatMap_def, List.flatMap_def]
      congr 1
      apply List.map_congr_left
      intro r hr
      show f (if a = r then l else pickL d L ls r) = _
      rw [if_neg (fun z => hn'.1 (by rw [z]; exact hr))]
    rw [e1, e2, pickL_flat hn'.2 (by simpa using hl)]
theorem flat_sub {g : Int → List Nat} {L M : List Int} (hL : L.Nodup) (hM : M.Nodup) (h1 : ∀ r ∈ L, r ∈ M) (h2 : ∀ r ∈ M, r ∉ L → g r = []) : (M.flatMap g).Perm (L.flatMap g) := by
  have a : (M.filter fun r => decide (r ∈ L)).Perm L := by
    refine (List.perm_ext_iff_of_nodup (hM.filter _) hL).mpr fun r => ?_
    rw [List.mem_filter, decide_eq_true_eq]
    exact ⟨fun z => z.2, fun z => ⟨h1 r z, z⟩⟩
  have b : (M.filter (fun r => decide (r ∈ L)) ++ M.filter (fun r => !decide (r ∈ L))).Perm M := List.filter_append_perm _ _
  have c : ((M.filter fun r => !decide (r ∈ L)).flatMap g) = [] := by
    rw [List.flatMap_eq_nil_iff]
    intro r hr
    obtain ⟨z1, z2⟩ := List.mem_filter.mp hr
    exact h2 r z1 (by simpa using z2)
  have e := (b.symm.flatMap_right g)
  rw [List.flatMap_append, c, List.append_nil] at e
  exact e.trans (a.flatMap_right g)
theorem node_row {x : PV} {p : Int} {n : Nat} {L : List Int} {ys : List PV} {ls : List (List (Option Nat))} (hL : isLotP x = true) (hp : PrimeI p) (hR : RestP x p L) (h1 : ys.length = L.length) (h2 : L.length = ls.length)
    (hy : ∀ (t : Nat) (r : Int) (v : PV), L[t]? = some r → ys[t]? = some v → PartOf x p r v) (hl : ∀ (t : Nat) (v : PV) (l : List (Option Nat)), ys[t]? = some v → ls[t]? = some l → IsRow p (SV' v) n l) {s : List Nat} (sp : s.Perm (ls.flatMap (itemsN 0))) (ss : s.Pairwise (· ≤ ·)) : IsRow p (SV' x) n (pad n (s.take n)) := by
  have pp := hp.1
  refine merge_row pp (q := n) (ls := pickL (List.replicate n none) L ls) (fun r r0 r1 => ?_) (fun as vs hg hf r _ _ => ?_) ?_ ss
  · by_cases c : r ∈ L
    · obtain ⟨t, l, z1, z2, z3⟩ := pickL_at (d := List.replicate n none) hR.nodup h2 c
      rw [z3]
      obtain ⟨v, z4⟩ : ∃ v, ys[t]? = some v := by
        have := (List.getElem?_eq_some_iff.mp z1).1
        exact ⟨_, List.getElem?_eq_getElem (by omega)⟩
      have q := hl t v l z4 z2
      have e : SV' v = fun y => SV' x (r + p * y) := by
        funext y
        show (hasV v y = true) = (hasV x (r + p * y) = true)
        rw [(hy t r v z1 z4).has hL hp r0 r1 y]
      rw [e] at q
      exact q
    · rw [pickL_no c]
      refine row_empty fun y hy => c ((hR.me r).mpr ⟨_, hy, ?_⟩)
      rw [Int.add_mul_emod_self_left, Int.emod_eq_of_lt r0 r1]
  · have a : (partN p r as).length ≤ as.length := by
      unfold partN
      rw [List.length_map]
      exact List.length_filter_le _ _
    rcases hf with hf | ⟨hf, _⟩ <;> omega
  · refine sp.trans ?_
    rw [← pickL_flat (d := List.replicate n none) (f := itemsN 0) hR.nodup h2]
    refine (flat_sub hR.nodup (resI_nodup p) (fun r hr => ?_) fun r _ hr => ?_).symm
    · obtain ⟨k, _, rfl⟩ := (hR.me r).mp hr
      exact mem_resI.mpr ⟨Int.emod_nonneg _ (by omega), Int.emod_lt_of_pos _ (by omega)⟩
    · show itemsN 0 (pickL _ L ls r) = []
      rw [pickL_no hr, itemsN_none]
end Pu

/-! The pure layer, part Cc: steps for rows. -/
namespace Pu
open PySem L2
def optV : Option Nat → PV
  | some v => .int v
  | none => .non
def rowP (l : List (Option Nat)) : List PV := l.map optV
def okK : PV → Bool
  | .int d => decide (0 ≤ d) && decide (d ≤ 60)
  | _ => false
theorem atI_last (xs : List PV) : atI xs (-1) = xs.getLast? := by
  unfold atI ixN
  cases xs with
  | nil => rfl
  | cons x xs =>
    have h1 : ¬ (0 : Int) ≤ -1 := by decide
    simp only [h1, false_and, if_false]
    have h2 : -(((x :: xs).length : Nat) : Int) ≤ -1 ∧ (-1 : Int) < 0 := by
      rw [List.length_cons]
      omega
    simp only [h2, and_self, if_true]
    rw [List.getLast?_eq_getElem?]
    have e : ((((x :: xs).length : Nat) : Int) + -1).toNat = (x :: xs).length - 1 := by omega
    simp only [Option.bind_some]
    rw [show (-1 + (((x :: xs).length : Nat) : Int)).toNat = (x :: xs).length - 1 by omega]
theorem lcGo_pair {t : Tgt} {elt : PP} {ρ : PEnv} {A : PV → PV → Prop} {R : PK} : ∀ (ys acc : List PV),
    (∀ y ∈ ys, ∀ (Q1 : PK), (∀ v, A y v → Q1 v) → tgt t y ρ fun ρ' => elt ρ' Q1) →
    (∀ l : List PV, l.length = ys.length → (∀ (i : Nat) (y v : PV), ys[i]? = some y → l[i]? = some v → A y v) → R (.lst (acc ++ l))) → lcGo t cYes elt ρ ys acc R
  | [], acc, _, h => by
    have q := h [] rfl (fun i y v z => by simp at z)
    rw [List.append_nil] at q
    exact q
  | y :: ys, acc, hs, h => by
    refine hs y List.mem_cons_self (fun v => lcGo t cYes elt ρ ys (acc ++ [v]) R) fun v hv => ?_
    refine lcGo_pair ys _ (fun z hz => hs z (List.mem_cons_of_mem _ hz)) fun l h1 h2 => ?_
    have q := h (v :: l) (by rw [List.length_cons, List.length_cons, h1]) fun i y' v' z1 z2 => by
      cases i with
      | zero =>
        simp at z1 z2
        subst z1 z2
        exact hv
      | succ i => exact h2 i y' v' (by simpa using z1) (by simpa using z2)
    rw [List.append_assoc]
    exact q
theorem itemsN_len : ∀ (i : Nat) (l : List (Option Nat)), (itemsN i l).length ≤ l.length
  | _, [] => Nat.le_refl _
  | i, none :: l => by
    have := itemsN_len (i + 1) l
    show (itemsN (i + 1) l).length ≤ l.length + 1
    omega
  | i, some v :: l => by
    have := itemsN_len (i + 1) l
    show (itemsN (i + 1) l).length + 1 ≤ l.length + 1
    omega
theorem lcIn_items {x0 x1 x2 x3 : Option SV} {R : List PV → Prop} : ∀ (l : List (Option Nat)) (k : Nat) (acc : List PV) (a b : Option SV), acc.length + l.length < 100000 → R (acc ++ (itemsN k l).map fun v : Nat => PV.int (v : Int)) →
    lcIn (.tp [4, 5]) (pBool (pOp fNotN (pVar 5) (pC .non))) (pOp fAdd (pVar 5) (pVar 4)) [x0, x1, x2, x3, a, b] (enumP k (rowP l)) acc R
  | [], k, acc, a, b, _, h => by
    have h : R (acc ++ []) := h
    rw [List.append_nil] at h
    exact h
  | none :: l, k, acc, a, b, hl, h => by
    show lcIn _ _ _ [x0, x1, x2, x3, a, b] (enumP (k + 1) (rowP l)) acc R
    rw [List.length_cons] at hl
    exact lcIn_items l (k + 1) acc a b (by omega) h
  | some v :: l, k, acc, a, b, hl, h => by
    rw [List.length_cons] at hl
    show acc.length < 100000 ∧ lcIn _ _ _ [x0, x1, x2, x3, a, b] (enumP (k + 1) (rowP l)) (acc ++ [PV.int ((v : Int) + (k : Nat))]) R
    refine ⟨by omega, lcIn_items l (k + 1) _ a b (by rw [List.length_append, List.length_singleton]; omega) ?_⟩
    have e : ((v : Int) + (k : Nat)) = ((v + k : Nat) : Int) := by omega
    rw [List.append_assoc, e]
    exact h
theorem lc2_rows {x0 x1 x2 : Option SV} {R : PK} : ∀ (ls : List (List (Option Nat))) (acc : List PV), (∀ l ∈ ls, l.length ≤ 61) → acc.length + ls.length * 61 < 100000 → R (.lst (acc ++ (ls.flatMap (itemsN 0)).map fun v : Nat => PV.int (v : Int))) →
    lc2Go (.nm 3) cYes (iEnumP (aCons (pVar 3) aNil)) (.tp [4, 5]) [4, 5] (pBool (pOp fNotN (pVar 5) (pC .non))) (pOp fAdd (pVar 5) (pVar 4)) [x0, x1, x2, none, none, none] (ls.map fun l => PV.lst (rowP l)) acc R
  | [], acc, _, _, h => by
    have h : R (.lst (acc ++ [])) := h
    rw [List.append_nil] at h
    exact h
  | l :: ls, acc, h1, h2, h => by
    have l1 := h1 l List.mem_cons_self
    rw [List.length_cons, Nat.add_mul] at h2
    refine ⟨OkW.line (by unfold rowP; rw [List.length_map]; omega), ?_⟩
    refine lcIn_items l 0 acc none none (by omega) ?_
    have := itemsN_len 0 l
    refine lc2_rows ls _ (fun z hz => h1 z (List.mem_cons_of_mem _ hz)) (by rw [List.length_append, List.length_map]; omega) ?_
    rw [List.append_assoc, ← List.map_append]
    exact h
theorem sortI_nat (l : List Nat) : ∃ s : List Nat, sortI (l.map fun v : Nat => (v : Int)) = s.map (fun v : Nat => (v : Int)) ∧ s.Perm l ∧ s.Pairwise (· ≤ ·) := by
  have hp := sortI_perm (l.map fun v : Nat => (v : Int))
  have hs := sortI_le (l.map fun v : Nat => (v : Int))
  have hn : ∀ i ∈ sortI (l.map fun v : Nat => (v : Int)), 0 ≤ i := fun i hi => by
    obtain ⟨v, _, rfl⟩ := List.mem_map.mp (hp.mem_iff.mp hi)
    omega
  refine ⟨(sortI (l.map fun v : Nat => (v : Int))).map Int.toNat, ?_, ?_, ?_⟩
  · rw [List.map_map]
    conv => lhs; rw [← List.map_id (sortI _)]
    apply List.map_congr_left
    intro i hi
    have := hn i hi
    show i = ((i.toNat : Nat) : Int)
    omega
  · have := hp.map Int.toNat
    rw [List.map_map] at this
    have e : (l.map ((Int.toNat) ∘ fun v : Nat => (v : Int))) = l := by
      conv => rhs; rw [← List.map_id l]
      apply List.map_congr_left
      intro i _
      rfl
    rw [e] at this
    exact this
  · rw [List.pairwise_map]
    exact hs.imp fun {a b} h => by omega
end Pu
namespace Pu
theorem flat_one {α : Type} (x : α) : ∀ n : Nat, (List.replicate n [x]).flatten = List.replicate n x
  | 0 => rfl
  | n + 1 => by
    rw [List.replicate_succ, List.flatten_cons, flat_one x n, List.replicate_succ]
    rfl
end Pu
namespace Pu
theorem itemsN_flat : ∀ {ls : List (List (Option Nat))}, (∀ l ∈ ls, l.length ≤ 61) → (ls.flatMap (itemsN 0)).length ≤ ls.length * 61
  | [], _ => Nat.le_refl _
  | l :: ls, h => by
    have h1 := itemsN_flat fun z hz => h z (List.mem_cons_of_mem _ hz)
    have h2 := h l List.mem_cons_self
    have h3 := itemsN_len 0 l
    rw [List.flatMap_cons, List.length_append, List.length_cons, Nat.add_mul]
    omega
end Pu
namespace Pu
open PySem L2
theorem ixN_nat {n i : Nat} (h : i < n) : ixN n (i : Int) = some i := by
  unfold ixN
  have h1 : (0 : Int) ≤ (i : Int) ∧ (i : Int) < (n : Int) := by omega
  simp only [h1, and_self, if_true, Int.toNat_natCast]
theorem atI_nat {α : Type} {xs : List α} {i : Nat} {v : α} (h : xs[i]? = some v) : L2.atI xs (i : Int) = some v := by
  unfold L2.atI
  rw [ixN_nat (List.getElem?_eq_some_iff.mp h).1]
  exact h
def NdAt (p : Int) (Ls : List PV) (i : Nat) (P : PV) : Prop := ∃ x, Ls[i]? = some x ∧ ((endB x p = true ∧ P = .lst []) ∨
  (endB x p = false ∧ ∃ (L : List Int) (a : Nat), RestP x p L ∧ L ≠ [] ∧ L.length ≤ 100 ∧ i < a ∧ a + L.length ≤ Ls.length ∧ P = .lst (rangeP (a : Int) ((a : Int) + (L.length : Int))) ∧ ∀ (t : Nat) (r : Int), L[t]? = some r → ∃ v, Ls[a + t]? = some v ∧ PartOf x p r v))
theorem NdAt.app {p : Int} {Ls ys : List PV} {i : Nat} {P : PV} (h : NdAt p Ls i P) : NdAt p (Ls ++ ys) i P := by
  have up : ∀ {j : Nat} {v : PV}, Ls[j]? = some v → (Ls ++ ys)[j]? = some v := fun {j v} z => by
    rw [List.getElem?_append_left (List.getElem?_eq_some_iff.mp z).1]
    exact z
  obtain ⟨x, h1, h2⟩ := h
  refine ⟨x, up h1, ?_⟩
  rcases h2 with h2 | ⟨h2, L, a, h3, h4, h5, h6, h7, h8, h9⟩
  · exact .inl h2
  · refine .inr ⟨h2, L, a, h3, h4, h5, h6, by rw [List.length_append]; omega, h8, fun t r z => ?_⟩
    obtain ⟨v, z1, z2⟩ := h9 t r z
    exact ⟨v, up z1, z2⟩
theorem len_sum : ∀ {ys : List PV}, (∀ y ∈ ys, isLotP y = true) → ys.length ≤ (ys.map wL).sum
  | [], _ => Nat.le_refl _
  | y :: ys, h => by
    have h1 := wL_pos (h y List.mem_cons_self)
    have h2 := len_sum fun z hz => h z (List.mem_cons_of_mem _ hz)
    rw [List.length_cons, List.map_cons, List.sum_cons]
    omega
theorem pts_ex {α β : Type} {F : β → α} {Q : Nat → β → Prop} : ∀ (l : List α), (∀ (i : Nat) (v : α), l[i]? = some v → ∃ z, v = F z ∧ Q i z) → ∃ zs : List β, l = zs.map F ∧ ∀ (i : Nat) (z : β), zs[i]? = some z → Q i z := by
  intro l
  induction l generalizing Q with
  | nil => exact fun _ => ⟨[], rfl, fun i z h => by simp at h⟩
  | cons v l ih =>
    intro h
    obtain ⟨z, e, q⟩ := h 0 v rfl
    obtain ⟨zs, e2, q2⟩ := ih (Q := fun i z => Q (i + 1) z) fun i v hv => h (i + 1) v (by simpa using hv)
    refine ⟨z :: zs, by rw [e, e2]; rfl, fun i w hw => ?_⟩
    cases i with
    | zero =>
      simp at hw
      rw [← hw]
      exact q
    | succ i => exact q2 i w (by simpa using hw)
theorem range_get {a : Int} {k : Int} {i : Nat} {v : PV} (h : (rangeP a k)[i]? = some v) : v = .int (a + (i : Int)) ∧ i < (k - a).toNat := by
  unfold rangeP at h
  rw [List.getElem?_map] at h
  obtain ⟨j, z1, z2⟩ := Option.map_eq_some_iff.mp h
  obtain ⟨z3, z4⟩ := List.getElem?_eq_some_iff.mp z1
  rw [List.length_range] at z3
  rw [List.getElem_range] at z4
  subst z4
  exact ⟨z2.symm, z3⟩
theorem range_len {a k : Int} : (rangeP a k).length = (k - a).toNat := by simp [rangeP]
/-- a node's row -/
theorem nd_row {p : Int} {n : Nat} {x : PV} {Ls : List PV} {L : List Int} {a : Nat} {ls : List (List (Option Nat))} (hL : isLotP x = true) (hp : PrimeI p) (hR : RestP x p L) (hb : a + L.length ≤ Ls.length) (h2 : L.length = ls.length)
    (hy : ∀ (t : Nat) (r : Int), L[t]? = some r → ∃ v, Ls[a + t]? = some v ∧ PartOf x p r v) (hl : ∀ (t : Nat) (v : PV) (l : List (Option Nat)), Ls[a + t]? = some v → ls[t]? = some l → IsRow p (SV' v) n l) {s : List Nat} (sp : s.Perm (ls.flatMap (itemsN 0))) (ss : s.Pairwise (· ≤ ·)) : IsRow p (SV' x) n (pad n (s.take n)) := by
  have e : ∀ t, t < L.length → ((Ls.drop a).take L.length)[t]? = Ls[a + t]? := fun t ht => by
    rw [List.getElem?_take_of_lt ht, List.getElem?_drop]
  have lt : ∀ {t : Nat} {v : PV}, ((Ls.drop a).take L.length)[t]? = some v → t < L.length := fun {t v} z => by
    have := (List.getElem?_eq_some_iff.mp z).1
    rw [List.length_take] at this
    omega
  refine node_row (ys := (Ls.drop a).take L.length) hL hp hR (by rw [List.length_take, List.length_drop]; omega) h2 (fun t r v h3 h4 => ?_) (fun t v l h3 h4 => ?_) sp ss
  · obtain ⟨v', z1, z2⟩ := hy t r h3
    rw [e t (lt h4), z1] at h4
    cases h4
    exact z2
  · rw [e t (lt h3)] at h3
    exact hl t v l h3 h4
end Pu
namespace Pu
open PySem L2
/-! ### dicts from numbers to numbers -/
def DK (f : Int → Int) (ks : List Int) : List (Key × PV) := ks.map fun k => (Sum.inl k, PV.int (f k))
theorem pairs_DK (f : Int → Int) : ∀ ks : List Int, pairs? (ks.map fun k => PV.tup [.int k, .int (f k)]) = some (DK f ks)
  | [] => rfl
  | k :: ks => by
    show (pairs? (ks.map fun k => PV.tup [.int k, .int (f k)])).map ((Sum.inl k, PV.int (f k)) :: ·) = _
    rw [pairs_DK f ks]
    rfl
theorem DK_any {f : Int → Int} {k : Int} : ∀ ks : List Int, ((DK f ks).any fun kv => decide (kv.1 = Sum.inl k)) = decide (k ∈ ks)
  | [] => rfl
  | a :: ks => by
    show (decide ((Sum.inl a : Key) = Sum.inl k) || (DK f ks).any fun kv => decide (kv.1 = Sum.inl k)) = _
    rw [DK_any ks, ← Bool.decide_or, decide_eq_decide, List.mem_cons, Sum.inl.injEq]
    exact ⟨fun z => z.imp_left Eq.symm, fun z => z.imp_left Eq.symm⟩
theorem DK_put {f : Int → Int} {ks : List Int} {k : Int} : putP (DK f ks) (.inl k) (.int (f k)) = DK f (if k ∈ ks then ks else ks ++ [k]) := by
  unfold putP
  rw [DK_any]
  by_cases h : k ∈ ks
  · rw [if_pos (decide_eq_true h), if_pos h]
    unfold DK
    rw [List.map_map]
    apply List.map_congr_left
    intro a _
    show (if (Sum.inl a : Key) = Sum.inl k then (Sum.inl a, PV.int (f k)) else (Sum.inl a, PV.int (f a))) = _
    split
    · rename_i e
      rw [Sum.inl.inj e]
    · rfl
  · rw [if_neg (by simpa using h), if_neg h]
    unfold DK
    rw [List.map_append]
    rfl
theorem DK_merge {f : Int → Int} : ∀ (T ks : List Int), ks.Nodup → ∃ ks', mergeP (DK f ks) (DK f T) = DK f ks' ∧ ks'.Nodup ∧ ∀ k, k ∈ ks' ↔ k ∈ ks ∨ k ∈ T
  | [], ks, h => ⟨ks, rfl, h, fun k => by simp⟩
  | a :: T, ks, h => by
    have hn : (if a ∈ ks then ks else ks ++ [a]).Nodup := by
      split
      · exact h
      · rename_i c
        rw [List.nodup_append]
        exact ⟨h, by simp, fun x hx y hy e => c (by rw [← List.mem_singleton.mp hy, ← e]; exact hx)⟩
    obtain ⟨ks', h1, h2, h3⟩ := DK_merge (f := f) T _ hn
    refine ⟨ks', ?_, h2, fun k => ?_⟩
    · rw [← h1, ← DK_put]
      rfl
    · rw [h3 k, List.mem_cons]
      split
      · rename_i c
        exact ⟨fun z => z.elim .inl fun z => .inr (.inr z), fun z => z.elim .inl fun z => z.elim (fun e => .inl (by rw [e]; exact c)) .inr⟩
      · rw [List.mem_append, List.mem_singleton]
        exact ⟨fun z => z.elim (fun z => z.elim .inl fun e => .inr (.inl e)) fun z => .inr (.inr z), fun z => z.elim (fun z => .inl (.inl z)) fun z => z.elim (fun e => .inl (.inr e)) .inr⟩
theorem DK_val {f : Int → Int} {k : Int} : ∀ {ks : List Int}, k ∈ ks → valP (DK f ks) (.inl k) = some (.int (f k))
  | [], h => by cases h
  | a :: ks, h => by
    by_cases e : a = k
    · subst e
      exact valP_pos (p := (Sum.inl a, PV.int (f a))) rfl
    · show valP ((Sum.inl a, PV.int (f a)) :: DK f ks) (.inl k) = _
      rw [valP_neg (fun z => e (Sum.inl.inj z))]
      rcases List.mem_cons.mp h with z | z
      · exact absurd z.symm e
      · exact DK_val z
theorem DK_drop {f : Int → Int} {k : Int} : ∀ ks : List Int, dropP (DK f ks) (.inl k) = DK f (ks.filter fun a => !decide (a = k)) := fun ks => by
  unfold dropP DK
  rw [List.filter_map]
  congr 1
  apply List.filter_congr
  intro a _
  show (!decide ((Sum.inl a : Key) = Sum.inl k)) = _
  congr 1
  rw [decide_eq_decide]
  exact ⟨fun z => Sum.inl.inj z, fun z => by rw [z]⟩
theorem DK_keys {f : Int → Int} (ks : List Int) : (DK f ks).map (fun kv => keyPV kv.1) = ks.map PV.int := by
  unfold DK
  rw [List.map_map]
  rfl
theorem DK_vals {f : Int → Int} (ks : List Int) : (DK f ks).map (·.2) = (ks.map f).map PV.int := by
  unfold DK
  rw [List.map_map, List.map_map]
  rfl
theorem DK_congr {f g : Int → Int} {ks : List Int} (h : ∀ k ∈ ks, f k = g k) : DK f ks = DK g ks := by
  unfold DK
  exact List.map_congr_left fun k hk => by rw [h k hk]
theorem DK_empty {f : Int → Int} (ks : List Int) : (DK f ks).isEmpty = ks.isEmpty := by cases ks <;> rfl
theorem pad_none {vs : List Nat} {j : Nat} (h : vs.length ≤ j) : pad (j + 1) vs = pad j vs ++ [none] := by
  unfold pad
  rw [show j + 1 - vs.length = (j - vs.length) + 1 by omega, List.replicate_succ', List.append_assoc]
theorem pad_full {vs : List Nat} {j v : Nat} (h : vs.length = j) : pad (j + 1) (vs ++ [v]) = pad j vs ++ [some v] := by
  unfold pad
  rw [List.length_append, List.length_singleton, h, Nat.sub_self, Nat.sub_self, List.map_append]
  simp
theorem smp_lot {ns rs T : List Int} {m : Int} {n : Nat} (hb : lotB ns m rs = true) (hT : ∀ k, k ∈ T ↔ k ∈ ns ∨ (0 ≤ k ∧ k < m * (n : Int) ∧ k % m ∈ rs)) : Smp (fun k => k ∈ T) (SV' (mkLot ns m rs)) n := by
  have hm := lotB_pos hb
  refine ⟨fun x hx => ?_, fun x hx => ?_⟩
  · rcases (hT x).mp hx with h | ⟨_, _, h⟩
    · exact hasV_iff.mpr (.inl h)
    · exact hasV_iff.mpr (.inr h)
  · rcases hasV_iff.mp hx with h | h
    · exact .inl ((hT x).mpr (.inl h))
    · refine .inr ⟨x % m, m, x / m, by omega, by have := Int.mul_ediv_add_emod x m; omega, fun j hj => (hT _).mpr (.inr ⟨?_, ?_, ?_⟩)⟩
      · have h1 := Int.emod_nonneg x (show m ≠ 0 by omega)
        have h2 : 0 ≤ m * (j : Int) := Int.mul_nonneg (by omega) (by omega)
        omega
      · have h1 := Int.emod_lt_of_pos x hm
        have h2 : m * ((j : Int) + 1) ≤ m * (n : Int) := Int.mul_le_mul_of_nonneg_left (by omega) (by omega)
        rw [Int.mul_add, Int.mul_one] at h2
        omega
      · rw [Int.add_mul_emod_self_left, Int.emod_emod]
        exact h
end Pu
namespace Pu
def mapT (f : Int → Int) : PV → PV
  | .int k => .tup [.int k, .int (f k)]
  | y => y
end Pu

/-! The plain side, part Cd: beginnings of rows; rows at hand. -/
namespace Pu
open PySem L2
theorem Gr.take {p : Int} {S : Int → Prop} {as : List Int} {vs : List Nat} (h : Gr p S as vs) : ∀ k, k ≤ as.length → Gr p S (as.take k) (vs.take k) := by
  induction h with
  | nil => exact fun k _ => by simp; exact .nil
  | @snoc as vs x hg hx hn hm ih =>
    intro k hk
    have e := hg.len
    rw [List.length_append, List.length_singleton] at hk
    rcases Nat.lt_or_ge as.length k with c | c
    · have e1 : k = as.length + 1 := by omega
      rw [List.take_of_length_le (by rw [List.length_append, List.length_singleton]; omega), List.take_of_length_le (by rw [List.length_append, List.length_singleton]; omega)]
      exact hg.snoc hx hn hm
    · rw [List.take_append_of_le_length c, List.take_append_of_le_length (by omega)]
      exact ih k c
theorem row_pre {p : Int} {S : Int → Prop} {n k : Nat} {as : List Int} {vs : List Nat} {l : List (Option Nat)} (hg : Gr p S as vs) (hf : Full S n as) (hk : k < n) (hl : IsRow p S (k + 1) l) : l[k]? = (pad n vs)[k]? := by
  have e := hg.len
  rcases Nat.lt_or_ge k as.length with c | c
  · rw [hl _ _ (hg.take (k + 1) c) (.inl (by rw [List.length_take]; omega))]
    unfold pad
    rw [List.getElem?_append_left (by rw [List.length_map, List.length_take]; omega), List.getElem?_append_left (by rw [List.length_map]; omega), List.getElem?_map, List.getElem?_map, List.getElem?_take_of_lt (by omega)]
  · have hc : ∀ x, S x → x ∈ as := by
      rcases hf with z | ⟨_, z⟩
      · omega
      · exact z
    rw [hl _ _ hg (.inr ⟨by omega, hc⟩)]
    unfold pad
    rw [List.getElem?_append_right (by rw [List.length_map]; omega), List.getElem?_append_right (by rw [List.length_map]; omega), List.getElem?_replicate, List.getElem?_replicate, List.length_map, if_pos (by omega), if_pos (by omega)]
def notNon : PV → Bool
  | .non => false
  | _ => true
theorem keep_pad (n : Nat) (vs : List Nat) : ((rowP (pad n vs)).filter notNon).map (fun y => y) = (vs.map fun v : Nat => (v : Int)).map PV.int := by
  unfold rowP pad
  rw [List.map_id', List.map_append, List.filter_append, List.map_replicate, List.map_map, List.map_map]
  have e1 : ((vs.map (optV ∘ some)).filter notNon) = vs.map (PV.int ∘ fun v : Nat => (v : Int)) := by
    rw [List.filter_eq_self.mpr]
    · rfl
    · intro a ha
      obtain ⟨v, _, rfl⟩ := List.mem_map.mp ha
      rfl
  have e2 : ((List.replicate (n - vs.length) (optV none)).filter notNon) = [] := by
    rw [List.filter_eq_nil_iff]
    intro a ha
    rw [List.eq_of_mem_replicate ha]
    decide
  rw [e1, e2, List.append_nil]
theorem sortI_asc {vs : List Nat} (h : vs.Pairwise (· ≤ ·)) : sortI (vs.map fun v : Nat => (v : Int)) = vs.map fun v : Nat => (v : Int) :=
  sorted_eq (sortI_perm _) (sortI_le _) (by rw [List.pairwise_map]; exact h.imp fun {a b} z => by omega)
/-- how many there are -/
theorem full_len {ns rs : List Int} {m p : Int} {n : Nat} {as : List Int} {vs : List Nat} (hb : lotB ns m rs = true) (hg : Gr p (SV' (mkLot ns m rs)) as vs) (hf : Full (SV' (mkLot ns m rs)) n as) : (rs = [] → ns.length ≤ n → vs.length = ns.length) ∧ (1 ≤ n → vs ≠ []) := by
  have hm := lotB_pos hb
  have e := hg.len
  constructor
  · rintro rfl hn
    have nd : ns.Nodup := (rise_to (lotB_rise hb).1).imp fun {a b} z => by omega
    have s1 : as.length ≤ ns.length := sub_len hg.nodup fun x hx => by
      have := hg.mem x hx
      rcases hasV_iff.mp this with z | z
      · exact z
      · cases z
    rcases hf with z | ⟨_, z⟩
    · omega
    · have s2 : ns.length ≤ as.length := sub_len nd fun x hx => z x (hasV_iff.mpr (.inl hx))
      omega
  · intro h1 hv
    subst hv
    have ea : as = [] := List.length_eq_zero_iff.mp e.symm
    subst ea
    rcases hf with z | ⟨_, z⟩
    · simp at z
      omega
    · by_cases c : rs = []
      · subst c
        obtain ⟨a, l, e2⟩ := List.exists_cons_of_ne_nil (lotB_ne hb)
        have := z a (hasV_iff.mpr (.inl (by rw [e2]; exact List.mem_cons_self)))
        cases this
      · obtain ⟨a, l, e2⟩ := List.exists_cons_of_ne_nil c
        have ha : a ∈ rs := by rw [e2]; exact List.mem_cons_self
        have hr := lotB_rs hb a ha
        have := z a (hasV_iff.mpr (.inr (by rw [Int.emod_eq_of_lt hr.1 hr.2]; exact ha)))
        cases this
theorem first_0 {p : Int} {S : Int → Prop} {as : List Int} {v : Nat} {vs : List Nat} (h : Gr p S as (v :: vs)) : v = 0 := by
  have e := h.len
  cases as with
  | nil => cases e
  | cons a as => exact gr_at (as := []) (vs := []) h rfl
theorem pdk_row (n : Nat) (l : List (Option Nat)) : pdk (n + 2) (.tup (rowP l)) = true := by
  show (rowP l).all (pdk (n + 1)) = true
  rw [List.all_eq_true]
  intro x hx
  obtain ⟨o, _, rfl⟩ := List.mem_map.mp hx
  cases o <;> rfl
theorem wt_row : ∀ l : List (Option Nat), wts (rowP l) = l.length
  | [] => by show wts [] = 0; rw [wts]
  | o :: l => by
    show wts (optV o :: rowP l) = _
    rw [wts, wt_row l]
    have : wt (optV o) = 1 := by cases o <;> (unfold optV wt; rfl)
    rw [this, List.length_cons]
    omega
theorem prime11 : PrimeI 11 := prime_by 11 4 (by decide) (by decide) (by decide) (by decide)
theorem prime59 : PrimeI 59 := prime_by 59 8 (by decide) (by decide) (by decide) (by decide)
theorem prime61 : PrimeI 61 := prime_by 61 8 (by decide) (by decide) (by decide) (by decide)
theorem lot_dec {ns rs : List Int} {m : Int} (h : lotB ns m rs = true) : isLotP (mkLot ns m rs) = true := by
  rw [isLotP_mk]
  exact h
theorem row_all {p : Int} (hp : PrimeI p) (n : Nat) : IsRow p (SV' (mkLot [] 1 [0])) n ((wl p n).map some) :=
  end_row n (lot_dec (by decide)) hp (by
    rw [endB_mk]
    show (!((1 : Int) % p == 0)) = true
    have := one_mod hp.1
    rw [beq_eq_false_iff_ne.mpr this]
    rfl)
theorem row_single {p : Int} (hp : PrimeI p) (n : Nat) : IsRow p (SV' (mkLot [0] 1 [])) n ((some 0 :: List.replicate n none).take n) :=
  end_row n (lot_dec (by decide)) hp (by rw [endB_mk]; rfl)
theorem trim3 : TrimP 3 [0] 3 [0] := by
  have no : ∀ l : Int, 1 ≤ l → l < 3 → 3 % l = 0 → NotC 3 [0] l := fun l a b c ks kn kk => by
    have : l = 1 := by
      rcases (show l = 1 ∨ l = 2 by omega) with z | z
      · exact z
      · subst z
        cases c
    subst this
    have e : ks.length = 1 := same_len (ks' := [0]) kn (by simp) fun c => by rw [kk]; simp [eq_comm]
    rw [e]
    decide
  refine ⟨by omega, by omega, by decide, by simp, by simp, fun x h0 h1 => ?_, fun l a b c => no l a b c, fun l a b c => no l a b c, fun z => z [0] (by simp) (fun c => ?_) rfl, fun c => ?_⟩
  · rw [Int.emod_eq_of_lt h0 h1]
  · simp [eq_comm]
  · simp [eq_comm]
theorem row_node1 {x y : PV} {p r : Int} {n : Nat} {l : List (Option Nat)} {s : List Nat} (hL : isLotP x = true) (hp : PrimeI p) (hR : RestP x p [r]) (hy : PartOf x p r y) (hl : IsRow p (SV' y) n l) (es : itemsN 0 l = s) (ss : s.Pairwise (· ≤ ·)) : IsRow p (SV' x) n (pad n (s.take n)) := by
  refine node_row (L := [r]) (ys := [y]) (ls := [l]) hL hp hR rfl rfl (fun t r' v h1 h2 => ?_) (fun t v l' h1 h2 => ?_) (by rw [← es]; simp) ss
  · cases t with
    | zero =>
      cases h1
      cases h2
      exact hy
    | succ t => simp at h1
  · cases t with
    | zero =>
      cases h1
      cases h2
      exact hl
    | succ t => simp at h1
theorem row_node2 {x y y2 : PV} {p r r2 : Int} {n : Nat} {l l2 : List (Option Nat)} {s : List Nat} (hL : isLotP x = true) (hp : PrimeI p) (hR : RestP x p [r, r2]) (hy : PartOf x p r y) (hy2 : PartOf x p r2 y2) (hl : IsRow p (SV' y) n l) (hl2 : IsRow p (SV' y2) n l2) (es : (itemsN 0 l ++ itemsN 0 l2) = s) (ss : s.Pairwise (· ≤ ·)) : IsRow p (SV' x) n (pad n (s.take n)) := by
  refine node_row (L := [r, r2]) (ys := [y, y2]) (ls := [l, l2]) hL hp hR rfl rfl (fun t r' v h1 h2 => ?_) (fun t v l' h1 h2 => ?_) (by rw [← es]; simp) ss
  · rcases t with _ | _ | t
    · cases h1
      cases h2
      exact hy
    · cases h1
      cases h2
      exact hy2
    · simp at h1
  · rcases t with _ | _ | t
    · cases h1
      cases h2
      exact hl
    · cases h1
      cases h2
      exact hl2
    · simp at h1
theorem row_b : IsRow 2 (SV' (mkLot [] 2 [1])) 5 [some 0, some 1, some 3, some 4, some 7] :=
  row_node1 (s := [0, 1, 3, 4, 7]) (r := 1) (lot_dec (by decide)) prime2 ⟨by simp, fun c => by
    simp only [List.mem_singleton, hasV_iff]
    constructor
    · rintro rfl
      exact ⟨1, .inr rfl, rfl⟩
    · rintro ⟨k, h1 | h1, h2⟩
      · cases h1
      · omega⟩ ⟨[], 2, [1], rfl, .lot (late := [0]) (.dv (p := 2) (r := 1) (m := 2) (rs := [1]) (by decide)) (by decide) (by rw [sortI0]; exact trim1)⟩ (row_all prime2 5) (by decide) (by decide)
theorem row_c0 : IsRow 2 (SV' (mkLot [0, 1] 1 [])) 4 [some 0, some 0, none, none] :=
  row_node2 (s := [0, 0]) (r := 0) (r2 := 1) (lot_dec (by decide)) prime2 ⟨by decide, fun c => by
    simp only [List.mem_cons, List.not_mem_nil, or_false, hasV_iff]
    constructor
    · rintro (rfl | rfl)
      · exact ⟨0, .inl rfl, rfl⟩
      · exact ⟨1, .inr rfl, rfl⟩
    · rintro ⟨k, rfl | rfl, h2⟩ <;> omega⟩ ⟨[0, 1], 1, [], rfl, .fin (.nd (one_mod (by decide)) (inv1 2)) (by decide)⟩ ⟨[0, 1], 1, [], rfl, .fin (.nd (one_mod (by decide)) (inv1 2)) (by decide)⟩ (row_single prime2 4) (row_single prime2 4) (by decide) (by decide)
theorem row_c : IsRow 2 (SV' (mkLot [0, 1, 3] 1 [])) 4 [some 0, some 0, some 1, none] :=
  row_node2 (s := [0, 0, 1]) (r := 0) (r2 := 1) (lot_dec (by decide)) prime2 ⟨by decide, fun c => by
    simp only [List.mem_cons, List.not_mem_nil, or_false, hasV_iff]
    constructor
    · rintro (rfl | rfl)
      · exact ⟨0, .inl rfl, rfl⟩
      · exact ⟨1, .inr (.inl rfl), rfl⟩
    · rintro ⟨k, rfl | rfl | rfl, h2⟩ <;> omega⟩ ⟨[0, 1, 3], 1, [], rfl, .fin (.nd (one_mod (by decide)) (inv1 2)) (by decide)⟩ ⟨[0, 1, 3], 1, [], rfl, .fin (.nd (one_mod (by decide)) (inv1 2)) (by decide)⟩ (row_single prime2 4) row_c0 (by decide) (by decide)
theorem row_d0 : IsRow 3 (SV' (mkLot [] 3 [0])) 4 [some 0, some 1, some 2, some 4] :=
  row_node1 (s := [0, 1, 2, 4]) (r := 0) (lot_dec (by decide)) prime3 ⟨by simp, fun c => by
    simp only [List.mem_singleton, hasV_iff]
    constructor
    · rintro rfl
      exact ⟨0, .inr rfl, rfl⟩
    · rintro ⟨k, h1 | h1, h2⟩
      · cases h1
      · omega⟩ ⟨[], 3, [0], rfl, .lot (late := [0]) (.dv (p := 3) (r := 0) (m := 3) (rs := [0]) (by decide)) (by decide) (by rw [sortI0]; exact trim1)⟩ (row_all prime3 4) (by decide) (by decide)
theorem row_d : IsRow 3 (SV' (mkLot [] 9 [1])) 4 [some 0, some 2, some 4, some 7] :=
  row_node1 (s := [0, 2, 4, 7]) (r := 1) (lot_dec (by decide)) prime3 ⟨by simp, fun c => by
    simp only [List.mem_singleton, hasV_iff]
    constructor
    · rintro rfl
      exact ⟨1, .inr rfl, rfl⟩
    · rintro ⟨k, h1 | h1, h2⟩
      · cases h1
      · omega⟩ ⟨[], 9, [1], rfl, .lot (late := [0]) (.dv (p := 3) (r := 1) (m := 9) (rs := [1]) (by decide)) (by decide) (by rw [sortI0]; exact trim3)⟩ row_d0 (by decide) (by decide)
end Pu
namespace Pu
theorem pdk_pair {n : Nat} {x : PV} (h : pdk n x = true) : pdk (n + 1) (.lst [x, x]) = true := by
  show (pdk n x && (pdk n x && true)) = true
  rw [h]
  rfl
end Pu
namespace Pu
open PySem L2
theorem at_w {ws : List Nat} {f : Int} (h0 : 0 ≤ f) (h1 : f < (ws.length : Int)) : L2.atI ((ws.map fun v : Nat => (v : Int)).map PV.int) f = some (.int ((ws.getD f.toNat 0 : Nat) : Int)) := by
  obtain ⟨i, rfl⟩ := Int.eq_ofNat_of_zero_le h0
  refine atI_nat ?_
  have hi : i < ws.length := by omega
  rw [List.getElem?_map, List.getElem?_map, List.getElem?_eq_getElem hi, Int.toNat_natCast, List.getD_eq_getElem?_getD, List.getElem?_eq_getElem hi]
  rfl
theorem len_w (ws : List Nat) : ((ws.map fun v : Nat => (v : Int)).map PV.int).length = ws.length := by rw [List.length_map, List.length_map]
end Pu
namespace Pu
open PySem L2
theorem wl_step (p : Int) (j : Nat) : L2.atI ((wl p (j + 1)).map fun v : Nat => PV.int v) (-1) = some (.int (wP p j)) ∧ ((wl p (j + 1 + 1)).map fun v : Nat => PV.int v) = ((wl p (j + 1)).map fun v : Nat => PV.int v) ++ [PV.int ((wP p j : Int) + (vp p (1 + (j : Int)) : Nat))] ∧ (wl p (j + 1)).length = j + 1 := by
  have ea : (wl p (j + 1)).getLast? = some (wP p j) := by
    unfold wl
    rw [List.range_succ, List.map_append]
    simp
  have e2 : (wP p j : Int) + (vp p (1 + (j : Int)) : Nat) = ((wP p (j + 1) : Nat) : Int) := by
    show _ = ((wP p j + vp p ((j : Int) + 1) : Nat) : Int)
    rw [Int.add_comm 1 (j : Int)]
    omega
  refine ⟨?_, ?_, ?_⟩
  · rw [atI_last, List.getLast?_map, ea]
    rfl
  · rw [e2]
    unfold wl
    rw [List.range_succ, List.map_append, List.map_append]
    rfl
  · unfold wl
    rw [List.length_map, List.length_range]
end Pu

/-! The plain side, part Ce: orders; the nearest member. -/
namespace Pu
open PySem L2
/-- t can stand behind as with the power v, and none nearer to 0 -/
def Nr (S : Int → Prop) (p : Int) (as : List Int) (v : Nat) (t : Int) : Prop := (S t ∧ t ∉ as ∧ V p as t = v) ∧ ∀ y, S y → y ∉ as → V p as y = v → t.natAbs ≤ y.natAbs ∧ (y.natAbs = t.natAbs → 0 ≤ t ∨ y = t)
theorem Nr.uniq {S : Int → Prop} {p : Int} {as : List Int} {v : Nat} {t u : Int} (a : Nr S p as v t) (b : Nr S p as v u) : t = u := by
  obtain ⟨⟨a1, a2, a3⟩, a4⟩ := a
  obtain ⟨⟨b1, b2, b3⟩, b4⟩ := b
  obtain ⟨c1, c2⟩ := a4 u b1 b2 b3
  obtain ⟨d1, d2⟩ := b4 t a1 a2 a3
  have e : u.natAbs = t.natAbs := by omega
  rcases c2 e with c | c
  · rcases d2 e.symm with d | d <;> omega
  · exact c.symm
/-- the nearest ones, row by row -/
def NLs (S : Int → Prop) (p : Int) : List Int → List (Option Nat) → List Int → Prop
  | _, [], ts => ts = []
  | as, none :: l, ts => NLs S p as l ts
  | as, some v :: l, ts => ∃ t ts', ts = t :: ts' ∧ Nr S p as v t ∧ NLs S p (as ++ [t]) l ts'
theorem NLs.uniq {S : Int → Prop} {p : Int} : ∀ {l : List (Option Nat)} {as ts us : List Int}, NLs S p as l ts → NLs S p as l us → ts = us
  | [], _, _, _, a, b => a.trans b.symm
  | none :: l, as, _, _, a, b => NLs.uniq (l := l) (as := as) a b
  | some v :: l, as, ts, us, a, b => by
    obtain ⟨t, ts', rfl, a1, a2⟩ := a
    obtain ⟨u, us', rfl, b1, b2⟩ := b
    have e := a1.uniq b1
    subst e
    rw [a2.uniq b2]
/-- enough of the members, near to 0 -/
theorem near_ex {p : Int} (hp : PrimeI p) {T S : Int → Prop} {n : Nat} (h : Smp T S n) {as : List Int} {vs : List Nat} (g : Gr p S as vs) (hl : as.length < n) {y0 : Int} (h1 : S y0) (h2 : y0 ∉ as) : ∃ x, T x ∧ x ∉ as ∧ ∀ y, S y → y ∉ as → V p as x ≤ V p as y := by
  have pp := hp.1
  have ex : ∃ x, T x ∧ x ∉ as := by
    rcases h.cov y0 h1 with hT | ⟨c, m, t, m0, _, hj⟩
    · exact ⟨y0, hT, h2⟩
    · by_cases c1 : ∃ j : Nat, j < n ∧ c + m * (j : Int) ∉ as
      · obtain ⟨j, j1, j2⟩ := c1
        exact ⟨_, hj j j1, j2⟩
      · exfalso
        have nd : ((List.range n).map fun j : Nat => c + m * (j : Int)).Nodup := by
          rw [List.nodup_iff_pairwise_ne, List.pairwise_map]
          exact (List.nodup_iff_pairwise_ne.mp List.nodup_range).imp fun {a b} hab e => hab (by
            have : m * (a : Int) = m * b := by omega
            have := Int.eq_of_mul_eq_mul_left m0 this
            omega)
        have := sub_len nd (P := as) fun x hx => by
          obtain ⟨j, hjr, rfl⟩ := List.mem_map.mp hx
          by_cases q : c + m * (j : Int) ∈ as
          · exact q
          · exact absurd ⟨j, List.mem_range.mp hjr, q⟩ c1
        rw [List.length_map, List.length_range] at this
        omega
  obtain ⟨x0, e1, e2⟩ := ex
  obtain ⟨x, x1, x2, x3⟩ := min_ex (p := p) _ x0 (Nat.le_refl _) e1 e2
  refine ⟨x, x1, x2, fun y hy hyn => ?_⟩
  rcases h.cov y hy with hT | ⟨c, m, t, m0, rfl, hj⟩
  · exact x3 y hT hyn
  · obtain ⟨z1, z2⟩ := PF.vp hp hyn
    rw [← z2]
    refine (pow_dvd pp _ z1).mp ?_
    refine (PF.df c m as).dvd (fun j hjl => ?_) t
    by_cases c1 : c + m * (j : Int) ∈ as
    · rw [PF.zero c1]
      exact Int.dvd_zero _
    · obtain ⟨w1, w2⟩ := PF.vp hp c1
      refine (pow_dvd pp _ w1).mpr ?_
      rw [w2]
      exact x3 _ (hj j (by omega)) c1
/-- the row's next number -/
theorem row_next {p : Int} {S : Int → Prop} {n : Nat} {l : List (Option Nat)} {as : List Int} {vs : List Nat} (hl : IsRow p S n l) (g : Gr p S as vs) {v : Nat} (hv : l[as.length]? = some (some v)) : (∃ y, S y ∧ y ∉ as ∧ V p as y = v) ∧ ∀ y, S y → y ∉ as → v ≤ V p as y := by
  have ln := hl.len
  have jl : as.length < n := by
    have := (List.getElem?_eq_some_iff.mp hv).1
    omega
  obtain ⟨bs, ws, h1, h2⟩ := Gr.fill (n := n) (n - as.length) g (by omega)
  have e := hl _ _ h1 h2
  have gl := g.len
  have g1 := h1.len
  rw [List.length_append, List.length_append] at g1
  rw [e] at hv
  unfold pad at hv
  cases bs with
  | nil =>
    exfalso
    have : ws = [] := List.length_eq_zero_iff.mp (by simp at g1; omega)
    subst this
    rw [List.append_nil, List.getElem?_append_right (by rw [List.length_map]; omega), List.getElem?_replicate] at hv
    split at hv <;> cases hv
  | cons y bs =>
    cases ws with
    | nil =>
      simp at g1
      omega
    | cons w ws =>
      obtain ⟨z1, z2⟩ := gr_min h1 gl
      have ew : v = w := by
        rw [List.map_append, List.map_cons, List.append_assoc, List.getElem?_append_right (by rw [List.length_map]; omega), List.length_map, gl, Nat.sub_self] at hv
        exact (Option.some.inj (Option.some.inj hv)).symm
      subst ew
      refine ⟨⟨y, h1.mem y (List.mem_append.mpr (.inr List.mem_cons_self)), fun z => ?_, z1.symm⟩, z2⟩
      have nd := h1.nodup
      rw [List.nodup_append] at nd
      exact nd.2.2 y z y List.mem_cons_self rfl
/-- first of a row of members: the rest is none, once none -/
theorem row_none {p : Int} {S : Int → Prop} {n : Nat} {l : List (Option Nat)} (hl : IsRow p S n l) : ∃ ws : List Nat, l = pad n ws ∧ ws.length ≤ n := by
  obtain ⟨bs, ws, h1, h2⟩ := Gr.fill (p := p) (S := S) (n := n) n .nil (by simp)
  refine ⟨ws, hl _ _ h1 h2, ?_⟩
  have e := h1.len
  rw [List.nil_append, List.nil_append] at e
  rcases h2 with h2 | ⟨h2, _⟩ <;> (rw [List.nil_append] at h2; omega)
theorem pad_some {n : Nat} {ws : List Nat} {j v : Nat} (h : (pad n ws)[j]? = some (some v)) : j < ws.length ∧ ws[j]? = some v := by
  unfold pad at h
  rcases Nat.lt_or_ge j ws.length with c | c
  · rw [List.getElem?_append_left (by rw [List.length_map]; exact c), List.getElem?_map] at h
    obtain ⟨w, z1, z2⟩ := Option.map_eq_some_iff.mp h
    cases z2
    exact ⟨c, z1⟩
  · rw [List.getElem?_append_right (by rw [List.length_map]; exact c), List.getElem?_replicate] at h
    split at h <;> cases h
theorem pad_non {n : Nat} {ws : List Nat} {j : Nat} (h : (pad n ws)[j]? = some none) : ws.length ≤ j := by
  rcases Nat.lt_or_ge j ws.length with c | c
  · unfold pad at h
    rw [List.getElem?_append_left (by rw [List.length_map]; exact c), List.getElem?_map, List.getElem?_eq_getElem c] at h
    cases h
  · exact c
def rg (T : Nat) : List Int := (List.range (2 * T + 1)).map fun k : Nat => (k : Int) - T
theorem mem_rg {T : Nat} {y : Int} (h : y.natAbs ≤ T) : y ∈ rg T := by
  unfold rg
  rw [List.mem_map]
  exact ⟨(y + T).toNat, List.mem_range.mpr (by omega), by omega⟩
/-- to be checked -/
def nrB (x : PV) (p : Int) (as : List Int) (v : Nat) (t : Int) : Bool := (hasV x t && !as.contains t && V p as t == v) && (rg t.natAbs).all fun y => !(hasV x y && !as.contains y && V p as y == v) || (decide (t.natAbs ≤ y.natAbs) && (decide (0 ≤ t) || decide (y.natAbs ≠ t.natAbs) || y == t))
theorem nr_of {x : PV} {p : Int} {as : List Int} {v : Nat} {t : Int} (h : nrB x p as v t = true) : Nr (SV' x) p as v t := by
  unfold nrB at h
  simp only [Bool.and_eq_true, List.all_eq_true, Bool.or_eq_true, Bool.not_eq_true', beq_iff_eq, decide_eq_true_eq] at h
  obtain ⟨⟨⟨h1, h2⟩, h3⟩, h4⟩ := h
  have nc : ∀ y : Int, y ∉ as ↔ as.contains y = false := fun y => by
    rw [← Bool.not_eq_true, List.contains_iff_mem]
  refine ⟨⟨h1, (nc t).mpr h2, h3⟩, fun y hy hn hv => ?_⟩
  by_cases c : y.natAbs ≤ t.natAbs
  · rcases h4 y (mem_rg c) with z | ⟨z1, z2⟩
    · exfalso
      have e : (hasV x y && !as.contains y && V p as y == v) = true := by
        rw [show hasV x y = true from hy, (nc y).mp hn, hv]
        simp
      rw [e] at z
      cases z
    · refine ⟨z1, fun e => ?_⟩
      rcases z2 with (z | z) | z
      · exact .inl z
      · exact absurd e z
      · exact .inr z
  · exact ⟨by omega, fun e => by omega⟩
theorem row1 {p : Int} {S : Int → Prop} (h : ∃ x, S x) : IsRow p S 1 [some 0] := by
  intro as vs hg hf
  have e := hg.len
  match vs, hg with
  | [], hg =>
    have : as = [] := List.length_eq_zero_iff.mp e.symm
    subst this
    obtain ⟨x, hx⟩ := h
    rcases hf with z | ⟨_, z⟩
    · cases z
    · cases z x hx
  | [v], hg =>
    rw [first_0 hg]
    rfl
  | _ :: _ :: _, _ =>
    simp at e
    rcases hf with z | ⟨z, _⟩ <;> omega
theorem row_c0n : IsRow 2 (SV' (mkLot [0, 1] 1 [])) 9 [some 0, some 0, none, none, none, none, none, none, none] :=
  row_node2 (s := [0, 0]) (r := 0) (r2 := 1) (lot_dec (by decide)) prime2 ⟨by decide, fun c => by
    simp only [List.mem_cons, List.not_mem_nil, or_false, hasV_iff]
    constructor
    · rintro (rfl | rfl)
      · exact ⟨0, .inl rfl, rfl⟩
      · exact ⟨1, .inr rfl, rfl⟩
    · rintro ⟨k, rfl | rfl, h2⟩ <;> omega⟩ ⟨[0, 1], 1, [], rfl, .fin (.nd (one_mod (by decide)) (inv1 2)) (by decide)⟩ ⟨[0, 1], 1, [], rfl, .fin (.nd (one_mod (by decide)) (inv1 2)) (by decide)⟩ (row_single prime2 9) (row_single prime2 9) (by decide) (by decide)
theorem row_cn : IsRow 2 (SV' (mkLot [0, 1, 3] 1 [])) 9 [some 0, some 0, some 1, none, none, none, none, none, none] :=
  row_node2 (s := [0, 0, 1]) (r := 0) (r2 := 1) (lot_dec (by decide)) prime2 ⟨by decide, fun c => by
    simp only [List.mem_cons, List.not_mem_nil, or_false, hasV_iff]
    constructor
    · rintro (rfl | rfl)
      · exact ⟨0, .inl rfl, rfl⟩
      · exact ⟨1, .inr (.inl rfl), rfl⟩
    · rintro ⟨k, rfl | rfl | rfl, h2⟩ <;> omega⟩ ⟨[0, 1, 3], 1, [], rfl, .fin (.nd (one_mod (by decide)) (inv1 2)) (by decide)⟩ ⟨[0, 1, 3], 1, [], rfl, .fin (.nd (one_mod (by decide)) (inv1 2)) (by decide)⟩ (row_single prime2 9) row_c0n (by decide) (by decide)
theorem row_odd3 : IsRow 3 (SV' (mkLot [] 2 [1])) 3 [some 0, some 0, some 0] :=
  end_row 3 (lot_dec (by decide)) prime3 (by rw [endB_mk]; rfl)
theorem nl_a : NLs (SV' (mkLot [] 1 [0])) 2 [] ((wl 2 5).map some) [0, 1, -1, 2, -2] :=
  ⟨0, _, rfl, nr_of (by decide), 1, _, rfl, nr_of (by decide), -1, _, rfl, nr_of (by decide), 2, _, rfl, nr_of (by decide), -2, _, rfl, nr_of (by decide), rfl⟩
theorem nl_b : NLs (SV' (mkLot [0, 1, 3] 1 [])) 2 [] [some 0, some 0, some 1, none, none, none, none, none, none] [0, 1, 3] :=
  ⟨0, _, rfl, nr_of (by decide), 1, _, rfl, nr_of (by decide), 3, _, rfl, nr_of (by decide), rfl⟩
theorem nl_c : NLs (SV' (mkLot [] 2 [1])) 3 [] [some 0, some 0, some 0] [1, -1, 3] :=
  ⟨1, _, rfl, nr_of (by decide), -1, _, rfl, nr_of (by decide), 3, _, rfl, nr_of (by decide), rfl⟩
theorem nl_d : NLs (SV' (mkLot [-4, 4] 1 [])) 2 [] [some 0] [4] :=
  ⟨4, _, rfl, nr_of (by decide), rfl⟩
end Pu
namespace Pu
theorem V_sum (p k : Int) : ∀ as : List Int, (as.map fun a => ((vp p (k - a) : Nat) : Int)).sum = ((V p as k : Nat) : Int)
  | [] => rfl
  | a :: as => by
    rw [List.map_cons, List.sum_cons, V_sum p k as]
    show _ = ((vp p (k - a) + V p as k : Nat) : Int)
    omega
end Pu
namespace Pu
/-! ### rows there are -/
def RW (ns : List Int) (m : Int) (rs : List Int) : Int → Prop := fun k => k ∈ ns ∨ k % m ∈ rs
theorem rw_part {p r m : Int} {ns rs : List Int} (hp : 2 ≤ p) (r0 : 0 ≤ r) (r1 : r < p) (hm : 0 < m) (hd : rs ≠ [] → m % p = 0) (y : Int) : RW (partN p r ns) (if rs = [] then 1 else m / p) (partN p r rs) y ↔ RW ns m rs (r + p * y) := by
  unfold RW
  rw [mem_partN hp r0 r1]
  by_cases c : rs = []
  · subst c
    rw [if_pos rfl]
    have : partN p r [] = [] := rfl
    rw [this]
    simp
  · rw [if_neg c, mem_partN hp r0 r1]
    have e := Int.mul_ediv_add_emod m p
    rw [hd c, Int.add_zero] at e
    have mp : 0 < m / p := by
      rcases Int.lt_or_le 0 (m / p) with z | z
      · exact z
      · exfalso
        have := Int.mul_nonpos_of_nonneg_of_nonpos (show 0 ≤ p by omega) z
        omega
    have e2 : (r + p * y) % m = r + p * (y % (m / p)) := by
      have a1 := Int.emod_nonneg y (show m / p ≠ 0 by omega)
      have a2 := Int.emod_lt_of_pos y mp
      have a3 := Int.mul_ediv_add_emod y (m / p)
      have b1 : 0 ≤ p * (y % (m / p)) := Int.mul_nonneg (by omega) a1
      have b2 : p * (y % (m / p) + 1) ≤ p * (m / p) := Int.mul_le_mul_of_nonneg_left (by omega) (by omega)
      rw [Int.mul_add, Int.mul_one, e] at b2
      have e3 : r + p * y = (r + p * (y % (m / p))) + m * (y / (m / p)) := by
        have : p * y = p * (m / p * (y / (m / p)) + y % (m / p)) := by rw [a3]
        rw [Int.mul_add, ← Int.mul_assoc, e] at this
        omega
      rw [e3, Int.add_mul_emod_self_left, Int.emod_eq_of_lt (by omega) (by omega)]
    rw [e2]
theorem raw_ex {p : Int} (hp : PrimeI p) (n : Nat) : ∀ (N : Nat) (ns : List Int) (m : Int) (rs : List Int), ns.Nodup → 0 < m → (∀ r ∈ rs, 0 ≤ r ∧ r < m) → m.toNat + ps ns + ns.length ≤ N → ∃ l, IsRow p (RW ns m rs) n l := by
  have pp := hp.1
  intro N
  induction N with
  | zero =>
    intro ns m rs _ hm _ h
    omega
  | succ N ih =>
    intro ns m rs nd hm hb hN
    by_cases c1 : rs ≠ [] ∧ m % p ≠ 0
    · obtain ⟨a, l, e⟩ := List.exists_cons_of_ne_nil c1.1
      have ha : a ∈ rs := by rw [e]; exact List.mem_cons_self
      have hr := hb a ha
      exact ⟨_, row_plain hp n ⟨⟨a, m, hm, c1.2, fun t => .inr (by rw [Int.add_mul_emod_self_left, Int.emod_eq_of_lt hr.1 hr.2]; exact ha)⟩⟩⟩
    · have hd : rs ≠ [] → m % p = 0 := fun z => by
        by_cases q : m % p = 0
        · exact q
        · exact absurd ⟨z, q⟩ c1
      by_cases c2 : rs = [] ∧ ns.length ≤ 1
      · obtain ⟨rfl, hl⟩ := c2
        match ns, hl with
        | [], _ => exact ⟨_, row_empty fun x hx => by rcases hx with z | z <;> cases z⟩
        | [a], _ => exact ⟨_, row_one (a := a) fun x => by unfold RW; simp⟩
      · have part : ∀ r, ∃ l, 0 ≤ r → r < p → IsRow p (fun y => RW ns m rs (r + p * y)) n l := fun r => by
          by_cases c : 0 ≤ r ∧ r < p
          · have e : (fun y => RW ns m rs (r + p * y)) = RW (partN p r ns) (if rs = [] then 1 else m / p) (partN p r rs) := by
              funext y
              exact propext (rw_part pp c.1 c.2 hm hd y).symm
            rw [e]
            have l1 := len_parts (p := p) (L := [r]) (by simp) ns
            have l2 := ps_parts pp (L := [r]) (by simp) ns
            simp only [List.map_cons, List.map_nil, List.sum_cons, List.sum_nil, Nat.add_zero] at l1 l2
            have nd2 : (partN p r ns).Nodup := by
              unfold partN
              rw [List.nodup_iff_pairwise_ne, List.pairwise_map]
              have f1 : (ns.filter fun n => n % p == r).Nodup := nd.filter _
              refine (List.nodup_iff_pairwise_ne.mp f1).imp_of_mem fun {a b} ha hb hab e => hab ?_
              have ha := (List.mem_filter.mp ha).2
              have hb := (List.mem_filter.mp hb).2
              have ha : a % p = r := eq_of_beq ha
              have hb : b % p = r := eq_of_beq hb
              have e1 := Int.mul_ediv_add_emod (a - r) p
              have e2 := Int.mul_ediv_add_emod (b - r) p
              have z1 : (a - r) % p = 0 := Int.emod_eq_emod_iff_emod_sub_eq_zero.mp (by rw [ha, ← ha, Int.emod_emod])
              have z2 : (b - r) % p = 0 := Int.emod_eq_emod_iff_emod_sub_eq_zero.mp (by rw [hb, ← hb, Int.emod_emod])
              rw [e] at e1
              omega
            have mm := Int.mul_ediv_add_emod m p
            have step : ∃ l, IsRow p (RW (partN p r ns) (if rs = [] then 1 else m / p) (partN p r rs)) n l := by
              by_cases cr : rs = []
              · have h2 : 2 ≤ ns.length := by
                  rcases Nat.lt_or_ge ns.length 2 with z | z
                  · exact absurd ⟨cr, by omega⟩ c2
                  · exact z
                have := ps_pos nd h2
                subst cr
                rw [if_pos rfl]
                exact ih _ 1 _ nd2 (by omega) (fun r hr => by cases hr) (by omega)
              · rw [if_neg cr]
                have e0 := hd cr
                have mp0 : 0 < m / p := by
                  rcases Int.lt_or_le 0 (m / p) with z | z
                  · exact z
                  · exfalso
                    have := Int.mul_nonpos_of_nonneg_of_nonpos (show 0 ≤ p by omega) z
                    omega
                have mp1 : 2 * (m / p) ≤ p * (m / p) := Int.mul_le_mul_of_nonneg_right (by omega) (by omega)
                refine ih _ _ _ nd2 mp0 (fun q hq => ?_) (by omega)
                have hq2 := (mem_partN pp c.1 c.2).mp hq
                have := hb _ hq2
                constructor
                · rcases Int.lt_or_le q 0 with z | z
                  · exfalso
                    have : p * q ≤ p * (-1) := Int.mul_le_mul_of_nonneg_left (by omega) (by omega)
                    omega
                  · exact z
                · rcases Int.lt_or_le q (m / p) with z | z
                  · exact z
                  · exfalso
                    have : p * (m / p) ≤ p * q := Int.mul_le_mul_of_nonneg_left z (by omega)
                    omega
            obtain ⟨l, hl⟩ := step
            exact ⟨l, fun _ _ => hl⟩
          · exact ⟨[], fun a b => absurd ⟨a, b⟩ c⟩
        obtain ⟨s, s1, s2⟩ := sort_ex ((resI p).flatMap fun r => itemsN 0 ((part r).choose))
        refine ⟨_, merge_row pp (q := n) (ls := fun r => (part r).choose) (fun r r0 r1 => (part r).choose_spec r0 r1) (fun as vs hg hf r _ _ => ?_) s1 s2⟩
        have a : (partN p r as).length ≤ as.length := by
          unfold partN
          rw [List.length_map]
          exact List.length_filter_le _ _
        rcases hf with hf | ⟨hf, _⟩ <;> omega
theorem row_ex {x : PV} {p : Int} (n : Nat) (hL : isLotP x = true) (hp : PrimeI p) : ∃ l, IsRow p (SV' x) n l := by
  obtain ⟨ns, m, rs, rfl, hb⟩ := lot_of hL
  have hpw : ns.Pairwise (· < ·) := rise_to (lotB_rise hb).1
  obtain ⟨l, hl⟩ := raw_ex hp n _ ns m rs (hpw.imp fun {a b} z => by omega) (lotB_pos hb) (lotB_rs hb) (Nat.le_refl _)
  refine ⟨l, ?_⟩
  have e : SV' (mkLot ns m rs) = RW ns m rs := by
    funext k
    exact propext hasV_iff
  rw [e]
  exact hl
theorem smp_pred {ns rs : List Int} {m : Int} {n : Nat} (hb : lotB ns m rs = true) : Smp (fun k => k ∈ ns ∨ (0 ≤ k ∧ k < m * (n : Int) ∧ k % m ∈ rs)) (SV' (mkLot ns m rs)) n := by
  have hm := lotB_pos hb
  refine ⟨fun x hx => ?_, fun x hx => ?_⟩
  · rcases hx with h | ⟨_, _, h⟩
    · exact hasV_iff.mpr (.inl h)
    · exact hasV_iff.mpr (.inr h)
  · rcases hasV_iff.mp hx with h | h
    · exact .inl (.inl h)
    · refine .inr ⟨x % m, m, x / m, by omega, by have := Int.mul_ediv_add_emod x m; omega, fun j hj => .inr ⟨?_, ?_, ?_⟩⟩
      · have h1 := Int.emod_nonneg x (show m ≠ 0 by omega)
        have h2 : 0 ≤ m * (j : Int) := Int.mul_nonneg (by omega) (by omega)
        omega
      · have h1 := Int.emod_lt_of_pos x hm
        have h2 : m * ((j : Int) + 1) ≤ m * (n : Int) := Int.mul_le_mul_of_nonneg_left (by omega) (by omega)
        rw [Int.mul_add, Int.mul_one] at h2
        omega
      · rw [Int.add_mul_emod_self_left, Int.emod_emod]
        exact h
/-- a member that can stand there, near to 0 -/
theorem near_bd {x : PV} {p : Int} {n : Nat} {as : List Int} {vs : List Nat} {v : Nat} (hL : isLotP x = true) (hp : PrimeI p) (hn : n ≤ 61) (g : Gr p (SV' x) as vs) (hl : as.length < n) (h1 : ∃ y, SV' x y ∧ y ∉ as ∧ V p as y = v) (h2 : ∀ y, SV' x y → y ∉ as → v ≤ V p as y) : ∃ y, SV' x y ∧ y ∉ as ∧ V p as y = v ∧ y.natAbs ≤ 3660 := by
  obtain ⟨ns, m, rs, rfl, hb⟩ := lot_of hL
  have hm := lotB_pos hb
  have h60 := lotB_m hb
  obtain ⟨y0, a1, a2, a3⟩ := h1
  have smp := smp_pred (n := n) hb
  obtain ⟨y, b1, b2, b3⟩ := near_ex hp smp g hl a1 a2
  have sy := smp.sub y b1
  have c1 := b3 y0 a1 a2
  have c2 := h2 y sy b2
  refine ⟨y, sy, b2, by omega, ?_⟩
  rcases b1 with z | ⟨z0, z1, _⟩
  · have := lotB_ns hb y z
    omega
  · have : m * (n : Int) ≤ 60 * 61 := Int.mul_le_mul (by omega) (by omega) (by omega) (by omega)
    omega
end Pu
namespace Pu
theorem two1 {f : Int → Bool} {a b : Int} (h : f a = true) : ∃ r, [a, b].filter f = a :: r := ⟨_, List.filter_cons_of_pos h⟩
theorem two2 {f : Int → Bool} {a b : Int} (h : ¬ f a = true) (h2 : f b = true) : [a, b].filter f = [b] := by
  rw [List.filter_cons_of_neg h, List.filter_cons_of_pos h2, List.filter_nil]
theorem two3 {f : Int → Bool} {a b : Int} (h : ¬ f a = true) (h2 : ¬ f b = true) : [a, b].filter f = [] := by
  rw [List.filter_cons_of_neg h, List.filter_cons_of_neg h2, List.filter_nil]
end Pu
namespace Pu
open PySem L2
/-! ### for laws -/
theorem noL {x : PV} {Q : Prop} (a : isLotP x = true) (b : isLotP x = false) : Q := by rw [a] at b; cases b
theorem noP {x : PV} {Q : Prop} (a : okPrime x = true) (b : okPrime x = false) : Q := by rw [a] at b; cases b
theorem noK {x : PV} {Q : Prop} (a : okK x = true) (b : okK x = false) : Q := by rw [a] at b; cases b
theorem okK_t {n : Int} (a : 0 ≤ n) (b : n ≤ 60) : okK (.int n) = true := by
  show (decide (0 ≤ n) && decide (n ≤ 60)) = true
  rw [decide_eq_true a, decide_eq_true b]
  rfl
theorem badP {w : PV} (h : ∀ n : Int, w = .int n → 2000 ≤ n ∨ primeB n = false) : okPrime w = false := by
  cases w with
  | int n =>
    rcases h n rfl with z | z
    · show (decide (n < 2000) && primeB n) = false
      rw [decide_eq_false (by omega)]
      rfl
    · show (decide (n < 2000) && primeB n) = false
      rw [z, Bool.and_false]
  | _ => rfl
theorem oddK {odd : PV} (h : odd ∈ [PV.non, .int (-1), .int 61, .bl true, .str "1"]) : isD odd = true ∧ okK odd = false := by
  simp only [List.mem_cons, List.not_mem_nil, or_false] at h
  rcases h with rfl | rfl | rfl | rfl | rfl <;> exact ⟨rfl, rfl⟩
theorem wts_ints : ∀ l : List Int, wts (l.map PV.int) = l.length
  | [] => by show wts [] = 0; rw [wts]
  | o :: l => by
    show wts (.int o :: l.map PV.int) = _
    rw [wts, wts_ints l]
    have : wt (.int o) = 1 := by unfold wt; rfl
    rw [this, List.length_cons]
    omega
theorem wt_tup_ints (l : List Int) : wt (.tup (l.map PV.int)) = 1 + l.length := by rw [wt, wts_ints]
theorem pdk_tup_ints (n : Nat) (l : List Int) : pdk (n + 2) (.tup (l.map PV.int)) = true := pdk_ints l
theorem NLs.len {S : Int → Prop} {p : Int} : ∀ {l : List (Option Nat)} {as ts : List Int}, NLs S p as l ts → ts.length ≤ l.length
  | [], _, _, h => by rw [show _ = [] from h]; exact Nat.le_refl _
  | none :: l, as, ts, h => by
    have := NLs.len (l := l) (as := as) (ts := ts) h
    rw [List.length_cons]
    omega
  | some v :: l, as, ts, h => by
    obtain ⟨t, ts', rfl, _, h2⟩ := h
    have := h2.len
    rw [List.length_cons, List.length_cons]
    omega
end Pu

namespace Pu
open PySem L2

def f_law_begun_aea9f3 (Γ : String → Addr) : PSpec :=
  fun xs R _ => match xs with
  | [.scr ns] => ns.length ≤ 63 ∧ (∀ z ∈ ns, Builtin.Int.intBits z ≤ 1048576) ∧ R .drw
  | _ => False
def t_law_begun_aea9f3 (Γ : String → Addr) (Ep : PX → Prop) : PS' :=
  (sSeq (sParOwn 1 2 (pC (.int 0)))
    (sSeq (sFor (iItems (pVar 0)) (.nm 3) (sIf (pBool (pCB gIsi (aCons (pVar 3) (aCons (pC (.ty .int)) aNil)))) (sSeq (sIf (pBool (pOp fGe (pVar 3) (pOp fPow (pC (.int 10)) (pC (.int 18))))) (sAsg (pOp fAdd (pOp fMul (pVar 1) (pOp fAdd (pOp fSub (pVar 3) (pOp fPow (pC (.int 10)) (pC (.int 18)))) (pC (.int 1)))) (pOp fSub (pVar 3) (pOp fPow (pC (.int 10)) (pC (.int 18))))) (.nm 1)) sNext)
    (sApp 2 (pVar 3))) sNext))
    (sNewDrw 1 2)))
theorem v_law_begun_aea9f3 (Γ : String → Addr) : ∀ (xs : List PV) (R : PK) (Ep : PX → Prop), xs.length = 1 → f_law_begun_aea9f3 Γ xs R Ep → t_law_begun_aea9f3 Γ Ep { nx := fun _ => R .non, rt := R } (pstart 4 xs) := by
  intro xs R Ep hl h
  unfold f_law_begun_aea9f3 at h
  split at h
  · rename_i ns
    obtain ⟨h1, h2, h3⟩ := h
    refine forGo_inv (fun j ρ => ∃ (w : Int) (cs : List Int) (x : Option SV), ρ = [some (.val (.scr ns)), some (.val (.int w)), some (.own (cs.map PV.int)), x] ∧ cs.length ≤ j ∧ w.natAbs < 2 ^ (1048576 * j)) _ 0 _ ⟨0, [], none, rfl, Nat.le_refl _, Nat.lt_of_lt_of_le Nat.zero_lt_one (Nat.one_le_two_pow)⟩ (fun j y ρ hy hI P' hrt hnx hct hbk => ?_) ?_
    · obtain ⟨w, cs, x, rfl, h4, h5⟩ := hI
      rw [Nat.zero_add] at h4 h5 hnx hct
      obtain ⟨c, hc, rfl⟩ := getI hy
      have hj : j < ns.length := by
        have := (List.getElem?_eq_some_iff.mp hy).1
        simpa using this
      have hcb := bits_lt (h2 c hc)
      refine ⟨rfl, ?_⟩
      refine iteB (fun _ => ?_) (fun h => by cases h)
      refine ⟨⟨by decide, by decide, by decide⟩, ?_⟩
      refine iteB (fun hge => ?_) (fun _ => ?_)
      · have hge : decide ((10 : Int) ^ (18 : Int).toNat ≤ c) = true := hge
        have hge := of_decide_eq_true hge
        have e18 : (10 : Int) ^ (18 : Int).toNat = 1000000000000000000 := by decide
        rw [e18] at hge
        refine ⟨⟨by decide, by decide, by decide⟩, ?_⟩
        refine ⟨mul_ok (a := 1048576 * j) (b := 1048576) h5 (by rw [e18]; omega) (by omega), ?_⟩
        refine ⟨⟨by decide, by decide, by decide⟩, ?_⟩
        refine ⟨OkW.lt (by rw [List.length_map]; omega), ?_⟩
        refine hnx _ ⟨w * (c - 10 ^ (18 : Int).toNat + 1) + (c - 10 ^ (18 : Int).toNat), cs ++ [c], _, by rw [List.map_append]; rfl, by rw [List.length_append]; show cs.length + 1 ≤ j + 1; omega, ?_⟩
        rw [e18, show 1048576 * (j + 1) = 1048576 * j + 1048576 by omega]
        exact grow_lt h5 hcb (by omega)
      · refine ⟨OkW.lt (by rw [List.length_map]; omega), ?_⟩
        refine hnx _ ⟨w, cs ++ [c], _, by rw [List.map_append]; rfl, by rw [List.length_append]; show cs.length + 1 ≤ j + 1; omega, ?_⟩
        exact Nat.lt_of_lt_of_le h5 (Nat.pow_le_pow_right (by decide) (by omega))
    · rintro ρ ⟨w, cs, x, rfl, h4, h5⟩
      exact ⟨cs, ints_map cs, by rw [List.length_map] at h4; omega, h3⟩
  · exact h.elim

def f_law_has_c2927a (Γ : String → Addr) : PSpec :=
  fun xs R _ => match xs with
  | [x, .int k] => isLotP x = true ∧ R (.bl (hasV x k))
  | _ => False
def t_law_has_c2927a (Γ : String → Addr) (Ep : PX → Prop) : PS' :=
  (sRet (pOrV (pOp (fIn false) (pVar 1) (pIxK 0 (pVar 0))) (pOp (fIn false) (pOp fMod (pCB gInt (aCons (pVar 1) aNil)) (pIxK 1 (pVar 0))) (pIxK 2 (pVar 0)))))
theorem v_law_has_c2927a (Γ : String → Addr) : ∀ (xs : List PV) (R : PK) (Ep : PX → Prop), xs.length = 2 → f_law_has_c2927a Γ xs R Ep → t_law_has_c2927a Γ Ep { nx := fun _ => R .non, rt := R } (pstart 2 xs) := by
  intro xs R Ep hl h
  unfold f_law_has_c2927a at h
  split at h
  · rename_i x k
    obtain ⟨h1, h2⟩ := h
    obtain ⟨ns, m, rs, rfl, hb⟩ := lot_of h1
    rw [hasV_mk] at h2
    have hm := lotB_pos hb
    unfold hasB at h2
    refine ⟨flat_ints _ _, ?_⟩
    rw [inP_ints]
    refine iteB (fun h => ?_) (fun h => ?_)
    · have h : (ns.any fun x => x == k) = true := h
      rw [h] at h2
      exact h2
    · have h : (ns.any fun x => x == k) = false := h
      rw [h, Bool.false_or] at h2
      refine ⟨hm, flat_ints _ _, ?_⟩
      rw [inP_ints]
      exact h2
  · exact h.elim

def f_law_power_in_baf757 (Γ : String → Addr) : PSpec :=
  fun xs R _ => match xs with
  | [.int p, .int x] => 2 ≤ p ∧ p < 4000 ∧ x ≠ 0 ∧ R (.int (vp p x))
  | _ => False
def t_law_power_in_baf757 (Γ : String → Addr) (Ep : PX → Prop) : PS' :=
  (sSeq (sAsg (pC (.int 0)) (.nm 2))
    (sSeq (sWhile (pBool (pOp fEq (pOp fMod (pCB gInt (aCons (pVar 1) aNil)) (pVar 0)) (pC (.int 0)))) (sPar 2 1 (aCons (pOp fAdd (pVar 2) (pC (.int 1))) (aCons (pOp fDiv (pVar 1) (pVar 0)) aNil))))
    (sRet (pVar 2))))
theorem v_law_power_in_baf757 (Γ : String → Addr) : ∀ (xs : List PV) (R : PK) (Ep : PX → Prop), xs.length = 2 → f_law_power_in_baf757 Γ xs R Ep → t_law_power_in_baf757 Γ Ep { nx := fun _ => R .non, rt := R } (pstart 3 xs) := by
  intro xs R Ep hl h
  unfold f_law_power_in_baf757 at h
  split at h
  · rename_i p x
    obtain ⟨h1, h2, h3, h4⟩ := h
    refine ⟨fun m ρ => ∃ (f : Nat) (y : Int), ρ = [some (.val (.int p)), some (.val (.int y)), some (.val (.int f))] ∧ y ≠ 0 ∧ f + vp p y = vp p x ∧ m = y.natAbs, ⟨_, 0, x, rfl, h3, Nat.zero_add _, rfl⟩, ?_⟩
    rintro m ρ ⟨f, y, rfl, h5, h6, rfl⟩
    refine ⟨by omega, ?_⟩
    refine iteB (fun h7 => ?_) (fun h7 => ?_)
    · have h7 : y % p = 0 := eq_of_beq (show (y % p == 0) = true from h7)
      obtain ⟨d1, d2⟩ := div_lt h1 h5 h7
      have e : p * (y / p) = y := by have := Int.mul_ediv_add_emod y p; omega
      have e2 := vp_mul h1 d1
      rw [e] at e2
      exact ⟨wide_div (b := 20) (by omega) (by omega) (by decide) (by decide), _, d2, f + 1, y / p, rfl, d1, by omega, rfl⟩
    · have h7 : y % p ≠ 0 := by
        have h7 : (y % p == 0) = false := h7
        simpa using h7
      rw [vp_no h7, Nat.add_zero] at h6
      rw [← h6] at h4
      exact h4
  · exact h.elim

def f_law_sample_849c60 (Γ : String → Addr) : PSpec :=
  fun xs R _ => match xs with
  | [x, .int n] => isLotP x = true ∧ 0 ≤ n ∧ n ≤ 61 ∧ ∀ (ns : List Int) (m : Int) (rs T : List Int), x = mkLot ns m rs → (∀ k, k ∈ T ↔ k ∈ ns ∨ (0 ≤ k ∧ k < m * n ∧ k % m ∈ rs)) → T.length ≤ 4000 → R (.lst (T.map PV.int))
  | _ => False
def t_law_sample_849c60 (Γ : String → Addr) (Ep : PX → Prop) : PS' :=
  (sRet (pOp fAdd (pCB gList (aCons (pIxK 0 (pVar 0)) aNil)) (pLc (.nm 2) [2] (iRange1 (aCons (pOp fMul (pIxK 1 (pVar 0)) (pVar 1)) aNil)) (pBool (pOp (fIn false) (pOp fMod (pCB gInt (aCons (pVar 2) aNil)) (pIxK 1 (pVar 0))) (pIxK 2 (pVar 0)))) (pVar 2))))
theorem v_law_sample_849c60 (Γ : String → Addr) : ∀ (xs : List PV) (R : PK) (Ep : PX → Prop), xs.length = 2 → f_law_sample_849c60 Γ xs R Ep → t_law_sample_849c60 Γ Ep { nx := fun _ => R .non, rt := R } (pstart 3 xs) := by
  intro xs R Ep hl h
  unfold f_law_sample_849c60 at h
  split at h
  · rename_i x n
    obtain ⟨hL, n0, n1, hR⟩ := h
    obtain ⟨ns, m, rs, rfl, hb⟩ := lot_of hL
    have hm := lotB_pos hb
    have h60 := lotB_m hb
    have hnl := lotB_len hb
    have b0 : 0 ≤ m * n := Int.mul_nonneg (by omega) (by omega)
    have b1 : m * n ≤ 60 * 61 := Int.mul_le_mul (by omega) (by omega) (by omega) (by omega)
    refine ⟨.of_left (intBits_le_64 (by omega) (by omega)), ⟨by omega, by omega⟩, ?_⟩
    obtain ⟨ks, hks, hkm⟩ := range_ints 0 (m * n)
    refine lcGo_map (keepI fun k => rs.any (· == k % m)) (mapI fun k => k) _ _ (fun y hy Q1 Q2 hq hq2 => ?_) ?_
    · obtain ⟨k, rfl, _⟩ := mem_rangeP hy
      refine ⟨hm, flat_ints _ _, ?_⟩
      rw [inP_ints]
      exact iteB hq hq2
    · have kl : ks.length = (m * n).toNat := by
        have := congrArg List.length hks
        rw [range_len, List.length_map] at this
        omega
      rw [hks, lc_ints]
      have fl : (ks.filter fun k => rs.any (· == k % m)).length ≤ ks.length := List.length_filter_le _ _
      refine ⟨OkW.line (by rw [List.length_map, List.length_map, List.length_map]; omega), ?_⟩
      rw [← List.map_append]
      refine hR ns m rs _ rfl (fun k => ?_) (by rw [List.length_append, List.length_map]; omega)
      rw [List.mem_append, List.map_id', List.mem_filter, hkm k]
      constructor
      · rintro (z | ⟨⟨z1, z2⟩, z3⟩)
        · exact .inl z
        · obtain ⟨r, hr, e⟩ := List.any_eq_true.mp z3
          exact .inr ⟨z1, z2, by rw [← eq_of_beq e]; exact hr⟩
      · rintro (z | ⟨z1, z2, z3⟩)
        · exact .inl z
        · exact .inr ⟨⟨z1, z2⟩, List.any_eq_true.mpr ⟨_, z3, beq_self_eq_true _⟩⟩
  · exact h.elim

def f_law_row_e2f1ce (Γ : String → Addr) : PSpec :=
  fun xs R _ => match xs with
  | [x, .int p, .int n] => isLotP x = true ∧ PrimeI p ∧ p < 4000 ∧ 0 ≤ n ∧ n ≤ 61 ∧ ∀ as vs, Gr p (SV' x) as vs → Full (SV' x) n.toNat as → R (.lst (rowP (pad n.toNat vs)))
  | _ => False
def t_law_row_e2f1ce (Γ : String → Addr) (Ep : PX → Prop) : PS' :=
  (sSeq (sPar3O 3 4 5 (pODict (pLc (.nm 9) [9] (iItems (pCall (f_law_sample_849c60 Γ) Ep (aCons (pVar 0) (aCons (pVar 2) aNil)))) cYes (pTup (aCons (pVar 9) (aCons (pC (.int 0)) aNil))))) (pOL aNil) (pVal (pLst aNil)))
    (sSeq (sFor (iRange1 (aCons (pVar 2) aNil)) (.nm 6) (sIf (tBor (pBool (pOp fEqD0 (pVar 3) (pC (.dic []))))) (sApp 4 (pC .non)) (sSeq (sAsg (pBor (pCB gMin1 (aCons (pVals (pVar 3)) aNil))) (.nm 7))
    (sSeq (sAsg (pIxK 0 (pLock 3 (pLc (.nm 9) [9] (iKey 3) (pBool (pOp fEq (pDIx 3 (pVar 9)) (pVar 7))) (pVar 9)))) (.nm 8))
    (sSeq (sApp 4 (pVar 7))
    (sSeq (sDPop 3 (pVar 8))
    (sSetO 3 (pODict (pLock 3 (pLc (.nm 9) [9] (iKey 3) cYes (pTup (aCons (pVar 9) (aCons (pOp fAdd (pDIx 3 (pVar 9)) (pCall (f_law_power_in_baf757 Γ) (fun _ => False) (aCons (pVar 1) (aCons (pOp fSub (pVar 9) (pVar 8)) aNil)))) aNil)))))))))))))
    (sFrz 4 (sRet (pVar 4)))))
theorem v_law_row_e2f1ce (Γ : String → Addr) : ∀ (xs : List PV) (R : PK) (Ep : PX → Prop), xs.length = 3 → f_law_row_e2f1ce Γ xs R Ep → t_law_row_e2f1ce Γ Ep { nx := fun _ => R .non, rt := R } (pstart 10 xs) := by
  intro xs R Ep hl h
  unfold f_law_row_e2f1ce at h
  split at h
  · rename_i x p n
    obtain ⟨hL, hp, p2, n0, n1, hR⟩ := h
    have pp := hp.1
    refine ⟨hL, n0, n1, fun ns m rs T ex hT hTl => ?_⟩
    subst ex
    have hb : lotB ns m rs = true := by rw [← isLotP_mk]; exact hL
    refine lcGo_map1 (fun y => .tup [y, .int 0]) _ _ (fun y hy Q1 hq => hq) ?_
    rw [List.nil_append, List.map_map]
    refine ⟨_, pairs_DK (fun _ => 0) T, ?_⟩
    obtain ⟨k0, e0, nd0, m0⟩ := DK_merge (f := fun _ => 0) T [] (by simp)
    rw [show ([] : List (Key × PV)) = DK (fun _ => 0) [] from rfl, e0]
    refine ⟨show 0 ≤ 100000 by decide, ?_⟩
    refine ⟨⟨by omega, by omega⟩, ?_⟩
    have inT : ∀ {ks : List Int}, ks.Nodup → (∀ k ∈ ks, k ∈ T) → ks.length ≤ 4000 := fun {ks} a b => Nat.le_trans (sub_len a b) hTl
    refine forGo_inv (fun j ρ => ∃ (as : List Int) (vs : List Nat) (ks : List Int) (a5 a6 a7 a8 : Option SV), ρ = [some (.val (mkLot ns m rs)), some (.val (.int p)), some (.val (.int n)), some (.ownD (DK (fun k => (V p as k : Nat)) ks)), some (.own (rowP (pad j vs))), a5, a6, a7, a8, none] ∧
      Gr p (fun k => k ∈ T) as vs ∧ ks.Nodup ∧ (∀ k, k ∈ ks ↔ k ∈ T ∧ k ∉ as) ∧ (as.length = j ∨ (as.length ≤ j ∧ ks = []))) _ 0 _ ⟨[], [], k0, _, _, _, _, rfl, .nil, nd0, fun k => ?_, .inl rfl⟩ (fun j y ρ hy hI P' hrt hnx hct hbk => ?_) ?_
    · rw [m0 k]
      simp
    · obtain ⟨as, vs, ks, a5, a6, a7, a8, rfl, hg, nd, mk, hj⟩ := hI
      rw [Nat.zero_add] at hnx hj ⊢
      have gl := hg.len
      have jn : j < n.toNat := by
        have := (List.getElem?_eq_some_iff.mp hy).1
        rw [range_len] at this
        omega
      have fl : (rowP (pad j vs)).length ≤ 100 := by
        unfold rowP pad
        rw [List.length_map, List.length_append, List.length_map, List.length_replicate]
        omega
      have k4 := inT nd fun k hk => ((mk k).mp hk).1
      refine iteB (fun he => ?_) (fun he => ?_)
      · have he : (DK (fun k => ((V p as k : Nat) : Int)) ks).isEmpty = true := he
        rw [DK_empty] at he
        have he : ks = [] := by simpa using he
        refine ⟨OkW.lt (by omega), hnx _ ⟨as, vs, ks, a5, some (.val y), a7, a8, ?_, hg, nd, mk, .inr ⟨by omega, he⟩⟩⟩
        rw [pad_none (by omega)]
        unfold rowP
        rw [List.map_append]
        rfl
      · have he : (DK (fun k => ((V p as k : Nat) : Int)) ks).isEmpty = false := he
        rw [DK_empty] at he
        have hne : ks ≠ [] := fun z => by rw [z] at he; cases he
        have aj : as.length = j := by
          rcases hj with z | ⟨_, z⟩
          · exact z
          · exact absurd z hne
        show ∃ bs, ints? ((DK (fun k => ((V p as k : Nat) : Int)) ks).map (·.2)) = some bs ∧ _
        rw [DK_vals]
        refine ⟨_, ints_map _, by rw [List.length_map]; exact List.length_pos_iff.mpr hne, fun mi hm1 hm2 => ⟨rfl, ?_⟩⟩
        obtain ⟨t0, ht0, rfl⟩ := List.mem_map.mp hm1
        have mn : ∀ y ∈ ks, V p as t0 ≤ V p as y := fun y hy => by
          have := hm2 _ (List.mem_map.mpr ⟨y, hy, rfl⟩)
          omega
        refine ⟨by unfold DK; rw [List.length_map]; omega, ?_⟩
        rw [DK_keys]
        refine lcGo_map (keepI fun k => ((V p as k : Nat) : Int) == ((V p as t0 : Nat) : Int)) (mapI fun k => k) _ _ (fun y hy Q1 Q2 hq hq2 => ?_) ?_
        · obtain ⟨k, hk, rfl⟩ := List.mem_map.mp hy
          refine ⟨_, DK_val hk, ?_⟩
          exact iteB hq hq2
        · rw [lc_ints, List.map_id']
          have tm : t0 ∈ ks.filter fun k => ((V p as k : Nat) : Int) == ((V p as t0 : Nat) : Int) := List.mem_filter.mpr ⟨ht0, beq_self_eq_true _⟩
          generalize hfl : (ks.filter fun k => ((V p as k : Nat) : Int) == ((V p as t0 : Nat) : Int)) = fs at tm
          cases fs with
          | nil => cases tm
          | cons t fs =>
            have ht := List.mem_filter.mp (show t ∈ ks.filter fun k => ((V p as k : Nat) : Int) == ((V p as t0 : Nat) : Int) by rw [hfl]; exact List.mem_cons_self)
            have et : V p as t = V p as t0 := by
              have := eq_of_beq ht.2
              omega
            have tk := (mk t).mp ht.1
            refine ⟨OkW.lt (by omega), ?_⟩
            refine ⟨⟨_, DK_val ht.1⟩, ?_⟩
            rw [DK_drop]
            refine ⟨by unfold DK; rw [List.length_map]; have : (ks.filter fun a => !decide (a = t)).length ≤ ks.length := List.length_filter_le _ _; omega, ?_⟩
            rw [DK_keys]
            have nd2 : (ks.filter fun a => !decide (a = t)).Nodup := nd.filter _
            have mk2 : ∀ k, k ∈ (ks.filter fun a => !decide (a = t)) ↔ k ∈ T ∧ k ∉ as ++ [t] := fun k => by
              rw [List.mem_filter, mk k, List.mem_append, List.mem_singleton]
              simp only [Bool.not_eq_true', decide_eq_false_iff_not, not_or]
              exact ⟨fun z => ⟨z.1.1, z.1.2, z.2⟩, fun z => ⟨⟨z.1, z.2.1⟩, z.2.2⟩⟩
            have vk : ∀ k, (((V p as k : Nat) : Int) + (vp p (k - t) : Nat)) = ((V p (as ++ [t]) k : Nat) : Int) := fun k => by
              rw [V_append]
              show _ = ((V p as k + (vp p (k - t) + 0) : Nat) : Int)
              omega
            refine lcGo_map1 (mapT (fun k => ((V p (as ++ [t]) k : Nat) : Int))) _ _ (fun y hy Q1 hq => ?_) ?_
            · obtain ⟨k, hk, rfl⟩ := List.mem_map.mp hy
              have hk2 := (mk2 k).mp hk
              refine ⟨_, DK_val hk, pp, p2, ?_, ?_⟩
              · intro z
                exact hk2.2 (List.mem_append.mpr (.inr (List.mem_singleton.mpr (by omega))))
              · have q : Q1 (.tup [.int k, .int (((V p as k : Nat) : Int) + (vp p (k - t) : Nat))]) := by
                  rw [vk]
                  exact hq
                exact q
            · rw [List.nil_append, List.map_map]
              refine ⟨_, pairs_DK (fun k => ((V p (as ++ [t]) k : Nat) : Int)) _, ?_⟩
              obtain ⟨k2, e2, nd3, m3⟩ := DK_merge (f := fun k => ((V p (as ++ [t]) k : Nat) : Int)) (ks.filter fun a => !decide (a = t)) [] (by simp)
              rw [show ([] : List (Key × PV)) = DK (fun k => ((V p (as ++ [t]) k : Nat) : Int)) [] from rfl, e2]
              refine hnx _ ⟨as ++ [t], vs ++ [V p as t], k2, a5, some (.val y), some (.val (.int ((V p as t0 : Nat) : Int))), some (.val (.int t)), ?_, hg.snoc tk.1 tk.2 (fun y hy hyn => by rw [et]; exact mn y ((mk y).mpr ⟨hy, hyn⟩)), nd3, fun k => ?_, .inl (by rw [List.length_append, aj]; rfl)⟩
              · rw [pad_full (by omega), ← et]
                unfold rowP
                rw [List.map_append]
                rfl
              · rw [m3 k, ← mk2 k]
                simp
    · rintro ρ ⟨as, vs, ks, a5, a6, a7, a8, rfl, hg, nd, mk, hj⟩
      rw [Nat.zero_add, range_len] at hj ⊢
      have en : (n - 0).toNat = n.toNat := by omega
      rw [en] at hj ⊢
      have smp := smp_lot (n := n.toNat) hb fun k => by
        rw [hT k, show ((n.toNat : Nat) : Int) = n by omega]
      have al : as.length ≤ n.toNat := by rcases hj with z | ⟨z, _⟩ <;> omega
      refine hR as vs (smp.gr hp hg al) (smp.full ?_)
      rcases hj with z | ⟨z, e⟩
      · exact .inl z
      · refine .inr ⟨z, fun k hk => ?_⟩
        by_cases c : k ∈ as
        · exact c
        · have := (mk k).mpr ⟨hk, c⟩
          rw [e] at this
          cases this
  · exact h.elim

def f_law_first_order_f43384 (Γ : String → Addr) : PSpec :=
  fun xs R _ => match xs with
  | [x, .int p, .int n] => isLotP x = true ∧ PrimeI p ∧ p < 2000 ∧ 0 ≤ n ∧ n ≤ 60 ∧ ∀ l ts, IsRow p (SV' x) n.toNat l → NLs (SV' x) p [] l ts → R (.tup (ts.map PV.int))
  | _ => False
def t_law_first_order_f43384 (Γ : String → Addr) (Ep : PX → Prop) : PS' :=
  (sSeq (sAsg (pLst aNil) (.nm 3))
    (sSeq (sFor (iItems (pCall (f_law_row_e2f1ce Γ) Ep (aCons (pVar 0) (aCons (pVar 1) (aCons (pVar 2) aNil))))) (.nm 4) (sSeq (sAsg (pTup (aCons (pC .non) (aCons (pC (.int 0)) aNil))) (.tp [5, 6]))
    (sSeq (sWhile (pAnd (pBool (pOp fNotN (pVar 4) (pC .non))) (pBool (pOp fIsN (pVar 5) (pC .non)))) (sSeq (sAsg (pLc (.nm 9) [9] (iItems (pLst (aCons (pVar 6) (aCons (pOp fSub (pC (.int 0)) (pVar 6)) aNil)))) (pAnd (pBool (pOp (fIn true) (pVar 9) (pVar 3))) (pBool (pCall (f_law_has_c2927a Γ) (fun _ => False) (aCons (pVar 0) (aCons (pVar 9) aNil))))) (pVar 9)) (.nm 7))
    (sSeq (sAsg (pLc (.nm 9) [9] (iItems (pVar 7)) (pBool (pOp fEq (pCB gSum (aCons (pLc (.nm 10) [10] (iItems (pVar 3)) cYes (pCall (f_law_power_in_baf757 Γ) (fun _ => False) (aCons (pVar 1) (aCons (pOp fSub (pVar 9) (pVar 10)) aNil)))) aNil)) (pVar 4))) (pVar 9)) (.nm 8))
    (sSeq (sPar 5 6 (aCons (pIf (pBool (pOp fNe (pVar 8) (pLst aNil))) (pIxK 0 (pVar 8)) (pC .non)) (aCons (pOp fAdd (pVar 6) (pC (.int 1))) aNil)))
    (sIf (pBool (pOp fGt (pVar 6) (pC (.int 5000)))) (sRet (pC .non)) sNext)))))
    (sAsg (pOp fAdd (pVar 3) (pIf (pBool (pOp fNotN (pVar 5) (pC .non))) (pLst (aCons (pVar 5) aNil)) (pLst aNil))) (.nm 3)))))
    (sRet (pCB gTuple (aCons (pVar 3) aNil)))))
theorem v_law_first_order_f43384 (Γ : String → Addr) : ∀ (xs : List PV) (R : PK) (Ep : PX → Prop), xs.length = 3 → f_law_first_order_f43384 Γ xs R Ep → t_law_first_order_f43384 Γ Ep { nx := fun _ => R .non, rt := R } (pstart 11 xs) := by
  intro xs R Ep hl h
  unfold f_law_first_order_f43384 at h
  split at h
  · rename_i x p n
    obtain ⟨hL, hp, p2, n0, n1, hR⟩ := h
    have pp := hp.1
    refine ⟨hL, hp, by omega, n0, by omega, fun as0 ws hg0 hf0 => ?_⟩
    obtain ⟨l, hl⟩ := row_ex n.toNat hL hp
    have el : l = pad n.toNat ws := hl _ _ hg0 hf0
    subst el
    have hll := hl.len
    have hw : ws.length ≤ n.toNat := by
      have := hg0.len
      rcases hf0 with z | ⟨z, _⟩ <;> omega
    refine forGo_inv (fun j ρ => ∃ (as : List Int) (vs : List Nat) (a4 a5 a6 a7 a8 : Option SV), ρ = [some (.val x), some (.val (.int p)), some (.val (.int n)), some (.val (.lst (as.map PV.int))), a4, a5, a6, a7, a8, none, none] ∧ Gr p (SV' x) as vs ∧ as.length = min j ws.length ∧
      ∀ ts, NLs (SV' x) p as ((pad n.toNat ws).drop j) ts → NLs (SV' x) p [] (pad n.toNat ws) (as ++ ts)) _ 0 _ ⟨[], [], none, none, none, none, none, rfl, .nil, (Nat.zero_min _).symm, fun ts h => h⟩ (fun j y ρ hy hI P' hrt hnx hct hbk => ?_) ?_
    · obtain ⟨as, vs, a4, a5, a6, a7, a8, rfl, hg, hal, hts⟩ := hI
      rw [Nat.zero_add] at hnx hal hts
      unfold rowP at hy
      rw [List.getElem?_map] at hy
      obtain ⟨o, ho, rfl⟩ := Option.map_eq_some_iff.mp hy
      have jl := (List.getElem?_eq_some_iff.mp ho).1
      have dr : (pad n.toNat ws).drop j = o :: (pad n.toNat ws).drop (j + 1) := by
        rw [List.drop_eq_getElem_cons jl]
        rw [List.getElem?_eq_getElem jl] at ho
        rw [Option.some.inj ho]
      rw [dr] at hts
      have jn : j < 60 := by omega
      cases o with
      | none =>
        have := pad_non ho
        refine ⟨fun m ρ => ρ = [some (.val x), some (.val (.int p)), some (.val (.int n)), some (.val (.lst (as.map PV.int))), some (.val .non), some (.val .non), some (.val (.int 0)), a7, a8, none, none], ⟨0, rfl⟩, ?_⟩
        rintro m ρ rfl
        refine ⟨OkW.line (by rw [List.length_map]; show as.length + 0 ≤ 100000; omega), hnx _ ⟨as, vs, some (.val .non), some (.val .non), some (.val (.int 0)), a7, a8, ?_, hg, by omega, fun ts h => hts ts h⟩⟩
        show [_, _, _, some (SV.val (.lst (as.map PV.int ++ []))), _, _, _, _, _, _, _] = _
        rw [List.append_nil]
      | some v =>
        obtain ⟨jw, _⟩ := pad_some ho
        have aj : as.length = j := by omega
        obtain ⟨r1, r2⟩ := row_next hl hg (by rw [aj]; exact ho)
        obtain ⟨y0, y1, y2, y3, y4⟩ := near_bd hL hp (n := n.toNat) (by omega) hg (by omega) r1 r2
        refine ⟨fun m ρ => ∃ (f : Nat) (o : Option Int) (a7 a8 : Option SV), ρ = [some (.val x), some (.val (.int p)), some (.val (.int n)), some (.val (.lst (as.map PV.int))), some (.val (.int (v : Int))), some (.val (match o with | some t => PV.int t | none => PV.non)), some (.val (.int (f : Int))), a7, a8, none, none] ∧
          (match o with
            | some t => Nr (SV' x) p as v t ∧ m = 0
            | none => (∀ y, SV' x y → y ∉ as → V p as y = v → f ≤ y.natAbs) ∧ m = y0.natAbs + 1 - f + 1), ⟨_, 0, none, a7, a8, rfl, fun _ _ _ _ => Nat.zero_le _, rfl⟩, ?_⟩
        rintro m ρ ⟨f, o, a7, a8, rfl, ho⟩
        cases o with
        | some t =>
          obtain ⟨nr, _⟩ := ho
          refine ⟨OkW.line (by rw [List.length_map]; show as.length + 1 ≤ 100000; omega), hnx _ ⟨as ++ [t], vs ++ [V p as t], some (.val (.int (v : Int))), some (.val (.int t)), some (.val (.int (f : Int))), a7, a8, ?_, hg.snoc nr.1.1 nr.1.2.1 (fun y hy hyn => by rw [nr.1.2.2]; exact r2 y hy hyn), by rw [List.length_append, List.length_singleton]; omega, fun ts h => ?_⟩⟩
          · rw [List.map_append]
            rfl
          · have := hts (t :: ts) ⟨t, ts, rfl, nr, h⟩
            rw [List.append_assoc]
            exact this
        | none =>
          obtain ⟨hn, rfl⟩ := ho
          have fy := hn y0 y1 y2 y3
          have hin : ∀ k : Int, inP (.int k) (as.map PV.int) = as.contains k := fun k => by
            rw [inP_ints]
            have key : ∀ a b : Bool, (a = true ↔ b = true) → a = b := fun a b z => by cases a <;> cases b <;> simp at z ⊢
            refine key _ _ ?_
            rw [List.any_eq_true, List.contains_iff_mem]
            exact ⟨fun ⟨w, w1, w2⟩ => by rw [← eq_of_beq w2]; exact w1, fun z => ⟨k, z, beq_self_eq_true _⟩⟩
          refine lcGo_map (keepI fun k => !as.contains k && hasV x k) (mapI fun k => k) _ _ (fun y hy Q1 Q2 hq hq2 => ?_) ?_
          · have hy : y = .int (f : Int) ∨ y = .int (0 - (f : Int)) := by simpa using hy
            obtain ⟨k, rfl⟩ : ∃ k, y = .int k := by
              rcases hy with rfl | rfl <;> exact ⟨_, rfl⟩
            refine ⟨flat_ints _ _, ?_⟩
            rw [hin]
            refine iteB (fun h5 => ⟨hL, ?_⟩) (fun h5 => hq2 ?_)
            · refine iteB (fun h6 => hq ?_) (fun h6 => hq2 ?_)
              · have h5 : (!as.contains k) = true := h5
                have h6 : hasV x k = true := h6
                show (!as.contains k && hasV x k) = true
                rw [h5, h6]
                rfl
              · have h6 : hasV x k = false := h6
                show (!as.contains k && hasV x k) = false
                rw [h6, Bool.and_false]
            · have h5 : (!as.contains k) = false := h5
              show (!as.contains k && hasV x k) = false
              rw [h5, Bool.false_and]
          · have e0 : ([PV.int (f : Int), PV.int (0 - (f : Int))] : List PV) = [(f : Int), 0 - (f : Int)].map PV.int := rfl
            rw [e0, lc_ints, List.map_id']
            have n2 : ∀ k ∈ [(f : Int), 0 - (f : Int)].filter (fun k => !as.contains k && hasV x k), k ∉ as := fun k hk => by
              have z := (List.mem_filter.mp hk).2
              rw [Bool.and_eq_true] at z
              rw [← List.contains_iff_mem]
              simpa using z.1
            refine lcGo_map (keepI fun k => ((V p as k : Nat) : Int) == (v : Int)) (mapI fun k => k) _ _ (fun y hy Q1 Q2 hq hq2 => ?_) ?_
            · obtain ⟨k, hk, rfl⟩ := List.mem_map.mp hy
              refine lcGo_map1 (mapI fun a => ((vp p (k - a) : Nat) : Int)) _ _ (fun y hy Q1 hq => ?_) ?_
              · obtain ⟨a, ha, rfl⟩ := List.mem_map.mp hy
                exact ⟨pp, by omega, fun z => n2 k hk (by rw [show k = a by omega]; exact ha), hq⟩
              · rw [lc_ints1]
                refine ⟨_, ints_map _, ?_⟩
                rw [V_sum]
                exact iteB hq hq2
            · rw [lc_ints, List.map_id', List.filter_filter]
              have cnd : ∀ k : Int, ((((V p as k : Nat) : Int) == (v : Int)) && (!as.contains k && hasV x k)) = true ↔ SV' x k ∧ k ∉ as ∧ V p as k = v := fun k => by
                rw [Bool.and_eq_true, Bool.and_eq_true, beq_iff_eq, Bool.not_eq_true', ← Bool.not_eq_true, List.contains_iff_mem]
                exact ⟨fun z => ⟨z.2.2, z.2.1, by omega⟩, fun z => ⟨by omega, z.2.1, z.1⟩⟩
              have z0 : (0 : Int) - (f : Int) = -(f : Int) := by omega
              rw [z0]
              by_cases c1 : SV' x (f : Int) ∧ (f : Int) ∉ as ∧ V p as (f : Int) = v
              · have nr : Nr (SV' x) p as v (f : Int) := ⟨c1, fun y a b c => ⟨by have := hn y a b c; omega, fun _ => .inl (by omega)⟩⟩
                obtain ⟨r, er⟩ := two1 (f := fun k : Int => ((V p as k : Nat) : Int) == (v : Int) && (!as.contains k && hasV x k)) (a := (f : Int)) (b := -(f : Int)) ((cnd _).mpr c1)
                rw [er]
                refine ⟨dat_ints ((f : Int) :: r), dat_nil, ?_⟩
                rw [lst_empty]
                refine iteB (fun _ => ?_) (fun z => by cases z)
                refine iteB (fun h => absurd (of_decide_eq_true h) (by omega)) (fun _ => ?_)
                exact ⟨0, by omega, f + 1, some (f : Int), _, _, rfl, nr, rfl⟩
              · have n1 := fun z => c1 ((cnd (f : Int)).mp z)
                by_cases c2 : SV' x (-(f : Int)) ∧ -(f : Int) ∉ as ∧ V p as (-(f : Int)) = v
                · have nr : Nr (SV' x) p as v (-(f : Int)) := ⟨c2, fun y a b c => ⟨by have := hn y a b c; omega, fun e => by
                    rcases (show y = (f : Int) ∨ y = -(f : Int) by omega) with z | z
                    · exact absurd (by rw [← z]; exact ⟨a, b, c⟩) c1
                    · exact .inr z⟩⟩
                  rw [two2 (f := fun k : Int => ((V p as k : Nat) : Int) == (v : Int) && (!as.contains k && hasV x k)) (a := (f : Int)) (b := -(f : Int)) n1 ((cnd _).mpr c2)]
                  refine ⟨dat_ints [-(f : Int)], dat_nil, ?_⟩
                  rw [lst_empty]
                  refine iteB (fun _ => ?_) (fun z => by cases z)
                  refine iteB (fun h => absurd (of_decide_eq_true h) (by omega)) (fun _ => ?_)
                  exact ⟨0, by omega, f + 1, some (-(f : Int)), _, _, rfl, nr, rfl⟩
                · have ne : ∀ y, SV' x y → y ∉ as → V p as y = v → f + 1 ≤ y.natAbs := fun y a b c => by
                    have := hn y a b c
                    rcases Nat.lt_or_ge f y.natAbs with z | z
                    · exact z
                    · exfalso
                      rcases (show y = (f : Int) ∨ y = -(f : Int) by omega) with z | z
                      · exact c1 (by rw [← z]; exact ⟨a, b, c⟩)
                      · exact c2 (by rw [← z]; exact ⟨a, b, c⟩)
                  have := ne y0 y1 y2 y3
                  rw [two3 (f := fun k : Int => ((V p as k : Nat) : Int) == (v : Int) && (!as.contains k && hasV x k)) (a := (f : Int)) (b := -(f : Int)) n1 (fun z => c2 ((cnd _).mp z))]
                  refine ⟨dat_ints [], dat_nil, ?_⟩
                  rw [lst_empty]
                  refine iteB (fun z => by cases z) (fun _ => ?_)
                  refine iteB (fun h => absurd (of_decide_eq_true h) (by omega)) (fun _ => ?_)
                  exact ⟨_, by omega, f + 1, none, _, _, rfl, ne, rfl⟩
    · rintro ρ ⟨as, vs, a4, a5, a6, a7, a8, rfl, hg, hal, hts⟩
      have e : (rowP (pad n.toNat ws)).length = (pad n.toNat ws).length := by unfold rowP; rw [List.length_map]
      rw [Nat.zero_add, e, List.drop_length] at hts
      have z := hts [] rfl
      rw [List.append_nil] at z
      exact hR _ _ hl z
  · exact h.elim

def f_law_mixed_a4126b (Γ : String → Addr) : PSpec :=
  fun xs R _ => match xs with
  | [.drw] => ∀ i : Int, R (.int i)
  | _ => False
def t_law_mixed_a4126b (Γ : String → Addr) (Ep : PX → Prop) : PS' :=
  (sSeq (sDrw 0 (pOp fAdd (pDrw 0 .count) (pC (.int 1))))
    (sSeq (sAsg (pOp fAdd (pC (.int 1469598103934665603)) (pOp fMul (pC (.int 97)) (pDrw 0 .count))) (.nm 1))
    (sSeq (sFor (iItems (pOp fCelAdd (pDrw 0 .cells) (pLst (aCons (pDrw 0 .count) aNil)))) (.nm 2) (sSeq (sAsg (pOp fMod (pCB gInt (aCons (pOp fMul (pOp fAdd (pVar 1) (pVar 2)) (pC (.int 1099511628211))) aNil)) (pOp fSub (pOp fPow (pC (.int 2)) (pC (.int 61))) (pC (.int 1)))) (.nm 1))
    (sAsg (pOp fAdd (pVar 1) (pOp fDiv (pVar 1) (pOp fPow (pC (.int 2)) (pC (.int 17))))) (.nm 1))))
    (sRet (pVar 1)))))
theorem v_law_mixed_a4126b (Γ : String → Addr) : ∀ (xs : List PV) (R : PK) (Ep : PX → Prop), xs.length = 1 → f_law_mixed_a4126b Γ xs R Ep → t_law_mixed_a4126b Γ Ep { nx := fun _ => R .non, rt := R } (pstart 3 xs) := by
  intro xs R Ep hl h
  unfold f_law_mixed_a4126b at h
  split at h
  · intro w
    intro w2
    refine ⟨.of_left (by decide), ?_⟩
    intro w3
    refine ⟨show 1 ≤ 1000 by decide, fun ns => ?_⟩
    refine forGo_inv (fun j ρ => ∃ (f : Int) (x : Option SV), ρ = [some (.val .drw), some (.val (.int f)), x]) _ 0 _ ⟨_, _, rfl⟩ (fun j y ρ hy hI P' hrt hnx hct hbk => ?_) ?_
    · obtain ⟨f, x, rfl⟩ := hI
      obtain ⟨c, rfl⟩ := getI1 hy
      refine ⟨.of_right (by decide), ?_⟩
      refine ⟨⟨by decide, by decide, by decide⟩, ?_⟩
      refine ⟨by decide, ?_⟩
      refine ⟨⟨by decide, by decide, by decide⟩, ?_⟩
      refine ⟨wide_div (b := 20) (by decide) (by decide) (by decide) (by decide), ?_⟩
      exact hnx _ ⟨_, _, rfl⟩
    · rintro ρ ⟨f, x, rfl⟩
      exact h f
  · exact h.elim

def f_law_take_18ca62 (Γ : String → Addr) : PSpec :=
  fun xs R _ => match xs with
  | [.drw, .int n] => n ≤ 2 ^ 50 ∧ ∀ k : Int, 0 ≤ k → (k < n ∨ k = 0) → R (.int k)
  | _ => False
def t_law_take_18ca62 (Γ : String → Addr) (Ep : PX → Prop) : PS' :=
  (sSeq (sIf (pBool (pOp fLt (pVar 1) (pC (.int 2)))) (sRet (pC (.int 0))) sNext)
    (sSeq (sIf (pBool (pOp fGt (pDrw 0 .whole) (pC (.int 0)))) (sSeq (sAsg (pOp fMod (pCB gInt (aCons (pDrw 0 .whole) aNil)) (pVar 1)) (.nm 2))
    (sSeq (sDrw 0 (pOp fDiv (pDrw 0 .whole) (pVar 1)))
    (sRet (pVar 2)))) sNext)
    (sSeq (sAsg (pCall (f_law_mixed_a4126b Γ) Ep (aCons (pVar 0) aNil)) (.nm 2))
    (sSeq (sWhile (pAnd (pBool (pOp fGt (pVar 1) (pOp fPow (pC (.int 2)) (pC (.int 50))))) (pBool (pOp fLt (pVar 2) (pOp fMul (pVar 1) (pVar 1))))) (sAsg (pOp fAdd (pOp fMul (pVar 2) (pOp fPow (pC (.int 2)) (pC (.int 61)))) (pCall (f_law_mixed_a4126b Γ) Ep (aCons (pVar 0) aNil))) (.nm 2)))
    (sRet (pOp fMod (pCB gInt (aCons (pOp fDiv (pVar 2) (pC (.int 1024))) aNil)) (pVar 1)))))))
theorem v_law_take_18ca62 (Γ : String → Addr) : ∀ (xs : List PV) (R : PK) (Ep : PX → Prop), xs.length = 2 → f_law_take_18ca62 Γ xs R Ep → t_law_take_18ca62 Γ Ep { nx := fun _ => R .non, rt := R } (pstart 3 xs) := by
  intro xs R Ep hl h
  unfold f_law_take_18ca62 at h
  split at h
  · rename_i n
    obtain ⟨h1, h2⟩ := h
    refine iteB (fun _ => h2 0 (Int.le_refl _) (.inr rfl)) (fun h => ?_)
    have h : decide (n < 2) = false := h
    have h := of_decide_eq_false h
    have hn : 0 < n := by omega
    have hm : ∀ w : Int, R (.int (w % n)) := fun w => h2 _ (Int.emod_nonneg _ (by omega)) (.inl (Int.emod_lt_of_pos _ hn))
    have hd : CDivW 0 n := wide_div hn (b := 51) (by omega) (by decide) (by decide)
    intro w
    refine iteB (fun _ => ?_) (fun _ => ?_)
    · intro w2
      refine ⟨hn, ?_⟩
      intro w3
      exact ⟨hd, hm _⟩
    · intro i
      refine ⟨fun m ρ => ∃ f : Int, ρ = [some (.val .drw), some (.val (.int n)), some (.val (.int f))], ⟨0, i, rfl⟩, ?_⟩
      rintro m ρ ⟨f, rfl⟩
      refine ⟨⟨by decide, by decide, by decide⟩, ?_⟩
      refine iteB (fun h5 => ?_) (fun _ => ?_)
      · have h5 : decide ((2 : Int) ^ (50 : Int).toNat < n) = true := h5
        have h5 := of_decide_eq_true h5
        have e : (2 : Int) ^ (50 : Int).toNat = 1125899906842624 := by decide
        rw [e] at h5
        omega
      · refine iteB (fun h => by cases h) (fun _ => ?_)
        refine ⟨wide_div (b := 20) (by decide) (by decide) (by decide) (by decide), ?_⟩
        exact ⟨hn, hm _⟩
  · exact h.elim

def f_law_pick_79bebb (Γ : String → Addr) : PSpec :=
  fun xs R _ => match xs with
  | [.drw, .lst ys] => ys ≠ [] ∧ ys.length ≤ 100000 ∧ ∀ y ∈ ys, R y
  | [.drw, .tup ys] => ys ≠ [] ∧ ys.length ≤ 100000 ∧ ∀ y ∈ ys, R y
  | _ => False
def t_law_pick_79bebb (Γ : String → Addr) (Ep : PX → Prop) : PS' :=
  (sRet (pOp fIx (pVar 1) (pCall (f_law_take_18ca62 Γ) Ep (aCons (pVar 0) (aCons (pCB gLen (aCons (pVar 1) aNil)) aNil)))))
theorem v_law_pick_79bebb (Γ : String → Addr) : ∀ (xs : List PV) (R : PK) (Ep : PX → Prop), xs.length = 2 → f_law_pick_79bebb Γ xs R Ep → t_law_pick_79bebb Γ Ep { nx := fun _ => R .non, rt := R } (pstart 2 xs) := by
  intro xs R Ep hl h
  unfold f_law_pick_79bebb at h
  split at h
  · rename_i ys
    obtain ⟨h1, h2, h3⟩ := h
    have hp : 0 < ys.length := List.length_pos_iff.mpr h1
    refine ⟨by omega, fun k h0 hk => ?_⟩
    obtain ⟨v, e1, e2⟩ := atI_in (xs := ys) h0 (by omega)
    exact ⟨v, e1, h3 v e2⟩
  · rename_i ys
    obtain ⟨h1, h2, h3⟩ := h
    have hp : 0 < ys.length := List.length_pos_iff.mpr h1
    refine ⟨by omega, fun k h0 hk => ?_⟩
    obtain ⟨v, e1, e2⟩ := atI_in (xs := ys) h0 (by omega)
    exact ⟨v, e1, h3 v e2⟩
  · exact h.elim

def f_law_endless_lot_fa60ba (Γ : String → Addr) : PSpec :=
  fun xs R _ => match xs with
  | [.drw, .int n] => 1 ≤ n ∧ n ≤ 60 ∧ ∀ ns m rs, lotB ns m rs = true → m ≤ n → rs ≠ [] → R (mkLot ns m rs)
  | _ => False
def t_law_endless_lot_fa60ba (Γ : String → Addr) (Ep : PX → Prop) : PS' :=
  (sSeq (sAsg (pOp fAdd (pC (.int 1)) (pCall (f_law_take_18ca62 Γ) Ep (aCons (pVar 0) (aCons (pVar 1) aNil)))) (.nm 2))
    (sSeq (sAsg (pSortSt (pLc (.nm 5) [5] (iRange1 (aCons (pOp fAdd (pC (.int 1)) (pCall (f_law_take_18ca62 Γ) Ep (aCons (pVar 0) (aCons (pC (.int 3)) aNil)))) aNil)) cYes (pCall (f_law_take_18ca62 Γ) (fun _ => False) (aCons (pVar 0) (aCons (pVar 2) aNil))))) (.nm 3))
    (sSeq (sAsg (pLc (.nm 5) [5] (iRange1 (aCons (pCall (f_law_pick_79bebb Γ) Ep (aCons (pVar 0) (aCons (pLst (aCons (pC (.int 0)) (aCons (pC (.int 0)) (aCons (pC (.int 1)) (aCons (pC (.int 3)) aNil))))) aNil))) aNil)) cYes (pOp fSub (pCall (f_law_take_18ca62 Γ) (fun _ => False) (aCons (pVar 0) (aCons (pC (.int 61)) aNil))) (pC (.int 30)))) (.nm 4))
    (sRet (pTup (aCons (pCB gTuple (aCons (pLc (.nm 6) [6] (iItems (pSortSt (pVar 4))) (pBool (pOp (fIn true) (pOp fMod (pCB gInt (aCons (pVar 6) aNil)) (pVar 2)) (pVar 3))) (pVar 6)) aNil)) (aCons (pVar 2) (aCons (pCB gTuple (aCons (pVar 3) aNil)) aNil))))))))
theorem v_law_endless_lot_fa60ba (Γ : String → Addr) : ∀ (xs : List PV) (R : PK) (Ep : PX → Prop), xs.length = 2 → f_law_endless_lot_fa60ba Γ xs R Ep → t_law_endless_lot_fa60ba Γ Ep { nx := fun _ => R .non, rt := R } (pstart 7 xs) := by
  intro xs R Ep hl h
  unfold f_law_endless_lot_fa60ba at h
  split at h
  · rename_i n
    obtain ⟨h1, h2, h3⟩ := h
    refine ⟨by omega, fun k h0 hk => ?_⟩
    refine ⟨by decide, fun w hw0 hw => ?_⟩
    refine ⟨⟨by omega, by omega⟩, ?_⟩
    refine lcGo_each (A := fun _ v => ∃ i : Int, v = .int i ∧ 0 ≤ i ∧ i ≤ k) _ _ (fun y hy Q1 hq => ?_) (fun l e ha => ?_)
    · exact ⟨by omega, fun t ht0 ht => hq _ ⟨_, rfl, by omega, by omega⟩⟩
    · obtain ⟨ms, rfl, hms⟩ := pints_of fun v hv => let ⟨_, _, z⟩ := ha v hv; z
      have e1 : (rangeP 0 (1 + w)).length = (1 + w).toNat := by simp [rangeP]
      rw [List.length_map, e1] at e
      refine ⟨ms, by rw [List.nil_append]; exact ints_map ms, by omega, ?_⟩
      refine ⟨by simp, show 4 ≤ 100000 by decide, fun y hy => ?_⟩
      have hy : ∃ c : Int, y = .int c ∧ 0 ≤ c ∧ c ≤ 3 := by
        simp only [List.mem_cons, List.not_mem_nil, or_false] at hy
        rcases hy with rfl | rfl | rfl | rfl <;> exact ⟨_, rfl, by decide, by decide⟩
      obtain ⟨c, rfl, hc0, hc⟩ := hy
      refine ⟨⟨by omega, by omega⟩, ?_⟩
      refine lcGo_each (A := fun _ v => ∃ i : Int, v = .int i ∧ -1000 ≤ i ∧ i ≤ 1000) _ _ (fun y hy Q1 hq => ?_) (fun l2 e2 ha2 => ?_)
      · exact ⟨by decide, fun t ht0 ht => hq _ ⟨_, rfl, by omega, by omega⟩⟩
      · obtain ⟨qs, rfl, hqs⟩ := pints_of fun v hv => let ⟨_, _, z⟩ := ha2 v hv; z
        have e3 : (rangeP 0 c).length = c.toNat := by simp [rangeP]
        rw [List.length_map, e3] at e2
        refine ⟨qs, by rw [List.nil_append]; exact ints_map qs, by omega, ?_⟩
        refine lcGo_map (fun y => !modIn (1 + k) (setI ms) y) (fun y => y) _ _ (fun y hy Q1 Q2 hq hq2 => ?_) ?_
        · obtain ⟨p, _, rfl⟩ := List.mem_map.mp hy
          refine ⟨by omega, flat_ints _ _, ?_⟩
          exact iteB hq hq2
        · have em : ([] : List PV) ++ (((setI qs).map PV.int).filter fun y => !modIn (1 + k) (setI ms) y).map (fun y => y) = ((setI qs).filter fun p => !((setI ms).any (· == p % (1 + k)))).map PV.int := by
            rw [List.nil_append, List.map_id', List.filter_map]
            congr 1
            congr 1
            funext p
            show (!inP (.int (p % (1 + k))) ((setI ms).map PV.int)) = _
            rw [inP_ints]
          rw [em]
          exact h3 _ _ _ (lotB_end (by intro z; rw [z] at e; simp at e; omega) hms (by omega) (by omega) hqs (by omega)) (by omega) (setI_ne (by intro z; rw [z] at e; simp at e; omega))
  · exact h.elim

def f_law_finite_lot_764d8b (Γ : String → Addr) : PSpec :=
  fun xs R _ => match xs with
  | [.drw, .int n] => 1 ≤ n ∧ n ≤ 31 ∧ ∀ ns, lotB ns 1 [] = true → (ns.length : Int) ≤ n → R (mkLot ns 1 [])
  | _ => False
def t_law_finite_lot_764d8b (Γ : String → Addr) (Ep : PX → Prop) : PS' :=
  (sSeq (sPar 2 3 (aCons (pOp fAdd (pC (.int 1)) (pCall (f_law_take_18ca62 Γ) Ep (aCons (pVar 0) (aCons (pVar 1) aNil)))) (aCons (pCall (f_law_take_18ca62 Γ) Ep (aCons (pVar 0) (aCons (pC (.int 5)) aNil))) aNil)))
    (sSeq (sIf (pBool (pOp fEq (pVar 3) (pC (.int 0)))) (sAsg (pLc (.nm 8) [8] (iRange1 (aCons (pVar 2) aNil)) cYes (pOp fSub (pCall (f_law_take_18ca62 Γ) (fun _ => False) (aCons (pVar 0) (aCons (pC (.int 2001)) aNil))) (pC (.int 1000)))) (.nm 4)) (sIf (pBool (pOp fEq (pVar 3) (pC (.int 1)))) (sAsg (pLc (.nm 8) [8] (iRange1 (aCons (pVar 2) aNil)) cYes (pOp fSub (pCall (f_law_take_18ca62 Γ) (fun _ => False) (aCons (pVar 0) (aCons (pC (.int 21)) aNil))) (pC (.int 10)))) (.nm 4)) (sIf (pBool (pOp fEq (pVar 3) (pC (.int 2)))) (sSeq (sAsg (pTup (aCons (pOp fAdd (pC (.int 1)) (pCall (f_law_take_18ca62 Γ) Ep (aCons (pVar 0) (aCons (pC (.int 12)) aNil)))) (aCons (pOp fSub (pCall (f_law_take_18ca62 Γ) Ep (aCons (pVar 0) (aCons (pC (.int 41)) aNil))) (pC (.int 20))) aNil))) (.tp [5, 6]))
    (sAsg (pLc (.nm 9) [9] (iRange1 (aCons (pVar 2) aNil)) cYes (pOp fAdd (pVar 6) (pOp fMul (pVar 5) (pOp fAdd (pVar 9) (pCall (f_law_take_18ca62 Γ) (fun _ => False) (aCons (pVar 0) (aCons (pC (.int 2)) aNil))))))) (.nm 4))) (sIf (pBool (pOp fEq (pVar 3) (pC (.int 3)))) (sAsg (pSl (pLc (.nm 10) [10] (iRange1 (aCons (pVar 2) aNil)) cYes (pOp fMul (pVar 10) (pVar 10))) oNone (oSome (pC (.int 32)))) (.nm 4)) (sSeq (sAsg (pCall (f_law_pick_79bebb Γ) Ep (aCons (pVar 0) (aCons (pLst (aCons (pC (.int 2)) (aCons (pC (.int 3)) aNil))) aNil))) (.nm 7))
    (sAsg (pLc (.nm 10) [10] (iItems (pSl (pLst (aCons (pC (.int 1)) (aCons (pVar 7) (aCons (pOp fMul (pVar 7) (pVar 7)) (aCons (pOp fMul (pOp fMul (pVar 7) (pVar 7)) (pVar 7)) (aCons (pOp fMul (pOp fMul (pOp fMul (pVar 7) (pVar 7)) (pVar 7)) (pVar 7)) (aCons (pC (.int 0)) (aCons (pNeg (pC (.int 1))) aNil)))))))) oNone (oSome (pVar 2)))) cYes (pVar 10)) (.nm 4)))))))
    (sRet (pTup (aCons (pCB gTuple (aCons (pSortSt (pVar 4)) aNil)) (aCons (pC (.int 1)) (aCons (pTup aNil) aNil)))))))
theorem v_law_finite_lot_764d8b (Γ : String → Addr) : ∀ (xs : List PV) (R : PK) (Ep : PX → Prop), xs.length = 2 → f_law_finite_lot_764d8b Γ xs R Ep → t_law_finite_lot_764d8b Γ Ep { nx := fun _ => R .non, rt := R } (pstart 11 xs) := by
  intro xs R Ep hl h
  unfold f_law_finite_lot_764d8b at h
  split at h
  · rename_i n
    obtain ⟨h1, h2, h3⟩ := h
    have fin : ∀ l : List PV, l ≠ [] → (l.length : Int) ≤ n → (∀ v ∈ l, ∃ i : Int, v = .int i ∧ -1000 ≤ i ∧ i ≤ 1000) → ∃ ns, ints? l = some ns ∧ ns.length < 4000 ∧ R (.tup [.tup ((setI ns).map PV.int), .int 1, .tup []]) := fun l hne hlen hv => by
      obtain ⟨ms, rfl, hms⟩ := pints_of hv
      rw [List.length_map] at hlen
      exact ⟨ms, ints_map ms, by omega, h3 (setI ms) (lotB_fin (by intro z; exact hne (by rw [z]; rfl)) (by omega) hms) (by have := len_setI (ns := ms); omega)⟩
    refine ⟨by omega, fun k h0 hk => ?_⟩
    refine ⟨by decide, fun w hw0 hw => ?_⟩
    have hk1 : 0 ≤ k ∧ k ≤ 30 := by omega
    have hlen : ∀ l : List PV, l.length = (rangeP 0 (1 + k)).length → l ≠ [] ∧ (l.length : Int) ≤ n := fun l e => by
      have : (rangeP 0 (1 + k)).length = (1 + k).toNat := by simp [rangeP]
      refine ⟨fun z => ?_, by omega⟩
      rw [z] at e
      simp at e
      omega
    refine iteB (fun _ => ?_) (fun _ => iteB (fun _ => ?_) (fun _ => iteB (fun _ => ?_) (fun _ => iteB (fun _ => ?_) (fun _ => ?_))))
    · refine ⟨⟨by omega, by omega⟩, ?_⟩
      refine lcGo_each (A := fun _ v => ∃ i : Int, v = .int i ∧ -1000 ≤ i ∧ i ≤ 1000) _ _ (fun y hy Q1 hq => ?_) (fun l e ha => ?_)
      · exact ⟨by decide, fun t ht0 ht => hq _ ⟨_, rfl, by omega, by omega⟩⟩
      · obtain ⟨e1, e2⟩ := hlen l e
        exact fin l e1 (by omega) fun v hv => let ⟨_, _, z⟩ := ha v hv; z
    · refine ⟨⟨by omega, by omega⟩, ?_⟩
      refine lcGo_each (A := fun _ v => ∃ i : Int, v = .int i ∧ -1000 ≤ i ∧ i ≤ 1000) _ _ (fun y hy Q1 hq => ?_) (fun l e ha => ?_)
      · exact ⟨by decide, fun t ht0 ht => hq _ ⟨_, rfl, by omega, by omega⟩⟩
      · obtain ⟨e1, e2⟩ := hlen l e
        exact fin l e1 (by omega) fun v hv => let ⟨_, _, z⟩ := ha v hv; z
    · refine ⟨by decide, fun s hs0 hs => ?_⟩
      refine ⟨by decide, fun f hf0 hf => ?_⟩
      refine ⟨⟨by omega, by omega⟩, ?_⟩
      refine lcGo_each (A := fun _ v => ∃ i : Int, v = .int i ∧ -1000 ≤ i ∧ i ≤ 1000) _ _ (fun y hy Q1 hq => ?_) (fun l e ha => ?_)
      · obtain ⟨p, rfl, hp0, hp⟩ := mem_rangeP hy
        refine ⟨by decide, fun t ht0 ht => ?_⟩
        refine ⟨.of_left (intBits_le_64 (by omega) (by omega)), ?_⟩
        have b1 : 0 ≤ (1 + s) * (p + t) := Int.mul_nonneg (by omega) (by omega)
        have b2 : (1 + s) * (p + t) ≤ 12 * 32 := Int.mul_le_mul (by omega) (by omega) (by omega) (by omega)
        exact hq _ ⟨_, rfl, by omega, by omega⟩
      · obtain ⟨e1, e2⟩ := hlen l e
        exact fin l e1 (by omega) fun v hv => let ⟨_, _, z⟩ := ha v hv; z
    · refine ⟨⟨by omega, by omega⟩, ?_⟩
      refine lcGo_each (A := fun _ v => ∃ i : Int, v = .int i ∧ -1000 ≤ i ∧ i ≤ 1000) _ _ (fun y hy Q1 hq => ?_) (fun l e ha => ?_)
      · obtain ⟨p, rfl, hp0, hp⟩ := mem_rangeP hy
        refine ⟨.of_left (intBits_le_64 (by omega) (by omega)), ?_⟩
        have b1 : 0 ≤ p * p := Int.mul_nonneg (by omega) (by omega)
        have b2 : p * p ≤ 31 * 31 := Int.mul_le_mul (by omega) (by omega) (by omega) (by omega)
        exact hq _ ⟨_, rfl, by omega, by omega⟩
      · obtain ⟨e1, e2⟩ := hlen l e
        have ec : cutP ([] ++ l) none (some 32) = l := by
          rw [List.nil_append]
          refine (cut_take l 32).trans ?_
          exact List.take_of_length_le (show l.length ≤ 32 by omega)
        have z := fin l e1 (by omega) fun v hv => let ⟨_, _, z⟩ := ha v hv; z
        rw [← ec] at z
        exact z
    · refine ⟨by simp, show 2 ≤ 100000 by decide, fun y hy => ?_⟩
      have fin2 : ∀ (xs : List PV), 7 = xs.length → (∀ v ∈ xs, ∃ i : Int, v = .int i ∧ -1000 ≤ i ∧ i ≤ 1000) → ∀ l : List PV, l.length = (cutP xs none (some (1 + k))).length → (∀ v ∈ l, ∃ y ∈ cutP xs none (some (1 + k)), v = y) → ∃ ns, ints? l = some ns ∧ ns.length < 4000 ∧ R (.tup [.tup ((setI ns).map PV.int), .int 1, .tup []]) := fun xs h7 hx l e ha => by
        have e1 : cutP xs none (some (1 + k)) = xs.take (1 + k).toNat := by
          obtain ⟨m, hm⟩ := Int.eq_ofNat_of_zero_le (show 0 ≤ 1 + k by omega)
          rw [hm, cut_take]
          rfl
        rw [e1] at e ha
        rw [List.length_take] at e
        refine fin l (fun z => ?_) (by omega) fun v hv => ?_
        · rw [z] at e
          simp at e
          omega
        · obtain ⟨y, hy, rfl⟩ := ha v hv
          exact hx _ (List.mem_of_mem_take hy)
      have hy : y = .int 2 ∨ y = .int 3 := by simpa using hy
      rcases hy with rfl | rfl
      · refine ⟨.of_left (by decide), .of_left (by decide), .of_left (by decide), .of_left (by decide), .of_left (by decide), .of_left (by decide), ?_⟩
        refine lcGo_each (A := fun y v => v = y) _ _ (fun y hy Q1 hq => hq _ rfl) (fun l e ha => ?_)
        exact fin2 _ rfl (fun v hv => by
          simp only [List.mem_cons, List.not_mem_nil, or_false] at hv
          rcases hv with rfl | rfl | rfl | rfl | rfl | rfl | rfl <;> exact ⟨_, rfl, by decide, by decide⟩) l e ha
      · refine ⟨.of_left (by decide), .of_left (by decide), .of_left (by decide), .of_left (by decide), .of_left (by decide), .of_left (by decide), ?_⟩
        refine lcGo_each (A := fun y v => v = y) _ _ (fun y hy Q1 hq => hq _ rfl) (fun l e ha => ?_)
        exact fin2 _ rfl (fun v hv => by
          simp only [List.mem_cons, List.not_mem_nil, or_false] at hv
          rcases hv with rfl | rfl | rfl | rfl | rfl | rfl | rfl <;> exact ⟨_, rfl, by decide, by decide⟩) l e ha
  · exact h.elim

def f_law_lot_6121c3 (Γ : String → Addr) : PSpec :=
  fun xs R _ => match xs with
  | [.drw] => ∀ ns m rs, lotB ns m rs = true → m ≤ 12 → (rs = [] → ns.length ≤ 9) → R (mkLot ns m rs)
  | _ => False
def t_law_lot_6121c3 (Γ : String → Addr) (Ep : PX → Prop) : PS' :=
  (sRet (pIf (pBool (pOp fEq (pCall (f_law_take_18ca62 Γ) Ep (aCons (pVar 0) (aCons (pC (.int 2)) aNil))) (pC (.int 0)))) (pCall (f_law_endless_lot_fa60ba Γ) Ep (aCons (pVar 0) (aCons (pC (.int 12)) aNil))) (pCall (f_law_finite_lot_764d8b Γ) Ep (aCons (pVar 0) (aCons (pC (.int 9)) aNil)))))
theorem v_law_lot_6121c3 (Γ : String → Addr) : ∀ (xs : List PV) (R : PK) (Ep : PX → Prop), xs.length = 1 → f_law_lot_6121c3 Γ xs R Ep → t_law_lot_6121c3 Γ Ep { nx := fun _ => R .non, rt := R } (pstart 1 xs) := by
  intro xs R Ep hl h
  unfold f_law_lot_6121c3 at h
  split at h
  · refine ⟨by decide, fun k h0 hk => ?_⟩
    exact iteB (fun _ => ⟨by decide, by decide, fun ns m rs hb hm hne => h ns m rs hb hm fun z => absurd z hne⟩) (fun _ => ⟨by decide, by decide, fun ns hb hl => h ns 1 [] hb (by decide) fun _ => by omega⟩)
  · exact h.elim

def f_law_odd_c2def8 (Γ : String → Addr) : PSpec :=
  fun xs R _ => match xs with
  | [.drw] => ∀ x, dataP x = true → isLotP x = false → R x
  | _ => False
def t_law_odd_c2def8 (Γ : String → Addr) (Ep : PX → Prop) : PS' :=
  (sRet (pCall (f_law_pick_79bebb Γ) Ep (aCons (pVar 0) (aCons (pLst (aCons (pC .non) (aCons (pC (.bl true)) (aCons (pC (.int 5)) (aCons (pC (.str "2")) (aCons (pTup aNil) (aCons (pLst aNil) (aCons (pC (.dic [])) (aCons (pTup (aCons (pC (.int 1)) aNil)) (aCons (pTup (aCons (pTup (aCons (pC (.int 1)) aNil)) (aCons (pC (.int 1)) aNil))) (aCons (pTup (aCons (pTup (aCons (pC (.int 1)) aNil)) (aCons (pC (.int 1)) (aCons (pTup aNil) (aCons (pTup aNil) aNil))))) aNil))))))))))) aNil))))
theorem v_law_odd_c2def8 (Γ : String → Addr) : ∀ (xs : List PV) (R : PK) (Ep : PX → Prop), xs.length = 1 → f_law_odd_c2def8 Γ xs R Ep → t_law_odd_c2def8 Γ Ep { nx := fun _ => R .non, rt := R } (pstart 1 xs) := by
  intro xs R Ep hl h
  unfold f_law_odd_c2def8 at h
  split at h
  · refine ⟨by simp, show 10 ≤ 100000 by decide, ?_⟩
    refine List.forall_mem_cons.mpr ⟨h _ rfl rfl, ?_⟩
    refine List.forall_mem_cons.mpr ⟨h _ rfl rfl, ?_⟩
    refine List.forall_mem_cons.mpr ⟨h _ rfl rfl, ?_⟩
    refine List.forall_mem_cons.mpr ⟨h _ (by decide +kernel) rfl, ?_⟩
    refine List.forall_mem_cons.mpr ⟨h _ rfl rfl, ?_⟩
    refine List.forall_mem_cons.mpr ⟨h _ rfl rfl, ?_⟩
    refine List.forall_mem_cons.mpr ⟨h _ rfl rfl, ?_⟩
    refine List.forall_mem_cons.mpr ⟨h _ rfl rfl, ?_⟩
    refine List.forall_mem_cons.mpr ⟨h _ rfl rfl, ?_⟩
    refine List.forall_mem_cons.mpr ⟨h _ rfl rfl, ?_⟩
    exact fun y hy => by cases hy
  · exact h.elim

def f_law_no_lot_b60b62 (Γ : String → Addr) : PSpec :=
  fun xs R _ => match xs with
  | [.drw] => ∀ x, dataP x = true → isLotP x = false → R x
  | _ => False
def t_law_no_lot_b60b62 (Γ : String → Addr) (Ep : PX → Prop) : PS' :=
  (sSeq (sAsg (pLst (aCons (pCall (f_law_odd_c2def8 Γ) Ep (aCons (pVar 0) aNil)) (aCons (pTup (aCons (pTup aNil) (aCons (pC (.int 1)) (aCons (pTup aNil) aNil)))) (aCons (pTup (aCons (pTup (aCons (pC (.int 2)) (aCons (pC (.int 1)) aNil))) (aCons (pC (.int 1)) (aCons (pTup aNil) aNil)))) (aCons (pTup (aCons (pTup (aCons (pC (.int 1)) (aCons (pC (.int 1)) aNil))) (aCons (pC (.int 1)) (aCons (pTup aNil) aNil)))) (aCons (pTup (aCons (pTup (aCons (pC (.int 1)) aNil)) (aCons (pC (.int 2)) (aCons (pTup aNil) aNil)))) (aCons (pTup (aCons (pTup (aCons (pC (.int 1)) aNil)) (aCons (pC (.int 2)) (aCons (pTup (aCons (pC (.int 1)) aNil)) aNil)))) (aCons (pTup (aCons (pTup aNil) (aCons (pC (.int 2)) (aCons (pTup (aCons (pC (.int 2)) aNil)) aNil)))) (aCons (pTup (aCons (pTup aNil) (aCons (pC (.int 61)) (aCons (pTup (aCons (pC (.int 1)) aNil)) aNil)))) (aCons (pTup (aCons (pTup aNil) (aCons (pC (.int 0)) (aCons (pTup (aCons (pC (.int 0)) aNil)) aNil)))) aNil)))))))))) (.nm 1))
    (sSeq (sAsg (pOp fAdd (pVar 1) (pLst (aCons (pTup (aCons (pLst (aCons (pC (.int 1)) aNil)) (aCons (pC (.int 1)) (aCons (pTup aNil) aNil)))) (aCons (pTup (aCons (pTup (aCons (pC (.int 1001)) aNil)) (aCons (pC (.int 1)) (aCons (pTup aNil) aNil)))) (aCons (pTup (aCons (pTup (aCons (pC (.bl true)) aNil)) (aCons (pC (.int 1)) (aCons (pTup aNil) aNil)))) (aCons (pTup (aCons (pTup aNil) (aCons (pC (.int 3)) (aCons (pTup (aCons (pC (.int 1)) (aCons (pC (.int 0)) aNil))) aNil)))) (aCons (pTup (aCons (pTup aNil) (aCons (pC (.int 3)) (aCons (pLst (aCons (pC (.int 0)) aNil)) aNil)))) (aCons (pTup (aCons (pTup aNil) (aCons (pC (.bl true)) (aCons (pTup (aCons (pC (.int 0)) aNil)) aNil)))) (aCons (pTup (aCons (pTupRg (pC (.int 41))) (aCons (pC (.int 1)) (aCons (pTup aNil) aNil)))) (aCons (pTup (aCons (pTup (aCons (pC .non) aNil)) (aCons (pC (.int 1)) (aCons (pTup aNil) aNil)))) aNil)))))))))) (.nm 1))
    (sRet (pCall (f_law_pick_79bebb Γ) Ep (aCons (pVar 0) (aCons (pVar 1) aNil))))))
theorem v_law_no_lot_b60b62 (Γ : String → Addr) : ∀ (xs : List PV) (R : PK) (Ep : PX → Prop), xs.length = 1 → f_law_no_lot_b60b62 Γ xs R Ep → t_law_no_lot_b60b62 Γ Ep { nx := fun _ => R .non, rt := R } (pstart 2 xs) := by
  intro xs R Ep hl h
  unfold f_law_no_lot_b60b62 at h
  split at h
  · intro x hx1 hx2
    refine ⟨⟨by decide, by decide⟩, ?_⟩
    refine ⟨sz5 (show 9 + 8 ≤ 100000 by decide), ?_⟩
    refine ⟨by simp, show 17 ≤ 100000 by decide, ?_⟩
    refine List.forall_mem_cons.mpr ⟨h _ hx1 hx2, ?_⟩
    iterate 16 refine List.forall_mem_cons.mpr ⟨h _ (by first | rfl | decide +kernel) (by first | rfl | decide +kernel), ?_⟩
    exact fun y hy => by cases hy
  · exact h.elim

def f_law_no_prime_4d0d92 (Γ : String → Addr) : PSpec :=
  fun xs R _ => match xs with
  | [.drw] => ∀ x, isD x = true → (∀ n : Int, x = .int n → 2000 ≤ n ∨ primeB n = false) → R x
  | _ => False
def t_law_no_prime_4d0d92 (Γ : String → Addr) (Ep : PX → Prop) : PS' :=
  (sRet (pCall (f_law_pick_79bebb Γ) Ep (aCons (pVar 0) (aCons (pLst (aCons (pC .non) (aCons (pC (.int 0)) (aCons (pC (.int 1)) (aCons (pNeg (pC (.int 2))) (aCons (pC (.int 4)) (aCons (pC (.int 9)) (aCons (pC (.int 91)) (aCons (pC (.int 2003)) (aCons (pOp fMul (pC (.int 1999)) (pC (.int 2))) (aCons (pC (.bl true)) (aCons (pC (.str "2")) (aCons (pTup (aCons (pC (.int 2)) aNil)) aNil))))))))))))) aNil))))
theorem v_law_no_prime_4d0d92 (Γ : String → Addr) : ∀ (xs : List PV) (R : PK) (Ep : PX → Prop), xs.length = 1 → f_law_no_prime_4d0d92 Γ xs R Ep → t_law_no_prime_4d0d92 Γ Ep { nx := fun _ => R .non, rt := R } (pstart 1 xs) := by
  intro xs R Ep hl h
  unfold f_law_no_prime_4d0d92 at h
  split at h
  · refine ⟨.of_left (by decide), by simp, show 12 ≤ 100000 by decide, ?_⟩
    have np : ∀ (n d : Int), 2 ≤ d → d < n → n % d = 0 → ∀ m : Int, PV.int n = .int m → 2000 ≤ m ∨ primeB m = false := fun n d h1 h2 h3 m e => by
      cases e
      exact .inr (primeB_f fun z => z.2 d h1 h2 h3)
    have sm : ∀ (n : Int), n < 2 → ∀ m : Int, PV.int n = .int m → 2000 ≤ m ∨ primeB m = false := fun n h1 m e => by
      cases e
      exact .inr (primeB_f fun z => by have := z.1; omega)
    have bg : ∀ (n : Int), 2000 ≤ n → ∀ m : Int, PV.int n = .int m → 2000 ≤ m ∨ primeB m = false := fun n h1 m e => by
      cases e
      exact .inl h1
    refine List.forall_mem_cons.mpr ⟨h _ rfl (fun m e => by cases e), ?_⟩
    refine List.forall_mem_cons.mpr ⟨h _ rfl (sm 0 (by decide)), ?_⟩
    refine List.forall_mem_cons.mpr ⟨h _ rfl (sm 1 (by decide)), ?_⟩
    refine List.forall_mem_cons.mpr ⟨h _ rfl (sm (-2) (by decide)), ?_⟩
    refine List.forall_mem_cons.mpr ⟨h _ rfl (np 4 2 (by decide) (by decide) (by decide)), ?_⟩
    refine List.forall_mem_cons.mpr ⟨h _ rfl (np 9 3 (by decide) (by decide) (by decide)), ?_⟩
    refine List.forall_mem_cons.mpr ⟨h _ rfl (np 91 7 (by decide) (by decide) (by decide)), ?_⟩
    refine List.forall_mem_cons.mpr ⟨h _ rfl (bg 2003 (by decide)), ?_⟩
    refine List.forall_mem_cons.mpr ⟨h _ rfl (bg _ (by decide)), ?_⟩
    refine List.forall_mem_cons.mpr ⟨h _ rfl (fun m e => by cases e), ?_⟩
    refine List.forall_mem_cons.mpr ⟨h _ rfl (fun m e => by cases e), ?_⟩
    refine List.forall_mem_cons.mpr ⟨h _ rfl (fun m e => by cases e), ?_⟩
    exact fun y hy => by cases hy
  · exact h.elim

def f_law_kinds_983627 (Γ : String → Addr) : PSpec :=
  fun xs R _ => match xs with
  | [x] => pdk 50 x = true ∧ wt x ≤ 50000 ∧ R (.lst (kindsP x))
  | _ => False
def t_law_kinds_983627 (Γ : String → Addr) (Ep : PX → Prop) : PS' :=
  (sSeq (sParOwn2 1 2 (pVar 0))
    (sSeq (sWhile (tBor (pBool (pOp fNe (pVar 2) (pLst aNil)))) (sSeq (sPop 2 3)
    (sIf (pOr (pBool (pCB gIsi (aCons (pVar 3) (aCons (pC (.ty .bool)) aNil)))) (pBool (pOp fIsN (pVar 3) (pC .non)))) (sApp 1 (pCB gRepr (aCons (pVar 3) aNil))) (sIf (pBool (pCB gIsi (aCons (pVar 3) (aCons (pC (.ty .int)) aNil)))) (sApp 1 (pC (.str "number"))) (sIf (pBool (pCB gIsi (aCons (pVar 3) (aCons (pC (.ty .str)) aNil)))) (sApp 1 (pC (.str "string"))) (sIf (pOr (pBool (pCB gIsi (aCons (pVar 3) (aCons (pC (.ty .list)) aNil)))) (pBool (pCB gIsi (aCons (pVar 3) (aCons (pC (.ty .tuple)) aNil))))) (sSeq (sApp 1 (pIf (pBool (pCB gIsi (aCons (pVar 3) (aCons (pC (.ty .list)) aNil)))) (pC (.str "list")) (pC (.str "tuple"))))
    (sJoin 2 (pCB gList (aCons (pVar 3) aNil)))) (sIf (pBool (pCB gIsi (aCons (pVar 3) (aCons (pC (.ty .dict)) aNil)))) (sSeq (sApp 1 (pC (.str "dict")))
    sNever) (sApp 1 (pC (.str "other"))))))))))
    (sFrz 1 (sRet (pVar 1)))))
theorem v_law_kinds_983627 (Γ : String → Addr) : ∀ (xs : List PV) (R : PK) (Ep : PX → Prop), xs.length = 1 → f_law_kinds_983627 Γ xs R Ep → t_law_kinds_983627 Γ Ep { nx := fun _ => R .non, rt := R } (pstart 5 xs) := by
  intro xs R Ep hl h
  unfold f_law_kinds_983627 at h
  split at h
  · rename_i x
    obtain ⟨h1, h2, h3⟩ := h
    refine ⟨fun m ρ => ∃ (line found : List PV) (one : Option SV), ρ = [some (.val x), some (.own found), some (.own line), one, none] ∧ wts line = m ∧ line.all (pdk 50) = true ∧ kindsGo m line found = kindsP x ∧ found.length + m ≤ 50000, ⟨_, [x], [], _, rfl, rfl, by rw [List.all_cons, h1]; rfl, by unfold kindsP; rfl, by
      have e : wts [x] = wt x := by unfold wts wts; rfl
      rw [e]
      simpa using h2⟩, ?_⟩
    rintro m ρ ⟨line, found, one, rfl, e1, e2, e3, e4⟩
    refine ⟨dat_of (n := 51) e2 (by decide), dat_of (n := 1) rfl (by decide), ?_⟩
    have ep : peq (.lst line) (.lst []) = line.isEmpty := by
      unfold peq
      rw [peqs_nil]
    rw [ep]
    refine iteB (fun h => ?_) (fun h => ?_)
    · have hne : line ≠ [] := fun z => by
        subst z
        cases h
      obtain ⟨rest, y, rfl⟩ : ∃ rest y, line = rest ++ [y] := ⟨line.dropLast, line.getLast hne, (List.dropLast_concat_getLast hne).symm⟩
      rw [List.all_append, Bool.and_eq_true] at e2
      have py : pdk 50 y = true := by
        have z := e2.2
        rw [List.all_cons, Bool.and_eq_true] at z
        exact z.1
      have ew := wts_snoc rest y
      rw [e1] at ew
      have hl1 : ∀ l : List PV, l.length ≤ wts l := wts_len
      refine ⟨y, List.getLast?_concat, ?_⟩
      have hdl : (rest ++ [y]).dropLast = rest := List.dropLast_concat
      rw [hdl]
      have fin : ∀ (k : PV) (ys : List PV), wts ys + 1 = wt y → ys.all (pdk 50) = true → kindsGo m (rest ++ [y]) found = kindsGo (wts rest + wts ys) (rest ++ ys) (found ++ [k]) → ∃ m', m' < m ∧ ∃ (line found' : List PV) (one : Option SV), [some (SV.val x), some (.own (found ++ [k])), some (.own (rest ++ ys)), some (.val y), none] = [some (SV.val x), some (.own found'), some (.own line), one, none] ∧ wts line = m' ∧ line.all (pdk 50) = true ∧ kindsGo m' line found' = kindsP x ∧ found'.length + m' ≤ 50000 := fun k ys hw ha hk =>
        ⟨wts rest + wts ys, by omega, rest ++ ys, found ++ [k], _, rfl, wts_append rest ys, by rw [List.all_append, e2.1, ha]; rfl, by rw [← hk]; exact e3, by rw [List.length_append]; show found.length + 1 + _ ≤ _; omega⟩
      have hf : found.length < 100000 := by omega
      have fin0 : ∀ (k : PV), 1 = wt y → kindsGo m (rest ++ [y]) found = kindsGo (wts rest) rest (found ++ [k]) → ∃ m', m' < m ∧ ∃ (line found' : List PV) (one : Option SV), [some (SV.val x), some (.own (found ++ [k])), some (.own rest), some (.val y), none] = [some (SV.val x), some (.own found'), some (.own line), one, none] ∧ wts line = m' ∧ line.all (pdk 50) = true ∧ kindsGo m' line found' = kindsP x ∧ found'.length + m' ≤ 50000 := fun k hw hk => by
        have z := fin k [] (by unfold wts; omega) rfl (by rw [hk]; unfold wts; rw [List.append_nil]; rfl)
        rw [List.append_nil] at z
        exact z
      have hm : ∀ n, wt y = n + 1 → m = wts rest + n + 1 := fun n hn => by omega
      cases y with
      | non => exact ⟨rfl, OkW.lt hf, fin0 _ (by unfold wt; rfl) (by rw [hm 0 (by unfold wt; rfl), kindsGo_snoc]; exact kinds0 _ _ _)⟩
      | bl b => exact ⟨rfl, OkW.lt hf, fin0 _ (by unfold wt; rfl) (by rw [hm 0 (by unfold wt; rfl), kindsGo_snoc]; exact kinds0 _ _ _)⟩
      | int i => exact ⟨rfl, rfl, OkW.lt hf, fin0 _ (by unfold wt; rfl) (by rw [hm 0 (by unfold wt; rfl), kindsGo_snoc]; exact kinds0 _ _ _)⟩
      | str z => exact ⟨rfl, rfl, rfl, OkW.lt hf, fin0 _ (by unfold wt; rfl) (by rw [hm 0 (by unfold wt; rfl), kindsGo_snoc]; exact kinds0 _ _ _)⟩
      | lst ys =>
        have hy : ys.all (pdk 50) = true := by
          have py : ys.all (pdk 49) = true := py
          rw [List.all_eq_true] at py ⊢
          exact fun z hz => pdk_mono (py z hz) (by decide)
        have ewy : wt (.lst ys) = wts ys + 1 := by unfold wt; omega
        have hly := hl1 ys
        have hlr := hl1 rest
        exact ⟨rfl, rfl, rfl, rfl, rfl, OkW.lt hf, sz5 (by omega), fin _ ys ewy.symm hy (by rw [hm _ ewy, kindsGo_snoc]; rfl)⟩
      | tup ys =>
        have hy : ys.all (pdk 50) = true := by
          have py : ys.all (pdk 49) = true := py
          rw [List.all_eq_true] at py ⊢
          exact fun z hz => pdk_mono (py z hz) (by decide)
        have ewy : wt (.tup ys) = wts ys + 1 := by unfold wt; omega
        have hly := hl1 ys
        have hlr := hl1 rest
        exact ⟨rfl, rfl, rfl, rfl, rfl, rfl, OkW.lt hf, sz5 (by omega), fin _ ys ewy.symm hy (by rw [hm _ ewy, kindsGo_snoc]; rfl)⟩
      | _ => cases py
    · have hne : line = [] := by
        cases line with
        | nil => rfl
        | cons _ _ => cases h
      subst hne
      have em : m = 0 := by rw [← e1]; unfold wts; rfl
      subst em
      have e3 : found = kindsP x := e3
      rw [← e3] at h3
      exact h3
  · exact h.elim

def f_law_says_deff49 (Γ : String → Addr) : PSpec :=
  fun xs R _ => match xs with
  | [x, y] => x = y ∧ pdk 50 x = true ∧ wt x ≤ 50000 ∧ R (.bl true)
  | _ => False
def t_law_says_deff49 (Γ : String → Addr) (Ep : PX → Prop) : PS' :=
  (sRet (pAndV (pOp fEq (pCall (f_law_kinds_983627 Γ) Ep (aCons (pVar 0) aNil)) (pCall (f_law_kinds_983627 Γ) Ep (aCons (pVar 1) aNil))) (pOp fEq (pVar 0) (pVar 1))))
theorem v_law_says_deff49 (Γ : String → Addr) : ∀ (xs : List PV) (R : PK) (Ep : PX → Prop), xs.length = 2 → f_law_says_deff49 Γ xs R Ep → t_law_says_deff49 Γ Ep { nx := fun _ => R .non, rt := R } (pstart 2 xs) := by
  intro xs R Ep hl h
  unfold f_law_says_deff49 at h
  split at h
  · rename_i x y
    obtain ⟨rfl, h1, h2, h3⟩ := h
    refine ⟨h1, h2, h1, h2, ?_⟩
    have hk := kindsP_dat x
    refine ⟨dat_of (n := 3) hk (by decide), dat_of (n := 3) hk (by decide), ?_⟩
    have e := peq_refl 3 (.lst (kindsP x)) hk
    rw [e]
    refine iteB (fun _ => ?_) (fun h => by cases h)
    cases x with
    | int i =>
      show R (.bl (i == i))
      rw [beq_self_eq_true]
      exact h3
    | bl i =>
      show R (.bl (i == i))
      rw [beq_self_eq_true]
      exact h3
    | str i =>
      show R (.bl (i == i))
      rw [beq_self_eq_true]
      exact h3
    | _ =>
      refine ⟨dat_of h1 (by decide), dat_of h1 (by decide), ?_⟩
      rw [peq_refl 50 _ h1]
      exact h3
  · exact h.elim

def f_has_by_c54f9d (Γ : String → Addr) : PSpec :=
  fun xs R _ => match xs with
  | [x, .int k] => isLotP x = true ∧ R (.bl (hasV x k))
  | _ => False
def t_has_by_c54f9d (Γ : String → Addr) (Ep : PX → Prop) : PS' :=
  (sRet (pOrV (pOp (fIn false) (pVar 1) (pIxK 0 (pVar 0))) (pOp (fIn false) (pOp fMod (pVar 1) (pIxK 1 (pVar 0))) (pIxK 2 (pVar 0)))))
theorem v_has_by_c54f9d (Γ : String → Addr) : ∀ (xs : List PV) (R : PK) (Ep : PX → Prop), xs.length = 2 → f_has_by_c54f9d Γ xs R Ep → t_has_by_c54f9d Γ Ep { nx := fun _ => R .non, rt := R } (pstart 2 xs) := by
  intro xs R Ep hl h
  unfold f_has_by_c54f9d at h
  split at h
  · rename_i x k
    obtain ⟨h1, h2⟩ := h
    obtain ⟨ns, m, rs, rfl, hb⟩ := lot_of h1
    rw [hasV_mk] at h2
    have hm := lotB_pos hb
    unfold hasB at h2
    refine ⟨flat_ints _ _, ?_⟩
    rw [inP_ints]
    refine iteB (fun h => ?_) (fun h => ?_)
    · have h : (ns.any fun x => x == k) = true := h
      rw [h] at h2
      exact h2
    · have h : (ns.any fun x => x == k) = false := h
      rw [h, Bool.false_or] at h2
      refine ⟨hm, flat_ints _ _, ?_⟩
      rw [inP_ints]
      exact h2
  · exact h.elim

def f_power_in_9476c2 (Γ : String → Addr) : PSpec :=
  fun xs R _ => match xs with
  | [.int p, .int x] => 2 ≤ p ∧ p < 4000 ∧ x ≠ 0 ∧ R (.int (vp p x))
  | _ => False
def t_power_in_9476c2 (Γ : String → Addr) (Ep : PX → Prop) : PS' :=
  (sSeq (sAsg (pC (.int 0)) (.nm 2))
    (sSeq (sWhile (pBool (pOp fEq (pOp fMod (pVar 1) (pVar 0)) (pC (.int 0)))) (sPar 2 1 (aCons (pOp fAdd (pVar 2) (pC (.int 1))) (aCons (pOp fDiv (pVar 1) (pVar 0)) aNil))))
    (sRet (pVar 2))))
theorem v_power_in_9476c2 (Γ : String → Addr) : ∀ (xs : List PV) (R : PK) (Ep : PX → Prop), xs.length = 2 → f_power_in_9476c2 Γ xs R Ep → t_power_in_9476c2 Γ Ep { nx := fun _ => R .non, rt := R } (pstart 3 xs) := by
  intro xs R Ep hl h
  unfold f_power_in_9476c2 at h
  split at h
  · rename_i p x
    obtain ⟨h1, h2, h3, h4⟩ := h
    refine ⟨fun m ρ => ∃ (f : Nat) (y : Int), ρ = [some (.val (.int p)), some (.val (.int y)), some (.val (.int f))] ∧ y ≠ 0 ∧ f + vp p y = vp p x ∧ m = y.natAbs, ⟨_, 0, x, rfl, h3, Nat.zero_add _, rfl⟩, ?_⟩
    rintro m ρ ⟨f, y, rfl, h5, h6, rfl⟩
    refine ⟨by omega, ?_⟩
    refine iteB (fun h7 => ?_) (fun h7 => ?_)
    · have h7 : y % p = 0 := eq_of_beq (show (y % p == 0) = true from h7)
      obtain ⟨d1, d2⟩ := div_lt h1 h5 h7
      have e : p * (y / p) = y := by have := Int.mul_ediv_add_emod y p; omega
      have e2 := vp_mul h1 d1
      rw [e] at e2
      exact ⟨wide_div (b := 20) (by omega) (by omega) (by decide) (by decide), _, d2, f + 1, y / p, rfl, d1, by omega, rfl⟩
    · have h7 : y % p ≠ 0 := by
        have h7 : (y % p == 0) = false := h7
        simpa using h7
      rw [vp_no h7, Nat.add_zero] at h6
      rw [← h6] at h4
      exact h4
  · exact h.elim

def f_power_behind_c3f72d (Γ : String → Addr) : PSpec :=
  fun xs R _ => match xs with
  | [.int p, .lst ys, .int k] => 2 ≤ p ∧ p < 4000 ∧ ∃ as : List Int, ys = as.map PV.int ∧ k ∉ as ∧ R (.int (V p as k : Nat))
  | [.int p, .tup ys, .int k] => 2 ≤ p ∧ p < 4000 ∧ ∃ as : List Int, ys = as.map PV.int ∧ k ∉ as ∧ R (.int (V p as k : Nat))
  | _ => False
def t_power_behind_c3f72d (Γ : String → Addr) (Ep : PX → Prop) : PS' :=
  (sRet (pCB gSum (aCons (pLc (.nm 3) [3] (iItems (pVar 1)) cYes (pCall (f_power_in_9476c2 Γ) (fun _ => False) (aCons (pVar 0) (aCons (pOp fSub (pVar 2) (pVar 3)) aNil)))) aNil)))
theorem v_power_behind_c3f72d (Γ : String → Addr) : ∀ (xs : List PV) (R : PK) (Ep : PX → Prop), xs.length = 3 → f_power_behind_c3f72d Γ xs R Ep → t_power_behind_c3f72d Γ Ep { nx := fun _ => R .non, rt := R } (pstart 4 xs) := by
  intro xs R Ep hl h
  unfold f_power_behind_c3f72d at h
  split at h
  · rename_i p ys k
    obtain ⟨h1, h2, as, rfl, h3, h4⟩ := h
    refine lcGo_map1 (mapI fun a => ((vp p (k - a) : Nat) : Int)) _ _ (fun y hy Q1 hq => ?_) ?_
    · obtain ⟨a, ha, rfl⟩ := List.mem_map.mp hy
      exact ⟨h1, h2, fun z => h3 (by rw [show k = a by omega]; exact ha), hq⟩
    · rw [lc_ints1]
      refine ⟨_, ints_map _, ?_⟩
      rw [V_sum]
      exact h4
  · rename_i p ys k
    obtain ⟨h1, h2, as, rfl, h3, h4⟩ := h
    refine lcGo_map1 (mapI fun a => ((vp p (k - a) : Nat) : Int)) _ _ (fun y hy Q1 hq => ?_) ?_
    · obtain ⟨a, ha, rfl⟩ := List.mem_map.mp hy
      exact ⟨h1, h2, fun z => h3 (by rw [show k = a by omega]; exact ha), hq⟩
    · rw [lc_ints1]
      refine ⟨_, ints_map _, ?_⟩
      rw [V_sum]
      exact h4
  · exact h.elim

def f_nearest_966ac1 (Γ : String → Addr) : PSpec :=
  fun xs R _ => match xs with
  | [x, .int p, .lst ys, .int due] => isLotP x = true ∧ 2 ≤ p ∧ p < 4000 ∧ ∃ (as : List Int) (v : Nat), ys = as.map PV.int ∧ due = (v : Int) ∧ (∃ y, SV' x y ∧ y ∉ as ∧ V p as y = v) ∧ ∀ t, Nr (SV' x) p as v t → R (.int t)
  | _ => False
def t_nearest_966ac1 (Γ : String → Addr) (Ep : PX → Prop) : PS' :=
  (sSeq (sAsg (pTup (aCons (pC .non) (aCons (pC (.int 0)) aNil))) (.tp [4, 5]))
    (sSeq (sWhile (pBool (pOp fIsN (pVar 4) (pC .non))) (sSeq (sFor (iItems (pLst (aCons (pVar 5) (aCons (pNeg (pVar 5)) aNil)))) (.nm 6) (sIf (pAnd (pBool (pOp fIsN (pVar 4) (pC .non))) (pAnd (pBool (pOp (fIn true) (pVar 6) (pVar 2))) (pBool (pCall (f_has_by_c54f9d Γ) Ep (aCons (pVar 0) (aCons (pVar 6) aNil)))))) (sAsg (pIf (pBool (pOp fEq (pCall (f_power_behind_c3f72d Γ) Ep (aCons (pVar 1) (aCons (pVar 2) (aCons (pVar 6) aNil)))) (pVar 3))) (pVar 6) (pC .non)) (.nm 4)) sNext))
    (sAsg (pOp fAdd (pVar 5) (pC (.int 1))) (.nm 5))))
    (sRet (pVar 4))))
theorem v_nearest_966ac1 (Γ : String → Addr) : ∀ (xs : List PV) (R : PK) (Ep : PX → Prop), xs.length = 4 → f_nearest_966ac1 Γ xs R Ep → t_nearest_966ac1 Γ Ep { nx := fun _ => R .non, rt := R } (pstart 7 xs) := by
  intro xs R Ep hl h
  unfold f_nearest_966ac1 at h
  split at h
  · rename_i x p ys due
    obtain ⟨hL, h1, h2, as, v, rfl, rfl, ⟨y0, hy0⟩, h4⟩ := h
    refine ⟨fun m ρ => ∃ (f : Nat) (o : Option Int) (a6 : Option SV), ρ = [some (.val x), some (.val (.int p)), some (.val (.lst (as.map PV.int))), some (.val (.int (v : Int))), some (.val (match o with | some t => PV.int t | none => PV.non)), some (.val (.int (f : Int))), a6] ∧
      (match o with
        | some t => Nr (SV' x) p as v t ∧ m = 0
        | none => (∀ y, SV' x y → y ∉ as → V p as y = v → f ≤ y.natAbs) ∧ m = y0.natAbs + 1 - f + 1), ⟨_, 0, none, none, rfl, fun _ _ _ _ => Nat.zero_le _, rfl⟩, ?_⟩
    rintro m ρ ⟨f, o, a6, rfl, ho⟩
    cases o with
    | some t => exact h4 t ho.1
    | none =>
      obtain ⟨hn, rfl⟩ := ho
      have fy := hn y0 hy0.1 hy0.2.1 hy0.2.2
      have hin : ∀ k : Int, inP (.int k) (as.map PV.int) = as.contains k := fun k => by
        rw [inP_ints]
        have key : ∀ a b : Bool, (a = true ↔ b = true) → a = b := fun a b z => by cases a <;> cases b <;> simp at z ⊢
        refine key _ _ ?_
        rw [List.any_eq_true, List.contains_iff_mem]
        exact ⟨fun ⟨w, w1, w2⟩ => by rw [← eq_of_beq w2]; exact w1, fun z => ⟨k, z, beq_self_eq_true _⟩⟩
      -- one turn
      have turn : ∀ (k : Int) (P' : PEnds) (g : Option SV), k.natAbs = f →
          ((SV' x k ∧ k ∉ as ∧ V p as k = v) → P'.nx [some (.val x), some (.val (.int p)), some (.val (.lst (as.map PV.int))), some (.val (.int (v : Int))), some (.val (.int k)), some (.val (.int (f : Int))), some (.val (.int k))]) →
          (¬ (SV' x k ∧ k ∉ as ∧ V p as k = v) → P'.nx [some (.val x), some (.val (.int p)), some (.val (.lst (as.map PV.int))), some (.val (.int (v : Int))), some (.val .non), some (.val (.int (f : Int))), some (.val (.int k))]) →
          tgt (.nm 6) (.int k) [some (.val x), some (.val (.int p)), some (.val (.lst (as.map PV.int))), some (.val (.int (v : Int))), some (.val .non), some (.val (.int (f : Int))), g] fun ρ' =>
            (sIf (pAnd (pBool (pOp fIsN (pVar 4) (pC .non))) (pAnd (pBool (pOp (fIn true) (pVar 6) (pVar 2))) (pBool (pCall (f_has_by_c54f9d Γ) Ep (aCons (pVar 0) (aCons (pVar 6) aNil)))))) (sAsg (pIf (pBool (pOp fEq (pCall (f_power_behind_c3f72d Γ) Ep (aCons (pVar 1) (aCons (pVar 2) (aCons (pVar 6) aNil)))) (pVar 3))) (pVar 6) (pC .non)) (.nm 4)) sNext) P' ρ' := fun k P' g hk hy hno => by
        refine ⟨flat_ints _ _, ?_⟩
        rw [hin]
        refine iteB (fun h5 => ?_) (fun h5 => ?_)
        · have h5 : k ∉ as := by
            have h5 : (!as.contains k) = true := h5
            rw [← List.contains_iff_mem]
            simpa using h5
          refine ⟨hL, ?_⟩
          refine iteB (fun h6 => ?_) (fun h6 => ?_)
          · refine ⟨h1, h2, as, rfl, h5, ?_⟩
            refine iteB (fun h7 => ?_) (fun h7 => ?_)
            · have h7 : ((V p as k : Nat) : Int) = (v : Int) := eq_of_beq h7
              exact hy ⟨h6, h5, by omega⟩
            · have h7 : (((V p as k : Nat) : Int) == (v : Int)) = false := h7
              have h7 : ((V p as k : Nat) : Int) ≠ (v : Int) := by simpa using h7
              exact hno fun z => h7 (by rw [z.2.2])
          · exact hno fun z => by
              rw [show hasV x k = true from z.1] at h6
              cases h6
        · exact hno fun z => by
            have h5 : (!as.contains k) = false := h5
            have : as.contains k = true := by simpa using h5
            exact z.2.1 (List.contains_iff_mem.mp this)
      by_cases c1 : SV' x (f : Int) ∧ (f : Int) ∉ as ∧ V p as (f : Int) = v
      · have nr : Nr (SV' x) p as v (f : Int) := ⟨c1, fun y a b c => ⟨by have := hn y a b c; omega, fun _ => .inl (by omega)⟩⟩
        refine turn (f : Int) _ _ (by omega) (fun _ => ?_) (fun z => absurd c1 z)
        exact ⟨0, by omega, f + 1, some (f : Int), _, rfl, nr, rfl⟩
      · refine turn (f : Int) _ _ (by omega) (fun z => absurd z c1) (fun _ => ?_)
        by_cases c2 : SV' x (-(f : Int)) ∧ -(f : Int) ∉ as ∧ V p as (-(f : Int)) = v
        · have nr : Nr (SV' x) p as v (-(f : Int)) := ⟨c2, fun y a b c => ⟨by have := hn y a b c; omega, fun e => by
            rcases (show y = (f : Int) ∨ y = -(f : Int) by omega) with z | z
            · exact absurd (by rw [← z]; exact ⟨a, b, c⟩) c1
            · exact .inr z⟩⟩
          refine turn (-(f : Int)) _ _ (by omega) (fun _ => ?_) (fun z => absurd c2 z)
          exact ⟨0, by omega, f + 1, some (-(f : Int)), _, rfl, nr, rfl⟩
        · refine turn (-(f : Int)) _ _ (by omega) (fun z => absurd z c2) (fun _ => ?_)
          have ne : ∀ y, SV' x y → y ∉ as → V p as y = v → f + 1 ≤ y.natAbs := fun y a b c => by
            have := hn y a b c
            rcases Nat.lt_or_ge f y.natAbs with z | z
            · exact z
            · exfalso
              rcases (show y = (f : Int) ∨ y = -(f : Int) by omega) with z | z
              · exact c1 (by rw [← z]; exact ⟨a, b, c⟩)
              · exact c2 (by rw [← z]; exact ⟨a, b, c⟩)
          have := ne y0 hy0.1 hy0.2.1 hy0.2.2
          exact ⟨_, by omega, f + 1, none, _, rfl, ne, rfl⟩
  · exact h.elim

def f_is_endless_9e5fbc (Γ : String → Addr) : PSpec :=
  fun xs R _ => match xs with
  | [x] => isLotP x = true ∧ R (.bl (endlessV x))
  | _ => False
def t_is_endless_9e5fbc (Γ : String → Addr) (Ep : PX → Prop) : PS' :=
  (sRet (pOp fNe (pIxK 2 (pVar 0)) (pTup aNil)))
theorem v_is_endless_9e5fbc (Γ : String → Addr) : ∀ (xs : List PV) (R : PK) (Ep : PX → Prop), xs.length = 1 → f_is_endless_9e5fbc Γ xs R Ep → t_is_endless_9e5fbc Γ Ep { nx := fun _ => R .non, rt := R } (pstart 1 xs) := by
  intro xs R Ep hl h
  unfold f_is_endless_9e5fbc at h
  split at h
  · rename_i x
    obtain ⟨h1, h2⟩ := h
    obtain ⟨ns, m, rs, rfl, hb⟩ := lot_of h1
    rw [endlessV_mk] at h2
    refine ⟨dat_of (n := 2) (pdk_ints rs) (by decide), dat_of (n := 1) rfl (by decide), ?_⟩
    have e := peq_nil rs
    rw [e]
    exact h2
  · exact h.elim

def f_is_end_aa83c5 (Γ : String → Addr) : PSpec :=
  fun xs R _ => match xs with
  | [x, .int p] => isLotP x = true ∧ 2 ≤ p ∧ R (.bl (endB x p))
  | _ => False
def t_is_end_aa83c5 (Γ : String → Addr) (Ep : PX → Prop) : PS' :=
  (sRet (pIf (pBool (pCall (f_is_endless_9e5fbc Γ) Ep (aCons (pVar 0) aNil))) (pOp fNe (pOp fMod (pIxK 1 (pVar 0)) (pVar 1)) (pC (.int 0))) (pOp fEq (pCB gLen (aCons (pIxK 0 (pVar 0)) aNil)) (pC (.int 1)))))
theorem v_is_end_aa83c5 (Γ : String → Addr) : ∀ (xs : List PV) (R : PK) (Ep : PX → Prop), xs.length = 2 → f_is_end_aa83c5 Γ xs R Ep → t_is_end_aa83c5 Γ Ep { nx := fun _ => R .non, rt := R } (pstart 2 xs) := by
  intro xs R Ep hl h
  unfold f_is_end_aa83c5 at h
  split at h
  · rename_i x p
    obtain ⟨h1, h2, h3⟩ := h
    obtain ⟨ns, m, rs, rfl, hb⟩ := lot_of h1
    refine ⟨h1, ?_⟩
    rw [endB_mk] at h3
    rw [endlessV_mk]
    refine iteB (fun hc => ?_) (fun hc => ?_)
    · have hc : rs ≠ [] := fun z => by
        subst z
        cases hc
      rw [if_neg hc] at h3
      exact ⟨by omega, h3⟩
    · have hc : rs = [] := by
        have hc : (!rs.isEmpty) = false := hc
        simpa using hc
      rw [if_pos hc] at h3
      have e : ((ns.map PV.int).length : Int) = ns.length := by rw [List.length_map]
      show R (.bl (((ns.map PV.int).length : Int) == 1))
      rw [e]
      exact h3
  · exact h.elim

def f_merged_ea47aa (Γ : String → Addr) : PSpec :=
  fun xs R _ => match xs with
  | [.lst rows, .int n] => ∃ ls : List (List (Option Nat)), rows = ls.map (fun l => PV.lst (rowP l)) ∧ (∀ l ∈ ls, l.length ≤ 61) ∧ ls.length ≤ 100 ∧ 0 ≤ n ∧ n ≤ 61 ∧ ∀ s : List Nat, s.Perm (ls.flatMap (itemsN 0)) → s.Pairwise (· ≤ ·) → R (.lst (rowP (pad n.toNat (s.take n.toNat))))
  | _ => False
def t_merged_ea47aa (Γ : String → Addr) (Ep : PX → Prop) : PS' :=
  (sSeq (sAsg (pCB gSortB (aCons (pLc2 (.nm 3) [3, 4, 5] (iItems (pVar 0)) cYes (iEnumP (aCons (pVar 3) aNil)) (.tp [4, 5]) [4, 5] (pBool (pOp fNotN (pVar 5) (pC .non))) (pOp fAdd (pVar 5) (pVar 4))) aNil)) (.nm 2))
    (sRet (pOp fAdd (pSl (pVar 2) oNone (oSome (pVar 1))) (pOp fMul (pLst (aCons (pC .non) aNil)) (pOp fSub (pVar 1) (pCB gLen (aCons (pVar 2) aNil)))))))
theorem v_merged_ea47aa (Γ : String → Addr) : ∀ (xs : List PV) (R : PK) (Ep : PX → Prop), xs.length = 2 → f_merged_ea47aa Γ xs R Ep → t_merged_ea47aa Γ Ep { nx := fun _ => R .non, rt := R } (pstart 6 xs) := by
  intro xs R Ep hl h
  unfold f_merged_ea47aa at h
  split at h
  · rename_i rows n
    obtain ⟨ls, rfl, h1, h2, h3, h4, h5⟩ := h
    refine lc2_rows ls [] h1 (by rw [List.length_nil]; omega) ?_
    rw [List.nil_append]
    obtain ⟨s, e1, e2, e3⟩ := sortI_nat (ls.flatMap (itemsN 0))
    refine ⟨(ls.flatMap (itemsN 0)).map fun v : Nat => (v : Int), by rw [← ints_map]; congr 1; rw [List.map_map]; rfl, ?_⟩
    rw [e1]
    obtain ⟨N, rfl⟩ := Int.eq_ofNat_of_zero_le h3
    have z := h5 s e2 e3
    rw [Int.toNat_natCast] at z
    have el : ((s.map fun v : Nat => (v : Int)).map PV.int).length = s.length := by rw [List.length_map, List.length_map]
    have sl : s.length ≤ 6100 := by
      have := itemsN_flat h1
      rw [← e2.length_eq] at this
      omega
    refine ⟨⟨by omega, by omega, ?_⟩, ?_, ?_⟩
    · have : ((N : Int) - (((s.map fun v : Nat => (v : Int)).map PV.int).length : Int)).toNat ≤ N := by omega
      exact Nat.le_trans (Nat.mul_le_mul (Nat.le_refl 1) this) (OkW.line (by omega))
    · rw [cut_take]
      have l1 : ((((s.map fun v : Nat => (v : Int)).map PV.int).take N).length) ≤ N := by rw [List.length_take]; omega
      have l2 : (List.replicate ((N : Int) - (((s.map fun v : Nat => (v : Int)).map PV.int).length : Int)).toNat [PV.non]).flatten.length ≤ N := by
        rw [flat_one, List.length_replicate]
        omega
      exact OkW.line (by omega)
    · rw [cut_take, flat_one, el]
      have e : ((s.map fun v : Nat => (v : Int)).map PV.int).take N ++ List.replicate ((N : Int) - (s.length : Int)).toNat PV.non = rowP (pad N (s.take N)) := by
        unfold rowP pad
        rw [List.map_append, List.map_replicate, List.map_map, ← List.map_take, List.map_map, List.length_take]
        congr 2
        omega
      rw [e]
      exact z
  · exact h.elim

def f_trimmed_lot_bc60e7 (Γ : String → Addr) : PSpec :=
  fun xs R _ => match xs with
  | [.tup [.tup ns, .int m, .tup zs]] => ∃ rs : List Int, zs = rs.map PV.int ∧ 1 ≤ m ∧ m ≤ 60 ∧ rs.Pairwise (· < ·) ∧ (∀ r ∈ rs, 0 ≤ r ∧ r < m) ∧ ∀ less some, TrimP m rs less some → R (.tup [.tup ns, .int less, .tup (some.map PV.int)])
  | _ => False
def t_trimmed_lot_bc60e7 (Γ : String → Addr) (Ep : PX → Prop) : PS' :=
  (sSeq (sAsg (pVar 0) (.tp [1, 2, 3]))
    (sSeq (sFor (iRange2 (aCons (pC (.int 1)) (aCons (pOp fAdd (pVar 2) (pC (.int 1))) aNil))) (.nm 4) (sIf (pBool (pOp fEq (pOp fMod (pVar 2) (pVar 4)) (pC (.int 0)))) (sSeq (sAsg (pCB gSortB (aCons (pDc (.nm 6) [6] (iItems (pVar 3)) cYes (pOp fMod (pVar 6) (pVar 4)) (pC (.bl true))) aNil)) (.nm 5))
    (sIf (pBool (pOp fEq (pOp fMul (pCB gLen (aCons (pVar 5) aNil)) (pOp fDiv (pVar 2) (pVar 4))) (pCB gLen (aCons (pVar 3) aNil)))) (sRet (pTup (aCons (pVar 1) (aCons (pVar 4) (aCons (pCB gTuple (aCons (pVar 5) aNil)) aNil))))) sNext)) sNext))
    (sRet (pVar 0))))
theorem v_trimmed_lot_bc60e7 (Γ : String → Addr) : ∀ (xs : List PV) (R : PK) (Ep : PX → Prop), xs.length = 1 → f_trimmed_lot_bc60e7 Γ xs R Ep → t_trimmed_lot_bc60e7 Γ Ep { nx := fun _ => R .non, rt := R } (pstart 7 xs) := by
  intro xs R Ep hl h
  unfold f_trimmed_lot_bc60e7 at h
  split at h
  · rename_i ns m zs
    obtain ⟨rs, rfl, m1, m60, pw, hr, hR⟩ := h
    have hn : rs.Nodup := pw.imp fun {a b} z => by omega
    have hrl : rs.length ≤ 60 := by
      have h1 := rise_len (lo := 0) (hi := m - 1) (rise_pw pw) fun r hr2 => by
        have := hr r hr2
        omega
      omega
    refine ⟨⟨by omega, by omega, by omega, by omega, by omega⟩, ?_⟩
    have hlen : (rangeP 1 (m + 1)).length = m.toNat := by
      simp only [rangeP, List.length_map, List.length_range]
      omega
    refine forGo_inv (fun j ρ => ∃ a b c : Option SV, ρ = [some (.val (.tup [.tup ns, .int m, .tup (rs.map PV.int)])), some (.val (.tup ns)), some (.val (.int m)), some (.val (.tup (rs.map PV.int))), a, b, c] ∧ ∀ l : Int, 1 ≤ l → l ≤ j → m % l = 0 → NotC m rs l) _ 0 _ ⟨_, _, _, rfl, fun l a b => by omega⟩ (fun j y ρ hy hI P' hrt hnx hct hbk => ?_) ?_
    · obtain ⟨a, b, c, rfl, hI⟩ := hI
      rw [Nat.zero_add] at hI hnx
      have hjy : y = .int (1 + (j : Int)) ∧ (j : Int) < m := by
        unfold rangeP at hy
        rw [List.getElem?_map, Option.map_eq_some_iff] at hy
        obtain ⟨n, h1, h2⟩ := hy
        obtain ⟨h3, h4⟩ := List.getElem?_eq_some_iff.mp h1
        simp at h3 h4
        subst h4
        exact ⟨h2.symm, by omega⟩
      obtain ⟨rfl, hjm⟩ := hjy
      have nxt : ∀ a b c : Option SV, NotC m rs (1 + (j : Int)) ∨ m % (1 + (j : Int)) ≠ 0 → P'.nx [some (.val (.tup [.tup ns, .int m, .tup (rs.map PV.int)])), some (.val (.tup ns)), some (.val (.int m)), some (.val (.tup (rs.map PV.int))), a, b, c] := fun a b c hc => hnx _ ⟨a, b, c, rfl, fun l l1 l2 l3 => by
        by_cases e : l = 1 + (j : Int)
        · rcases hc with hc | hc
          · rw [e]; exact hc
          · rw [e] at l3; exact absurd l3 hc
        · exact hI l l1 (by omega) l3⟩
      refine ⟨by omega, ?_⟩
      refine iteB (fun h0 => ?_) (fun h0 => ?_)
      · have h0 : (m % (1 + (j : Int)) == 0) = true := h0
        have h0 : m % (1 + (j : Int)) = 0 := eq_of_beq h0
        refine ⟨OkW.lt (by rw [List.length_map]; omega), ?_⟩
        refine dcGo_set (fun y => match y with
          | .int r => r % (1 + (j : Int))
          | _ => 0) (.bl true) _ [] [] rfl (by simp) (fun y hy Q hq => ?_) fun acc ks k1 k2 k3 k4 => ?_
        · obtain ⟨r, _, rfl⟩ := List.mem_map.mp hy
          exact ⟨by omega, hq⟩
        · have hk : ∀ c, c ∈ ks ↔ ∃ r ∈ rs, r % (1 + (j : Int)) = c := fun c => by
            rw [k3 c]
            constructor
            · rintro (z | ⟨y, hy, e⟩)
              · cases z
              · obtain ⟨r, hr2, rfl⟩ := List.mem_map.mp hy
                exact ⟨r, hr2, e⟩
            · rintro ⟨r, hr2, e⟩
              exact .inr ⟨_, List.mem_map.mpr ⟨r, hr2, rfl⟩, e⟩
          rw [List.length_map] at k4
          have k4 : ks.length ≤ 60 := by simp at k4; omega
          have hsl : ((sortI ks).map PV.int).length = ks.length := by rw [List.length_map, (sortI_perm ks).length_eq]
          refine ⟨ks, k1, by omega, ?_⟩
          refine ⟨wide_div (b := 20) (by omega) (by omega) (by decide) (by decide), ?_⟩
          refine ⟨.of_left (intBits_le_64 (by omega) (by omega)), ?_⟩
          refine iteB (fun he => ?_) (fun he => ?_)
          · have he : ((((sortI ks).map PV.int).length : Int) * (m / (1 + (j : Int))) == ((rs.map PV.int).length : Int)) = true := he
            have he := eq_of_beq he
            rw [hsl, List.length_map] at he
            have z := hR _ _ (trim_mk (m := m) (less := 1 + (j : Int)) (by omega) (by omega) h0 hn hr k2 hk he fun l l1 l2 l3 => hI l l1 (by omega) l3)
            show P'.rt _
            rw [hrt]
            exact z
          · have he : ((((sortI ks).map PV.int).length : Int) * (m / (1 + (j : Int))) == ((rs.map PV.int).length : Int)) = false := he
            have he : ¬ (((((sortI ks).map PV.int).length : Int) * (m / (1 + (j : Int)))) = ((rs.map PV.int).length : Int)) := by simpa using he
            rw [hsl, List.length_map] at he
            refine nxt _ _ _ (.inl fun ks' b1 b2 b3 => he ?_)
            rw [same_len k2 b1 fun c => (hk c).trans (b2 c).symm]
            exact b3
      · have h0 : (m % (1 + (j : Int)) == 0) = false := h0
        exact nxt _ _ _ (.inr (by simpa using h0))
    · rintro ρ ⟨a, b, c, rfl, hI⟩
      exfalso
      rw [Nat.zero_add, hlen] at hI
      refine hI m m1 (by omega) (Int.emod_self) rs hn (fun c => ?_) ?_
      · constructor
        · intro hc
          have := hr c hc
          exact ⟨c, hc, Int.emod_eq_of_lt this.1 this.2⟩
        · rintro ⟨r, hr2, e⟩
          have := hr r hr2
          rw [Int.emod_eq_of_lt this.1 this.2] at e
          rw [← e]
          exact hr2
      · rw [Int.ediv_self (by omega), Int.mul_one]
  · exact h.elim

def f_part_by_979565 (Γ : String → Addr) : PSpec :=
  fun xs R _ => match xs with
  | [x, .int p, .int r] => isLotP x = true ∧ PrimeI p ∧ p < 2000 ∧ 0 ≤ r ∧ r < p ∧ ∀ ns m rs out, x = mkLot ns m rs → PartP ns m rs p r out → R out
  | _ => False
def t_part_by_979565 (Γ : String → Addr) (Ep : PX → Prop) : PS' :=
  (sSeq (sAsg (pVar 0) (.tp [3, 4, 5]))
    (sSeq (sAsg (pCB gTuple (aCons (pLc (.nm 10) [10] (iItems (pVar 3)) (pBool (pOp fEq (pOp fMod (pVar 10) (pVar 1)) (pVar 2))) (pOp fDiv (pOp fSub (pVar 10) (pVar 2)) (pVar 1))) aNil)) (.nm 6))
    (sSeq (sIf (pBool (pOp fEq (pOp fMod (pVar 4) (pVar 1)) (pC (.int 0)))) (sSeq (sAsg (pOp fDiv (pVar 4) (pVar 1)) (.nm 7))
    (sAsg (pLc (.nm 11) [11] (iItems (pVar 5)) (pBool (pOp fEq (pOp fMod (pVar 11) (pVar 1)) (pVar 2))) (pOp fMod (pOp fDiv (pOp fSub (pVar 11) (pVar 2)) (pVar 1)) (pVar 7))) (.nm 8))) (sSeq (sAsg (pTup (aCons (pVar 4) (aCons (pCB gMin1 (aCons (pLc (.nm 10) [10] (iRange1 (aCons (pVar 4) aNil)) (pBool (pOp fEq (pOp fMod (pOp fMul (pVar 10) (pVar 1)) (pVar 4)) (pOp fMod (pC (.int 1)) (pVar 4)))) (pVar 10)) aNil)) aNil))) (.tp [7, 9]))
    (sAsg (pLc (.nm 11) [11] (iItems (pVar 5)) cYes (pOp fMod (pOp fMul (pOp fSub (pVar 11) (pVar 2)) (pVar 9)) (pVar 4))) (.nm 8))))
    (sSeq (sIf (pBool (pOp fEq (pVar 8) (pLst aNil))) (sRet (pIf (pBool (pOp fNe (pVar 6) (pTup aNil))) (pTup (aCons (pVar 6) (aCons (pC (.int 1)) (aCons (pTup aNil) aNil)))) (pC .non))) sNext)
    (sRet (pCall (f_trimmed_lot_bc60e7 Γ) Ep (aCons (pTup (aCons (pVar 6) (aCons (pVar 7) (aCons (pCB gTuple (aCons (pCB gSortB (aCons (pVar 8) aNil)) aNil)) aNil)))) aNil)))))))
theorem v_part_by_979565 (Γ : String → Addr) : ∀ (xs : List PV) (R : PK) (Ep : PX → Prop), xs.length = 3 → f_part_by_979565 Γ xs R Ep → t_part_by_979565 Γ Ep { nx := fun _ => R .non, rt := R } (pstart 12 xs) := by
  intro xs R Ep hl h
  unfold f_part_by_979565 at h
  split at h
  · rename_i x p r
    obtain ⟨hL, hp, p2, r0, rp, hR⟩ := h
    obtain ⟨ns, m, rs, rfl, hb⟩ := lot_of hL
    have hR := fun out => hR ns m rs out rfl
    have pp := hp.1
    have hm := lotB_pos hb
    have hm60 := lotB_m hb
    have hrs := lotB_rs hb
    have hr60 := lotB_r60 hb
    have hpw : rs.Pairwise (· < ·) := rise_to (lotB_rise hb).2
    have hnd : rs.Nodup := hpw.imp fun {a b} z => by omega
    have cd : ∀ {q : Int}, 0 < q → q < 4096 → CDivW 0 q := fun a b => wide_div (b := 20) a (by omega) (by decide) (by decide)
    have fin : ∀ (less : Int) (late : List Int), LateP m rs p r less late → (dat (.lst (late.map PV.int)) ∧ dat (.lst []) ∧ (if peq (.lst (late.map PV.int)) (.lst []) = true then (dat (.tup ((partN p r ns).map PV.int)) ∧ dat (.tup []) ∧ (if (!peq (.tup ((partN p r ns).map PV.int)) (.tup [])) = true then R (.tup [.tup ((partN p r ns).map PV.int), .int 1, .tup []]) else R .non))
        else ∃ bs, ints? (late.map PV.int) = some bs ∧ f_trimmed_lot_bc60e7 Γ [.tup [.tup ((partN p r ns).map PV.int), .int less, .tup ((sortI bs).map PV.int)]] R Ep)) := fun less late hlt => by
      obtain ⟨g1, g2, g3, g4⟩ := hlt.good (by omega) hp r0 rp hnd hrs
      refine ⟨dat_of (n := 2) (pdk_ints late) (by decide), dat_of (n := 1) rfl (by decide), ?_⟩
      have el : peq (.lst (late.map PV.int)) (.lst []) = late.isEmpty := by
        unfold peq
        rw [peqs_nil]
        cases late <;> rfl
      rw [el]
      refine iteB (fun he => ?_) (fun he => ?_)
      · have he : late = [] := by simpa using he
        subst he
        refine ⟨dat_of (n := 2) (pdk_ints _) (by decide), dat_of (n := 1) rfl (by decide), ?_⟩
        rw [peq_nil]
        refine iteB (fun hn => ?_) (fun hn => ?_)
        · exact hR _ (.fin hlt (by intro z; rw [z] at hn; cases hn))
        · exact hR _ (.none hlt (by simpa using hn))
      · have he : late ≠ [] := fun z => by rw [z] at he; cases he
        exact ⟨late, ints_map late, sortI late, rfl, g1, by omega, sortI_rise g3, fun c hc => g4 c (mem_sortI.mp hc), fun l some ht => hR _ (.lot hlt he ht)⟩
    refine lcGo_map (keepI fun n => n % p == r) (mapI fun n => (n - r) / p) _ _ (fun y hy Q1 Q2 hq hq2 => ?_) ?_
    · obtain ⟨n, _, rfl⟩ := List.mem_map.mp hy
      exact ⟨by omega, iteB (fun h => ⟨cd (by omega) (by omega), hq h⟩) (fun h => hq2 h)⟩
    · rw [lc_ints]
      refine ⟨by omega, ?_⟩
      refine iteB (fun h0 => ?_) (fun h0 => ?_)
      · have h0 : (m % p == 0) = true := h0
        have h0 : m % p = 0 := eq_of_beq h0
        refine ⟨cd (by omega) (by omega), ?_⟩
        obtain ⟨g1, _⟩ := (LateP.dv (rs := rs) (r := r) h0).good (by omega) hp r0 rp hnd hrs
        refine lcGo_map (keepI fun n => n % p == r) (mapI fun n => (n - r) / p % (m / p)) _ _ (fun y hy Q1 Q2 hq hq2 => ?_) ?_
        · obtain ⟨n, _, rfl⟩ := List.mem_map.mp hy
          exact ⟨by omega, iteB (fun h => ⟨cd (by omega) (by omega), by omega, hq h⟩) (fun h => hq2 h)⟩
        · rw [lc_ints]
          exact fin _ _ (.dv h0)
      · have h0 : (m % p == 0) = false := h0
        have h0 : m % p ≠ 0 := by simpa using h0
        refine ⟨⟨by omega, by omega⟩, ?_⟩
        refine lcGo_map (keepI fun n => n * p % m == 1 % m) (mapI fun n => n) _ _ (fun y hy Q1 Q2 hq hq2 => ?_) ?_
        · obtain ⟨n, rfl, n0, n1⟩ := mem_rangeP hy
          exact ⟨.of_left (intBits_le_64 (by omega) (by omega)), hm, hm, iteB hq hq2⟩
        · obtain ⟨bk, hbk, hbm⟩ := range_ints 0 m
          rw [hbk, lc_ints]
          have hmem : ∀ k : Int, k ∈ ((bk.filter fun n => n * p % m == 1 % m).map fun n => n) ↔ 0 ≤ k ∧ k < m ∧ (k * p) % m = 1 % m := fun k => by
            rw [List.map_id', List.mem_filter, hbm k]
            constructor
            · rintro ⟨⟨z1, z2⟩, z3⟩
              exact ⟨z1, z2, eq_of_beq z3⟩
            · rintro ⟨z1, z2, z3⟩
              exact ⟨⟨z1, z2⟩, beq_iff_eq.mpr z3⟩
          obtain ⟨b, b0, b1, b2⟩ := inv_ex (by omega) (prime_coprime hp hm h0)
          refine ⟨_, ints_map _, List.length_pos_of_mem ((hmem b).mpr ⟨b0, b1, b2⟩), fun back hb1 hb2 => ?_⟩
          have hi : IsInv m p back := ⟨(hmem back).mp hb1, fun z z0 z1 z2 => hb2 z ((hmem z).mpr ⟨z0, z1, z2⟩)⟩
          refine lcGo_map1 (mapI fun i => (i - r) * back % m) _ _ (fun y hy Q1 hq => ?_) ?_
          · obtain ⟨i, hi2, rfl⟩ := List.mem_map.mp hy
            have := hrs i hi2
            exact ⟨.of_left (intBits_le_64 (by omega) (by omega)), hm, hq⟩
          · rw [lc_ints1]
            exact fin _ _ (.nd h0 hi)
  · exact h.elim

def f_plain_row_f1ac80 (Γ : String → Addr) : PSpec :=
  fun xs R _ => match xs with
  | [.int p, .int n] => 2 ≤ p ∧ p < 4000 ∧ 0 ≤ n ∧ n ≤ 61 ∧ R (.lst (rowP ((wl p n.toNat).map some)))
  | _ => False
def t_plain_row_f1ac80 (Γ : String → Addr) (Ep : PX → Prop) : PS' :=
  (sSeq (sOwnL 2 (aCons (pC (.int 0)) aNil))
    (sSeq (sFor (iRange2 (aCons (pC (.int 1)) (aCons (pVar 1) aNil))) (.nm 3) (sApp 2 (pBor (pOp fAdd (pOp fIx (pVar 2) (pNeg (pC (.int 1)))) (pCall (f_power_in_9476c2 Γ) Ep (aCons (pVar 0) (aCons (pVar 3) aNil)))))))
    (sFrz 2 (sRet (pSl (pVar 2) oNone (oSome (pVar 1)))))))
theorem v_plain_row_f1ac80 (Γ : String → Addr) : ∀ (xs : List PV) (R : PK) (Ep : PX → Prop), xs.length = 2 → f_plain_row_f1ac80 Γ xs R Ep → t_plain_row_f1ac80 Γ Ep { nx := fun _ => R .non, rt := R } (pstart 4 xs) := by
  intro xs R Ep hl h
  unfold f_plain_row_f1ac80 at h
  split at h
  · rename_i p n
    obtain ⟨h1, h2, h3, h4, h5⟩ := h
    refine ⟨⟨by decide, by decide, by omega, by omega, by omega⟩, ?_⟩
    have len : (rangeP 1 n).length = (n - 1).toNat := by simp [rangeP]
    refine forGo_inv (fun j ρ => ∃ a, ρ = [some (.val (.int p)), some (.val (.int n)), some (.own ((wl p (j + 1)).map fun v : Nat => PV.int v)), a]) _ 0 _ ⟨none, rfl⟩ (fun j y ρ hy hI P' hrt hnx hct hbk => ?_) ?_
    · obtain ⟨a, rfl⟩ := hI
      rw [Nat.zero_add] at hnx ⊢
      have hj : y = .int (1 + (j : Int)) ∧ j < (n - 1).toNat := by
        unfold rangeP at hy
        rw [List.getElem?_map] at hy
        obtain ⟨k, z1, z2⟩ := Option.map_eq_some_iff.mp hy
        have := List.getElem?_eq_some_iff.mp z1
        obtain ⟨z3, z4⟩ := this
        rw [List.length_range] at z3
        rw [List.getElem_range] at z4
        subst z4
        exact ⟨z2.symm, z3⟩
      obtain ⟨rfl, hj⟩ := hj
      have e1 : wl p (j + 1 + 1) = wl p (j + 1) ++ [wP p (j + 1)] := by
        unfold wl
        rw [List.range_succ, List.map_append]
        rfl
      have el : (wl p (j + 1)).length = j + 1 := by
        unfold wl
        rw [List.length_map, List.length_range]
      have ea : (wl p (j + 1)).getLast? = some (wP p j) := by
        unfold wl
        rw [List.range_succ, List.map_append]
        simp
      have eb : atI ((wl p (j + 1)).map fun v : Nat => PV.int v) (-1) = some (.int (wP p j)) := by
        rw [atI_last]
        rw [List.getLast?_map, ea]
        rfl
      refine ⟨_, eb, h1, h2, by omega, ?_⟩
      refine ⟨rfl, OkW.lt (by rw [List.length_map, el]; omega), ?_⟩
      have e2 : (wP p j : Int) + (vp p (1 + (j : Int)) : Nat) = ((wP p (j + 1) : Nat) : Int) := by
        show _ = ((wP p j + vp p ((j : Int) + 1) : Nat) : Int)
        rw [Int.add_comm 1 (j : Int)]
        omega
      refine hnx _ ⟨some (.val (.int (1 + (j : Int)))), ?_⟩
      show [_, _, some (SV.own (_ ++ [PV.int ((wP p j : Int) + (vp p (1 + (j : Int)) : Nat))])), _] = _
      rw [e1, e2, List.map_append]
      rfl
    · rintro ρ ⟨a, rfl⟩
      show R (.lst (cutP _ none (some n)))
      obtain ⟨N, rfl⟩ := Int.eq_ofNat_of_zero_le h3
      rw [Nat.zero_add, len, cut_take]
      have e3 : ((wl p (((N : Int) - 1).toNat + 1)).map fun v : Nat => PV.int v).take N = rowP ((wl p N).map some) := by
        unfold rowP
        rw [List.map_map, ← List.map_take]
        unfold wl
        rw [← List.map_take, List.take_range, Nat.min_eq_left (by omega)]
        rfl
      rw [e3]
      exact h5
  · exact h.elim

def f_rests_of_228150 (Γ : String → Addr) : PSpec :=
  fun xs R _ => match xs with
  | [x, .int d] => isLotP x = true ∧ 1 ≤ d ∧ d ≤ 2000 ∧ ∀ L : List Int, RestP x d L → R (.lst (L.map PV.int))
  | _ => False
def t_rests_of_228150 (Γ : String → Addr) (Ep : PX → Prop) : PS' :=
  (sSeq (sAsg (pCB gGcd (aCons (pIxK 1 (pVar 0)) (aCons (pVar 1) aNil))) (.nm 2))
    (sSeq (sAsg (pDc (.nm 5) [5] (iItems (pIxK 2 (pVar 0))) cYes (pOp fMod (pVar 5) (pVar 2)) (pC (.bl true))) (.nm 3))
    (sSeq (sDcO 4 (pDc (.nm 6) [6] (iItems (pIxK 0 (pVar 0))) cYes (pOp fMod (pVar 6) (pVar 1)) (pC (.bl true))))
    (sSeq (sUpd 4 (pDc (.nm 5) [5] (iRange1 (aCons (pVar 1) aNil)) (pBool (pOp (fInD false) (pOp fMod (pVar 5) (pVar 2)) (pVar 3))) (pVar 5) (pC (.bl true))))
    (sFrzD 4 (sRet (pCB gSortB (aCons (pVar 4) aNil))))))))
theorem v_rests_of_228150 (Γ : String → Addr) : ∀ (xs : List PV) (R : PK) (Ep : PX → Prop), xs.length = 2 → f_rests_of_228150 Γ xs R Ep → t_rests_of_228150 Γ Ep { nx := fun _ => R .non, rt := R } (pstart 7 xs) := by
  intro xs R Ep hl h
  unfold f_rests_of_228150 at h
  split at h
  · rename_i x d
    obtain ⟨hL, d1, d2, hR⟩ := h
    obtain ⟨ns, m, rs, rfl, hb⟩ := lot_of hL
    have hm := lotB_pos hb
    have h60 := lotB_m hb
    have hnl := lotB_len hb
    have hrl := lotB_r60 hb
    have gp : 0 < Nat.gcd m.natAbs d.natAbs := Nat.gcd_pos_of_pos_left _ (by omega)
    refine ⟨OkW.lt (by rw [List.length_map]; omega), ?_⟩
    refine dcGo_set (fun y => match y with
      | .int r => r % ((Nat.gcd m.natAbs d.natAbs : Nat) : Int)
      | _ => 0) (.bl true) _ [] [] rfl (by simp) (fun y hy Q hq => ?_) fun acc sm k1 k2 k3 k4 => ?_
    · obtain ⟨r, _, rfl⟩ := List.mem_map.mp hy
      exact ⟨by omega, hq⟩
    · have hs : ∀ c, c ∈ sm ↔ ∃ r ∈ rs, r % ((Nat.gcd m.natAbs d.natAbs : Nat) : Int) = c := fun c => by
        rw [k3 c]
        constructor
        · rintro (z | ⟨y, hy, e⟩)
          · cases z
          · obtain ⟨r, hr2, rfl⟩ := List.mem_map.mp hy
            exact ⟨r, hr2, e⟩
        · rintro ⟨r, hr2, e⟩
          exact .inr ⟨_, List.mem_map.mpr ⟨r, hr2, rfl⟩, e⟩
      refine ⟨OkW.lt (by rw [List.length_map]; omega), ?_⟩
      refine dcGo_set (fun y => match y with
        | .int n => n % d
        | _ => 0) (.bl true) _ [] [] rfl (by simp) (fun y hy Q hq => ?_) fun fd fk f1 f2 f3 f4 => ?_
      · obtain ⟨n, _, rfl⟩ := List.mem_map.mp hy
        exact ⟨by omega, hq⟩
      · have hlen : (rangeP 0 d).length = d.toNat := by simp [rangeP]
        refine ⟨⟨by omega, by omega⟩, OkW.lt (by rw [hlen]; omega), ?_⟩
        refine dcGo_setK (keepI fun c => decide (c % ((Nat.gcd m.natAbs d.natAbs : Nat) : Int) ∈ sm)) (fun y => match y with
          | .int c => c
          | _ => 0) (.bl true) _ [] [] rfl (by simp) (fun y hy Q1 Q2 hq hq2 => ?_) fun gd gk g1 g2 g3 g4 => ?_
        · obtain ⟨c, rfl, _⟩ := mem_rangeP hy
          refine ⟨by omega, ?_⟩
          have ka := key_any (c := c % ((Nat.gcd m.natAbs d.natAbs : Nat) : Int)) k1
          refine iteB (fun h1 => hq ?_) (fun h1 => hq2 ?_)
          · exact ka.symm.trans h1
          · exact ka.symm.trans h1
        · have l1 : fd.length = fk.length := by simpa using congrArg List.length f1
          have l2 : gd.length = gk.length := by simpa using congrArg List.length g1
          rw [List.length_map] at f4
          rw [hlen] at g4
          simp only [List.length_nil] at f4 g4
          refine ⟨by omega, ?_⟩
          obtain ⟨ks, m1, m2, m3, m4⟩ := mergeP_keys f1 f2 g1
          refine ⟨ks, m1, by omega, ?_⟩
          refine hR _ (rest_mk hb (by omega) m2 hs fun c => ?_)
          rw [m3 c, f3 c, g3 c]
          constructor
          · rintro ((z | ⟨y, hy, e⟩) | (z | ⟨y, hy, e1, e⟩))
            · cases z
            · obtain ⟨n, hn, rfl⟩ := List.mem_map.mp hy
              exact .inl ⟨n, hn, e⟩
            · cases z
            · obtain ⟨c', rfl, c0, c1⟩ := mem_rangeP hy
              have e : c' = c := e
              subst e
              exact .inr ⟨c0, c1, of_decide_eq_true e1⟩
          · rintro (⟨n, hn, e⟩ | ⟨c0, c1, hc⟩)
            · exact .inl (.inr ⟨_, List.mem_map.mpr ⟨n, hn, rfl⟩, e⟩)
            · obtain ⟨rg, hrg, hrm⟩ := range_ints 0 d
              refine .inr (.inr ⟨.int c, ?_, decide_eq_true hc, rfl⟩)
              rw [hrg]
              exact List.mem_map.mpr ⟨c, (hrm c).mpr ⟨c0, c1⟩, rfl⟩
  · exact h.elim

def f_row_by_9ccc42 (Γ : String → Addr) : PSpec :=
  fun xs R _ => match xs with
  | [x, .int p, .int n] => isLotP x = true ∧ PrimeI p ∧ p < 2000 ∧ 0 ≤ n ∧ n ≤ 61 ∧ ∀ l, IsRow p (SV' x) n.toNat l → R (.lst (rowP l))
  | _ => False
def t_row_by_9ccc42 (Γ : String → Addr) (Ep : PX → Prop) : PS' :=
  (sSeq (sPar3O 3 4 5 (pOL (aCons (pVar 0) aNil)) (pOL aNil) (pVal (pC (.int 0))))
    (sSeq (sWhile (pBool (pOp fLt (pVar 5) (pBor (pCB gLen (aCons (pVar 3) aNil))))) (sSeq (sAsg (pOwnIx 3 (pVar 5)) (.nm 6))
    (sSeq (sIf (pBool (pCall (f_is_end_aa83c5 Γ) Ep (aCons (pVar 6) (aCons (pVar 1) aNil)))) (sApp 4 (pLst aNil)) (sSeq (sAsg (pLc (.nm 9) [9] (iItems (pCall (f_rests_of_228150 Γ) Ep (aCons (pVar 6) (aCons (pVar 1) aNil)))) cYes (pCall (f_part_by_979565 Γ) (fun _ => False) (aCons (pVar 6) (aCons (pVar 1) (aCons (pVar 9) aNil))))) (.nm 7))
    (sSeq (sApp 4 (pRg2 PV.lst (pBor (pCB gLen (aCons (pVar 3) aNil))) (pOp fAdd (pBor (pCB gLen (aCons (pVar 3) aNil))) (pCB gLen (aCons (pVar 7) aNil)))))
    (sExt 3 (pVar 7)))))
    (sAsg (pOp fAdd (pVar 5) (pC (.int 1))) (.nm 5)))))
    (sSeq (sSetO 8 (pOMul (aCons (pLst aNil) aNil) (pBor (pCB gLen (aCons (pVar 3) aNil)))))
    (sSeq (sFor (iDown (aCons (pOp fSub (pBor (pCB gLen (aCons (pVar 3) aNil))) (pC (.int 1))) (aCons (pNeg (pC (.int 1))) (aCons (pNeg (pC (.int 1))) aNil)))) (.nm 5) (sSeq (sAsg (pOwnIx 3 (pVar 5)) (.nm 6))
    (sIf (pBool (pOp fNe (pOwnIx 4 (pVar 5)) (pLst aNil))) (sPutL 8 (pCall (f_merged_ea47aa Γ) Ep (aCons (pLc (.nm 10) [10] (iItems (pOwnIx 4 (pVar 5))) cYes (pOwnIx 8 (pVar 10))) (aCons (pVar 2) aNil))) (pVar 5)) (sIf (pBool (pCall (f_is_endless_9e5fbc Γ) Ep (aCons (pVar 6) aNil))) (sPutL 8 (pCall (f_plain_row_f1ac80 Γ) Ep (aCons (pVar 1) (aCons (pVar 2) aNil))) (pVar 5)) (sPutL 8 (pSl (pOp fAdd (pLst (aCons (pC (.int 0)) aNil)) (pOp fMul (pLst (aCons (pC .non) aNil)) (pVar 2))) oNone (oSome (pVar 2))) (pVar 5))))))
    (sRet (pOwnIx 8 (pC (.int 0))))))))
theorem v_row_by_9ccc42 (Γ : String → Addr) : ∀ (xs : List PV) (R : PK) (Ep : PX → Prop), xs.length = 3 → f_row_by_9ccc42 Γ xs R Ep → t_row_by_9ccc42 Γ Ep { nx := fun _ => R .non, rt := R } (pstart 11 xs) := by
  intro xs R Ep hl h
  unfold f_row_by_9ccc42 at h
  split at h
  · rename_i x p n
    obtain ⟨hL, hp, p2, n0, n1, hR⟩ := h
    have pp := hp.1
    have wx := wL_le hL
    have sz : ∀ k : Nat, k ≤ 4000100 → k ≤ sizeLine := fun k hk => by rw [sizeLine_eq]; omega
    refine ⟨show 1 ≤ 100000 by decide, show 0 ≤ 100000 by decide, ?_⟩
    refine ⟨fun m ρ => ∃ (Ls Ps : List PV) (i : Nat) (a6 a7 : Option SV), ρ = [some (.val x), some (.val (.int p)), some (.val (.int n)), some (.own Ls), some (.own Ps), some (.val (.int (i : Int))), a6, a7, none, none, none] ∧ Ls[0]? = some x ∧ Ps.length = i ∧ i ≤ Ls.length ∧ (∀ y ∈ Ls, isLotP y = true) ∧
      (∀ (j : Nat) (P : PV), Ps[j]? = some P → NdAt p Ls j P) ∧ i + ((Ls.drop i).map wL).sum ≤ wL x ∧ m = wL x - i, ⟨_, [x], [], 0, none, none, rfl, rfl, rfl, Nat.zero_le _, fun y hy => ?_, fun j P z => ?_, ?_, rfl⟩, ?_⟩
    · rw [List.mem_singleton.mp hy]
      exact hL
    · simp at z
    · show 0 + (wL x + 0) ≤ wL x
      omega
    rintro m ρ ⟨Ls, Ps, i, a6, a7, rfl, h0, hPi, hi, hLs, hNd, hw, rfl⟩
    have lenL : Ls.length ≤ wL x := by
      have := len_sum (ys := Ls.drop i) fun y hy => hLs y (List.mem_of_mem_drop hy)
      rw [List.length_drop] at this
      omega
    refine ⟨rfl, ?_⟩
    refine iteB (fun hc => ?_) (fun hc => ?_)
    · have hc : (i : Int) < (Ls.length : Int) := of_decide_eq_true hc
      have hi2 : i < Ls.length := by omega
      have hx := List.getElem?_eq_getElem hi2
      generalize Ls[i] = y at hx
      have hy : isLotP y = true := hLs y (List.mem_of_getElem? hx)
      have ed : Ls.drop i = y :: Ls.drop (i + 1) := by
        rw [List.drop_eq_getElem_cons hi2]
        rw [List.getElem?_eq_getElem hi2] at hx
        rw [Option.some.inj hx]
      rw [ed, List.map_cons, List.sum_cons] at hw
      have wy := wL_pos hy
      refine ⟨y, atI_nat hx, ?_⟩
      refine ⟨hy, pp, ?_⟩
      refine iteB (fun he => ?_) (fun he => ?_)
      · refine ⟨sz _ (by omega), ?_⟩
        refine ⟨_, ?_, Ls, Ps ++ [.lst []], i + 1, _, a7, rfl, h0, by rw [List.length_append, hPi]; rfl, hi2, hLs, fun j P z => ?_, by omega, rfl⟩
        · omega
        · rcases Nat.lt_or_ge j Ps.length with c | c
          · rw [List.getElem?_append_left c] at z
            exact hNd j P z
          · rw [List.getElem?_append_right c] at z
            have hj : j = i := by
              have := (List.getElem?_eq_some_iff.mp z).1
              rw [List.length_singleton] at this
              omega
            subst hj
            rw [show j - Ps.length = 0 by omega] at z
            cases z
            exact ⟨y, hx, .inl ⟨he, rfl⟩⟩
      · refine ⟨hy, by omega, by omega, fun L hRL => ?_⟩
        obtain ⟨l100, lne⟩ := rest_len hy hp he hRL
        refine lcGo_pair (A := fun v w => ∃ r, v = .int r ∧ PartOf y p r w) _ _ (fun v hv Q1 hq => ?_) (fun l e1 e2 => ?_)
        · obtain ⟨r, hr, rfl⟩ := List.mem_map.mp hv
          obtain ⟨k, _, ek⟩ := (hRL.me r).mp hr
          exact ⟨hy, hp, p2, by rw [← ek]; exact Int.emod_nonneg _ (by omega), by rw [← ek]; exact Int.emod_lt_of_pos _ (by omega), fun ns m rs out ex hP => hq out ⟨r, rfl, ns, m, rs, ex, hP⟩⟩
        · rw [List.length_map] at e1
          have hpt : ∀ (t : Nat) (r : Int) (v : PV), L[t]? = some r → l[t]? = some v → PartOf y p r v := fun t r v z1 z2 => by
            obtain ⟨r', z3, z4⟩ := e2 t (.int r) v (by rw [List.getElem?_map, z1]; rfl) z2
            cases z3
            exact z4
          have wt := wt_parts hy hp he hRL e1 hpt
          have lotl : ∀ v ∈ l, isLotP v = true := fun v hv => by
            obtain ⟨t, ht⟩ := List.getElem?_of_mem hv
            have htl := (List.getElem?_eq_some_iff.mp ht).1
            obtain ⟨k, hk, ek⟩ := (hRL.me L[t]).mp (List.getElem_mem (by omega))
            exact (hpt t _ v (List.getElem?_eq_getElem (by omega)) ht).lot hy hp hk ek
          refine ⟨rfl, rfl, ?_⟩
          show ((_ ∧ _) ∧ _)
          refine ⟨⟨by omega, by omega, ?_, ?_, ?_⟩, sz _ (by omega), ?_⟩
          · rw [List.nil_append]
            omega
          · rw [List.nil_append]
            omega
          · rw [List.nil_append]
            omega
          refine ⟨sz _ (by rw [List.nil_append]; omega), ?_⟩
          rw [List.nil_append]
          refine ⟨_, ?_, Ls ++ l, Ps ++ [.lst (rangeP (Ls.length : Int) ((Ls.length : Int) + (l.length : Int)))], i + 1, _, _, rfl, ?_, by rw [List.length_append, hPi]; rfl, by rw [List.length_append]; omega, fun v hv => ?_, fun j P z => ?_, ?_, rfl⟩
          · omega
          · rw [List.getElem?_append_left (by omega)]
            exact h0
          · rcases List.mem_append.mp hv with z | z
            · exact hLs v z
            · exact lotl v z
          · rcases Nat.lt_or_ge j Ps.length with c | c
            · rw [List.getElem?_append_left c] at z
              exact (hNd j P z).app
            · rw [List.getElem?_append_right c] at z
              have hj : j = i := by
                have := (List.getElem?_eq_some_iff.mp z).1
                rw [List.length_singleton] at this
                omega
              subst hj
              rw [show j - Ps.length = 0 by omega] at z
              cases z
              refine ⟨y, by rw [List.getElem?_append_left hi2]; exact hx, .inr ⟨he, L, Ls.length, hRL, lne, l100, hi2, by rw [List.length_append]; omega, by rw [e1], fun t r z1 => ?_⟩⟩
              have ht := (List.getElem?_eq_some_iff.mp z1).1
              have e3 := List.getElem?_eq_getElem (show t < l.length by omega)
              refine ⟨l[t], ?_, hpt t r _ z1 e3⟩
              rw [List.getElem?_append_right (by omega), show Ls.length + t - Ls.length = t by omega]
              exact e3
          · rw [List.drop_append_of_le_length (by omega), List.map_append, List.sum_append]
            omega
    · have hc : ¬ ((i : Int) < (Ls.length : Int)) := of_decide_eq_false hc
      have ei : i = Ls.length := by omega
      subst ei
      have L0 : 0 < Ls.length := (List.getElem?_eq_some_iff.mp h0).1
      refine ⟨show 1 ≤ 100000 by decide, rfl, ?_⟩
      refine ⟨⟨by omega, by omega, sz _ (by rw [List.length_singleton]; omega)⟩, ?_⟩
      refine ⟨rfl, ?_⟩
      refine ⟨⟨rfl, by omega, by omega, by omega, by omega, by omega⟩, ?_⟩
      have dl : (downP ((Ls.length : Int) - 1) (-1)).length = Ls.length := by
        unfold downP
        rw [List.length_map, List.length_range]
        omega
      refine forGo_inv (fun j ρ => ∃ (Rs : List PV) (a5 a6 : Option SV), ρ = [some (.val x), some (.val (.int p)), some (.val (.int n)), some (.own Ls), some (.own Ps), a5, a6, a7, some (.own Rs), none, none] ∧ Rs.length = Ls.length ∧
        ∀ (i : Nat) (y : PV), Ls[i]? = some y → Ls.length ≤ i + j → ∃ l, IsRow p (SV' y) n.toNat l ∧ Rs[i]? = some (.lst (rowP l))) _ 0 _ ⟨_, _, _, rfl, ?_, fun i y hy hij => ?_⟩ (fun j v ρ hv hI P' hrt hnx hct hbk => ?_) ?_
      · rw [flat_one, List.length_replicate]
        omega
      · have := (List.getElem?_eq_some_iff.mp hy).1
        omega
      · obtain ⟨Rs, a5, b6, rfl, hRl, hrow⟩ := hI
        rw [Nat.zero_add] at hnx hrow
        obtain ⟨k, hk1, hk2, rfl⟩ : ∃ k : Nat, k < Ls.length ∧ k + j + 1 = Ls.length ∧ v = .int (k : Int) := by
          unfold downP at hv
          rw [List.getElem?_map] at hv
          obtain ⟨q, z1, z2⟩ := Option.map_eq_some_iff.mp hv
          obtain ⟨z3, z4⟩ := List.getElem?_eq_some_iff.mp z1
          rw [List.length_range] at z3
          rw [List.getElem_range] at z4
          subst z4
          refine ⟨Ls.length - 1 - j, by omega, by omega, ?_⟩
          rw [← z2]
          congr 1
          omega
        have hx := List.getElem?_eq_getElem hk1
        generalize Ls[k] = y at hx
        have hy : isLotP y = true := hLs y (List.mem_of_getElem? hx)
        have hPx := List.getElem?_eq_getElem (show k < Ps.length by omega)
        generalize Ps[k]'(by omega) = P at hPx
        have nd := hNd k P hPx
        obtain ⟨y', e1, nd⟩ := nd
        rw [hx] at e1
        cases e1
        have fin : ∀ l : List (Option Nat), IsRow p (SV' y) n.toNat l → ∃ j', ixN Rs.length (k : Int) = some j' ∧ P'.nx [some (.val x), some (.val (.int p)), some (.val (.int n)), some (.own Ls), some (.own Ps), some (.val (.int (k : Int))), some (.val y), a7, some (.own (Rs.set j' (.lst (rowP l)))), none, none] := fun l hl => by
          refine ⟨k, ixN_nat (by omega), hnx _ ⟨_, _, _, rfl, by rw [List.length_set]; exact hRl, fun i w hw hij => ?_⟩⟩
          by_cases c : i = k
          · subst c
            rw [hx] at hw
            cases hw
            exact ⟨l, hl, by rw [List.getElem?_set_self (by omega)]⟩
          · rw [List.getElem?_set_ne (fun z => c z.symm)]
            exact hrow i w hw (by omega)
        refine ⟨y, atI_nat hx, ?_⟩
        refine ⟨P, atI_nat hPx, ?_⟩
        rcases nd with ⟨he, rfl⟩ | ⟨he, L, a, hRL, lne, l100, hka, hab, rfl, hpt⟩
        · have er := end_row n.toNat hy hp he
          refine ⟨dat_nil, dat_nil, ?_⟩
          refine iteB (fun z => by cases z) (fun _ => ?_)
          refine ⟨hy, ?_⟩
          unfold endRow at er
          refine iteB (fun hc => ?_) (fun hc => ?_)
          · rw [if_pos hc] at er
            exact ⟨pp, by omega, n0, n1, fin _ er⟩
          · rw [if_neg (by rw [hc]; decide)] at er
            refine ⟨⟨by omega, by omega, sz _ (by rw [List.length_singleton]; omega)⟩, sz _ (by rw [flat_one, List.length_replicate, List.length_singleton]; omega), ?_⟩
            have z := fin _ er
            obtain ⟨N, rfl⟩ := Int.eq_ofNat_of_zero_le n0
            rw [Int.toNat_natCast] at z
            show ∃ j', _ ∧ _
            rw [flat_one, Int.toNat_natCast, cut_take]
            have e : rowP ((some 0 :: List.replicate N none).take N) = ([PV.int 0] ++ List.replicate N PV.non).take N := by
              unfold rowP
              rw [List.map_take, List.map_cons, List.map_replicate]
              rfl
            rw [e] at z
            exact z
        · obtain ⟨ks, hks, hkm⟩ := range_ints (a : Int) ((a : Int) + (L.length : Int))
          refine ⟨by rw [hks]; exact dat_ints ks, dat_nil, ?_⟩
          have ne : peq (.lst (rangeP (a : Int) ((a : Int) + (L.length : Int)))) (.lst []) = false := by
            rw [hks, lst_empty]
            have : (a : Int) ∈ ks := (hkm a).mpr (by have := List.length_pos_iff.mpr lne; omega)
            cases ks with
            | nil => cases this
            | cons _ _ => rfl
          rw [ne]
          refine iteB (fun _ => ?_) (fun z => by cases z)
          refine ⟨_, atI_nat hPx, ?_⟩
          refine lcGo_pair (A := fun v w => ∃ t : Nat, v = .int (t : Int) ∧ Rs[t]? = some w) _ _ (fun v hv Q1 hq => ?_) (fun l e1 e2 => ?_)
          · obtain ⟨q, rfl, q0, q1⟩ := mem_rangeP hv
            obtain ⟨t, rfl⟩ := Int.eq_ofNat_of_zero_le (show 0 ≤ q by omega)
            have z := List.getElem?_eq_getElem (show t < Rs.length by omega)
            exact ⟨_, atI_nat z, hq _ ⟨t, rfl, z⟩⟩
          · rw [range_len] at e1
            have ll : l.length = L.length := by omega
            have at_ : ∀ (t : Nat) (w : PV), l[t]? = some w → Rs[a + t]? = some w ∧ t < L.length := fun t w hw => by
              have tl := (List.getElem?_eq_some_iff.mp hw).1
              have z : (rangeP (a : Int) ((a : Int) + (L.length : Int)))[t]? = some (.int ((a : Int) + (t : Int))) := by
                have z1 := List.getElem?_eq_getElem (show t < (rangeP (a : Int) ((a : Int) + (L.length : Int))).length by rw [range_len]; omega)
                rw [z1, (range_get z1).1]
              obtain ⟨t', z3, z4⟩ := e2 t _ w z hw
              have : t' = a + t := by
                have := PV.int.inj z3
                omega
              rw [← this]
              exact ⟨z4, by omega⟩
            obtain ⟨ls, el, hls⟩ := pts_ex (F := fun l => PV.lst (rowP l)) (Q := fun t z => ∀ v, Ls[a + t]? = some v → IsRow p (SV' v) n.toNat z) l fun t w hw => by
              obtain ⟨z1, z2⟩ := at_ t w hw
              have z3 := List.getElem?_eq_getElem (show a + t < Ls.length by omega)
              obtain ⟨q, q1, q2⟩ := hrow (a + t) _ z3 (by omega)
              rw [z1] at q2
              refine ⟨q, Option.some.inj q2, fun v hv => ?_⟩
              rw [z3] at hv
              rw [← Option.some.inj hv]
              exact q1
            have lsl : L.length = ls.length := by rw [← ll, el, List.length_map]
            rw [List.nil_append, el]
            refine ⟨ls, rfl, fun q hq => ?_, by omega, n0, n1, fun s s1 s2 => ?_⟩
            · obtain ⟨t, ht⟩ := List.getElem?_of_mem hq
              have tl := (List.getElem?_eq_some_iff.mp ht).1
              have := (hls t q ht _ (List.getElem?_eq_getElem (show a + t < Ls.length by omega))).len
              omega
            · exact fin _ (nd_row hy hp hRL hab lsl hpt (fun t v z z1 z2 => hls t z z2 v z1) s1 s2)
      · rintro ρ ⟨Rs, a5, b6, rfl, hRl, hrow⟩
        rw [Nat.zero_add, dl] at hrow
        obtain ⟨l, z1, z2⟩ := hrow 0 x h0 (by omega)
        exact ⟨_, atI_nat (i := 0) z2, hR l z1⟩
  · exact h.elim

def f_first_order_by_b9829e (Γ : String → Addr) : PSpec :=
  fun xs R _ => match xs with
  | [x, .int p, .int n] => isLotP x = true ∧ PrimeI p ∧ p < 2000 ∧ 0 ≤ n ∧ n ≤ 60 ∧ ∀ l ts, IsRow p (SV' x) n.toNat l → NLs (SV' x) p [] l ts → R (.lst (ts.map PV.int))
  | _ => False
def t_first_order_by_b9829e (Γ : String → Addr) (Ep : PX → Prop) : PS' :=
  (sSeq (sOwn0 3)
    (sSeq (sFor (iItems (pCall (f_row_by_9ccc42 Γ) Ep (aCons (pVar 0) (aCons (pVar 1) (aCons (pVar 2) aNil))))) (.nm 4) (sIf (pBool (pOp fNotN (pVar 4) (pC .non))) (sApp 3 (pBor (pCall (f_nearest_966ac1 Γ) Ep (aCons (pVar 0) (aCons (pVar 1) (aCons (pVar 3) (aCons (pVar 4) aNil))))))) sNext))
    (sFrz 3 (sRet (pVar 3)))))
theorem v_first_order_by_b9829e (Γ : String → Addr) : ∀ (xs : List PV) (R : PK) (Ep : PX → Prop), xs.length = 3 → f_first_order_by_b9829e Γ xs R Ep → t_first_order_by_b9829e Γ Ep { nx := fun _ => R .non, rt := R } (pstart 5 xs) := by
  intro xs R Ep hl h
  unfold f_first_order_by_b9829e at h
  split at h
  · rename_i x p n
    obtain ⟨hL, hp, p2, n0, n1, hR⟩ := h
    have pp := hp.1
    refine ⟨hL, hp, p2, n0, by omega, fun l hl => ?_⟩
    have hll := hl.len
    obtain ⟨ws, rfl, hw⟩ := row_none hl
    refine forGo_inv (fun j ρ => ∃ (as : List Int) (vs : List Nat) (a4 : Option SV), ρ = [some (.val x), some (.val (.int p)), some (.val (.int n)), some (.own (as.map PV.int)), a4] ∧ Gr p (SV' x) as vs ∧ as.length = min j ws.length ∧
      ∀ ts, NLs (SV' x) p as ((pad n.toNat ws).drop j) ts → NLs (SV' x) p [] (pad n.toNat ws) (as ++ ts)) _ 0 _ ⟨[], [], none, rfl, .nil, (Nat.zero_min _).symm, fun ts h => h⟩ (fun j y ρ hy hI P' hrt hnx hct hbk => ?_) ?_
    · obtain ⟨as, vs, a4, rfl, hg, hal, hts⟩ := hI
      rw [Nat.zero_add] at hnx hal hts
      unfold rowP at hy
      rw [List.getElem?_map] at hy
      obtain ⟨o, ho, rfl⟩ := Option.map_eq_some_iff.mp hy
      have jl := (List.getElem?_eq_some_iff.mp ho).1
      have dr : (pad n.toNat ws).drop j = o :: (pad n.toNat ws).drop (j + 1) := by
        rw [List.drop_eq_getElem_cons jl]
        rw [List.getElem?_eq_getElem jl] at ho
        rw [Option.some.inj ho]
      rw [dr] at hts
      cases o with
      | none =>
        have := pad_non ho
        exact hnx _ ⟨as, vs, some (.val .non), rfl, hg, by omega, fun ts h => hts ts h⟩
      | some v =>
        obtain ⟨jw, _⟩ := pad_some ho
        have aj : as.length = j := by omega
        obtain ⟨r1, r2⟩ := row_next hl hg (by rw [aj]; exact ho)
        refine ⟨hL, pp, by omega, as, v, rfl, rfl, r1, fun t nr => ?_⟩
        refine ⟨rfl, OkW.lt (by rw [List.length_map]; omega), hnx _ ⟨as ++ [t], vs ++ [V p as t], some (.val (.int (v : Int))), ?_, hg.snoc nr.1.1 nr.1.2.1 (fun y hy hyn => by rw [nr.1.2.2]; exact r2 y hy hyn), by rw [List.length_append, List.length_singleton]; omega, fun ts h => ?_⟩⟩
        · rw [List.map_append]
          rfl
        · have := hts (t :: ts) ⟨t, ts, rfl, nr, h⟩
          rw [List.append_assoc]
          exact this
    · rintro ρ ⟨as, vs, a4, rfl, hg, hal, hts⟩
      have e : (rowP (pad n.toNat ws)).length = (pad n.toNat ws).length := by unfold rowP; rw [List.length_map]
      rw [Nat.zero_add, e, List.drop_length] at hts
      have z := hts [] rfl
      rw [List.append_nil] at z
      exact hR _ _ hl z
  · exact h.elim

def f_is_number_0ede20 (Γ : String → Addr) : PSpec :=
  fun xs R _ => match xs with
  | [x] => isD x = true ∧ R (.bl (isInt x))
  | _ => False
def t_is_number_0ede20 (Γ : String → Addr) (Ep : PX → Prop) : PS' :=
  (sRet (pAndV (pCB gIsi (aCons (pVar 0) (aCons (pC (.ty .int)) aNil))) (pNotV (pCB gIsi (aCons (pVar 0) (aCons (pC (.ty .bool)) aNil))))))
theorem v_is_number_0ede20 (Γ : String → Addr) : ∀ (xs : List PV) (R : PK) (Ep : PX → Prop), xs.length = 1 → f_is_number_0ede20 Γ xs R Ep → t_is_number_0ede20 Γ Ep { nx := fun _ => R .non, rt := R } (pstart 1 xs) := by
  intro xs R Ep hl h
  unfold f_is_number_0ede20 at h
  split at h
  · rename_i x
    obtain ⟨h1, h2⟩ := h
    cases x <;> first | (cases h1; done) | exact ⟨rfl, rfl, h2⟩ | exact ⟨rfl, h2⟩
  · exact h.elim

def f_is_rising_eafda1 (Γ : String → Addr) : PSpec :=
  fun xs R _ => match xs with
  | [x, .int lo, .int hi] => isD x = true ∧ okT x = true ∧ (∀ ys, x = .tup ys → ∀ y ∈ ys, isD y = true) ∧ R (.bl (risingP lo hi x))
  | _ => False
def t_is_rising_eafda1 (Γ : String → Addr) (Ep : PX → Prop) : PS' :=
  (sSeq (sIf (pOr (pNot (pBool (pCB gIsi (aCons (pVar 0) (aCons (pC (.ty .tuple)) aNil))))) (pNot (pBool (pCB gAll (aCons (pLc (.nm 3) [3] (iItems (pVar 0)) cYes (pAndV (pCall (f_is_number_0ede20 Γ) (fun _ => False) (aCons (pVar 3) aNil)) (pChain fLe fLe (pVar 1) (pVar 3) (pVar 2)))) aNil))))) (sRet (pC (.bl false))) sNext)
    (sRet (pCB gAll (aCons (pLc (.tp [3, 4]) [3, 4] (iZip (aCons (pVar 0) (aCons (pSl (pVar 0) (oSome (pC (.int 1))) oNone) aNil))) cYes (pOp fLt (pVar 3) (pVar 4))) aNil))))
theorem v_is_rising_eafda1 (Γ : String → Addr) : ∀ (xs : List PV) (R : PK) (Ep : PX → Prop), xs.length = 3 → f_is_rising_eafda1 Γ xs R Ep → t_is_rising_eafda1 Γ Ep { nx := fun _ => R .non, rt := R } (pstart 5 xs) := by
  intro xs R Ep hl h
  unfold f_is_rising_eafda1 at h
  split at h
  · rename_i x lo hi
    obtain ⟨h1, h0, h2, h3⟩ := h
    cases x with
    | tup ys =>
      refine ⟨rfl, ?_⟩
      refine lcGo_map1 (fun y => .bl (inR lo hi y)) _ _ (fun y hy Q1 hq => ?_) ?_
      · refine ⟨h2 _ rfl y hy, ?_⟩
        cases y with
        | int n => exact iteB (fun _ => iteB (fun h => by
            have h : decide (lo ≤ n) = true := h
            have e : inR lo hi (.int n) = decide (n ≤ hi) := by
              show (decide (lo ≤ n) && decide (n ≤ hi)) = _
              rw [h, Bool.true_and]
            rw [e] at hq
            exact hq) (fun h => by
            have h : decide (lo ≤ n) = false := h
            have e : inR lo hi (.int n) = false := by
              show (decide (lo ≤ n) && decide (n ≤ hi)) = _
              rw [h, Bool.false_and]
            rw [e] at hq
            exact hq)) (fun h => by cases h)
        | _ => exact hq
      · refine ⟨_, bools_mapf (inR lo hi) ys, ?_⟩
        refine iteB (fun h => ?_) (fun h => ?_)
        · have e : ys.all (inR lo hi) = false := by
            rw [List.all_map] at h
            cases q : ys.all (inR lo hi) with
            | false => rfl
            | true =>
              have h : (!(ys.all (inR lo hi))) = true := h
              rw [q] at h
              cases h
          rw [inR_rise ys e] at h3
          exact h3
        · have e : ys.all (inR lo hi) = true := by
            rw [List.all_map] at h
            cases q : ys.all (inR lo hi) with
            | true => rfl
            | false =>
              have h : (!(ys.all (inR lo hi))) = false := h
              rw [q] at h
              cases h
          obtain ⟨ns, e1, e2⟩ := inR_ints e
          have e3 := ints_inv e1
          subst e3
          rw [risingP_ints, e2, Bool.true_and] at h3
          have hc := cut_tail (ns.map PV.int)
          refine ⟨?_, ?_⟩
          · rw [hc]
            exact sz5 (Nat.le_trans (zip_len _) (of_decide_eq_true h0))
          · rw [hc]
            refine lcGo_map1 (fun y => .bl (pairI (fun a b => decide (a < b)) y)) _ _ (fun y hy Q1 hq => ?_) ⟨_, bools_mapf _ _, ?_⟩
            · obtain ⟨a, b, rfl⟩ := zip_ints ns ns.tail y (by rw [List.map_tail]; exact hy)
              exact hq
            · rw [zip_rise]
              exact h3
    | _ => first | (cases h1; done) | exact ⟨rfl, h3⟩
  · exact h.elim

def f_is_lot_of_9254f1 (Γ : String → Addr) : PSpec :=
  fun xs R _ => match xs with
  | [x] => dataP x = true ∧ R (.bl (isLotP x))
  | _ => False
def t_is_lot_of_9254f1 (Γ : String → Addr) (Ep : PX → Prop) : PS' :=
  (sSeq (sIf (pOr (pNot (pBool (pCB gIsi (aCons (pVar 0) (aCons (pC (.ty .tuple)) aNil))))) (pBool (pOp fNe (pCB gLen (aCons (pVar 0) aNil)) (pC (.int 3))))) (sRet (pC (.bl false))) sNext)
    (sSeq (sAsg (pVar 0) (.tp [1, 2, 3]))
    (sSeq (sIf (pOr (pNot (pBool (pCall (f_is_rising_eafda1 Γ) Ep (aCons (pVar 1) (aCons (pNeg (pC (.int 1000))) (aCons (pC (.int 1000)) aNil)))))) (pBool (pOp fGt (pCB gLen (aCons (pVar 1) aNil)) (pC (.int 40))))) (sRet (pC (.bl false))) sNext)
    (sSeq (sIf (pOr (pNot (pBool (pCall (f_is_number_0ede20 Γ) Ep (aCons (pVar 2) aNil)))) (pOr (pNot (pBool (pChain fLe fLe (pC (.int 1)) (pVar 2) (pC (.int 60))))) (pNot (pBool (pCall (f_is_rising_eafda1 Γ) Ep (aCons (pVar 3) (aCons (pC (.int 0)) (aCons (pOp fSub (pVar 2) (pC (.int 1))) aNil)))))))) (sRet (pC (.bl false))) sNext)
    (sSeq (sIf (pBool (pOp fEq (pVar 3) (pTup aNil))) (sRet (pAndV (pOp fEq (pVar 2) (pC (.int 1))) (pOp fNe (pVar 1) (pTup aNil)))) sNext)
    (sRet (pNotV (pCB gAny (aCons (pLc (.nm 4) [4] (iItems (pVar 1)) cYes (pOp (fIn false) (pOp fMod (pVar 4) (pVar 2)) (pVar 3))) aNil)))))))))
theorem v_is_lot_of_9254f1 (Γ : String → Addr) : ∀ (xs : List PV) (R : PK) (Ep : PX → Prop), xs.length = 1 → f_is_lot_of_9254f1 Γ xs R Ep → t_is_lot_of_9254f1 Γ Ep { nx := fun _ => R .non, rt := R } (pstart 5 xs) := by
  intro xs R Ep hl h
  unfold f_is_lot_of_9254f1 at h
  split at h
  · rename_i x
    obtain ⟨h1, h2⟩ := h
    have hd := dataP_isD h1
    cases x with
    | tup ys =>
      refine ⟨rfl, ?_⟩
      refine iteB (fun h => by cases h) (fun _ => ?_)
      refine iteB (fun h => ?_) (fun h => ?_)
      · have e : isLotP (.tup ys) = false := by
          cases q : isLotP (.tup ys) with
          | false => rfl
          | true =>
            obtain ⟨ns, m, rs, e, _⟩ := lot_of q
            cases e
            cases h
        rw [e] at h2
        exact h2
      · have h : (!((ys.length : Int) == 3)) = false := h
        have h3 : ys.length = 3 := by
          have h := nb_f h
          have h := eq_of_beq h
          omega
        clear h
        match ys, h3 with
        | [a, b, c], _ =>
        have hA : okT a = true ∧ okT b = true ∧ okT c = true ∧ pdk 29 a = true ∧ pdk 29 b = true ∧ pdk 29 c = true := by
          have h1 : ((okT a && (okT b && (okT c && true))) && (pdk 29 a && (pdk 29 b && (pdk 29 c && true)))) = true := h1
          simp only [Bool.and_eq_true, Bool.and_true] at h1
          exact ⟨h1.1.1, h1.1.2.1, h1.1.2.2, h1.2.1, h1.2.2.1, h1.2.2.2⟩
        obtain ⟨oa, ob, oc, pa, pb, pc⟩ := hA
        have el : ∀ {z : PV}, pdk 29 z = true → ∀ zs, z = .tup zs → ∀ y ∈ zs, isD y = true := fun {z} p zs e y hy => by
          subst e
          have p : zs.all (pdk 28) = true := p
          exact pdk_isD (List.all_eq_true.mp p y hy)
        refine ⟨pdk_isD pa, oa, el pa, ?_⟩
        refine iteB (fun hr => ?_) (fun hr => ?_)
        · have hr := nb_t hr
          have e : isLotP (.tup [a, b, c]) = false := by
            cases q : isLotP (.tup [a, b, c]) with
            | false => rfl
            | true =>
              obtain ⟨ns, m, rs, e, hb⟩ := lot_of q
              cases e
              rw [risingP_ints] at hr
              unfold lotB at hb
              simp only [Bool.and_eq_true] at hb
              obtain ⟨⟨⟨⟨⟨q1, q2⟩, q3⟩, q4⟩, q5⟩, q6⟩ := hb
              rw [q1, q2] at hr
              cases hr
          rw [e] at h2
          exact h2
        · obtain ⟨ns, rfl, e1, e2⟩ := risingP_inv (nb_f hr)
          refine iteB (fun h => ?_) (fun h => ?_)
          · have h : decide ((40 : Int) < ((ns.map PV.int).length : Int)) = true := h
            have e : isLotP (.tup [.tup (ns.map PV.int), b, c]) = false := by
              cases q : isLotP (.tup [.tup (ns.map PV.int), b, c]) with
              | false => rfl
              | true =>
                obtain ⟨ns', m, rs, e, hb⟩ := lot_of q
                have hz := congrArg (fun v => match v with | PV.tup [.tup xs, _, _] => xs | _ => []) e
                have hz : ns.map PV.int = ns'.map PV.int := hz
                unfold lotB at hb
                simp only [Bool.and_eq_true] at hb
                obtain ⟨⟨⟨⟨⟨q1, q2⟩, q3⟩, q4⟩, q5⟩, q6⟩ := hb
                have q3 := of_decide_eq_true q3
                rw [hz, List.length_map] at h
                have h := of_decide_eq_true h
                omega
            rw [e] at h2
            exact h2
          · have h40 : decide ((40 : Int) < ((ns.map PV.int).length : Int)) = false := h
            have h40 := of_decide_eq_false h40
            rw [List.length_map] at h40
            have no : ∀ {r : Bool}, (∀ m rs, b = .int m → c = .tup (rs.map PV.int) → lotB ns m rs = true → r = true) → r = false → isLotP (.tup [.tup (ns.map PV.int), b, c]) = false := fun {r} hr h0 => by
              cases q : isLotP (.tup [.tup (ns.map PV.int), b, c]) with
              | false => rfl
              | true =>
                obtain ⟨ns', m, rs, e, hb⟩ := lot_of q
                have hz := congrArg (fun v => match v with | PV.tup [.tup xs, _, _] => ints? xs | _ => none) e
                have hz : ints? (ns.map PV.int) = ints? (ns'.map PV.int) := hz
                rw [ints_map, ints_map] at hz
                cases hz
                have e1 := congrArg (fun v => match v with | PV.tup [_, x, _] => x | _ => .non) e
                have e2 := congrArg (fun v => match v with | PV.tup [_, _, x] => x | _ => .non) e
                rw [hr m rs e1 e2 hb] at h0
                cases h0
            refine ⟨pdk_isD pb, ?_⟩
            refine iteB (fun h => ?_) (fun h => ?_)
            · rw [no (r := isInt b) (fun m rs e _ _ => by rw [e]; rfl) (nb_t h)] at h2
              exact h2
            · have h := nb_f h
              cases b with
              | int m =>
                refine iteB (fun hm => ?_) (fun hm => ?_)
                · have hm : decide ((1 : Int) ≤ m) = true := hm
                  refine iteB (fun h6 => ?_) (fun h6 => ?_)
                  · have h6 : (!decide (m ≤ (60 : Int))) = true := h6
                    rw [no (r := decide (m ≤ (60 : Int))) (fun m' rs e _ hb => by
                      cases e
                      unfold lotB at hb
                      simp only [Bool.and_eq_true] at hb
                      obtain ⟨⟨⟨⟨⟨q1, q2⟩, q3⟩, q4⟩, q5⟩, q6⟩ := hb
                      unfold btw at q4
                      rw [Bool.and_eq_true] at q4
                      exact q4.2) (nb_t h6)] at h2
                    exact h2
                  · have h6 : (!decide (m ≤ (60 : Int))) = false := h6
                    refine ⟨pdk_isD pc, oc, el pc, ?_⟩
                    refine iteB (fun hr => ?_) (fun hr => ?_)
                    · rw [no (r := risingP 0 (m - 1) c) (fun m' rs e e2 hb => by
                        cases e
                        subst e2
                        unfold lotB at hb
                        simp only [Bool.and_eq_true] at hb
                        obtain ⟨⟨⟨⟨⟨q1, q2⟩, q3⟩, q4⟩, q5⟩, q6⟩ := hb
                        rw [risingP_ints, q5.1, q5.2]
                        rfl) (nb_t hr)] at h2
                      exact h2
                    · obtain ⟨rs, rfl, r1, r2⟩ := risingP_inv (nb_f hr)
                      have e := isLotP_mk ns m rs
                      unfold mkLot at e
                      rw [e] at h2
                      have pre : lotB ns m rs = (if rs = [] then decide (m = 1) && !ns.isEmpty else !(ns.any fun n => rs.any (· == n % m))) := by
                        unfold lotB
                        rw [e1, e2, decide_eq_true (show ns.length ≤ 40 by omega), r1, r2, show btw 1 60 m = true from by unfold btw; rw [hm, nb_f h6]; rfl]
                        rfl
                      rw [pre] at h2
                      refine ⟨dat_of (pdk_mono pc (Nat.le_succ _)) (by decide), dat_of (n := 1) rfl (by decide), ?_⟩
                      refine iteB (fun h0 => ?_) (fun h0 => ?_)
                      · have h0 : peq (.tup (rs.map PV.int)) (.tup []) = true := h0
                        have hrs : rs = [] := by
                          cases rs with
                          | nil => rfl
                          | cons r rs =>
                            unfold peq at h0
                            rw [peqs_nil] at h0
                            cases h0
                        subst hrs
                        rw [if_pos rfl] at h2
                        refine iteB (fun h1 => ?_) (fun h1 => ?_)
                        · have h1 : (m == 1) = true := h1
                          have hm1 : m = 1 := by simpa using h1
                          subst hm1
                          refine ⟨dat_of (pdk_mono pa (Nat.le_succ _)) (by decide), dat_of (n := 1) rfl (by decide), ?_⟩
                          have e : peq (.tup (ns.map PV.int)) (.tup []) = ns.isEmpty := by
                            unfold peq
                            rw [peqs_nil]
                            cases ns <;> rfl
                          rw [e]
                          exact h2
                        · have h1 : (m == 1) = false := h1
                          have hm1 : m ≠ 1 := by simpa using h1
                          rw [decide_eq_false hm1] at h2
                          exact h2
                      · have h0 : peq (.tup (rs.map PV.int)) (.tup []) = false := h0
                        have hrs : rs ≠ [] := fun z => by
                          subst z
                          unfold peq at h0
                          rw [peqs_nil] at h0
                          cases h0
                        rw [if_neg hrs] at h2
                        have hm0 : 0 < m := by
                          have := of_decide_eq_true hm
                          omega
                        refine lcGo_map1 (fun y => .bl (modIn m rs y)) _ _ (fun y hy Q1 hq => ?_) ⟨_, bools_mapf (modIn m rs) _, ?_⟩
                        · obtain ⟨n, _, rfl⟩ := List.mem_map.mp hy
                          refine ⟨hm0, ?_⟩
                          refine ⟨flat_ints _ _, ?_⟩
                          rw [← modIn_eq] 
                          exact hq
                        · rw [modIn_any]
                          exact h2
                · have hm : decide ((1 : Int) ≤ m) = false := hm
                  rw [no (r := decide ((1 : Int) ≤ m)) (fun m' rs e _ hb => by
                    cases e
                    unfold lotB at hb
                    simp only [Bool.and_eq_true] at hb
                    obtain ⟨⟨⟨⟨⟨q1, q2⟩, q3⟩, q4⟩, q5⟩, q6⟩ := hb
                    unfold btw at q4
                    rw [Bool.and_eq_true] at q4
                    exact q4.1) hm] at h2
                  exact h2
              | _ => cases h
    | _ => first | (cases hd; done) | exact ⟨rfl, h2⟩
  · exact h.elim

def f_need_lot_5260a2 (Γ : String → Addr) : PSpec :=
  fun xs R Ep => match xs with
  | [x] => dataP x = true ∧ (isLotP x = true → R .non) ∧ (isLotP x = false → Ep ⟨Γ "BadLot", []⟩)
  | _ => False
def t_need_lot_5260a2 (Γ : String → Addr) (Ep : PX → Prop) : PS' :=
  (sIf (pNot (pBool (pCall (f_is_lot_of_9254f1 Γ) Ep (aCons (pVar 0) aNil)))) (sRaise Ep (Γ "BadLot")) sNext)
theorem v_need_lot_5260a2 (Γ : String → Addr) : ∀ (xs : List PV) (R : PK) (Ep : PX → Prop), xs.length = 1 → f_need_lot_5260a2 Γ xs R Ep → t_need_lot_5260a2 Γ Ep { nx := fun _ => R .non, rt := R } (pstart 1 xs) := by
  intro xs R Ep hl h
  unfold f_need_lot_5260a2 at h
  split at h
  · rename_i x
    obtain ⟨h1, h2, h3⟩ := h
    refine ⟨h1, ?_⟩
    refine iteB (fun h => h3 (nb_t h)) (fun h => h2 (nb_f h))
  · exact h.elim

def f_need_many_c47553 (Γ : String → Addr) : PSpec :=
  fun xs R Ep => match xs with
  | [y] => isD y = true ∧ (okK y = false → Ep ⟨Γ "BadMany", []⟩) ∧ (okK y = true → R .non)
  | _ => False
def t_need_many_c47553 (Γ : String → Addr) (Ep : PX → Prop) : PS' :=
  (sIf (pOr (pNot (pBool (pCall (f_is_number_0ede20 Γ) Ep (aCons (pVar 0) aNil)))) (pNot (pBool (pChain fLe fLe (pC (.int 0)) (pVar 0) (pC (.int 60)))))) (sRaise Ep (Γ "BadMany")) sNext)
theorem v_need_many_c47553 (Γ : String → Addr) : ∀ (xs : List PV) (R : PK) (Ep : PX → Prop), xs.length = 1 → f_need_many_c47553 Γ xs R Ep → t_need_many_c47553 Γ Ep { nx := fun _ => R .non, rt := R } (pstart 1 xs) := by
  intro xs R Ep hl h
  unfold f_need_many_c47553 at h
  split at h
  · rename_i y
    obtain ⟨h2, h4, h5⟩ := h
    refine ⟨h2, ?_⟩
    cases y with
    | int d =>
      have bd : ∀ q : Bool, (decide (0 ≤ d) && decide (d ≤ 60)) = q → okK (.int d) = q := fun q e => e
      refine iteB (fun h => by cases h) (fun _ => ?_)
      refine iteB (fun ha => ?_) (fun ha => ?_)
      · have ha : decide ((0 : Int) ≤ d) = true := ha
        refine iteB (fun hc => ?_) (fun hc => ?_)
        · have hc : (!decide (d ≤ 60)) = true := hc
          exact h4 (bd _ (by rw [nb_t hc, Bool.and_false]))
        · have hc : (!decide (d ≤ 60)) = false := hc
          have hc := nb_f hc
          exact h5 (bd _ (show (decide (0 ≤ d) && decide (d ≤ 60)) = true by rw [ha, hc]; rfl))
      · have ha : decide ((0 : Int) ≤ d) = false := ha
        exact h4 (bd _ (by rw [ha, Bool.false_and]))
    | _ => exact h4 rfl
  · exact h.elim

def f_is_prime_407134 (Γ : String → Addr) : PSpec :=
  fun xs R _ => match xs with
  | [.int n] => n < 1000000000000 ∧ R (.bl (primeB n))
  | _ => False
def t_is_prime_407134 (Γ : String → Addr) (Ep : PX → Prop) : PS' :=
  (sSeq (sIf (pBool (pOp fLt (pVar 0) (pC (.int 2)))) (sRet (pC (.bl false))) sNext)
    (sSeq (sAsg (pC (.int 2)) (.nm 1))
    (sSeq (sWhile (pBool (pOp fLe (pOp fMul (pVar 1) (pVar 1)) (pVar 0))) (sSeq (sIf (pBool (pOp fEq (pOp fMod (pVar 0) (pVar 1)) (pC (.int 0)))) (sRet (pC (.bl false))) sNext)
    (sAsg (pOp fAdd (pVar 1) (pC (.int 1))) (.nm 1))))
    (sRet (pC (.bl true))))))
theorem v_is_prime_407134 (Γ : String → Addr) : ∀ (xs : List PV) (R : PK) (Ep : PX → Prop), xs.length = 1 → f_is_prime_407134 Γ xs R Ep → t_is_prime_407134 Γ Ep { nx := fun _ => R .non, rt := R } (pstart 2 xs) := by
  intro xs R Ep hl h
  unfold f_is_prime_407134 at h
  split at h
  · rename_i n
    obtain ⟨h1, h2⟩ := h
    refine iteB (fun h => ?_) (fun h => ?_)
    · have h : decide (n < 2) = true := h
      have h := of_decide_eq_true h
      rw [primeB_f (fun z => by have := z.1; omega)] at h2
      exact h2
    · have h : decide (n < 2) = false := h
      have h := of_decide_eq_false h
      refine ⟨fun m ρ => ∃ p : Int, ρ = [some (.val (.int n)), some (.val (.int p))] ∧ 2 ≤ p ∧ p ≤ n ∧ m = (n - p).toNat ∧ ∀ d : Int, 2 ≤ d → d < p → n % d ≠ 0, ⟨_, 2, rfl, by decide, by omega, rfl, fun d a b => by omega⟩, ?_⟩
      rintro m ρ ⟨p, rfl, hp, hpn, rfl, hd⟩
      refine ⟨.of_left (intBits_le_64 (by omega) (by omega)), ?_⟩
      refine iteB (fun hq => ?_) (fun hq => ?_)
      · have hq : decide (p * p ≤ n) = true := hq
        have hq := of_decide_eq_true hq
        have hlt : p < n := by
          have : 2 * p ≤ p * p := Int.mul_le_mul_of_nonneg_right hp (by omega)
          omega
        refine ⟨by omega, ?_⟩
        refine iteB (fun h0 => ?_) (fun h0 => ?_)
        · have h0 : (n % p == 0) = true := h0
          have h0 : n % p = 0 := eq_of_beq h0
          rw [primeB_f (fun z => z.2 p hp hlt h0)] at h2
          exact h2
        · have h0 : (n % p == 0) = false := h0
          have h0 : n % p ≠ 0 := by simpa using h0
          refine ⟨(n - (p + 1)).toNat, by omega, p + 1, rfl, by omega, by omega, rfl, fun d a b => ?_⟩
          by_cases e : d = p
          · rw [e]
            exact h0
          · exact hd d a (by omega)
      · have hq : decide (p * p ≤ n) = false := hq
        have hq := of_decide_eq_false hq
        rw [primeB_t (prime_end hp hpn (by omega) hd)] at h2
        exact h2
  · exact h.elim

def f_need_prime_d449eb (Γ : String → Addr) : PSpec :=
  fun xs R Ep => match xs with
  | [.int n] => (2000 ≤ n ∨ primeB n = false → Ep ⟨Γ "BadPrime", []⟩) ∧ (n < 2000 → primeB n = true → R .non)
  | [x] => isD x = true ∧ isInt x = false ∧ Ep ⟨Γ "BadPrime", []⟩
  | _ => False
def t_need_prime_d449eb (Γ : String → Addr) (Ep : PX → Prop) : PS' :=
  (sIf (pOr (pNot (pBool (pCall (f_is_number_0ede20 Γ) Ep (aCons (pVar 0) aNil)))) (pOr (pBool (pOp fGe (pVar 0) (pC (.int 2000)))) (pNot (pBool (pCall (f_is_prime_407134 Γ) Ep (aCons (pVar 0) aNil)))))) (sRaise Ep (Γ "BadPrime")) sNext)
theorem v_need_prime_d449eb (Γ : String → Addr) : ∀ (xs : List PV) (R : PK) (Ep : PX → Prop), xs.length = 1 → f_need_prime_d449eb Γ xs R Ep → t_need_prime_d449eb Γ Ep { nx := fun _ => R .non, rt := R } (pstart 1 xs) := by
  intro xs R Ep hl h
  unfold f_need_prime_d449eb at h
  split at h
  · rename_i n
    obtain ⟨h1, h2⟩ := h
    refine ⟨rfl, ?_⟩
    refine iteB (fun h => by cases h) (fun _ => ?_)
    refine iteB (fun h => ?_) (fun h => ?_)
    · have h : decide ((2000 : Int) ≤ n) = true := h
      exact h1 (.inl (of_decide_eq_true h))
    · have h : decide ((2000 : Int) ≤ n) = false := h
      have h := of_decide_eq_false h
      refine ⟨by omega, ?_⟩
      exact iteB (fun h0 => h1 (.inr (nb_t h0))) (fun h0 => h2 (by omega) (nb_f h0))
  · rename_i x _
    obtain ⟨h1, h2, h3⟩ := h
    refine ⟨h1, ?_⟩
    rw [h2]
    exact h3
  · exact h.elim

def f_first_order_e2491c (Γ : String → Addr) : PSpec :=
  fun xs R Ep => match xs with
  | [x, y, z] => dataP x = true ∧ isD y = true ∧ isD z = true ∧ (isLotP x = false → Ep ⟨Γ "BadLot", []⟩) ∧ (isLotP x = true → okPrime y = false → Ep ⟨Γ "BadPrime", []⟩) ∧ (isLotP x = true → okPrime y = true → okK z = false → Ep ⟨Γ "BadMany", []⟩) ∧
      (isLotP x = true → okPrime y = true → okK z = true → ∀ p n l ts, y = .int p → z = .int n → IsRow p (SV' x) n.toNat l → NLs (SV' x) p [] l ts → R (.tup (ts.map PV.int)))
  | _ => False
def t_first_order_e2491c (Γ : String → Addr) (Ep : PX → Prop) : PS' :=
  (sSeq (sDrop (pCall (f_need_lot_5260a2 Γ) Ep (aCons (pVar 0) aNil)))
    (sSeq (sDrop (pCall (f_need_prime_d449eb Γ) Ep (aCons (pVar 1) aNil)))
    (sSeq (sDrop (pCall (f_need_many_c47553 Γ) Ep (aCons (pVar 2) aNil)))
    (sRet (pCB gTuple (aCons (pCall (f_first_order_by_b9829e Γ) Ep (aCons (pVar 0) (aCons (pVar 1) (aCons (pVar 2) aNil)))) aNil))))))
theorem v_first_order_e2491c (Γ : String → Addr) : ∀ (xs : List PV) (R : PK) (Ep : PX → Prop), xs.length = 3 → f_first_order_e2491c Γ xs R Ep → t_first_order_e2491c Γ Ep { nx := fun _ => R .non, rt := R } (pstart 3 xs) := by
  intro xs R Ep hl h
  unfold f_first_order_e2491c at h
  split at h
  · rename_i x y z
    obtain ⟨h1, h2, h3, h4, h5, h6, h7⟩ := h
    refine ⟨h1, fun hL => ?_, h4⟩
    cases y with
    | int p =>
      have bad : (2000 ≤ p ∨ primeB p = false) → okPrime (.int p) = false := fun hb => by
        show (decide (p < 2000) && primeB p) = false
        rcases hb with hb | hb
        · rw [decide_eq_false (by omega)]
          rfl
        · rw [hb, Bool.and_false]
      refine ⟨fun hb => h5 hL (bad hb), fun hp2 hpb => ?_⟩
      have hok : okPrime (.int p) = true := by
        show (decide (p < 2000) && primeB p) = true
        rw [decide_eq_true hp2, hpb]
        rfl
      have hpp := primeB_iff.mp hpb
      refine ⟨h3, fun hz => h6 hL hok hz, fun hz => ?_⟩
      cases z with
      | int n =>
        have hz' : (decide (0 ≤ n) && decide (n ≤ 60)) = true := hz
        simp only [Bool.and_eq_true, decide_eq_true_eq] at hz'
        exact ⟨hL, hpp, hp2, hz'.1, by omega, fun l ts hl ht => h7 hL hok hz p n l ts rfl rfl hl ht⟩
      | _ => cases hz
    | _ => exact ⟨h2, rfl, h5 hL rfl⟩
  · exact h.elim

def f_law_fef447 (Γ : String → Addr) : PSpec :=
  fun xs R _ => match xs with
  | [.scr ns] => ns.length ≤ 63 ∧ (∀ z ∈ ns, Builtin.Int.intBits z ≤ 1048576) ∧ R (.bl true)
  | _ => False
def t_law_fef447 (Γ : String → Addr) (Ep : PX → Prop) : PS' :=
  (sSeq (sAsg (pCall (f_law_begun_aea9f3 Γ) Ep (aCons (pVar 0) aNil)) (.nm 1))
    (sSeq (sFor (iRange1 (aCons (pOp fAdd (pC (.int 5)) (pCB gMin2 (aCons (pCB gLen (aCons (pVar 0) aNil)) (aCons (pC (.int 9)) aNil)))) aNil)) (.nm 2) (sSeq (sAsg (pTup (aCons (pCall (f_law_lot_6121c3 Γ) Ep (aCons (pVar 1) aNil)) (aCons (pCall (f_law_pick_79bebb Γ) Ep (aCons (pVar 1) (aCons (pLst (aCons (pC (.int 2)) (aCons (pC (.int 2)) (aCons (pC (.int 3)) (aCons (pC (.int 3)) (aCons (pC (.int 5)) (aCons (pC (.int 7)) aNil))))))) aNil))) (aCons (pCall (f_law_take_18ca62 Γ) Ep (aCons (pVar 1) (aCons (pC (.int 9)) aNil))) aNil)))) (.tp [3, 4, 5]))
    (sSeq (sAsg (pCall (f_law_first_order_f43384 Γ) Ep (aCons (pVar 3) (aCons (pVar 4) (aCons (pVar 5) aNil)))) (.nm 6))
    (sSeq (sIf (pNot (pBool (pCall (f_law_says_deff49 Γ) Ep (aCons (pLst (aCons (pCall (f_first_order_e2491c Γ) Ep (aCons (pVar 3) (aCons (pVar 4) (aCons (pVar 5) aNil)))) (aCons (pCallK (f_first_order_e2491c Γ) Ep [2, 1, 0] (aCons (pVar 5) (aCons (pVar 4) (aCons (pVar 3) aNil)))) aNil))) (aCons (pLst (aCons (pVar 6) (aCons (pVar 6) aNil))) aNil))))) (sRet (pC (.bl false))) sNext)
    (sSeq (sOwnL 7 (aCons (pCaught [Γ "LotError", Γ "BadLot", Γ "BadMany", Γ "BadPrime"] fun Ep => (pCall (f_first_order_e2491c Γ) Ep (aCons (pCall (f_law_no_lot_b60b62 Γ) Ep (aCons (pVar 1) aNil)) (aCons (pC .non) (aCons (pC .non) aNil))))) aNil))
    (sSeq (sApp 7 (pCaught [Γ "LotError", Γ "BadLot", Γ "BadMany", Γ "BadPrime"] fun Ep => (pCall (f_first_order_e2491c Γ) Ep (aCons (pVar 3) (aCons (pCall (f_law_no_prime_4d0d92 Γ) Ep (aCons (pVar 1) aNil)) (aCons (pC .non) aNil))))))
    (sSeq (sApp 7 (pCaught [Γ "LotError", Γ "BadLot", Γ "BadMany", Γ "BadPrime"] fun Ep => (pCall (f_first_order_e2491c Γ) Ep (aCons (pVar 3) (aCons (pVar 4) (aCons (pCall (f_law_pick_79bebb Γ) Ep (aCons (pVar 1) (aCons (pLst (aCons (pC .non) (aCons (pNeg (pC (.int 1))) (aCons (pC (.int 61)) (aCons (pC (.bl true)) (aCons (pC (.str "1")) aNil)))))) aNil))) aNil))))))
    (sIf (tBor (pOr (pNot (pBool (pCB (gIsX Γ "BadLot" [("LotError", false), ("BadLot", true), ("BadMany", false), ("BadPrime", false)]) (aCons (pIxK 0 (pVar 7)) (aCons (pC (.ref (Γ "BadLot"))) aNil))))) (pOr (pNot (pBool (pCB (gIsX Γ "BadPrime" [("LotError", false), ("BadLot", false), ("BadMany", false), ("BadPrime", true)]) (aCons (pIxK 1 (pVar 7)) (aCons (pC (.ref (Γ "BadPrime"))) aNil))))) (pNot (pBool (pCB (gIsX Γ "BadMany" [("LotError", false), ("BadLot", false), ("BadMany", true), ("BadPrime", false)]) (aCons (pIxK 2 (pVar 7)) (aCons (pC (.ref (Γ "BadMany"))) aNil)))))))) (sRet (pC (.bl false))) sNext))))))))
    (sSeq (sAsg (pLst (aCons (pCall (f_first_order_e2491c Γ) Ep (aCons (pTup (aCons (pTup aNil) (aCons (pC (.int 1)) (aCons (pTup (aCons (pC (.int 0)) aNil)) aNil)))) (aCons (pC (.int 2)) (aCons (pC (.int 5)) aNil)))) (aCons (pCall (f_first_order_e2491c Γ) Ep (aCons (pTup (aCons (pTup (aCons (pC (.int 0)) (aCons (pC (.int 1)) (aCons (pC (.int 3)) aNil)))) (aCons (pC (.int 1)) (aCons (pTup aNil) aNil)))) (aCons (pC (.int 2)) (aCons (pC (.int 9)) aNil)))) (aCons (pCall (f_first_order_e2491c Γ) Ep (aCons (pTup (aCons (pTup aNil) (aCons (pC (.int 2)) (aCons (pTup (aCons (pC (.int 1)) aNil)) aNil)))) (aCons (pC (.int 3)) (aCons (pC (.int 3)) aNil)))) (aCons (pCall (f_first_order_e2491c Γ) Ep (aCons (pTup (aCons (pTup (aCons (pNeg (pC (.int 4))) (aCons (pC (.int 4)) aNil))) (aCons (pC (.int 1)) (aCons (pTup aNil) aNil)))) (aCons (pC (.int 2)) (aCons (pC (.int 1)) aNil)))) aNil))))) (.nm 8))
    (sRet (pCall (f_law_says_deff49 Γ) Ep (aCons (pVar 8) (aCons (pLst (aCons (pTup (aCons (pC (.int 0)) (aCons (pC (.int 1)) (aCons (pNeg (pC (.int 1))) (aCons (pC (.int 2)) (aCons (pNeg (pC (.int 2))) aNil)))))) (aCons (pTup (aCons (pC (.int 0)) (aCons (pC (.int 1)) (aCons (pC (.int 3)) aNil)))) (aCons (pTup (aCons (pC (.int 1)) (aCons (pNeg (pC (.int 1))) (aCons (pC (.int 3)) aNil)))) (aCons (pTup (aCons (pC (.int 4)) aNil)) aNil))))) aNil)))))))
theorem v_law_fef447 (Γ : String → Addr) : ∀ (xs : List PV) (R : PK) (Ep : PX → Prop), xs.length = 1 → f_law_fef447 Γ xs R Ep → t_law_fef447 Γ Ep { nx := fun _ => R .non, rt := R } (pstart 9 xs) := by
  intro xs R Ep hl h
  unfold f_law_fef447 at h
  split at h
  · rename_i ns
    obtain ⟨h1, h2, h3⟩ := h
    refine ⟨h1, h2, ?_⟩
    refine ⟨⟨by split <;> omega, by split <;> omega⟩, ?_⟩
    refine forGo_inv (fun j ρ => ∃ a2 a3 a4 a5 a6 a7 : Option SV, ρ = [some (.val (.scr ns)), some (.val .drw), a2, a3, a4, a5, a6, a7, none]) _ 0 _ ⟨_, _, _, _, _, _, rfl⟩ (fun j y ρ hy hI P' hrt hnx hct hbk => ?_) ?_
    · obtain ⟨a2, a3, a4, a5, a6, a7, rfl⟩ := hI
      intro ls m rs hb hm12 hfin
      refine ⟨by simp, show 6 ≤ 100000 by decide, fun pr hpr => ?_⟩
      obtain ⟨p, rfl, hp, hp2⟩ : ∃ p : Int, pr = .int p ∧ PrimeI p ∧ p < 2000 := by
        simp only [List.mem_cons, List.not_mem_nil, or_false] at hpr
        rcases hpr with rfl | rfl | rfl | rfl | rfl | rfl
        · exact ⟨_, rfl, prime2, by decide⟩
        · exact ⟨_, rfl, prime2, by decide⟩
        · exact ⟨_, rfl, prime3, by decide⟩
        · exact ⟨_, rfl, prime3, by decide⟩
        · exact ⟨_, rfl, prime5, by decide⟩
        · exact ⟨_, rfl, prime7, by decide⟩
      refine ⟨by decide, fun n n0 n1 => ?_⟩
      have hL : isLotP (mkLot ls m rs) = true := by rw [isLotP_mk]; exact hb
      have hD := data_lot hb
      have okp := okPrime_t hp hp2
      refine ⟨hL, hp, hp2, n0, by omega, fun l ts hl ht => ?_⟩
      refine ⟨hD, rfl, rfl, noL hL, fun _ => noP okp, fun _ _ => noK (okK_t n0 (by omega)), fun _ _ _ q1 q2 l1 ts1 e1 e2 hl1 ht1 => ?_⟩
      cases e1
      cases e2
      refine ⟨hD, rfl, rfl, noL hL, fun _ => noP okp, fun _ _ => noK (okK_t n0 (by omega)), fun _ _ _ q1 q2 l2 ts2 e1 e2 hl2 ht2 => ?_⟩
      cases e1
      cases e2
      have el1 := hl1.uniq hl
      subst el1
      have el2 := hl2.uniq hl1
      subst el2
      have et1 := ht1.uniq ht
      subst et1
      have et2 := ht2.uniq ht1
      subst et2
      have lt := ht.len
      rw [hl.len] at lt
      refine ⟨rfl, pdk_pair (pdk_tup_ints 47 _), wt2 (by rw [wt_tup_ints]; omega), ?_⟩
      refine iteB (fun z => by cases z) (fun _ => ?_)
      intro x hx1 hx2
      refine ⟨hx1, rfl, rfl, fun _ => ?_, fun z => noL z hx2, fun z => noL z hx2, fun z => noL z hx2⟩
      refine ⟨by simp, ?_⟩
      intro w hw1 hw2
      have hwp := badP hw2
      refine ⟨hD, hw1, rfl, noL hL, fun _ _ => ?_, fun _ z => noP z hwp, fun _ z => noP z hwp⟩
      refine ⟨by simp, OkW.lt (show 1 < 100000 by decide), ?_⟩
      refine ⟨by simp, show 5 ≤ 100000 by decide, fun odd hodd => ?_⟩
      have hod := oddK hodd
      refine ⟨hD, rfl, hod.1, noL hL, fun _ => noP okp, fun _ _ _ => ?_, fun _ _ z => noK z hod.2⟩
      refine ⟨by simp, OkW.lt (show 2 < 100000 by decide), ?_⟩
      refine ⟨rfl, ("BadLot", true), by simp, rfl, ?_⟩
      refine ⟨rfl, ("BadPrime", true), by simp, rfl, ?_⟩
      refine ⟨rfl, ("BadMany", true), by simp, rfl, ?_⟩
      exact hnx _ ⟨_, _, _, _, _, _, rfl⟩
    · rintro ρ ⟨a2, a3, a4, a5, a6, a7, rfl⟩
      have ok2 := okPrime_t prime2 (by decide)
      have ok3 := okPrime_t prime3 (by decide)
      refine ⟨data_lot (ns := []) (m := 1) (rs := [0]) (by decide), rfl, rfl, noL (lot_dec (ns := []) (m := 1) (rs := [0]) (by decide)), fun _ => noP ok2, fun _ _ => noK (okK_t (by decide) (by decide)), fun _ _ _ q1 q2 l ts e1 e2 hl ht => ?_⟩
      cases e1
      cases e2
      have e := IsRow.uniq hl (row_all prime2 5)
      subst e
      have e := NLs.uniq ht nl_a
      subst e
      refine ⟨data_lot (ns := [0, 1, 3]) (m := 1) (rs := []) (by decide), rfl, rfl, noL (lot_dec (ns := [0, 1, 3]) (m := 1) (rs := []) (by decide)), fun _ => noP ok2, fun _ _ => noK (okK_t (by decide) (by decide)), fun _ _ _ q1 q2 l ts e1 e2 hl2 ht2 => ?_⟩
      cases e1
      cases e2
      have e := IsRow.uniq hl2 row_cn
      subst e
      have e := NLs.uniq ht2 nl_b
      subst e
      refine ⟨data_lot (ns := []) (m := 2) (rs := [1]) (by decide), rfl, rfl, noL (lot_dec (ns := []) (m := 2) (rs := [1]) (by decide)), fun _ => noP ok3, fun _ _ => noK (okK_t (by decide) (by decide)), fun _ _ _ q1 q2 l ts e1 e2 hl3 ht3 => ?_⟩
      cases e1
      cases e2
      have e := IsRow.uniq hl3 row_odd3
      subst e
      have e := NLs.uniq ht3 nl_c
      subst e
      refine ⟨data_lot (ns := [-4, 4]) (m := 1) (rs := []) (by decide), rfl, rfl, noL (lot_dec (ns := [-4, 4]) (m := 1) (rs := []) (by decide)), fun _ => noP ok2, fun _ _ => noK (okK_t (by decide) (by decide)), fun _ _ _ q1 q2 l ts e1 e2 hl4 ht4 => ?_⟩
      cases e1
      cases e2
      have e := IsRow.uniq hl4 (row1 (S := SV' (mkLot [-4, 4] 1 [])) ⟨4, hasV_iff.mpr (.inl (by decide))⟩)
      subst e
      have e := NLs.uniq ht4 nl_d
      subst e
      exact ⟨rfl, by rfl, by decide, h3⟩
  · exact h.elim

end Pu
namespace Kp
open PySem L2 Pu PySem.Spec PyProof.Rows
def topS (i : Nat) : Stmt := PySem.Challenge.pw_setfactorials_k05_whole_first_orders.main.body.getD i (.Pass ⟨0, 0, 0, 0⟩)
section
variable {P : Program} {w : World} {K : PySem.W.Frag} {mg : Str → Option Value} {base : Heap} {T : List (Addr × Str)} {Γ : String → Addr}
abbrev s_law_begun : Stmt := topS 37
abbrev N_law_begun : List Str := ["script", "whole", "cells", "cell"]
theorem sc_law_begun : FnScope N_law_begun ["script"] (defScope s_law_begun) := ⟨rfl, rfl, rfl, by decide +kernel, rfl, by decide +kernel, by decide +kernel⟩
theorem ok_law_begun (F : DefF K mg Γ "_law_begun" s_law_begun ["script"])
    (z_int : mg "int" = none)
    (z_isinstance : mg "isinstance" = none) : OkF P w K mg base T Γ "_law_begun" ["script"] 1 (f_law_begun_aea9f3 Γ) := by
  refine F.ok (k := 0) (t := t_law_begun_aea9f3 Γ) sc_law_begun (fun cdv A outer s H C hr => ?_) (v_law_begun_aea9f3 Γ)
  have nd := (sc_law_begun).nd
  have tk : Takes (cxOf (L2.CX P w) P w K mg base N_law_begun "_law_begun" (defScope s_law_begun) (Γ "_law_begun") cdv A outer s H C.E) (fun cls d _ H => C.E cls d H) := takes_of rfl rfl rfl rfl
  have hp : Passes (L2.CX P w) (cxOf (L2.CX P w) P w K mg base N_law_begun "_law_begun" (defScope s_law_begun) (Γ "_law_begun") cdv A outer s H C.E) C.E := passes_call tk fun _ _ _ _ h => h
  have hpo : PassesOwn (model P w) (cxOf (L2.CX P w) P w K mg base N_law_begun "_law_begun" (defScope s_law_begun) (Γ "_law_begun") cdv A outer s H C.E).A (cxOf (L2.CX P w) P w K mg base N_law_begun "_law_begun" (defScope s_law_begun) (Γ "_law_begun") cdv A outer s H C.E).env (cxOf (L2.CX P w) P w K mg base N_law_begun "_law_begun" (defScope s_law_begun) (Γ "_law_begun") cdv A outer s H C.E).xe := passes_of rfl
  exact (ls_cons (ls_parOwn (ps_par (i := 1) (j := 2) rfl nd rfl rfl (by decide) rfl rfl (pa_cons le_int (pa_cons (pe_lst pa_nil) pa_nil)) (by rfl)))
    (ls_cons (ls_for (tt := (.nm 3)) hpo rfl (li_seq (le_var 0 (pv 0))) (pg_name (i := 3) nd rfl (.inl rfl)) (ls_one (ls_if (lt_val (le_cb call_isi rc_isi (by rfl) z_isinstance (by decide +kernel) (la_cons (le_var 3 (pv 3)) (la_cons (le_ty (a := .int) (pe_bltn (by rfl) z_int (by decide +kernel) rfl)) la_nil)))) (ls_cons (ls_if (lt_cmp op_ge rb_cmp (le_var 3 (pv 3)) (le_op op_pow rb_pow le_int le_int) (nomark _)) (ls_one (ls_set (i := 1) nd rfl (.inl rfl) (le_op or_add rb_add (le_op or_mul rb_mul (le_var 1 (pv 1)) (le_op or_add rb_add (le_op op_sub rb_sub (le_var 3 (pv 3)) (le_op op_pow rb_pow le_int le_int)) le_int)) (le_op op_sub rb_sub (le_var 3 (pv 3)) (le_op op_pow rb_pow le_int le_int))))) ls_nil)
    (ls_one (ls_app (i := 2) (ps_expr (pe_bm PySem.F.plainAttrs_list PySem.F.slot_list_append PySem.F.type_list_append mt_append (pv 2) (pa_cons (le_var 3 (pv 3)) pa_nil)))))) ls_nil)))
    (ls_one (ls_newDrw (ps_ret (pe_disp (pps_cons pe_str (pv 1) (pps_cons pe_str (pv 2) (pps_cons pe_str pe_int pps_nil))) (by rfl) (by rfl) (fun z => by cases z) (by decide)))))))

abbrev s_law_has : Stmt := topS 45
abbrev N_law_has : List Str := ["lot", "number"]
theorem sc_law_has : FnScope N_law_has ["lot", "number"] (defScope s_law_has) := ⟨rfl, rfl, rfl, by decide +kernel, rfl, by decide +kernel, by decide +kernel⟩
theorem ok_law_has (F : DefF K mg Γ "_law_has" s_law_has ["lot", "number"])
    (z_int : mg "int" = none) : OkF P w K mg base T Γ "_law_has" ["lot", "number"] 1 (f_law_has_c2927a Γ) := by
  refine F.ok (k := 0) (t := t_law_has_c2927a Γ) sc_law_has (fun cdv A outer s H C hr => ?_) (v_law_has_c2927a Γ)
  have nd := (sc_law_has).nd
  have tk : Takes (cxOf (L2.CX P w) P w K mg base N_law_has "_law_has" (defScope s_law_has) (Γ "_law_has") cdv A outer s H C.E) (fun cls d _ H => C.E cls d H) := takes_of rfl rfl rfl rfl
  have hp : Passes (L2.CX P w) (cxOf (L2.CX P w) P w K mg base N_law_has "_law_has" (defScope s_law_has) (Γ "_law_has") cdv A outer s H C.E) C.E := passes_call tk fun _ _ _ _ h => h
  exact (ls_one (ls_ret (le_or (le_cmp op_in_seq rb_in (le_var 1 (pv 1)) (le_ixk (k := 0) (le_var 0 (pv 0)) (fun _ _ => rfl)) (by rfl)) (le_one (le_cmp op_in_seq rb_in (le_op op_mod rb_mod (le_cty call_int1 rc_int (by rfl) z_int (by decide +kernel) (la_cons (le_var 1 (pv 1)) la_nil)) (le_ixk (k := 1) (le_var 0 (pv 0)) (fun _ _ => rfl))) (le_ixk (k := 2) (le_var 0 (pv 0)) (fun _ _ => rfl)) (by rfl))))))

abbrev s_law_power_in : Stmt := topS 44
abbrev N_law_power_in : List Str := ["prime", "number", "found"]
theorem sc_law_power_in : FnScope N_law_power_in ["prime", "number"] (defScope s_law_power_in) := ⟨rfl, rfl, rfl, by decide +kernel, rfl, by decide +kernel, by decide +kernel⟩
theorem ok_law_power_in (F : DefF K mg Γ "_law_power_in" s_law_power_in ["prime", "number"])
    (z_int : mg "int" = none) : OkF P w K mg base T Γ "_law_power_in" ["prime", "number"] 1 (f_law_power_in_baf757 Γ) := by
  refine F.ok (k := 0) (t := t_law_power_in_baf757 Γ) sc_law_power_in (fun cdv A outer s H C hr => ?_) (v_law_power_in_baf757 Γ)
  have nd := (sc_law_power_in).nd
  have tk : Takes (cxOf (L2.CX P w) P w K mg base N_law_power_in "_law_power_in" (defScope s_law_power_in) (Γ "_law_power_in") cdv A outer s H C.E) (fun cls d _ H => C.E cls d H) := takes_of rfl rfl rfl rfl
  have hp : Passes (L2.CX P w) (cxOf (L2.CX P w) P w K mg base N_law_power_in "_law_power_in" (defScope s_law_power_in) (Γ "_law_power_in") cdv A outer s H C.E) C.E := passes_call tk fun _ _ _ _ h => h
  have hpo : PassesOwn (model P w) (cxOf (L2.CX P w) P w K mg base N_law_power_in "_law_power_in" (defScope s_law_power_in) (Γ "_law_power_in") cdv A outer s H C.E).A (cxOf (L2.CX P w) P w K mg base N_law_power_in "_law_power_in" (defScope s_law_power_in) (Γ "_law_power_in") cdv A outer s H C.E).env (cxOf (L2.CX P w) P w K mg base N_law_power_in "_law_power_in" (defScope s_law_power_in) (Γ "_law_power_in") cdv A outer s H C.E).xe := passes_of rfl
  exact (ls_cons (ls_set (i := 2) nd rfl (.inl rfl) le_int)
    (ls_cons (ls_while hpo (lt_cmp (or_eq hr.units) rb_eq (le_op op_mod rb_mod (le_cty call_int1 rc_int (by rfl) z_int (by decide +kernel) (la_cons (le_var 1 (pv 1)) la_nil)) (le_var 0 (pv 0))) le_int (nomark _)) (ls_one (ls_par (i := 2) (j := 1) rfl nd rfl rfl (by decide) rfl rfl (la_cons (le_op or_add rb_add (le_var 2 (pv 2)) le_int) (la_cons (le_op op_fdivW rb_div (le_var 1 (pv 1)) (le_var 0 (pv 0))) la_nil)) (by rfl))))
    (ls_one (ls_ret (le_var 2 (pv 2))))))

abbrev s_law_sample : Stmt := topS 46
abbrev N_law_sample : List Str := ["lot", "many", "number"]
theorem sc_law_sample : FnScope N_law_sample ["lot", "many"] (defScope s_law_sample) := ⟨rfl, rfl, rfl, by decide +kernel, rfl, by decide +kernel, by decide +kernel⟩
theorem ok_law_sample (F : DefF K mg Γ "_law_sample" s_law_sample ["lot", "many"])
    (z_int : mg "int" = none)
    (z_list : mg "list" = none)
    (z_range : mg "range" = none) : OkF P w K mg base T Γ "_law_sample" ["lot", "many"] 1 (f_law_sample_849c60 Γ) := by
  refine F.ok (k := 0) (t := t_law_sample_849c60 Γ) sc_law_sample (fun cdv A outer s H C hr => ?_) (v_law_sample_849c60 Γ)
  have nd := (sc_law_sample).nd
  have tk : Takes (cxOf (L2.CX P w) P w K mg base N_law_sample "_law_sample" (defScope s_law_sample) (Γ "_law_sample") cdv A outer s H C.E) (fun cls d _ H => C.E cls d H) := takes_of rfl rfl rfl rfl
  have hp : Passes (L2.CX P w) (cxOf (L2.CX P w) P w K mg base N_law_sample "_law_sample" (defScope s_law_sample) (Γ "_law_sample") cdv A outer s H C.E) C.E := passes_call tk fun _ _ _ _ h => h
  exact (ls_one (ls_ret (le_op or_add rb_add (le_cty call_list_of rc_list (by rfl) z_list (by decide +kernel) (la_cons (le_ixk (k := 0) (le_var 0 (pv 0)) (fun _ _ => rfl)) la_nil)) (le_lc rfl nd (li_range1 (by rfl) z_range (la_cons (le_op or_mul rb_mul (le_ixk (k := 1) (le_var 0 (pv 0)) (fun _ _ => rfl)) (le_var 1 (pv 1))) la_nil)) (blkOk_by (own := [("number", 2)]) (N := N_law_sample) (sc := defScope s_law_sample) (by decide +kernel)) (t := (.nm 2)) rfl (by decide) (fun _ _ _ _ _ => (pg_name (i := 2) nd rfl (by first | exact .inl rfl | exact .inr rfl))) (fun _ _ _ _ _ => (lts_one (lt_cmp op_in_seq rb_in (le_op op_mod rb_mod (le_cty call_int1 rc_int (by rfl) z_int (by decide +kernel) (la_cons (le_var 2 (pv 2)) la_nil)) (le_ixk (k := 1) (le_var 0 (pv 0)) (fun _ _ => rfl))) (le_ixk (k := 2) (le_var 0 (pv 0)) (fun _ _ => rfl)) (by rfl)))) (fun _ _ _ _ _ => (le_var 2 (pv 2)))))))

abbrev s_law_row : Stmt := topS 47
abbrev N_law_row : List Str := ["lot", "prime", "many", "left", "found", "ahead", "place", "least", "taken", "number"]
theorem sc_law_row : FnScope N_law_row ["lot", "prime", "many"] (defScope s_law_row) := ⟨rfl, rfl, rfl, by decide +kernel, rfl, by decide +kernel, by decide +kernel⟩
theorem ok_law_row (F : DefF K mg Γ "_law_row" s_law_row ["lot", "prime", "many"])
    (k_law_power_in : OkF P w K mg base T Γ "_law_power_in" ["prime", "number"] 1 (f_law_power_in_baf757 Γ))
    (k_law_sample : OkF P w K mg base T Γ "_law_sample" ["lot", "many"] 1 (f_law_sample_849c60 Γ))
    (z_dict : mg "dict" = none)
    (z_list : mg "list" = none)
    (z_min : mg "min" = none)
    (z_range : mg "range" = none) : OkF P w K mg base T Γ "_law_row" ["lot", "prime", "many"] 2 (f_law_row_e2f1ce Γ) := by
  refine F.ok (k := 1) (t := t_law_row_e2f1ce Γ) sc_law_row (fun cdv A outer s H C hr => ?_) (v_law_row_e2f1ce Γ)
  have nd := (sc_law_row).nd
  have tk : Takes (cxOf (L2.CX P w) P w K mg base N_law_row "_law_row" (defScope s_law_row) (Γ "_law_row") cdv A outer s H C.E) (fun cls d _ H => C.E cls d H) := takes_of rfl rfl rfl rfl
  have hp : Passes (L2.CX P w) (cxOf (L2.CX P w) P w K mg base N_law_row "_law_row" (defScope s_law_row) (Γ "_law_row") cdv A outer s H C.E) C.E := passes_call tk fun _ _ _ _ h => h
  have hpo : PassesOwn (model P w) (cxOf (L2.CX P w) P w K mg base N_law_row "_law_row" (defScope s_law_row) (Γ "_law_row") cdv A outer s H C.E).A (cxOf (L2.CX P w) P w K mg base N_law_row "_law_row" (defScope s_law_row) (Γ "_law_row") cdv A outer s H C.E).env (cxOf (L2.CX P w) P w K mg base N_law_row "_law_row" (defScope s_law_row) (Γ "_law_row") cdv A outer s H C.E).xe := passes_of rfl
  exact (ls_cons (ls_tup3O (pg_tup rfl (pgs_cons (pg_name (i := 3) nd rfl (.inr rfl)) (pgs_cons (pg_name (i := 4) nd rfl (.inl rfl)) (pgs_cons (pg_name (i := 5) nd rfl (.inl rfl)) pgs_nil)))) (len_dict rfl (by rfl) z_dict (le_lc rfl nd (li_seq (le_callF k_law_sample (hr.mono (by decide)) (by rfl) hp (la_cons (le_var 0 (pv 0)) (la_cons (le_var 2 (pv 2)) la_nil)))) (blkOk_by (own := [("number", 9)]) (N := N_law_row) (sc := defScope s_law_row) (by decide +kernel)) (t := (.nm 9)) rfl (by decide) (fun _ _ _ _ _ => (pg_name (i := 9) nd rfl (by first | exact .inl rfl | exact .inr rfl))) (fun _ _ _ _ _ => lts_nil) (fun _ _ _ _ _ => (le_tup (la_cons (le_var 9 (pv 9)) (la_cons le_int la_nil)))))) (len_lst la_nil) (len_val (le_lst la_nil)))
    (ls_cons (ls_for (tt := (.nm 6)) hpo rfl (li_range1 (by rfl) z_range (la_cons (le_var 2 (pv 2)) la_nil)) (pg_name (i := 6) nd rfl (.inl rfl)) (ls_one (ls_if (lt_bor (lt_cmp (op_eqD0 (Nat.lt_of_succ_lt (hu_of hr))) rb_eqD0 (le_var 3 (pv 3)) le_dic0 (nomark _))) (ls_one (ls_app (i := 4) (ps_expr (pe_bm PySem.F.plainAttrs_list PySem.F.slot_list_append PySem.F.type_list_append mt_append (pv 4) (pa_cons le_non pa_nil))))) (ls_cons (ls_set (i := 7) nd rfl (.inr rfl) (le_bor (le_cb (cr_min rfl) rc_min1 (by rfl) z_min (by decide +kernel) (la_cons (le_vals rfl (le_var 3 (pv 3)) (by rfl) z_list) la_nil))))
    (ls_cons (ls_set (i := 8) nd rfl (.inr rfl) (le_ixk (k := 0) (le_lock (i := 3) (le_lc rfl nd (li_keys (pv 3)) (blkOk_by (own := [("number", 9)]) (N := N_law_row) (sc := defScope s_law_row) (by decide +kernel)) (t := (.nm 9)) rfl (by decide) (fun _ _ _ _ _ => (pg_name (i := 9) nd rfl (by first | exact .inl rfl | exact .inr rfl))) (fun _ _ _ _ _ => (lts_one (lt_cmp (or_eq hr.units) rb_eq (le_dIx (i := 3) (pe_dget (hu_of hr) (pv 3) (le_var 9 (pv 9)) (fun _ _ => rfl))) (le_var 7 (pv 7)) (nomark _)))) (fun _ _ _ _ _ => (le_var 9 (pv 9))))) (fun _ _ => rfl)))
    (ls_cons (ls_app (i := 4) (ps_expr (pe_bm PySem.F.plainAttrs_list PySem.F.slot_list_append PySem.F.type_list_append mt_append (pv 4) (pa_cons (le_var 7 (pv 7)) pa_nil))))
    (ls_cons (ls_dPop (i := 3) (ps_expr (pe_dpop1 (pv 3) (le_var 8 (pv 8)) ⟨rfl, rfl, rfl, rfl⟩)))
    (ls_one (ls_setO (i := 3) nd rfl (.inr rfl) (len_dict rfl (by rfl) z_dict (le_lock (i := 3) (le_lc rfl nd (li_keys (pv 3)) (blkOk_by (own := [("number", 9)]) (N := N_law_row) (sc := defScope s_law_row) (by decide +kernel)) (t := (.nm 9)) rfl (by decide) (fun _ _ _ _ _ => (pg_name (i := 9) nd rfl (by first | exact .inl rfl | exact .inr rfl))) (fun _ _ _ _ _ => lts_nil) (fun _ _ _ _ _ => (le_tup (la_cons (le_var 9 (pv 9)) (la_cons (le_op or_add rb_add (le_dIx (i := 3) (pe_dget (hu_of hr) (pv 3) (le_var 9 (pv 9)) (fun _ _ => rfl))) (le_callF k_law_power_in (hr.mono (by decide)) (by rfl) passL (la_cons (le_var 1 (pv 1)) (la_cons (le_op op_sub rb_sub (le_var 9 (pv 9)) (le_var 8 (pv 8))) la_nil)))) la_nil))))))))))))))))
    (ls_one (ls_frz (i := 4) (ls_ret (le_var 4 (pv 4)))))))

abbrev s_law_first_order : Stmt := topS 54
abbrev N_law_first_order : List Str := ["lot", "prime", "many", "found", "due", "taken", "far", "some", "right", "number", "late"]
theorem sc_law_first_order : FnScope N_law_first_order ["lot", "prime", "many"] (defScope s_law_first_order) := ⟨rfl, rfl, rfl, by decide +kernel, rfl, by decide +kernel, by decide +kernel⟩
theorem ok_law_first_order (F : DefF K mg Γ "_law_first_order" s_law_first_order ["lot", "prime", "many"])
    (k_law_has : OkF P w K mg base T Γ "_law_has" ["lot", "number"] 1 (f_law_has_c2927a Γ))
    (k_law_power_in : OkF P w K mg base T Γ "_law_power_in" ["prime", "number"] 1 (f_law_power_in_baf757 Γ))
    (k_law_row : OkF P w K mg base T Γ "_law_row" ["lot", "prime", "many"] 2 (f_law_row_e2f1ce Γ))
    (z_sum : mg "sum" = none)
    (z_tuple : mg "tuple" = none) : OkF P w K mg base T Γ "_law_first_order" ["lot", "prime", "many"] 3 (f_law_first_order_f43384 Γ) := by
  refine F.ok (k := 2) (t := t_law_first_order_f43384 Γ) sc_law_first_order (fun cdv A outer s H C hr => ?_) (v_law_first_order_f43384 Γ)
  have nd := (sc_law_first_order).nd
  have tk : Takes (cxOf (L2.CX P w) P w K mg base N_law_first_order "_law_first_order" (defScope s_law_first_order) (Γ "_law_first_order") cdv A outer s H C.E) (fun cls d _ H => C.E cls d H) := takes_of rfl rfl rfl rfl
  have hp : Passes (L2.CX P w) (cxOf (L2.CX P w) P w K mg base N_law_first_order "_law_first_order" (defScope s_law_first_order) (Γ "_law_first_order") cdv A outer s H C.E) C.E := passes_call tk fun _ _ _ _ h => h
  have hpo : PassesOwn (model P w) (cxOf (L2.CX P w) P w K mg base N_law_first_order "_law_first_order" (defScope s_law_first_order) (Γ "_law_first_order") cdv A outer s H C.E).A (cxOf (L2.CX P w) P w K mg base N_law_first_order "_law_first_order" (defScope s_law_first_order) (Γ "_law_first_order") cdv A outer s H C.E).env (cxOf (L2.CX P w) P w K mg base N_law_first_order "_law_first_order" (defScope s_law_first_order) (Γ "_law_first_order") cdv A outer s H C.E).xe := passes_of rfl
  exact (ls_cons (ls_set (i := 3) nd rfl (.inr rfl) (le_lst la_nil))
    (ls_cons (ls_for (tt := (.nm 4)) hpo rfl (li_seq (le_callF k_law_row (hr.mono (by decide)) (by rfl) hp (la_cons (le_var 0 (pv 0)) (la_cons (le_var 1 (pv 1)) (la_cons (le_var 2 (pv 2)) la_nil))))) (pg_name (i := 4) nd rfl (.inr rfl)) (ls_cons (ls_asg (tt := (.tp [5, 6])) (le_tup (la_cons le_non (la_cons le_int la_nil))) (pg_tup rfl (pgs_cons (pg_name (i := 5) nd rfl (.inl rfl)) (pgs_cons (pg_name (i := 6) nd rfl (.inl rfl)) pgs_nil))))
    (ls_cons (ls_while hpo (PW.pt (lw_and (lt_cmp op_notN rb_notN (le_var 4 (pv 4)) le_non (nomark _)) (lw_and1 (lt_cmp op_isN rb_isN (le_var 5 (pv 5)) le_non (nomark _))))) (ls_cons (ls_setLc (i := 7) (tgs := (.nm 9)) rfl nd rfl rfl (sw_true rfl rfl rfl (by decide +kernel)) (li_seq (le_lst (la_cons (le_var 6 (pv 6)) (la_cons (le_op op_sub rb_sub le_int (le_var 6 (pv 6))) la_nil)))) (blkOk_by (own := [("number", 9)]) (N := N_law_first_order) (sc := defScope s_law_first_order) (by decide +kernel)) rfl (by decide) (fun _ _ _ _ _ => (pg_name (i := 9) nd rfl (by first | exact .inl rfl | exact .inr rfl))) (fun _ _ _ _ _ => (lts_one (PW.pt (lw_and (lt_cmp op_notIn_seq rb_in (le_var 9 (pv 9)) (le_var 3 (pv 3)) (by rfl)) (lw_and1 (lt_val (le_callF k_law_has (hr.mono (by decide)) (by rfl) passL (la_cons (le_var 0 (pv 0)) (la_cons (le_var 9 (pv 9)) la_nil))))))))) (fun _ _ _ _ _ => (le_var 9 (pv 9))))
    (ls_cons (ls_setLc (i := 8) (tgs := (.nm 9)) rfl nd rfl rfl (sw_true rfl rfl rfl (by decide +kernel)) (li_seq (le_var 7 (pv 7))) (blkOk_by (own := [("number", 9)]) (N := N_law_first_order) (sc := defScope s_law_first_order) (by decide +kernel)) rfl (by decide) (fun _ _ _ _ _ => (pg_name (i := 9) nd rfl (by first | exact .inl rfl | exact .inr rfl))) (fun _ _ _ _ _ => (lts_one (lt_cmp (or_eq hr.units) rb_eq (le_cb (cr_sum rfl) rc_sum (by rfl) z_sum (by decide +kernel) (la_cons (le_lc rfl nd (li_seq (le_var 3 (pv 3))) (blkOk_by (own := [("late", 10)]) (N := N_law_first_order) (sc := _) (by kernel_rfl)) (t := (.nm 10)) rfl (by decide) (fun _ _ _ _ _ => (pg_name (i := 10) nd rfl (by first | exact .inl rfl | exact .inr rfl))) (fun _ _ _ _ _ => lts_nil) (fun _ _ _ _ _ => (le_callF k_law_power_in (hr.mono (by decide)) (by rfl) passL (la_cons (le_var 1 (pv 1)) (la_cons (le_op op_sub rb_sub (le_var 9 (pv 9)) (le_var 10 (pv 10))) la_nil))))) la_nil)) (le_var 4 (pv 4)) (nomark _)))) (fun _ _ _ _ _ => (le_var 9 (pv 9))))
    (ls_cons (ls_par (i := 5) (j := 6) rfl nd rfl rfl (by decide) rfl rfl (la_cons (le_if (lt_cmp (or_ne hr.units) rb_ne (le_var 8 (pv 8)) (le_lst la_nil) (nomark _)) (le_ixk (k := 0) (le_var 8 (pv 8)) (fun _ _ => rfl)) le_non) (la_cons (le_op or_add rb_add (le_var 6 (pv 6)) le_int) la_nil)) (by rfl))
    (ls_one (ls_if (lt_cmp op_gt rb_cmp (le_var 6 (pv 6)) le_int (nomark _)) (ls_one (ls_ret le_non)) ls_nil))))))
    (ls_one (ls_set (i := 3) nd rfl (.inr rfl) (le_op or_add rb_add (le_var 3 (pv 3)) (le_if (lt_cmp op_notN rb_notN (le_var 5 (pv 5)) le_non (nomark _)) (le_lst (la_cons (le_var 5 (pv 5)) la_nil)) (le_lst la_nil))))))))
    (ls_one (ls_ret (le_cty call_tuple_of rc_tuple (by rfl) z_tuple (by decide +kernel) (la_cons (le_var 3 (pv 3)) la_nil))))))

abbrev s_law_mixed : Stmt := topS 38
abbrev N_law_mixed : List Str := ["draw", "found", "cell"]
theorem sc_law_mixed : FnScope N_law_mixed ["draw"] (defScope s_law_mixed) := ⟨rfl, rfl, rfl, by decide +kernel, rfl, by decide +kernel, by decide +kernel⟩
theorem ok_law_mixed (F : DefF K mg Γ "_law_mixed" s_law_mixed ["draw"])
    (z_int : mg "int" = none) : OkF P w K mg base T Γ "_law_mixed" ["draw"] 1 (f_law_mixed_a4126b Γ) := by
  refine F.ok (k := 0) (t := t_law_mixed_a4126b Γ) sc_law_mixed (fun cdv A outer s H C hr => ?_) (v_law_mixed_a4126b Γ)
  have nd := (sc_law_mixed).nd
  have tk : Takes (cxOf (L2.CX P w) P w K mg base N_law_mixed "_law_mixed" (defScope s_law_mixed) (Γ "_law_mixed") cdv A outer s H C.E) (fun cls d _ H => C.E cls d H) := takes_of rfl rfl rfl rfl
  have hp : Passes (L2.CX P w) (cxOf (L2.CX P w) P w K mg base N_law_mixed "_law_mixed" (defScope s_law_mixed) (Γ "_law_mixed") cdv A outer s H C.E) C.E := passes_call tk fun _ _ _ _ h => h
  have hpo : PassesOwn (model P w) (cxOf (L2.CX P w) P w K mg base N_law_mixed "_law_mixed" (defScope s_law_mixed) (Γ "_law_mixed") cdv A outer s H C.E).A (cxOf (L2.CX P w) P w K mg base N_law_mixed "_law_mixed" (defScope s_law_mixed) (Γ "_law_mixed") cdv A outer s H C.E).env (cxOf (L2.CX P w) P w K mg base N_law_mixed "_law_mixed" (defScope s_law_mixed) (Γ "_law_mixed") cdv A outer s H C.E).xe := passes_of rfl
  exact (ls_cons (ls_drw (i := 0) (k := .count) (by intro z; cases z) (ps_dput (hu_of hr) (pv 0) pe_str (le_op or_add rb_add (le_drw (i := 0) (k := .count) (pe_dget (hu_of hr) (pv 0) pe_str (fun _ _ => rfl))) le_int) (by rfl)))
    (ls_cons (ls_set (i := 1) nd rfl (.inl rfl) (le_op or_add rb_add le_int (le_op or_mul rb_mul le_int (le_drw (i := 0) (k := .count) (pe_dget (hu_of hr) (pv 0) pe_str (fun _ _ => rfl))))))
    (ls_cons (ls_for (tt := (.nm 2)) hpo rfl (li_seq (le_op op_cat rb_celAdd (le_drw (i := 0) (k := .cells) (pe_dget (hu_of hr) (pv 0) pe_str (fun _ _ => rfl))) (le_lst (la_cons (le_drw (i := 0) (k := .count) (pe_dget (hu_of hr) (pv 0) pe_str (fun _ _ => rfl))) la_nil)))) (pg_name (i := 2) nd rfl (.inl rfl)) (ls_cons (ls_set (i := 1) nd rfl (.inl rfl) (le_op op_mod rb_mod (le_cty call_int1 rc_int (by rfl) z_int (by decide +kernel) (la_cons (le_op or_mul rb_mul (le_op or_add rb_add (le_var 1 (pv 1)) (le_var 2 (pv 2))) le_int) la_nil)) (le_op op_sub rb_sub (le_op op_pow rb_pow le_int le_int) le_int)))
    (ls_one (ls_set (i := 1) nd rfl (.inl rfl) (le_op or_add rb_add (le_var 1 (pv 1)) (le_op op_fdivW rb_div (le_var 1 (pv 1)) (le_op op_pow rb_pow le_int le_int)))))))
    (ls_one (ls_ret (le_var 1 (pv 1)))))))

abbrev s_law_take : Stmt := topS 39
abbrev N_law_take : List Str := ["draw", "amount", "found"]
theorem sc_law_take : FnScope N_law_take ["draw", "amount"] (defScope s_law_take) := ⟨rfl, rfl, rfl, by decide +kernel, rfl, by decide +kernel, by decide +kernel⟩
theorem ok_law_take (F : DefF K mg Γ "_law_take" s_law_take ["draw", "amount"])
    (k_law_mixed : OkF P w K mg base T Γ "_law_mixed" ["draw"] 1 (f_law_mixed_a4126b Γ))
    (z_int : mg "int" = none) : OkF P w K mg base T Γ "_law_take" ["draw", "amount"] 2 (f_law_take_18ca62 Γ) := by
  refine F.ok (k := 1) (t := t_law_take_18ca62 Γ) sc_law_take (fun cdv A outer s H C hr => ?_) (v_law_take_18ca62 Γ)
  have nd := (sc_law_take).nd
  have tk : Takes (cxOf (L2.CX P w) P w K mg base N_law_take "_law_take" (defScope s_law_take) (Γ "_law_take") cdv A outer s H C.E) (fun cls d _ H => C.E cls d H) := takes_of rfl rfl rfl rfl
  have hp : Passes (L2.CX P w) (cxOf (L2.CX P w) P w K mg base N_law_take "_law_take" (defScope s_law_take) (Γ "_law_take") cdv A outer s H C.E) C.E := passes_call tk fun _ _ _ _ h => h
  have hpo : PassesOwn (model P w) (cxOf (L2.CX P w) P w K mg base N_law_take "_law_take" (defScope s_law_take) (Γ "_law_take") cdv A outer s H C.E).A (cxOf (L2.CX P w) P w K mg base N_law_take "_law_take" (defScope s_law_take) (Γ "_law_take") cdv A outer s H C.E).env (cxOf (L2.CX P w) P w K mg base N_law_take "_law_take" (defScope s_law_take) (Γ "_law_take") cdv A outer s H C.E).xe := passes_of rfl
  exact (ls_cons (ls_if (lt_cmp op_lt rb_cmp (le_var 1 (pv 1)) le_int (nomark _)) (ls_one (ls_ret le_int)) ls_nil)
    (ls_cons (ls_if (lt_cmp op_gt rb_cmp (le_drw (i := 0) (k := .whole) (pe_dget (hu_of hr) (pv 0) pe_str (fun _ _ => rfl))) le_int (nomark _)) (ls_cons (ls_set (i := 2) nd rfl (.inl rfl) (le_op op_mod rb_mod (le_cty call_int1 rc_int (by rfl) z_int (by decide +kernel) (la_cons (le_drw (i := 0) (k := .whole) (pe_dget (hu_of hr) (pv 0) pe_str (fun _ _ => rfl))) la_nil)) (le_var 1 (pv 1))))
    (ls_cons (ls_drw (i := 0) (k := .whole) (by intro z; cases z) (ps_dput (hu_of hr) (pv 0) pe_str (le_op op_fdivW rb_div (le_drw (i := 0) (k := .whole) (pe_dget (hu_of hr) (pv 0) pe_str (fun _ _ => rfl))) (le_var 1 (pv 1))) (by rfl)))
    (ls_one (ls_ret (le_var 2 (pv 2)))))) ls_nil)
    (ls_cons (ls_set (i := 2) nd rfl (.inl rfl) (le_callF k_law_mixed (hr.mono (by decide)) (by rfl) hp (la_cons (le_var 0 (pv 0)) la_nil)))
    (ls_cons (ls_while hpo (PW.pt (lw_and (lt_cmp op_gt rb_cmp (le_var 1 (pv 1)) (le_op op_pow rb_pow le_int le_int) (nomark _)) (lw_and1 (lt_cmp op_lt rb_cmp (le_var 2 (pv 2)) (le_op or_mul rb_mul (le_var 1 (pv 1)) (le_var 1 (pv 1))) (nomark _))))) (ls_one (ls_set (i := 2) nd rfl (.inl rfl) (le_op or_add rb_add (le_op or_mul rb_mul (le_var 2 (pv 2)) (le_op op_pow rb_pow le_int le_int)) (le_callF k_law_mixed (hr.mono (by decide)) (by rfl) hp (la_cons (le_var 0 (pv 0)) la_nil))))))
    (ls_one (ls_ret (le_op op_mod rb_mod (le_cty call_int1 rc_int (by rfl) z_int (by decide +kernel) (la_cons (le_op op_fdivW rb_div (le_var 2 (pv 2)) le_int) la_nil)) (le_var 1 (pv 1)))))))))

abbrev s_law_pick : Stmt := topS 40
abbrev N_law_pick : List Str := ["draw", "items"]
theorem sc_law_pick : FnScope N_law_pick ["draw", "items"] (defScope s_law_pick) := ⟨rfl, rfl, rfl, by decide +kernel, rfl, by decide +kernel, by decide +kernel⟩
theorem ok_law_pick (F : DefF K mg Γ "_law_pick" s_law_pick ["draw", "items"])
    (k_law_take : OkF P w K mg base T Γ "_law_take" ["draw", "amount"] 2 (f_law_take_18ca62 Γ))
    (z_len : mg "len" = none) : OkF P w K mg base T Γ "_law_pick" ["draw", "items"] 3 (f_law_pick_79bebb Γ) := by
  refine F.ok (k := 2) (t := t_law_pick_79bebb Γ) sc_law_pick (fun cdv A outer s H C hr => ?_) (v_law_pick_79bebb Γ)
  have nd := (sc_law_pick).nd
  have tk : Takes (cxOf (L2.CX P w) P w K mg base N_law_pick "_law_pick" (defScope s_law_pick) (Γ "_law_pick") cdv A outer s H C.E) (fun cls d _ H => C.E cls d H) := takes_of rfl rfl rfl rfl
  have hp : Passes (L2.CX P w) (cxOf (L2.CX P w) P w K mg base N_law_pick "_law_pick" (defScope s_law_pick) (Γ "_law_pick") cdv A outer s H C.E) C.E := passes_call tk fun _ _ _ _ h => h
  exact (ls_one (ls_ret (le_ix ix_seq rb_ix (le_var 1 (pv 1)) (le_callF k_law_take (hr.mono (by decide)) (by rfl) hp (la_cons (le_var 0 (pv 0)) (la_cons (le_cb cr_len rc_len (by rfl) z_len (by decide +kernel) (la_cons (le_var 1 (pv 1)) la_nil)) la_nil))) (fun _ _ => rfl))))

abbrev s_law_endless_lot : Stmt := topS 49
abbrev N_law_endless_lot : List Str := ["draw", "most", "modulus", "rests", "some", "lap", "number"]
theorem sc_law_endless_lot : FnScope N_law_endless_lot ["draw", "most"] (defScope s_law_endless_lot) := ⟨rfl, rfl, rfl, by decide +kernel, rfl, by decide +kernel, by decide +kernel⟩
theorem ok_law_endless_lot (F : DefF K mg Γ "_law_endless_lot" s_law_endless_lot ["draw", "most"])
    (k_law_pick : OkF P w K mg base T Γ "_law_pick" ["draw", "items"] 3 (f_law_pick_79bebb Γ))
    (k_law_take : OkF P w K mg base T Γ "_law_take" ["draw", "amount"] 2 (f_law_take_18ca62 Γ))
    (z_int : mg "int" = none)
    (z_range : mg "range" = none)
    (z_set : mg "set" = none)
    (z_sorted : mg "sorted" = none)
    (z_tuple : mg "tuple" = none) : OkF P w K mg base T Γ "_law_endless_lot" ["draw", "most"] 4 (f_law_endless_lot_fa60ba Γ) := by
  refine F.ok (k := 3) (t := t_law_endless_lot_fa60ba Γ) sc_law_endless_lot (fun cdv A outer s H C hr => ?_) (v_law_endless_lot_fa60ba Γ)
  have nd := (sc_law_endless_lot).nd
  have tk : Takes (cxOf (L2.CX P w) P w K mg base N_law_endless_lot "_law_endless_lot" (defScope s_law_endless_lot) (Γ "_law_endless_lot") cdv A outer s H C.E) (fun cls d _ H => C.E cls d H) := takes_of rfl rfl rfl rfl
  have hp : Passes (L2.CX P w) (cxOf (L2.CX P w) P w K mg base N_law_endless_lot "_law_endless_lot" (defScope s_law_endless_lot) (Γ "_law_endless_lot") cdv A outer s H C.E) C.E := passes_call tk fun _ _ _ _ h => h
  exact (ls_cons (ls_set (i := 2) nd rfl (.inr rfl) (le_op or_add rb_add le_int (le_callF k_law_take (hr.mono (by decide)) (by rfl) hp (la_cons (le_var 0 (pv 0)) (la_cons (le_var 1 (pv 1)) la_nil)))))
    (ls_cons (ls_set (i := 3) nd rfl (.inr rfl) (le_sortSt rfl (by rfl) z_sorted (by rfl) z_set (le_lc rfl nd (li_range1 (by rfl) z_range (la_cons (le_op or_add rb_add le_int (le_callF k_law_take (hr.mono (by decide)) (by rfl) hp (la_cons (le_var 0 (pv 0)) (la_cons le_int la_nil)))) la_nil)) (blkOk_by (own := [("lap", 5)]) (N := N_law_endless_lot) (sc := defScope s_law_endless_lot) (by decide +kernel)) (t := (.nm 5)) rfl (by decide) (fun _ _ _ _ _ => (pg_name (i := 5) nd rfl (by first | exact .inl rfl | exact .inr rfl))) (fun _ _ _ _ _ => lts_nil) (fun _ _ _ _ _ => (le_callF k_law_take (hr.mono (by decide)) (by rfl) passL (la_cons (le_var 0 (pv 0)) (la_cons (le_var 2 (pv 2)) la_nil)))))))
    (ls_cons (ls_setLc (i := 4) (tgs := (.nm 5)) rfl nd rfl rfl (sw_true rfl rfl rfl (by decide +kernel)) (li_range1 (by rfl) z_range (la_cons (le_callF k_law_pick (hr.mono (by decide)) (by rfl) hp (la_cons (le_var 0 (pv 0)) (la_cons (le_lst (la_cons le_int (la_cons le_int (la_cons le_int (la_cons le_int la_nil))))) la_nil))) la_nil)) (blkOk_by (own := [("lap", 5)]) (N := N_law_endless_lot) (sc := defScope s_law_endless_lot) (by decide +kernel)) rfl (by decide) (fun _ _ _ _ _ => (pg_name (i := 5) nd rfl (by first | exact .inl rfl | exact .inr rfl))) (fun _ _ _ _ _ => lts_nil) (fun _ _ _ _ _ => (le_op op_sub rb_sub (le_callF k_law_take (hr.mono (by decide)) (by rfl) passL (la_cons (le_var 0 (pv 0)) (la_cons le_int la_nil))) le_int)))
    (ls_one (ls_ret (le_tup (la_cons (le_cty call_tuple_of rc_tuple (by rfl) z_tuple (by decide +kernel) (la_cons (le_lc rfl nd (li_seq (le_sortSt rfl (by rfl) z_sorted (by rfl) z_set (le_var 4 (pv 4)))) (blkOk_by (own := [("number", 6)]) (N := N_law_endless_lot) (sc := defScope s_law_endless_lot) (by decide +kernel)) (t := (.nm 6)) rfl (by decide) (fun _ _ _ _ _ => (pg_name (i := 6) nd rfl (by first | exact .inl rfl | exact .inr rfl))) (fun _ _ _ _ _ => (lts_one (lt_cmp op_notIn_seq rb_in (le_op op_mod rb_mod (le_cty call_int1 rc_int (by rfl) z_int (by decide +kernel) (la_cons (le_var 6 (pv 6)) la_nil)) (le_var 2 (pv 2))) (le_var 3 (pv 3)) (by rfl)))) (fun _ _ _ _ _ => (le_var 6 (pv 6)))) la_nil)) (la_cons (le_var 2 (pv 2)) (la_cons (le_cty call_tuple_of rc_tuple (by rfl) z_tuple (by decide +kernel) (la_cons (le_var 3 (pv 3)) la_nil)) la_nil)))))))))

abbrev s_law_finite_lot : Stmt := topS 48
abbrev N_law_finite_lot : List Str := ["draw", "most", "wide", "way", "some", "step", "first", "base", "lap", "place", "number"]
theorem sc_law_finite_lot : FnScope N_law_finite_lot ["draw", "most"] (defScope s_law_finite_lot) := ⟨rfl, rfl, rfl, by decide +kernel, rfl, by decide +kernel, by decide +kernel⟩
theorem ok_law_finite_lot (F : DefF K mg Γ "_law_finite_lot" s_law_finite_lot ["draw", "most"])
    (k_law_pick : OkF P w K mg base T Γ "_law_pick" ["draw", "items"] 3 (f_law_pick_79bebb Γ))
    (k_law_take : OkF P w K mg base T Γ "_law_take" ["draw", "amount"] 2 (f_law_take_18ca62 Γ))
    (z_range : mg "range" = none)
    (z_set : mg "set" = none)
    (z_sorted : mg "sorted" = none)
    (z_tuple : mg "tuple" = none) : OkF P w K mg base T Γ "_law_finite_lot" ["draw", "most"] 4 (f_law_finite_lot_764d8b Γ) := by
  refine F.ok (k := 3) (t := t_law_finite_lot_764d8b Γ) sc_law_finite_lot (fun cdv A outer s H C hr => ?_) (v_law_finite_lot_764d8b Γ)
  have nd := (sc_law_finite_lot).nd
  have tk : Takes (cxOf (L2.CX P w) P w K mg base N_law_finite_lot "_law_finite_lot" (defScope s_law_finite_lot) (Γ "_law_finite_lot") cdv A outer s H C.E) (fun cls d _ H => C.E cls d H) := takes_of rfl rfl rfl rfl
  have hp : Passes (L2.CX P w) (cxOf (L2.CX P w) P w K mg base N_law_finite_lot "_law_finite_lot" (defScope s_law_finite_lot) (Γ "_law_finite_lot") cdv A outer s H C.E) C.E := passes_call tk fun _ _ _ _ h => h
  exact (ls_cons (ls_par (i := 2) (j := 3) rfl nd rfl rfl (by decide) rfl rfl (la_cons (le_op or_add rb_add le_int (le_callF k_law_take (hr.mono (by decide)) (by rfl) hp (la_cons (le_var 0 (pv 0)) (la_cons (le_var 1 (pv 1)) la_nil)))) (la_cons (le_callF k_law_take (hr.mono (by decide)) (by rfl) hp (la_cons (le_var 0 (pv 0)) (la_cons le_int la_nil))) la_nil)) (by rfl))
    (ls_cons (ls_if (lt_cmp (or_eq hr.units) rb_eq (le_var 3 (pv 3)) le_int (nomark _)) (ls_one (ls_setLc (i := 4) (tgs := (.nm 8)) rfl nd rfl rfl (sw_true rfl rfl rfl (by decide +kernel)) (li_range1 (by rfl) z_range (la_cons (le_var 2 (pv 2)) la_nil)) (blkOk_by (own := [("lap", 8)]) (N := N_law_finite_lot) (sc := defScope s_law_finite_lot) (by decide +kernel)) rfl (by decide) (fun _ _ _ _ _ => (pg_name (i := 8) nd rfl (by first | exact .inl rfl | exact .inr rfl))) (fun _ _ _ _ _ => lts_nil) (fun _ _ _ _ _ => (le_op op_sub rb_sub (le_callF k_law_take (hr.mono (by decide)) (by rfl) passL (la_cons (le_var 0 (pv 0)) (la_cons le_int la_nil))) le_int)))) (ls_one (ls_if (lt_cmp (or_eq hr.units) rb_eq (le_var 3 (pv 3)) le_int (nomark _)) (ls_one (ls_setLc (i := 4) (tgs := (.nm 8)) rfl nd rfl rfl (sw_true rfl rfl rfl (by decide +kernel)) (li_range1 (by rfl) z_range (la_cons (le_var 2 (pv 2)) la_nil)) (blkOk_by (own := [("lap", 8)]) (N := N_law_finite_lot) (sc := defScope s_law_finite_lot) (by decide +kernel)) rfl (by decide) (fun _ _ _ _ _ => (pg_name (i := 8) nd rfl (by first | exact .inl rfl | exact .inr rfl))) (fun _ _ _ _ _ => lts_nil) (fun _ _ _ _ _ => (le_op op_sub rb_sub (le_callF k_law_take (hr.mono (by decide)) (by rfl) passL (la_cons (le_var 0 (pv 0)) (la_cons le_int la_nil))) le_int)))) (ls_one (ls_if (lt_cmp (or_eq hr.units) rb_eq (le_var 3 (pv 3)) le_int (nomark _)) (ls_cons (ls_asg (tt := (.tp [5, 6])) (le_tup (la_cons (le_op or_add rb_add le_int (le_callF k_law_take (hr.mono (by decide)) (by rfl) hp (la_cons (le_var 0 (pv 0)) (la_cons le_int la_nil)))) (la_cons (le_op op_sub rb_sub (le_callF k_law_take (hr.mono (by decide)) (by rfl) hp (la_cons (le_var 0 (pv 0)) (la_cons le_int la_nil))) le_int) la_nil))) (pg_tup rfl (pgs_cons (pg_name (i := 5) nd rfl (.inr rfl)) (pgs_cons (pg_name (i := 6) nd rfl (.inr rfl)) pgs_nil))))
    (ls_one (ls_setLc (i := 4) (tgs := (.nm 9)) rfl nd rfl rfl (sw_true rfl rfl rfl (by decide +kernel)) (li_range1 (by rfl) z_range (la_cons (le_var 2 (pv 2)) la_nil)) (blkOk_by (own := [("place", 9)]) (N := N_law_finite_lot) (sc := defScope s_law_finite_lot) (by decide +kernel)) rfl (by decide) (fun _ _ _ _ _ => (pg_name (i := 9) nd rfl (by first | exact .inl rfl | exact .inr rfl))) (fun _ _ _ _ _ => lts_nil) (fun _ _ _ _ _ => (le_op or_add rb_add (le_var 6 (pv 6)) (le_op or_mul rb_mul (le_var 5 (pv 5)) (le_op or_add rb_add (le_var 9 (pv 9)) (le_callF k_law_take (hr.mono (by decide)) (by rfl) passL (la_cons (le_var 0 (pv 0)) (la_cons le_int la_nil)))))))))) (ls_one (ls_if (lt_cmp (or_eq hr.units) rb_eq (le_var 3 (pv 3)) le_int (nomark _)) (ls_one (ls_set (i := 4) nd rfl (.inl rfl) (le_sl (le_lc rfl nd (li_range1 (by rfl) z_range (la_cons (le_var 2 (pv 2)) la_nil)) (blkOk_by (own := [("number", 10)]) (N := N_law_finite_lot) (sc := defScope s_law_finite_lot) (by decide +kernel)) (t := (.nm 10)) rfl (by decide) (fun _ _ _ _ _ => (pg_name (i := 10) nd rfl (by first | exact .inl rfl | exact .inr rfl))) (fun _ _ _ _ _ => lts_nil) (fun _ _ _ _ _ => (le_op or_mul rb_mul (le_var 10 (pv 10)) (le_var 10 (pv 10))))) lo_none (lo_some le_int)))) (ls_cons (ls_set (i := 7) nd rfl (.inl rfl) (le_callF k_law_pick (hr.mono (by decide)) (by rfl) hp (la_cons (le_var 0 (pv 0)) (la_cons (le_lst (la_cons le_int (la_cons le_int la_nil))) la_nil))))
    (ls_one (ls_setLc (i := 4) (tgs := (.nm 10)) rfl nd rfl rfl (sw_true rfl rfl rfl (by decide +kernel)) (li_seq (le_sl (le_lst (la_cons le_int (la_cons (le_var 7 (pv 7)) (la_cons (le_op or_mul rb_mul (le_var 7 (pv 7)) (le_var 7 (pv 7))) (la_cons (le_op or_mul rb_mul (le_op or_mul rb_mul (le_var 7 (pv 7)) (le_var 7 (pv 7))) (le_var 7 (pv 7))) (la_cons (le_op or_mul rb_mul (le_op or_mul rb_mul (le_op or_mul rb_mul (le_var 7 (pv 7)) (le_var 7 (pv 7))) (le_var 7 (pv 7))) (le_var 7 (pv 7))) (la_cons le_int (la_cons (le_neg le_int) la_nil)))))))) lo_none (lo_some (le_var 2 (pv 2))))) (blkOk_by (own := [("number", 10)]) (N := N_law_finite_lot) (sc := defScope s_law_finite_lot) (by decide +kernel)) rfl (by decide) (fun _ _ _ _ _ => (pg_name (i := 10) nd rfl (by first | exact .inl rfl | exact .inr rfl))) (fun _ _ _ _ _ => lts_nil) (fun _ _ _ _ _ => (le_var 10 (pv 10)))))))))))))
    (ls_one (ls_ret (le_tup (la_cons (le_cty call_tuple_of rc_tuple (by rfl) z_tuple (by decide +kernel) (la_cons (le_sortSt rfl (by rfl) z_sorted (by rfl) z_set (le_var 4 (pv 4))) la_nil)) (la_cons le_int (la_cons (le_tup la_nil) la_nil))))))))

abbrev s_law_lot : Stmt := topS 50
abbrev N_law_lot : List Str := ["draw"]
theorem sc_law_lot : FnScope N_law_lot ["draw"] (defScope s_law_lot) := ⟨rfl, rfl, rfl, by decide +kernel, rfl, by decide +kernel, by decide +kernel⟩
theorem ok_law_lot (F : DefF K mg Γ "_law_lot" s_law_lot ["draw"])
    (k_law_endless_lot : OkF P w K mg base T Γ "_law_endless_lot" ["draw", "most"] 4 (f_law_endless_lot_fa60ba Γ))
    (k_law_finite_lot : OkF P w K mg base T Γ "_law_finite_lot" ["draw", "most"] 4 (f_law_finite_lot_764d8b Γ))
    (k_law_take : OkF P w K mg base T Γ "_law_take" ["draw", "amount"] 2 (f_law_take_18ca62 Γ)) : OkF P w K mg base T Γ "_law_lot" ["draw"] 5 (f_law_lot_6121c3 Γ) := by
  refine F.ok (k := 4) (t := t_law_lot_6121c3 Γ) sc_law_lot (fun cdv A outer s H C hr => ?_) (v_law_lot_6121c3 Γ)
  have nd := (sc_law_lot).nd
  have tk : Takes (cxOf (L2.CX P w) P w K mg base N_law_lot "_law_lot" (defScope s_law_lot) (Γ "_law_lot") cdv A outer s H C.E) (fun cls d _ H => C.E cls d H) := takes_of rfl rfl rfl rfl
  have hp : Passes (L2.CX P w) (cxOf (L2.CX P w) P w K mg base N_law_lot "_law_lot" (defScope s_law_lot) (Γ "_law_lot") cdv A outer s H C.E) C.E := passes_call tk fun _ _ _ _ h => h
  exact (ls_one (ls_ret (le_if (lt_cmp (or_eq hr.units) rb_eq (le_callF k_law_take (hr.mono (by decide)) (by rfl) hp (la_cons (le_var 0 (pv 0)) (la_cons le_int la_nil))) le_int (nomark _)) (le_callF k_law_endless_lot (hr.mono (by decide)) (by rfl) hp (la_cons (le_var 0 (pv 0)) (la_cons le_int la_nil))) (le_callF k_law_finite_lot (hr.mono (by decide)) (by rfl) hp (la_cons (le_var 0 (pv 0)) (la_cons le_int la_nil))))))

abbrev s_law_odd : Stmt := topS 51
abbrev N_law_odd : List Str := ["draw"]
theorem sc_law_odd : FnScope N_law_odd ["draw"] (defScope s_law_odd) := ⟨rfl, rfl, rfl, by decide +kernel, rfl, by decide +kernel, by decide +kernel⟩
theorem ok_law_odd (F : DefF K mg Γ "_law_odd" s_law_odd ["draw"])
    (k_law_pick : OkF P w K mg base T Γ "_law_pick" ["draw", "items"] 3 (f_law_pick_79bebb Γ)) : OkF P w K mg base T Γ "_law_odd" ["draw"] 4 (f_law_odd_c2def8 Γ) := by
  refine F.ok (k := 3) (t := t_law_odd_c2def8 Γ) sc_law_odd (fun cdv A outer s H C hr => ?_) (v_law_odd_c2def8 Γ)
  have nd := (sc_law_odd).nd
  have tk : Takes (cxOf (L2.CX P w) P w K mg base N_law_odd "_law_odd" (defScope s_law_odd) (Γ "_law_odd") cdv A outer s H C.E) (fun cls d _ H => C.E cls d H) := takes_of rfl rfl rfl rfl
  have hp : Passes (L2.CX P w) (cxOf (L2.CX P w) P w K mg base N_law_odd "_law_odd" (defScope s_law_odd) (Γ "_law_odd") cdv A outer s H C.E) C.E := passes_call tk fun _ _ _ _ h => h
  exact (ls_one (ls_ret (le_callF k_law_pick (hr.mono (by decide)) (by rfl) hp (la_cons (le_var 0 (pv 0)) (la_cons (le_lst (la_cons le_non (la_cons le_bl (la_cons le_int (la_cons le_str (la_cons (le_tup la_nil) (la_cons (le_lst la_nil) (la_cons le_dic0 (la_cons (le_tup (la_cons le_int la_nil)) (la_cons (le_tup (la_cons (le_tup (la_cons le_int la_nil)) (la_cons le_int la_nil))) (la_cons (le_tup (la_cons (le_tup (la_cons le_int la_nil)) (la_cons le_int (la_cons (le_tup la_nil) (la_cons (le_tup la_nil) la_nil))))) la_nil))))))))))) la_nil)))))

abbrev s_law_no_lot : Stmt := topS 52
abbrev N_law_no_lot : List Str := ["draw", "some"]
theorem sc_law_no_lot : FnScope N_law_no_lot ["draw"] (defScope s_law_no_lot) := ⟨rfl, rfl, rfl, by decide +kernel, rfl, by decide +kernel, by decide +kernel⟩
theorem ok_law_no_lot (F : DefF K mg Γ "_law_no_lot" s_law_no_lot ["draw"])
    (k_law_odd : OkF P w K mg base T Γ "_law_odd" ["draw"] 4 (f_law_odd_c2def8 Γ))
    (k_law_pick : OkF P w K mg base T Γ "_law_pick" ["draw", "items"] 3 (f_law_pick_79bebb Γ))
    (z_range : mg "range" = none)
    (z_tuple : mg "tuple" = none) : OkF P w K mg base T Γ "_law_no_lot" ["draw"] 5 (f_law_no_lot_b60b62 Γ) := by
  refine F.ok (k := 4) (t := t_law_no_lot_b60b62 Γ) sc_law_no_lot (fun cdv A outer s H C hr => ?_) (v_law_no_lot_b60b62 Γ)
  have nd := (sc_law_no_lot).nd
  have tk : Takes (cxOf (L2.CX P w) P w K mg base N_law_no_lot "_law_no_lot" (defScope s_law_no_lot) (Γ "_law_no_lot") cdv A outer s H C.E) (fun cls d _ H => C.E cls d H) := takes_of rfl rfl rfl rfl
  have hp : Passes (L2.CX P w) (cxOf (L2.CX P w) P w K mg base N_law_no_lot "_law_no_lot" (defScope s_law_no_lot) (Γ "_law_no_lot") cdv A outer s H C.E) C.E := passes_call tk fun _ _ _ _ h => h
  exact (ls_cons (ls_set (i := 1) nd rfl (.inl rfl) (le_lst (la_cons (le_callF k_law_odd (hr.mono (by decide)) (by rfl) hp (la_cons (le_var 0 (pv 0)) la_nil)) (la_cons (le_tup (la_cons (le_tup la_nil) (la_cons le_int (la_cons (le_tup la_nil) la_nil)))) (la_cons (le_tup (la_cons (le_tup (la_cons le_int (la_cons le_int la_nil))) (la_cons le_int (la_cons (le_tup la_nil) la_nil)))) (la_cons (le_tup (la_cons (le_tup (la_cons le_int (la_cons le_int la_nil))) (la_cons le_int (la_cons (le_tup la_nil) la_nil)))) (la_cons (le_tup (la_cons (le_tup (la_cons le_int la_nil)) (la_cons le_int (la_cons (le_tup la_nil) la_nil)))) (la_cons (le_tup (la_cons (le_tup (la_cons le_int la_nil)) (la_cons le_int (la_cons (le_tup (la_cons le_int la_nil)) la_nil)))) (la_cons (le_tup (la_cons (le_tup la_nil) (la_cons le_int (la_cons (le_tup (la_cons le_int la_nil)) la_nil)))) (la_cons (le_tup (la_cons (le_tup la_nil) (la_cons le_int (la_cons (le_tup (la_cons le_int la_nil)) la_nil)))) (la_cons (le_tup (la_cons (le_tup la_nil) (la_cons le_int (la_cons (le_tup (la_cons le_int la_nil)) la_nil)))) la_nil)))))))))))
    (ls_cons (ls_set (i := 1) nd rfl (.inl rfl) (le_op or_add rb_add (le_var 1 (pv 1)) (le_lst (la_cons (le_tup (la_cons (le_lst (la_cons le_int la_nil)) (la_cons le_int (la_cons (le_tup la_nil) la_nil)))) (la_cons (le_tup (la_cons (le_tup (la_cons le_int la_nil)) (la_cons le_int (la_cons (le_tup la_nil) la_nil)))) (la_cons (le_tup (la_cons (le_tup (la_cons le_bl la_nil)) (la_cons le_int (la_cons (le_tup la_nil) la_nil)))) (la_cons (le_tup (la_cons (le_tup la_nil) (la_cons le_int (la_cons (le_tup (la_cons le_int (la_cons le_int la_nil))) la_nil)))) (la_cons (le_tup (la_cons (le_tup la_nil) (la_cons le_int (la_cons (le_lst (la_cons le_int la_nil)) la_nil)))) (la_cons (le_tup (la_cons (le_tup la_nil) (la_cons le_bl (la_cons (le_tup (la_cons le_int la_nil)) la_nil)))) (la_cons (le_tup (la_cons (le_tupRg rfl (by rfl) z_tuple (by rfl) z_range le_int) (la_cons le_int (la_cons (le_tup la_nil) la_nil)))) (la_cons (le_tup (la_cons (le_tup (la_cons le_non la_nil)) (la_cons le_int (la_cons (le_tup la_nil) la_nil)))) la_nil)))))))))))
    (ls_one (ls_ret (le_callF k_law_pick (hr.mono (by decide)) (by rfl) hp (la_cons (le_var 0 (pv 0)) (la_cons (le_var 1 (pv 1)) la_nil)))))))

abbrev s_law_no_prime : Stmt := topS 53
abbrev N_law_no_prime : List Str := ["draw"]
theorem sc_law_no_prime : FnScope N_law_no_prime ["draw"] (defScope s_law_no_prime) := ⟨rfl, rfl, rfl, by decide +kernel, rfl, by decide +kernel, by decide +kernel⟩
theorem ok_law_no_prime (F : DefF K mg Γ "_law_no_prime" s_law_no_prime ["draw"])
    (k_law_pick : OkF P w K mg base T Γ "_law_pick" ["draw", "items"] 3 (f_law_pick_79bebb Γ)) : OkF P w K mg base T Γ "_law_no_prime" ["draw"] 4 (f_law_no_prime_4d0d92 Γ) := by
  refine F.ok (k := 3) (t := t_law_no_prime_4d0d92 Γ) sc_law_no_prime (fun cdv A outer s H C hr => ?_) (v_law_no_prime_4d0d92 Γ)
  have nd := (sc_law_no_prime).nd
  have tk : Takes (cxOf (L2.CX P w) P w K mg base N_law_no_prime "_law_no_prime" (defScope s_law_no_prime) (Γ "_law_no_prime") cdv A outer s H C.E) (fun cls d _ H => C.E cls d H) := takes_of rfl rfl rfl rfl
  have hp : Passes (L2.CX P w) (cxOf (L2.CX P w) P w K mg base N_law_no_prime "_law_no_prime" (defScope s_law_no_prime) (Γ "_law_no_prime") cdv A outer s H C.E) C.E := passes_call tk fun _ _ _ _ h => h
  exact (ls_one (ls_ret (le_callF k_law_pick (hr.mono (by decide)) (by rfl) hp (la_cons (le_var 0 (pv 0)) (la_cons (le_lst (la_cons le_non (la_cons le_int (la_cons le_int (la_cons (le_neg le_int) (la_cons le_int (la_cons le_int (la_cons le_int (la_cons le_int (la_cons (le_op or_mul rb_mul le_int le_int) (la_cons le_bl (la_cons le_str (la_cons (le_tup (la_cons le_int la_nil)) la_nil))))))))))))) la_nil)))))

abbrev s_law_kinds : Stmt := topS 42
abbrev N_law_kinds : List Str := ["thing", "found", "line", "one", "key"]
theorem sc_law_kinds : FnScope N_law_kinds ["thing"] (defScope s_law_kinds) := ⟨rfl, rfl, rfl, by decide +kernel, rfl, by decide +kernel, by decide +kernel⟩
theorem ok_law_kinds (F : DefF K mg Γ "_law_kinds" s_law_kinds ["thing"])
    (z_bool : mg "bool" = none)
    (z_dict : mg "dict" = none)
    (z_int : mg "int" = none)
    (z_isinstance : mg "isinstance" = none)
    (z_list : mg "list" = none)
    (z_repr : mg "repr" = none)
    (z_str : mg "str" = none)
    (z_tuple : mg "tuple" = none) : OkF P w K mg base T Γ "_law_kinds" ["thing"] 1 (f_law_kinds_983627 Γ) := by
  refine F.ok (k := 0) (t := t_law_kinds_983627 Γ) sc_law_kinds (fun cdv A outer s H C hr => ?_) (v_law_kinds_983627 Γ)
  have nd := (sc_law_kinds).nd
  have tk : Takes (cxOf (L2.CX P w) P w K mg base N_law_kinds "_law_kinds" (defScope s_law_kinds) (Γ "_law_kinds") cdv A outer s H C.E) (fun cls d _ H => C.E cls d H) := takes_of rfl rfl rfl rfl
  have hp : Passes (L2.CX P w) (cxOf (L2.CX P w) P w K mg base N_law_kinds "_law_kinds" (defScope s_law_kinds) (Γ "_law_kinds") cdv A outer s H C.E) C.E := passes_call tk fun _ _ _ _ h => h
  have hpo : PassesOwn (model P w) (cxOf (L2.CX P w) P w K mg base N_law_kinds "_law_kinds" (defScope s_law_kinds) (Γ "_law_kinds") cdv A outer s H C.E).A (cxOf (L2.CX P w) P w K mg base N_law_kinds "_law_kinds" (defScope s_law_kinds) (Γ "_law_kinds") cdv A outer s H C.E).env (cxOf (L2.CX P w) P w K mg base N_law_kinds "_law_kinds" (defScope s_law_kinds) (Γ "_law_kinds") cdv A outer s H C.E).xe := passes_of rfl
  exact (ls_cons (ls_parOwn2 (ps_par (i := 1) (j := 2) rfl nd rfl rfl (by decide) rfl rfl (pa_cons (pe_lst pa_nil) (pa_cons (pe_lst (pa_cons (le_var 0 (pv 0)) pa_nil)) pa_nil)) (by rfl)))
    (ls_cons (ls_while hpo (lt_bor (lt_cmp (or_ne hr.units) rb_ne (le_var 2 (pv 2)) (le_lst la_nil) (nomark _))) (ls_cons (ls_pop (i := 2) (j := 3) (ps_set (i := 3) nd rfl (.inl rfl) (pe_bm0 PySem.F.plainAttrs_list PySem.F.slot_list_pop PySem.F.type_list_pop mt_pop (pv 2))))
    (ls_one (ls_if (PW.pt (lw_or (lt_val (le_cb call_isi rc_isi (by rfl) z_isinstance (by decide +kernel) (la_cons (le_var 3 (pv 3)) (la_cons (le_ty (a := .bool) (pe_bltn (by rfl) z_bool (by decide +kernel) rfl)) la_nil)))) (lw_or1 (lt_cmp op_isN rb_isN (le_var 3 (pv 3)) le_non (nomark _))))) (ls_one (ls_app (i := 1) (ps_expr (pe_bm PySem.F.plainAttrs_list PySem.F.slot_list_append PySem.F.type_list_append mt_append (pv 1) (pa_cons (le_cb call_reprP rc_repr (by rfl) z_repr (by decide +kernel) (la_cons (le_var 3 (pv 3)) la_nil)) pa_nil))))) (ls_one (ls_if (lt_val (le_cb call_isi rc_isi (by rfl) z_isinstance (by decide +kernel) (la_cons (le_var 3 (pv 3)) (la_cons (le_ty (a := .int) (pe_bltn (by rfl) z_int (by decide +kernel) rfl)) la_nil)))) (ls_one (ls_app (i := 1) (ps_expr (pe_bm PySem.F.plainAttrs_list PySem.F.slot_list_append PySem.F.type_list_append mt_append (pv 1) (pa_cons le_str pa_nil))))) (ls_one (ls_if (lt_val (le_cb call_isi rc_isi (by rfl) z_isinstance (by decide +kernel) (la_cons (le_var 3 (pv 3)) (la_cons (le_ty (a := .str) (pe_bltn (by rfl) z_str (by decide +kernel) rfl)) la_nil)))) (ls_one (ls_app (i := 1) (ps_expr (pe_bm PySem.F.plainAttrs_list PySem.F.slot_list_append PySem.F.type_list_append mt_append (pv 1) (pa_cons le_str pa_nil))))) (ls_one (ls_if (PW.pt (lw_or (lt_val (le_cb call_isi rc_isi (by rfl) z_isinstance (by decide +kernel) (la_cons (le_var 3 (pv 3)) (la_cons (le_ty (a := .list) (pe_bltn (by rfl) z_list (by decide +kernel) rfl)) la_nil)))) (lw_or1 (lt_val (le_cb call_isi rc_isi (by rfl) z_isinstance (by decide +kernel) (la_cons (le_var 3 (pv 3)) (la_cons (le_ty (a := .tuple) (pe_bltn (by rfl) z_tuple (by decide +kernel) rfl)) la_nil))))))) (ls_cons (ls_app (i := 1) (ps_expr (pe_bm PySem.F.plainAttrs_list PySem.F.slot_list_append PySem.F.type_list_append mt_append (pv 1) (pa_cons (le_if (lt_val (le_cb call_isi rc_isi (by rfl) z_isinstance (by decide +kernel) (la_cons (le_var 3 (pv 3)) (la_cons (le_ty (a := .list) (pe_bltn (by rfl) z_list (by decide +kernel) rfl)) la_nil)))) le_str le_str) pa_nil))))
    (ls_one (ls_join (i := 2) (ps_set (i := 2) nd rfl (.inl rfl) (pe_op or_add (pv 2) (le_cty call_list_of rc_list (by rfl) z_list (by decide +kernel) (la_cons (le_var 3 (pv 3)) la_nil))))))) (ls_one (ls_if (lt_val (le_cb call_isi rc_isi (by rfl) z_isinstance (by decide +kernel) (la_cons (le_var 3 (pv 3)) (la_cons (le_ty (a := .dict) (pe_bltn (by rfl) z_dict (by decide +kernel) rfl)) la_nil)))) (ls_cons (ls_app (i := 1) (ps_expr (pe_bm PySem.F.plainAttrs_list PySem.F.slot_list_append PySem.F.type_list_append mt_append (pv 1) (pa_cons le_str pa_nil))))
    (ls_one ls_never)) (ls_one (ls_app (i := 1) (ps_expr (pe_bm PySem.F.plainAttrs_list PySem.F.slot_list_append PySem.F.type_list_append mt_append (pv 1) (pa_cons le_str pa_nil)))))))))))))))))
    (ls_one (ls_frz (i := 1) (ls_ret (le_var 1 (pv 1)))))))

abbrev s_law_says : Stmt := topS 43
abbrev N_law_says : List Str := ["told", "due"]
theorem sc_law_says : FnScope N_law_says ["told", "due"] (defScope s_law_says) := ⟨rfl, rfl, rfl, by decide +kernel, rfl, by decide +kernel, by decide +kernel⟩
theorem ok_law_says (F : DefF K mg Γ "_law_says" s_law_says ["told", "due"])
    (k_law_kinds : OkF P w K mg base T Γ "_law_kinds" ["thing"] 1 (f_law_kinds_983627 Γ)) : OkF P w K mg base T Γ "_law_says" ["told", "due"] 2 (f_law_says_deff49 Γ) := by
  refine F.ok (k := 1) (t := t_law_says_deff49 Γ) sc_law_says (fun cdv A outer s H C hr => ?_) (v_law_says_deff49 Γ)
  have nd := (sc_law_says).nd
  have tk : Takes (cxOf (L2.CX P w) P w K mg base N_law_says "_law_says" (defScope s_law_says) (Γ "_law_says") cdv A outer s H C.E) (fun cls d _ H => C.E cls d H) := takes_of rfl rfl rfl rfl
  have hp : Passes (L2.CX P w) (cxOf (L2.CX P w) P w K mg base N_law_says "_law_says" (defScope s_law_says) (Γ "_law_says") cdv A outer s H C.E) C.E := passes_call tk fun _ _ _ _ h => h
  exact (ls_one (ls_ret (le_and (le_cmp (or_eq hr.units) rb_eq (le_callF k_law_kinds (hr.mono (by decide)) (by rfl) hp (la_cons (le_var 0 (pv 0)) la_nil)) (le_callF k_law_kinds (hr.mono (by decide)) (by rfl) hp (la_cons (le_var 1 (pv 1)) la_nil)) (nomark _)) (le_one (le_cmp (or_eq hr.units) rb_eq (le_var 0 (pv 0)) (le_var 1 (pv 1)) (nomark _))))))

abbrev s_has_by : Stmt := topS 20
abbrev N_has_by : List Str := ["lot", "number"]
theorem sc_has_by : FnScope N_has_by ["lot", "number"] (defScope s_has_by) := ⟨rfl, rfl, rfl, by decide +kernel, rfl, by decide +kernel, by decide +kernel⟩
theorem ok_has_by (F : DefF K mg Γ "has_by" s_has_by ["lot", "number"]) : OkF P w K mg base T Γ "has_by" ["lot", "number"] 1 (f_has_by_c54f9d Γ) := by
  refine F.ok (k := 0) (t := t_has_by_c54f9d Γ) sc_has_by (fun cdv A outer s H C hr => ?_) (v_has_by_c54f9d Γ)
  have nd := (sc_has_by).nd
  have tk : Takes (cxOf (L2.CX P w) P w K mg base N_has_by "has_by" (defScope s_has_by) (Γ "has_by") cdv A outer s H C.E) (fun cls d _ H => C.E cls d H) := takes_of rfl rfl rfl rfl
  have hp : Passes (L2.CX P w) (cxOf (L2.CX P w) P w K mg base N_has_by "has_by" (defScope s_has_by) (Γ "has_by") cdv A outer s H C.E) C.E := passes_call tk fun _ _ _ _ h => h
  exact (ls_one (ls_ret (le_or (le_cmp op_in_seq rb_in (le_var 1 (pv 1)) (le_ixk (k := 0) (le_var 0 (pv 0)) (fun _ _ => rfl)) (by rfl)) (le_one (le_cmp op_in_seq rb_in (le_op op_mod rb_mod (le_var 1 (pv 1)) (le_ixk (k := 1) (le_var 0 (pv 0)) (fun _ _ => rfl))) (le_ixk (k := 2) (le_var 0 (pv 0)) (fun _ _ => rfl)) (by rfl))))))

abbrev s_power_in : Stmt := topS 26
abbrev N_power_in : List Str := ["prime", "number", "found"]
theorem sc_power_in : FnScope N_power_in ["prime", "number"] (defScope s_power_in) := ⟨rfl, rfl, rfl, by decide +kernel, rfl, by decide +kernel, by decide +kernel⟩
theorem ok_power_in (F : DefF K mg Γ "power_in" s_power_in ["prime", "number"]) : OkF P w K mg base T Γ "power_in" ["prime", "number"] 1 (f_power_in_9476c2 Γ) := by
  refine F.ok (k := 0) (t := t_power_in_9476c2 Γ) sc_power_in (fun cdv A outer s H C hr => ?_) (v_power_in_9476c2 Γ)
  have nd := (sc_power_in).nd
  have tk : Takes (cxOf (L2.CX P w) P w K mg base N_power_in "power_in" (defScope s_power_in) (Γ "power_in") cdv A outer s H C.E) (fun cls d _ H => C.E cls d H) := takes_of rfl rfl rfl rfl
  have hp : Passes (L2.CX P w) (cxOf (L2.CX P w) P w K mg base N_power_in "power_in" (defScope s_power_in) (Γ "power_in") cdv A outer s H C.E) C.E := passes_call tk fun _ _ _ _ h => h
  have hpo : PassesOwn (model P w) (cxOf (L2.CX P w) P w K mg base N_power_in "power_in" (defScope s_power_in) (Γ "power_in") cdv A outer s H C.E).A (cxOf (L2.CX P w) P w K mg base N_power_in "power_in" (defScope s_power_in) (Γ "power_in") cdv A outer s H C.E).env (cxOf (L2.CX P w) P w K mg base N_power_in "power_in" (defScope s_power_in) (Γ "power_in") cdv A outer s H C.E).xe := passes_of rfl
  exact (ls_cons (ls_set (i := 2) nd rfl (.inl rfl) le_int)
    (ls_cons (ls_while hpo (lt_cmp (or_eq hr.units) rb_eq (le_op op_mod rb_mod (le_var 1 (pv 1)) (le_var 0 (pv 0))) le_int (nomark _)) (ls_one (ls_par (i := 2) (j := 1) rfl nd rfl rfl (by decide) rfl rfl (la_cons (le_op or_add rb_add (le_var 2 (pv 2)) le_int) (la_cons (le_op op_fdivW rb_div (le_var 1 (pv 1)) (le_var 0 (pv 0))) la_nil)) (by rfl))))
    (ls_one (ls_ret (le_var 2 (pv 2))))))

abbrev s_power_behind : Stmt := topS 32
abbrev N_power_behind : List Str := ["prime", "ahead", "number", "item"]
theorem sc_power_behind : FnScope N_power_behind ["prime", "ahead", "number"] (defScope s_power_behind) := ⟨rfl, rfl, rfl, by decide +kernel, rfl, by decide +kernel, by decide +kernel⟩
theorem ok_power_behind (F : DefF K mg Γ "power_behind" s_power_behind ["prime", "ahead", "number"])
    (k_power_in : OkF P w K mg base T Γ "power_in" ["prime", "number"] 1 (f_power_in_9476c2 Γ))
    (z_sum : mg "sum" = none) : OkF P w K mg base T Γ "power_behind" ["prime", "ahead", "number"] 2 (f_power_behind_c3f72d Γ) := by
  refine F.ok (k := 1) (t := t_power_behind_c3f72d Γ) sc_power_behind (fun cdv A outer s H C hr => ?_) (v_power_behind_c3f72d Γ)
  have nd := (sc_power_behind).nd
  have tk : Takes (cxOf (L2.CX P w) P w K mg base N_power_behind "power_behind" (defScope s_power_behind) (Γ "power_behind") cdv A outer s H C.E) (fun cls d _ H => C.E cls d H) := takes_of rfl rfl rfl rfl
  have hp : Passes (L2.CX P w) (cxOf (L2.CX P w) P w K mg base N_power_behind "power_behind" (defScope s_power_behind) (Γ "power_behind") cdv A outer s H C.E) C.E := passes_call tk fun _ _ _ _ h => h
  exact (ls_one (ls_ret (le_cb (cr_sum rfl) rc_sum (by rfl) z_sum (by decide +kernel) (la_cons (le_lc rfl nd (li_seq (le_var 1 (pv 1))) (blkOk_by (own := [("item", 3)]) (N := N_power_behind) (sc := defScope s_power_behind) (by decide +kernel)) (t := (.nm 3)) rfl (by decide) (fun _ _ _ _ _ => (pg_name (i := 3) nd rfl (by first | exact .inl rfl | exact .inr rfl))) (fun _ _ _ _ _ => lts_nil) (fun _ _ _ _ _ => (le_callF k_power_in (hr.mono (by decide)) (by rfl) passL (la_cons (le_var 0 (pv 0)) (la_cons (le_op op_sub rb_sub (le_var 2 (pv 2)) (le_var 3 (pv 3))) la_nil))))) la_nil))))

abbrev s_nearest : Stmt := topS 33
abbrev N_nearest : List Str := ["lot", "prime", "ahead", "due", "found", "far", "number"]
theorem sc_nearest : FnScope N_nearest ["lot", "prime", "ahead", "due"] (defScope s_nearest) := ⟨rfl, rfl, rfl, by decide +kernel, rfl, by decide +kernel, by decide +kernel⟩
theorem ok_nearest (F : DefF K mg Γ "nearest" s_nearest ["lot", "prime", "ahead", "due"])
    (k_has_by : OkF P w K mg base T Γ "has_by" ["lot", "number"] 1 (f_has_by_c54f9d Γ))
    (k_power_behind : OkF P w K mg base T Γ "power_behind" ["prime", "ahead", "number"] 2 (f_power_behind_c3f72d Γ)) : OkF P w K mg base T Γ "nearest" ["lot", "prime", "ahead", "due"] 3 (f_nearest_966ac1 Γ) := by
  refine F.ok (k := 2) (t := t_nearest_966ac1 Γ) sc_nearest (fun cdv A outer s H C hr => ?_) (v_nearest_966ac1 Γ)
  have nd := (sc_nearest).nd
  have tk : Takes (cxOf (L2.CX P w) P w K mg base N_nearest "nearest" (defScope s_nearest) (Γ "nearest") cdv A outer s H C.E) (fun cls d _ H => C.E cls d H) := takes_of rfl rfl rfl rfl
  have hp : Passes (L2.CX P w) (cxOf (L2.CX P w) P w K mg base N_nearest "nearest" (defScope s_nearest) (Γ "nearest") cdv A outer s H C.E) C.E := passes_call tk fun _ _ _ _ h => h
  have hpo : PassesOwn (model P w) (cxOf (L2.CX P w) P w K mg base N_nearest "nearest" (defScope s_nearest) (Γ "nearest") cdv A outer s H C.E).A (cxOf (L2.CX P w) P w K mg base N_nearest "nearest" (defScope s_nearest) (Γ "nearest") cdv A outer s H C.E).env (cxOf (L2.CX P w) P w K mg base N_nearest "nearest" (defScope s_nearest) (Γ "nearest") cdv A outer s H C.E).xe := passes_of rfl
  exact (ls_cons (ls_asg (tt := (.tp [4, 5])) (le_tup (la_cons le_non (la_cons le_int la_nil))) (pg_tup rfl (pgs_cons (pg_name (i := 4) nd rfl (.inl rfl)) (pgs_cons (pg_name (i := 5) nd rfl (.inl rfl)) pgs_nil))))
    (ls_cons (ls_while hpo (lt_cmp op_isN rb_isN (le_var 4 (pv 4)) le_non (nomark _)) (ls_cons (ls_for (tt := (.nm 6)) hpo rfl (li_seq (le_lst (la_cons (le_var 5 (pv 5)) (la_cons (le_neg (le_var 5 (pv 5))) la_nil)))) (pg_name (i := 6) nd rfl (.inl rfl)) (ls_one (ls_if (PW.pt (lw_and (lt_cmp op_isN rb_isN (le_var 4 (pv 4)) le_non (nomark _)) (lw_and (lt_cmp op_notIn_seq rb_in (le_var 6 (pv 6)) (le_var 2 (pv 2)) (by rfl)) (lw_and1 (lt_val (le_callF k_has_by (hr.mono (by decide)) (by rfl) hp (la_cons (le_var 0 (pv 0)) (la_cons (le_var 6 (pv 6)) la_nil)))))))) (ls_one (ls_set (i := 4) nd rfl (.inl rfl) (le_if (lt_cmp (or_eq hr.units) rb_eq (le_callF k_power_behind (hr.mono (by decide)) (by rfl) hp (la_cons (le_var 1 (pv 1)) (la_cons (le_var 2 (pv 2)) (la_cons (le_var 6 (pv 6)) la_nil)))) (le_var 3 (pv 3)) (nomark _)) (le_var 6 (pv 6)) le_non))) ls_nil)))
    (ls_one (ls_set (i := 5) nd rfl (.inl rfl) (le_op or_add rb_add (le_var 5 (pv 5)) le_int)))))
    (ls_one (ls_ret (le_var 4 (pv 4))))))

abbrev s_is_endless : Stmt := topS 19
abbrev N_is_endless : List Str := ["lot"]
theorem sc_is_endless : FnScope N_is_endless ["lot"] (defScope s_is_endless) := ⟨rfl, rfl, rfl, by decide +kernel, rfl, by decide +kernel, by decide +kernel⟩
theorem ok_is_endless (F : DefF K mg Γ "is_endless" s_is_endless ["lot"]) : OkF P w K mg base T Γ "is_endless" ["lot"] 1 (f_is_endless_9e5fbc Γ) := by
  refine F.ok (k := 0) (t := t_is_endless_9e5fbc Γ) sc_is_endless (fun cdv A outer s H C hr => ?_) (v_is_endless_9e5fbc Γ)
  have nd := (sc_is_endless).nd
  have tk : Takes (cxOf (L2.CX P w) P w K mg base N_is_endless "is_endless" (defScope s_is_endless) (Γ "is_endless") cdv A outer s H C.E) (fun cls d _ H => C.E cls d H) := takes_of rfl rfl rfl rfl
  have hp : Passes (L2.CX P w) (cxOf (L2.CX P w) P w K mg base N_is_endless "is_endless" (defScope s_is_endless) (Γ "is_endless") cdv A outer s H C.E) C.E := passes_call tk fun _ _ _ _ h => h
  exact (ls_one (ls_ret (le_cmp (or_ne hr.units) rb_ne (le_ixk (k := 2) (le_var 0 (pv 0)) (fun _ _ => rfl)) (le_tup la_nil) (nomark _))))

abbrev s_is_end : Stmt := topS 28
abbrev N_is_end : List Str := ["lot", "prime"]
theorem sc_is_end : FnScope N_is_end ["lot", "prime"] (defScope s_is_end) := ⟨rfl, rfl, rfl, by decide +kernel, rfl, by decide +kernel, by decide +kernel⟩
theorem ok_is_end (F : DefF K mg Γ "is_end" s_is_end ["lot", "prime"])
    (k_is_endless : OkF P w K mg base T Γ "is_endless" ["lot"] 1 (f_is_endless_9e5fbc Γ))
    (z_len : mg "len" = none) : OkF P w K mg base T Γ "is_end" ["lot", "prime"] 2 (f_is_end_aa83c5 Γ) := by
  refine F.ok (k := 1) (t := t_is_end_aa83c5 Γ) sc_is_end (fun cdv A outer s H C hr => ?_) (v_is_end_aa83c5 Γ)
  have nd := (sc_is_end).nd
  have tk : Takes (cxOf (L2.CX P w) P w K mg base N_is_end "is_end" (defScope s_is_end) (Γ "is_end") cdv A outer s H C.E) (fun cls d _ H => C.E cls d H) := takes_of rfl rfl rfl rfl
  have hp : Passes (L2.CX P w) (cxOf (L2.CX P w) P w K mg base N_is_end "is_end" (defScope s_is_end) (Γ "is_end") cdv A outer s H C.E) C.E := passes_call tk fun _ _ _ _ h => h
  exact (ls_one (ls_ret (le_if (lt_val (le_callF k_is_endless (hr.mono (by decide)) (by rfl) hp (la_cons (le_var 0 (pv 0)) la_nil))) (le_cmp (or_ne hr.units) rb_ne (le_op op_mod rb_mod (le_ixk (k := 1) (le_var 0 (pv 0)) (fun _ _ => rfl)) (le_var 1 (pv 1))) le_int (nomark _)) (le_cmp (or_eq hr.units) rb_eq (le_cb cr_len rc_len (by rfl) z_len (by decide +kernel) (la_cons (le_ixk (k := 0) (le_var 0 (pv 0)) (fun _ _ => rfl)) la_nil)) le_int (nomark _)))))

abbrev s_merged : Stmt := topS 29
abbrev N_merged : List Str := ["rows", "many", "some", "row", "place", "item"]
theorem sc_merged : FnScope N_merged ["rows", "many"] (defScope s_merged) := ⟨rfl, rfl, rfl, by decide +kernel, rfl, by decide +kernel, by decide +kernel⟩
theorem ok_merged (F : DefF K mg Γ "merged" s_merged ["rows", "many"])
    (z_enumerate : mg "enumerate" = none)
    (z_len : mg "len" = none)
    (z_sorted : mg "sorted" = none) : OkF P w K mg base T Γ "merged" ["rows", "many"] 1 (f_merged_ea47aa Γ) := by
  refine F.ok (k := 0) (t := t_merged_ea47aa Γ) sc_merged (fun cdv A outer s H C hr => ?_) (v_merged_ea47aa Γ)
  have nd := (sc_merged).nd
  have tk : Takes (cxOf (L2.CX P w) P w K mg base N_merged "merged" (defScope s_merged) (Γ "merged") cdv A outer s H C.E) (fun cls d _ H => C.E cls d H) := takes_of rfl rfl rfl rfl
  have hp : Passes (L2.CX P w) (cxOf (L2.CX P w) P w K mg base N_merged "merged" (defScope s_merged) (Γ "merged") cdv A outer s H C.E) C.E := passes_call tk fun _ _ _ _ h => h
  exact (ls_cons (ls_set (i := 2) nd rfl (.inl rfl) (le_cb (cr_sortB rfl) rc_sortB (by rfl) z_sorted (by decide +kernel) (la_cons (le_lc2 rfl nd (li_seq (le_var 0 (pv 0))) (blkOk_by (own := [("row", 3), ("place", 4), ("item", 5)]) (N := N_merged) (sc := defScope s_merged) (by decide +kernel)) (t := (.nm 3)) (t1 := (.tp [4, 5])) (vs1 := [4, 5]) rfl (by decide) (by decide) (by decide) (fun _ _ _ _ _ => (pg_name (i := 3) nd rfl (by first | exact .inl rfl | exact .inr rfl))) (fun _ _ _ _ _ => lts_nil) (fun _ _ _ _ _ => (li_enum (by rfl) z_enumerate (la_cons (le_var 3 (pv 3)) la_nil))) (fun _ _ _ _ _ => (pg_tup rfl (pgs_cons (pg_name (i := 4) nd rfl (by first | exact .inl rfl | exact .inr rfl)) (pgs_cons (pg_name (i := 5) nd rfl (by first | exact .inl rfl | exact .inr rfl)) pgs_nil)))) (fun _ _ _ _ _ => (lts_one (lt_cmp op_notN rb_notN (le_var 5 (pv 5)) le_non (nomark _)))) (fun _ _ _ _ _ => (le_op or_add rb_add (le_var 5 (pv 5)) (le_var 4 (pv 4))))) la_nil)))
    (ls_one (ls_ret (le_op or_add rb_add (le_sl (le_var 2 (pv 2)) lo_none (lo_some (le_var 1 (pv 1)))) (le_op or_mul rb_mul (le_lst (la_cons le_non la_nil)) (le_op op_sub rb_sub (le_var 1 (pv 1)) (le_cb cr_len rc_len (by rfl) z_len (by decide +kernel) (la_cons (le_var 2 (pv 2)) la_nil))))))))

abbrev s_trimmed_lot : Stmt := topS 21
abbrev N_trimmed_lot : List Str := ["lot", "numbers", "modulus", "rests", "less", "some", "rest"]
theorem sc_trimmed_lot : FnScope N_trimmed_lot ["lot"] (defScope s_trimmed_lot) := ⟨rfl, rfl, rfl, by decide +kernel, rfl, by decide +kernel, by decide +kernel⟩
theorem ok_trimmed_lot (F : DefF K mg Γ "trimmed_lot" s_trimmed_lot ["lot"])
    (z_len : mg "len" = none)
    (z_range : mg "range" = none)
    (z_sorted : mg "sorted" = none)
    (z_tuple : mg "tuple" = none) : OkF P w K mg base T Γ "trimmed_lot" ["lot"] 1 (f_trimmed_lot_bc60e7 Γ) := by
  refine F.ok (k := 0) (t := t_trimmed_lot_bc60e7 Γ) sc_trimmed_lot (fun cdv A outer s H C hr => ?_) (v_trimmed_lot_bc60e7 Γ)
  have nd := (sc_trimmed_lot).nd
  have tk : Takes (cxOf (L2.CX P w) P w K mg base N_trimmed_lot "trimmed_lot" (defScope s_trimmed_lot) (Γ "trimmed_lot") cdv A outer s H C.E) (fun cls d _ H => C.E cls d H) := takes_of rfl rfl rfl rfl
  have hp : Passes (L2.CX P w) (cxOf (L2.CX P w) P w K mg base N_trimmed_lot "trimmed_lot" (defScope s_trimmed_lot) (Γ "trimmed_lot") cdv A outer s H C.E) C.E := passes_call tk fun _ _ _ _ h => h
  have hpo : PassesOwn (model P w) (cxOf (L2.CX P w) P w K mg base N_trimmed_lot "trimmed_lot" (defScope s_trimmed_lot) (Γ "trimmed_lot") cdv A outer s H C.E).A (cxOf (L2.CX P w) P w K mg base N_trimmed_lot "trimmed_lot" (defScope s_trimmed_lot) (Γ "trimmed_lot") cdv A outer s H C.E).env (cxOf (L2.CX P w) P w K mg base N_trimmed_lot "trimmed_lot" (defScope s_trimmed_lot) (Γ "trimmed_lot") cdv A outer s H C.E).xe := passes_of rfl
  exact (ls_cons (ls_asg (tt := (.tp [1, 2, 3])) (le_var 0 (pv 0)) (pg_tup rfl (pgs_cons (pg_name (i := 1) nd rfl (.inl rfl)) (pgs_cons (pg_name (i := 2) nd rfl (.inl rfl)) (pgs_cons (pg_name (i := 3) nd rfl (.inl rfl)) pgs_nil)))))
    (ls_cons (ls_for (tt := (.nm 4)) hpo rfl (li_range2 (by rfl) z_range (la_cons le_int (la_cons (le_op or_add rb_add (le_var 2 (pv 2)) le_int) la_nil))) (pg_name (i := 4) nd rfl (.inr rfl)) (ls_one (ls_if (lt_cmp (or_eq hr.units) rb_eq (le_op op_mod rb_mod (le_var 2 (pv 2)) (le_var 4 (pv 4))) le_int (nomark _)) (ls_cons (ls_set (i := 5) nd rfl (.inl rfl) (le_cb (cr_sortB rfl) rc_sortB (by rfl) z_sorted (by decide +kernel) (la_cons (le_dc rfl nd (li_seq (le_var 3 (pv 3))) (blkOk_by (own := [("rest", 6)]) (N := N_trimmed_lot) (sc := defScope s_trimmed_lot) (by decide +kernel)) (t := (.nm 6)) rfl (by decide) (fun _ _ _ _ _ => (pg_name (i := 6) nd rfl (by first | exact .inl rfl | exact .inr rfl))) (fun _ _ _ _ _ => lts_nil) (fun _ _ _ _ _ => (le_op op_mod rb_mod (le_var 6 (pv 6)) (le_var 4 (pv 4)))) (fun _ _ _ _ _ => le_bl)) la_nil)))
    (ls_one (ls_if (lt_cmp (or_eq hr.units) rb_eq (le_op or_mul rb_mul (le_cb cr_len rc_len (by rfl) z_len (by decide +kernel) (la_cons (le_var 5 (pv 5)) la_nil)) (le_op op_fdivW rb_div (le_var 2 (pv 2)) (le_var 4 (pv 4)))) (le_cb cr_len rc_len (by rfl) z_len (by decide +kernel) (la_cons (le_var 3 (pv 3)) la_nil)) (nomark _)) (ls_one (ls_ret (le_tup (la_cons (le_var 1 (pv 1)) (la_cons (le_var 4 (pv 4)) (la_cons (le_cty call_tuple_of rc_tuple (by rfl) z_tuple (by decide +kernel) (la_cons (le_var 5 (pv 5)) la_nil)) la_nil)))))) ls_nil))) ls_nil)))
    (ls_one (ls_ret (le_var 0 (pv 0))))))

abbrev s_part_by : Stmt := topS 24
abbrev N_part_by : List Str := ["lot", "prime", "rest", "numbers", "modulus", "rests", "some", "less", "late", "back", "number", "item"]
theorem sc_part_by : FnScope N_part_by ["lot", "prime", "rest"] (defScope s_part_by) := ⟨rfl, rfl, rfl, by decide +kernel, rfl, by decide +kernel, by decide +kernel⟩
theorem ok_part_by (F : DefF K mg Γ "part_by" s_part_by ["lot", "prime", "rest"])
    (k_trimmed_lot : OkF P w K mg base T Γ "trimmed_lot" ["lot"] 1 (f_trimmed_lot_bc60e7 Γ))
    (z_min : mg "min" = none)
    (z_range : mg "range" = none)
    (z_sorted : mg "sorted" = none)
    (z_tuple : mg "tuple" = none) : OkF P w K mg base T Γ "part_by" ["lot", "prime", "rest"] 2 (f_part_by_979565 Γ) := by
  refine F.ok (k := 1) (t := t_part_by_979565 Γ) sc_part_by (fun cdv A outer s H C hr => ?_) (v_part_by_979565 Γ)
  have nd := (sc_part_by).nd
  have tk : Takes (cxOf (L2.CX P w) P w K mg base N_part_by "part_by" (defScope s_part_by) (Γ "part_by") cdv A outer s H C.E) (fun cls d _ H => C.E cls d H) := takes_of rfl rfl rfl rfl
  have hp : Passes (L2.CX P w) (cxOf (L2.CX P w) P w K mg base N_part_by "part_by" (defScope s_part_by) (Γ "part_by") cdv A outer s H C.E) C.E := passes_call tk fun _ _ _ _ h => h
  exact (ls_cons (ls_asg (tt := (.tp [3, 4, 5])) (le_var 0 (pv 0)) (pg_tup rfl (pgs_cons (pg_name (i := 3) nd rfl (.inl rfl)) (pgs_cons (pg_name (i := 4) nd rfl (.inr rfl)) (pgs_cons (pg_name (i := 5) nd rfl (.inl rfl)) pgs_nil)))))
    (ls_cons (ls_set (i := 6) nd rfl (.inl rfl) (le_cty call_tuple_of rc_tuple (by rfl) z_tuple (by decide +kernel) (la_cons (le_lc rfl nd (li_seq (le_var 3 (pv 3))) (blkOk_by (own := [("number", 10)]) (N := N_part_by) (sc := defScope s_part_by) (by decide +kernel)) (t := (.nm 10)) rfl (by decide) (fun _ _ _ _ _ => (pg_name (i := 10) nd rfl (by first | exact .inl rfl | exact .inr rfl))) (fun _ _ _ _ _ => (lts_one (lt_cmp (or_eq hr.units) rb_eq (le_op op_mod rb_mod (le_var 10 (pv 10)) (le_var 1 (pv 1))) (le_var 2 (pv 2)) (nomark _)))) (fun _ _ _ _ _ => (le_op op_fdivW rb_div (le_op op_sub rb_sub (le_var 10 (pv 10)) (le_var 2 (pv 2))) (le_var 1 (pv 1))))) la_nil)))
    (ls_cons (ls_if (lt_cmp (or_eq hr.units) rb_eq (le_op op_mod rb_mod (le_var 4 (pv 4)) (le_var 1 (pv 1))) le_int (nomark _)) (ls_cons (ls_set (i := 7) nd rfl (.inr rfl) (le_op op_fdivW rb_div (le_var 4 (pv 4)) (le_var 1 (pv 1))))
    (ls_one (ls_setLc (i := 8) (tgs := (.nm 11)) rfl nd rfl rfl (sw_true rfl rfl rfl (by decide +kernel)) (li_seq (le_var 5 (pv 5))) (blkOk_by (own := [("item", 11)]) (N := N_part_by) (sc := defScope s_part_by) (by decide +kernel)) rfl (by decide) (fun _ _ _ _ _ => (pg_name (i := 11) nd rfl (by first | exact .inl rfl | exact .inr rfl))) (fun _ _ _ _ _ => (lts_one (lt_cmp (or_eq hr.units) rb_eq (le_op op_mod rb_mod (le_var 11 (pv 11)) (le_var 1 (pv 1))) (le_var 2 (pv 2)) (nomark _)))) (fun _ _ _ _ _ => (le_op op_mod rb_mod (le_op op_fdivW rb_div (le_op op_sub rb_sub (le_var 11 (pv 11)) (le_var 2 (pv 2))) (le_var 1 (pv 1))) (le_var 7 (pv 7))))))) (ls_cons (ls_asg (tt := (.tp [7, 9])) (le_tup (la_cons (le_var 4 (pv 4)) (la_cons (le_cb (cr_min rfl) rc_min1 (by rfl) z_min (by decide +kernel) (la_cons (le_lc rfl nd (li_range1 (by rfl) z_range (la_cons (le_var 4 (pv 4)) la_nil)) (blkOk_by (own := [("number", 10)]) (N := N_part_by) (sc := defScope s_part_by) (by decide +kernel)) (t := (.nm 10)) rfl (by decide) (fun _ _ _ _ _ => (pg_name (i := 10) nd rfl (by first | exact .inl rfl | exact .inr rfl))) (fun _ _ _ _ _ => (lts_one (lt_cmp (or_eq hr.units) rb_eq (le_op op_mod rb_mod (le_op or_mul rb_mul (le_var 10 (pv 10)) (le_var 1 (pv 1))) (le_var 4 (pv 4))) (le_op op_mod rb_mod le_int (le_var 4 (pv 4))) (nomark _)))) (fun _ _ _ _ _ => (le_var 10 (pv 10)))) la_nil)) la_nil))) (pg_tup rfl (pgs_cons (pg_name (i := 7) nd rfl (.inr rfl)) (pgs_cons (pg_name (i := 9) nd rfl (.inr rfl)) pgs_nil))))
    (ls_one (ls_setLc (i := 8) (tgs := (.nm 11)) rfl nd rfl rfl (sw_true rfl rfl rfl (by decide +kernel)) (li_seq (le_var 5 (pv 5))) (blkOk_by (own := [("item", 11)]) (N := N_part_by) (sc := defScope s_part_by) (by decide +kernel)) rfl (by decide) (fun _ _ _ _ _ => (pg_name (i := 11) nd rfl (by first | exact .inl rfl | exact .inr rfl))) (fun _ _ _ _ _ => lts_nil) (fun _ _ _ _ _ => (le_op op_mod rb_mod (le_op or_mul rb_mul (le_op op_sub rb_sub (le_var 11 (pv 11)) (le_var 2 (pv 2))) (le_var 9 (pv 9))) (le_var 4 (pv 4))))))))
    (ls_cons (ls_if (lt_cmp (or_eq hr.units) rb_eq (le_var 8 (pv 8)) (le_lst la_nil) (nomark _)) (ls_one (ls_ret (le_if (lt_cmp (or_ne hr.units) rb_ne (le_var 6 (pv 6)) (le_tup la_nil) (nomark _)) (le_tup (la_cons (le_var 6 (pv 6)) (la_cons le_int (la_cons (le_tup la_nil) la_nil)))) le_non))) ls_nil)
    (ls_one (ls_ret (le_callF k_trimmed_lot (hr.mono (by decide)) (by rfl) hp (la_cons (le_tup (la_cons (le_var 6 (pv 6)) (la_cons (le_var 7 (pv 7)) (la_cons (le_cty call_tuple_of rc_tuple (by rfl) z_tuple (by decide +kernel) (la_cons (le_cb (cr_sortB rfl) rc_sortB (by rfl) z_sorted (by decide +kernel) (la_cons (le_var 8 (pv 8)) la_nil)) la_nil)) la_nil)))) la_nil))))))))

abbrev s_plain_row : Stmt := topS 27
abbrev N_plain_row : List Str := ["prime", "many", "found", "number"]
theorem sc_plain_row : FnScope N_plain_row ["prime", "many"] (defScope s_plain_row) := ⟨rfl, rfl, rfl, by decide +kernel, rfl, by decide +kernel, by decide +kernel⟩
theorem ok_plain_row (F : DefF K mg Γ "plain_row" s_plain_row ["prime", "many"])
    (k_power_in : OkF P w K mg base T Γ "power_in" ["prime", "number"] 1 (f_power_in_9476c2 Γ))
    (z_range : mg "range" = none) : OkF P w K mg base T Γ "plain_row" ["prime", "many"] 2 (f_plain_row_f1ac80 Γ) := by
  refine F.ok (k := 1) (t := t_plain_row_f1ac80 Γ) sc_plain_row (fun cdv A outer s H C hr => ?_) (v_plain_row_f1ac80 Γ)
  have nd := (sc_plain_row).nd
  have tk : Takes (cxOf (L2.CX P w) P w K mg base N_plain_row "plain_row" (defScope s_plain_row) (Γ "plain_row") cdv A outer s H C.E) (fun cls d _ H => C.E cls d H) := takes_of rfl rfl rfl rfl
  have hp : Passes (L2.CX P w) (cxOf (L2.CX P w) P w K mg base N_plain_row "plain_row" (defScope s_plain_row) (Γ "plain_row") cdv A outer s H C.E) C.E := passes_call tk fun _ _ _ _ h => h
  have hpo : PassesOwn (model P w) (cxOf (L2.CX P w) P w K mg base N_plain_row "plain_row" (defScope s_plain_row) (Γ "plain_row") cdv A outer s H C.E).A (cxOf (L2.CX P w) P w K mg base N_plain_row "plain_row" (defScope s_plain_row) (Γ "plain_row") cdv A outer s H C.E).env (cxOf (L2.CX P w) P w K mg base N_plain_row "plain_row" (defScope s_plain_row) (Γ "plain_row") cdv A outer s H C.E).xe := passes_of rfl
  exact (ls_cons (ls_ownL (i := 2) nd rfl (.inl rfl) (la_cons le_int la_nil))
    (ls_cons (ls_for (tt := (.nm 3)) hpo rfl (li_range2 (by rfl) z_range (la_cons le_int (la_cons (le_var 1 (pv 1)) la_nil))) (pg_name (i := 3) nd rfl (.inl rfl)) (ls_one (ls_app (i := 2) (ps_expr (pe_bm PySem.F.plainAttrs_list PySem.F.slot_list_append PySem.F.type_list_append mt_append (pv 2) (pa_cons (le_bor (le_op or_add rb_add (le_ix ix_seq rb_ix (le_var 2 (pv 2)) (le_neg le_int) (fun _ _ => rfl)) (le_callF k_power_in (hr.mono (by decide)) (by rfl) hp (la_cons (le_var 0 (pv 0)) (la_cons (le_var 3 (pv 3)) la_nil))))) pa_nil))))))
    (ls_one (ls_frz (i := 2) (ls_ret (le_sl (le_var 2 (pv 2)) lo_none (lo_some (le_var 1 (pv 1)))))))))

abbrev s_rests_of : Stmt := topS 23
abbrev N_rests_of : List Str := ["lot", "divisor", "shared", "some", "found", "rest", "number"]
theorem sc_rests_of : FnScope N_rests_of ["lot", "divisor"] (defScope s_rests_of) := ⟨rfl, rfl, rfl, by decide +kernel, rfl, by decide +kernel, by decide +kernel⟩
theorem ok_rests_of (F : DefF K mg Γ "rests_of" s_rests_of ["lot", "divisor"])
    (z_range : mg "range" = none)
    (z_sorted : mg "sorted" = none)
    (m_gcd : mg "gcd" = some (.builtin "math.gcd")) : OkF P w K mg base T Γ "rests_of" ["lot", "divisor"] 1 (f_rests_of_228150 Γ) := by
  refine F.ok (k := 0) (t := t_rests_of_228150 Γ) sc_rests_of (fun cdv A outer s H C hr => ?_) (v_rests_of_228150 Γ)
  have nd := (sc_rests_of).nd
  have tk : Takes (cxOf (L2.CX P w) P w K mg base N_rests_of "rests_of" (defScope s_rests_of) (Γ "rests_of") cdv A outer s H C.E) (fun cls d _ H => C.E cls d H) := takes_of rfl rfl rfl rfl
  have hp : Passes (L2.CX P w) (cxOf (L2.CX P w) P w K mg base N_rests_of "rests_of" (defScope s_rests_of) (Γ "rests_of") cdv A outer s H C.E) C.E := passes_call tk fun _ _ _ _ h => h
  exact (ls_cons (ls_set (i := 2) nd rfl (.inr rfl) (le_cbf cr_gcd rc_gcd (by rfl) m_gcd (la_cons (le_ixk (k := 1) (le_var 0 (pv 0)) (fun _ _ => rfl)) (la_cons (le_var 1 (pv 1)) la_nil))))
    (ls_cons (ls_set (i := 3) nd rfl (.inr rfl) (le_dc rfl nd (li_seq (le_ixk (k := 2) (le_var 0 (pv 0)) (fun _ _ => rfl))) (blkOk_by (own := [("rest", 5)]) (N := N_rests_of) (sc := defScope s_rests_of) (by decide +kernel)) (t := (.nm 5)) rfl (by decide) (fun _ _ _ _ _ => (pg_name (i := 5) nd rfl (by first | exact .inl rfl | exact .inr rfl))) (fun _ _ _ _ _ => lts_nil) (fun _ _ _ _ _ => (le_op op_mod rb_mod (le_var 5 (pv 5)) (le_var 2 (pv 2)))) (fun _ _ _ _ _ => le_bl)))
    (ls_cons (ls_setDcO (i := 4) rfl nd rfl rfl (sw_trueD rfl rfl rfl (by decide +kernel)) (li_seq (le_ixk (k := 0) (le_var 0 (pv 0)) (fun _ _ => rfl))) (blkOk_by (own := [("number", 6)]) (N := N_rests_of) (sc := defScope s_rests_of) (by decide +kernel)) (t := (.nm 6)) rfl (by decide) (fun _ _ _ _ _ => (pg_name (i := 6) nd rfl (by first | exact .inl rfl | exact .inr rfl))) (fun _ _ _ _ _ => lts_nil) (fun _ _ _ _ _ => (le_op op_mod rb_mod (le_var 6 (pv 6)) (le_var 1 (pv 1)))) (fun _ _ _ _ _ => le_bl))
    (ls_cons (ls_upd (i := 4) (ps_expr (pe_bm PySem.F.plainAttrs_dict PySem.F.slot_dict_update PySem.F.type_dict_update mt_upd (pv 4) (pa_cons (le_dc rfl nd (li_range1 (by rfl) z_range (la_cons (le_var 1 (pv 1)) la_nil)) (blkOk_by (own := [("rest", 5)]) (N := N_rests_of) (sc := defScope s_rests_of) (by decide +kernel)) (t := (.nm 5)) rfl (by decide) (fun _ _ _ _ _ => (pg_name (i := 5) nd rfl (by first | exact .inl rfl | exact .inr rfl))) (fun _ _ _ _ _ => (lts_one (lt_cmp (op_inD (hu_of hr)) rb_inD (le_op op_mod rb_mod (le_var 5 (pv 5)) (le_var 2 (pv 2))) (le_var 3 (pv 3)) (by rfl)))) (fun _ _ _ _ _ => (le_var 5 (pv 5))) (fun _ _ _ _ _ => le_bl)) pa_nil))))
    (ls_one (ls_frzD (i := 4) (ls_ret (le_cb (cr_sortB rfl) rc_sortB (by rfl) z_sorted (by decide +kernel) (la_cons (le_var 4 (pv 4)) la_nil)))))))))

abbrev s_row_by : Stmt := topS 30
abbrev N_row_by : List Str := ["lot", "prime", "many", "lots", "parts", "place", "here", "some", "rows", "rest", "at"]
theorem sc_row_by : FnScope N_row_by ["lot", "prime", "many"] (defScope s_row_by) := ⟨rfl, rfl, rfl, by decide +kernel, rfl, by decide +kernel, by decide +kernel⟩
theorem ok_row_by (F : DefF K mg Γ "row_by" s_row_by ["lot", "prime", "many"])
    (k_is_end : OkF P w K mg base T Γ "is_end" ["lot", "prime"] 2 (f_is_end_aa83c5 Γ))
    (k_is_endless : OkF P w K mg base T Γ "is_endless" ["lot"] 1 (f_is_endless_9e5fbc Γ))
    (k_merged : OkF P w K mg base T Γ "merged" ["rows", "many"] 1 (f_merged_ea47aa Γ))
    (k_part_by : OkF P w K mg base T Γ "part_by" ["lot", "prime", "rest"] 2 (f_part_by_979565 Γ))
    (k_plain_row : OkF P w K mg base T Γ "plain_row" ["prime", "many"] 2 (f_plain_row_f1ac80 Γ))
    (k_rests_of : OkF P w K mg base T Γ "rests_of" ["lot", "divisor"] 1 (f_rests_of_228150 Γ))
    (z_len : mg "len" = none)
    (z_list : mg "list" = none)
    (z_range : mg "range" = none) : OkF P w K mg base T Γ "row_by" ["lot", "prime", "many"] 3 (f_row_by_9ccc42 Γ) := by
  refine F.ok (k := 2) (t := t_row_by_9ccc42 Γ) sc_row_by (fun cdv A outer s H C hr => ?_) (v_row_by_9ccc42 Γ)
  have nd := (sc_row_by).nd
  have tk : Takes (cxOf (L2.CX P w) P w K mg base N_row_by "row_by" (defScope s_row_by) (Γ "row_by") cdv A outer s H C.E) (fun cls d _ H => C.E cls d H) := takes_of rfl rfl rfl rfl
  have hp : Passes (L2.CX P w) (cxOf (L2.CX P w) P w K mg base N_row_by "row_by" (defScope s_row_by) (Γ "row_by") cdv A outer s H C.E) C.E := passes_call tk fun _ _ _ _ h => h
  have hpo : PassesOwn (model P w) (cxOf (L2.CX P w) P w K mg base N_row_by "row_by" (defScope s_row_by) (Γ "row_by") cdv A outer s H C.E).A (cxOf (L2.CX P w) P w K mg base N_row_by "row_by" (defScope s_row_by) (Γ "row_by") cdv A outer s H C.E).env (cxOf (L2.CX P w) P w K mg base N_row_by "row_by" (defScope s_row_by) (Γ "row_by") cdv A outer s H C.E).xe := passes_of rfl
  exact (ls_cons (ls_par3O (i := 3) (j := 4) (l := 5) rfl nd rfl rfl rfl (by decide) (by decide) (by decide) rfl rfl rfl (len_lst (la_cons (le_var 0 (pv 0)) la_nil)) (len_lst la_nil) (len_val le_int) (by rfl))
    (ls_cons (ls_while hpo (lt_cmp op_lt rb_cmp (le_var 5 (pv 5)) (le_bor (le_cb cr_len rc_len (by rfl) z_len (by decide +kernel) (la_cons (le_var 3 (pv 3)) la_nil))) (nomark _)) (ls_cons (ls_set (i := 6) nd rfl (.inr rfl) (le_ownIx (i := 3) (pv 3) (le_var 5 (pv 5)) (fun _ _ => rfl)))
    (ls_cons (ls_if (lt_val (le_callF k_is_end (hr.mono (by decide)) (by rfl) hp (la_cons (le_var 6 (pv 6)) (la_cons (le_var 1 (pv 1)) la_nil)))) (ls_one (ls_app (i := 4) (ps_expr (pe_bm PySem.F.plainAttrs_list PySem.F.slot_list_append PySem.F.type_list_append mt_append (pv 4) (pa_cons (le_lst la_nil) pa_nil))))) (ls_cons (ls_setLc (i := 7) (tgs := (.nm 9)) rfl nd rfl rfl (sw_true rfl rfl rfl (by decide +kernel)) (li_seq (le_callF k_rests_of (hr.mono (by decide)) (by rfl) hp (la_cons (le_var 6 (pv 6)) (la_cons (le_var 1 (pv 1)) la_nil)))) (blkOk_by (own := [("rest", 9)]) (N := N_row_by) (sc := defScope s_row_by) (by decide +kernel)) rfl (by decide) (fun _ _ _ _ _ => (pg_name (i := 9) nd rfl (by first | exact .inl rfl | exact .inr rfl))) (fun _ _ _ _ _ => lts_nil) (fun _ _ _ _ _ => (le_callF k_part_by (hr.mono (by decide)) (by rfl) passL (la_cons (le_var 6 (pv 6)) (la_cons (le_var 1 (pv 1)) (la_cons (le_var 9 (pv 9)) la_nil))))))
    (ls_cons (ls_app (i := 4) (ps_expr (pe_bm PySem.F.plainAttrs_list PySem.F.slot_list_append PySem.F.type_list_append mt_append (pv 4) (pa_cons (le_listRg2 rfl (by rfl) z_list (by rfl) z_range (le_bor (le_cb cr_len rc_len (by rfl) z_len (by decide +kernel) (la_cons (le_var 3 (pv 3)) la_nil))) (le_op or_add rb_add (le_bor (le_cb cr_len rc_len (by rfl) z_len (by decide +kernel) (la_cons (le_var 3 (pv 3)) la_nil))) (le_cb cr_len rc_len (by rfl) z_len (by decide +kernel) (la_cons (le_var 7 (pv 7)) la_nil)))) pa_nil))))
    (ls_one (ls_ext (i := 3) (ps_expr (pe_bm PySem.F.plainAttrs_list PySem.F.slot_list_extend PySem.F.type_list_extend mt_extend (pv 3) (pa_cons (le_var 7 (pv 7)) pa_nil))))))))
    (ls_one (ls_set (i := 5) nd rfl (.inl rfl) (le_op or_add rb_add (le_var 5 (pv 5)) le_int))))))
    (ls_cons (ls_setO (i := 8) nd rfl (.inr rfl) (len_mul (la_cons (le_lst la_nil) la_nil) (le_bor (le_cb cr_len rc_len (by rfl) z_len (by decide +kernel) (la_cons (le_var 3 (pv 3)) la_nil)))))
    (ls_cons (ls_for (tt := (.nm 5)) hpo rfl (li_down (by rfl) z_range (la_cons (le_op op_sub rb_sub (le_bor (le_cb cr_len rc_len (by rfl) z_len (by decide +kernel) (la_cons (le_var 3 (pv 3)) la_nil))) le_int) (la_cons (le_neg le_int) (la_cons (le_neg le_int) la_nil)))) (pg_name (i := 5) nd rfl (.inl rfl)) (ls_cons (ls_set (i := 6) nd rfl (.inr rfl) (le_ownIx (i := 3) (pv 3) (le_var 5 (pv 5)) (fun _ _ => rfl)))
    (ls_one (ls_if (lt_cmp (or_ne hr.units) rb_ne (le_ownIx (i := 4) (pv 4) (le_var 5 (pv 5)) (fun _ _ => rfl)) (le_lst la_nil) (nomark _)) (ls_one (ls_putL (i := 8) (ps_asg (le_callF k_merged (hr.mono (by decide)) (by rfl) hp (la_cons (le_lc rfl nd (li_seq (le_ownIx (i := 4) (pv 4) (le_var 5 (pv 5)) (fun _ _ => rfl))) (blkOk_by (own := [("at", 10)]) (N := N_row_by) (sc := defScope s_row_by) (by decide +kernel)) (t := (.nm 10)) rfl (by decide) (fun _ _ _ _ _ => (pg_name (i := 10) nd rfl (by first | exact .inl rfl | exact .inr rfl))) (fun _ _ _ _ _ => lts_nil) (fun _ _ _ _ _ => (le_ownIx (i := 8) (pv 8) (le_var 10 (pv 10)) (fun _ _ => rfl)))) (la_cons (le_var 2 (pv 2)) la_nil))) (pg_sub (pv 8) (le_var 5 (pv 5)) set_list)))) (ls_one (ls_if (lt_val (le_callF k_is_endless (hr.mono (by decide)) (by rfl) hp (la_cons (le_var 6 (pv 6)) la_nil))) (ls_one (ls_putL (i := 8) (ps_asg (le_callF k_plain_row (hr.mono (by decide)) (by rfl) hp (la_cons (le_var 1 (pv 1)) (la_cons (le_var 2 (pv 2)) la_nil))) (pg_sub (pv 8) (le_var 5 (pv 5)) set_list)))) (ls_one (ls_putL (i := 8) (ps_asg (le_sl (le_op or_add rb_add (le_lst (la_cons le_int la_nil)) (le_op or_mul rb_mul (le_lst (la_cons le_non la_nil)) (le_var 2 (pv 2)))) lo_none (lo_some (le_var 2 (pv 2)))) (pg_sub (pv 8) (le_var 5 (pv 5)) set_list))))))))))
    (ls_one (ls_ret (le_ownIx (i := 8) (pv 8) le_int (fun _ _ => rfl))))))))

abbrev s_first_order_by : Stmt := topS 34
abbrev N_first_order_by : List Str := ["lot", "prime", "many", "found", "due"]
theorem sc_first_order_by : FnScope N_first_order_by ["lot", "prime", "many"] (defScope s_first_order_by) := ⟨rfl, rfl, rfl, by decide +kernel, rfl, by decide +kernel, by decide +kernel⟩
theorem ok_first_order_by (F : DefF K mg Γ "first_order_by" s_first_order_by ["lot", "prime", "many"])
    (k_nearest : OkF P w K mg base T Γ "nearest" ["lot", "prime", "ahead", "due"] 3 (f_nearest_966ac1 Γ))
    (k_row_by : OkF P w K mg base T Γ "row_by" ["lot", "prime", "many"] 3 (f_row_by_9ccc42 Γ)) : OkF P w K mg base T Γ "first_order_by" ["lot", "prime", "many"] 4 (f_first_order_by_b9829e Γ) := by
  refine F.ok (k := 3) (t := t_first_order_by_b9829e Γ) sc_first_order_by (fun cdv A outer s H C hr => ?_) (v_first_order_by_b9829e Γ)
  have nd := (sc_first_order_by).nd
  have tk : Takes (cxOf (L2.CX P w) P w K mg base N_first_order_by "first_order_by" (defScope s_first_order_by) (Γ "first_order_by") cdv A outer s H C.E) (fun cls d _ H => C.E cls d H) := takes_of rfl rfl rfl rfl
  have hp : Passes (L2.CX P w) (cxOf (L2.CX P w) P w K mg base N_first_order_by "first_order_by" (defScope s_first_order_by) (Γ "first_order_by") cdv A outer s H C.E) C.E := passes_call tk fun _ _ _ _ h => h
  have hpo : PassesOwn (model P w) (cxOf (L2.CX P w) P w K mg base N_first_order_by "first_order_by" (defScope s_first_order_by) (Γ "first_order_by") cdv A outer s H C.E).A (cxOf (L2.CX P w) P w K mg base N_first_order_by "first_order_by" (defScope s_first_order_by) (Γ "first_order_by") cdv A outer s H C.E).env (cxOf (L2.CX P w) P w K mg base N_first_order_by "first_order_by" (defScope s_first_order_by) (Γ "first_order_by") cdv A outer s H C.E).xe := passes_of rfl
  exact (ls_cons (ls_own0 (i := 3) nd rfl (.inl rfl))
    (ls_cons (ls_for (tt := (.nm 4)) hpo rfl (li_seq (le_callF k_row_by (hr.mono (by decide)) (by rfl) hp (la_cons (le_var 0 (pv 0)) (la_cons (le_var 1 (pv 1)) (la_cons (le_var 2 (pv 2)) la_nil))))) (pg_name (i := 4) nd rfl (.inl rfl)) (ls_one (ls_if (lt_cmp op_notN rb_notN (le_var 4 (pv 4)) le_non (nomark _)) (ls_one (ls_app (i := 3) (ps_expr (pe_bm PySem.F.plainAttrs_list PySem.F.slot_list_append PySem.F.type_list_append mt_append (pv 3) (pa_cons (le_bor (le_callF k_nearest (hr.mono (by decide)) (by rfl) hp (la_cons (le_var 0 (pv 0)) (la_cons (le_var 1 (pv 1)) (la_cons (le_var 3 (pv 3)) (la_cons (le_var 4 (pv 4)) la_nil)))))) pa_nil))))) ls_nil)))
    (ls_one (ls_frz (i := 3) (ls_ret (le_var 3 (pv 3)))))))

abbrev s_is_number : Stmt := topS 12
abbrev N_is_number : List Str := ["thing"]
theorem sc_is_number : FnScope N_is_number ["thing"] (defScope s_is_number) := ⟨rfl, rfl, rfl, by decide +kernel, rfl, by decide +kernel, by decide +kernel⟩
theorem ok_is_number (F : DefF K mg Γ "is_number" s_is_number ["thing"])
    (z_bool : mg "bool" = none)
    (z_int : mg "int" = none)
    (z_isinstance : mg "isinstance" = none) : OkF P w K mg base T Γ "is_number" ["thing"] 1 (f_is_number_0ede20 Γ) := by
  refine F.ok (k := 0) (t := t_is_number_0ede20 Γ) sc_is_number (fun cdv A outer s H C hr => ?_) (v_is_number_0ede20 Γ)
  have nd := (sc_is_number).nd
  have tk : Takes (cxOf (L2.CX P w) P w K mg base N_is_number "is_number" (defScope s_is_number) (Γ "is_number") cdv A outer s H C.E) (fun cls d _ H => C.E cls d H) := takes_of rfl rfl rfl rfl
  have hp : Passes (L2.CX P w) (cxOf (L2.CX P w) P w K mg base N_is_number "is_number" (defScope s_is_number) (Γ "is_number") cdv A outer s H C.E) C.E := passes_call tk fun _ _ _ _ h => h
  exact (ls_one (ls_ret (le_and (le_cb call_isi rc_isi (by rfl) z_isinstance (by decide +kernel) (la_cons (le_var 0 (pv 0)) (la_cons (le_ty (a := .int) (pe_bltn (by rfl) z_int (by decide +kernel) rfl)) la_nil))) (le_one (le_not (le_cb call_isi rc_isi (by rfl) z_isinstance (by decide +kernel) (la_cons (le_var 0 (pv 0)) (la_cons (le_ty (a := .bool) (pe_bltn (by rfl) z_bool (by decide +kernel) rfl)) la_nil))))))))

abbrev s_is_rising : Stmt := topS 13
abbrev N_is_rising : List Str := ["thing", "low", "high", "item", "late"]
theorem sc_is_rising : FnScope N_is_rising ["thing", "low", "high"] (defScope s_is_rising) := ⟨rfl, rfl, rfl, by decide +kernel, rfl, by decide +kernel, by decide +kernel⟩
theorem ok_is_rising (F : DefF K mg Γ "is_rising" s_is_rising ["thing", "low", "high"])
    (k_is_number : OkF P w K mg base T Γ "is_number" ["thing"] 1 (f_is_number_0ede20 Γ))
    (z_all : mg "all" = none)
    (z_isinstance : mg "isinstance" = none)
    (z_tuple : mg "tuple" = none)
    (z_zip : mg "zip" = none) : OkF P w K mg base T Γ "is_rising" ["thing", "low", "high"] 2 (f_is_rising_eafda1 Γ) := by
  refine F.ok (k := 1) (t := t_is_rising_eafda1 Γ) sc_is_rising (fun cdv A outer s H C hr => ?_) (v_is_rising_eafda1 Γ)
  have nd := (sc_is_rising).nd
  have tk : Takes (cxOf (L2.CX P w) P w K mg base N_is_rising "is_rising" (defScope s_is_rising) (Γ "is_rising") cdv A outer s H C.E) (fun cls d _ H => C.E cls d H) := takes_of rfl rfl rfl rfl
  have hp : Passes (L2.CX P w) (cxOf (L2.CX P w) P w K mg base N_is_rising "is_rising" (defScope s_is_rising) (Γ "is_rising") cdv A outer s H C.E) C.E := passes_call tk fun _ _ _ _ h => h
  exact (ls_cons (ls_if (PW.pt (lw_or (lt_not (lt_val (le_cb call_isi rc_isi (by rfl) z_isinstance (by decide +kernel) (la_cons (le_var 0 (pv 0)) (la_cons (le_ty (a := .tuple) (pe_bltn (by rfl) z_tuple (by decide +kernel) rfl)) la_nil))))) (lw_or1 (lt_not (lt_val (le_cb (cr_all rfl) rc_all (by rfl) z_all (by decide +kernel) (la_cons (le_lc rfl nd (li_seq (le_var 0 (pv 0))) (blkOk_by (own := [("item", 3)]) (N := N_is_rising) (sc := defScope s_is_rising) (by decide +kernel)) (t := (.nm 3)) rfl (by decide) (fun _ _ _ _ _ => (pg_name (i := 3) nd rfl (by first | exact .inl rfl | exact .inr rfl))) (fun _ _ _ _ _ => lts_nil) (fun _ _ _ _ _ => (le_and (le_callF k_is_number (hr.mono (by decide)) (by rfl) passL (la_cons (le_var 3 (pv 3)) la_nil)) (le_one (le_chain op_le rb_cmp op_le rb_cmp (le_var 1 (pv 1)) (le_var 3 (pv 3)) (le_var 2 (pv 2))))))) la_nil))))))) (ls_one (ls_ret le_bl)) ls_nil)
    (ls_one (ls_ret (le_cb (cr_all rfl) rc_all (by rfl) z_all (by decide +kernel) (la_cons (le_lc rfl nd (li_zip (by rfl) z_zip (la_cons (le_var 0 (pv 0)) (la_cons (le_sl (le_var 0 (pv 0)) (lo_some le_int) lo_none) la_nil))) (blkOk_by (own := [("item", 3), ("late", 4)]) (N := N_is_rising) (sc := defScope s_is_rising) (by decide +kernel)) (t := (.tp [3, 4])) rfl (by decide) (fun _ _ _ _ _ => (pg_tup rfl (pgs_cons (pg_name (i := 3) nd rfl (by first | exact .inl rfl | exact .inr rfl)) (pgs_cons (pg_name (i := 4) nd rfl (by first | exact .inl rfl | exact .inr rfl)) pgs_nil)))) (fun _ _ _ _ _ => lts_nil) (fun _ _ _ _ _ => (le_cmp op_lt rb_cmp (le_var 3 (pv 3)) (le_var 4 (pv 4)) (nomark _)))) la_nil)))))

abbrev s_is_lot_of : Stmt := topS 14
abbrev N_is_lot_of : List Str := ["thing", "numbers", "modulus", "rests", "number"]
theorem sc_is_lot_of : FnScope N_is_lot_of ["thing"] (defScope s_is_lot_of) := ⟨rfl, rfl, rfl, by decide +kernel, rfl, by decide +kernel, by decide +kernel⟩
theorem ok_is_lot_of (F : DefF K mg Γ "is_lot_of" s_is_lot_of ["thing"])
    (k_is_number : OkF P w K mg base T Γ "is_number" ["thing"] 1 (f_is_number_0ede20 Γ))
    (k_is_rising : OkF P w K mg base T Γ "is_rising" ["thing", "low", "high"] 2 (f_is_rising_eafda1 Γ))
    (z_any : mg "any" = none)
    (z_isinstance : mg "isinstance" = none)
    (z_len : mg "len" = none)
    (z_tuple : mg "tuple" = none)
    (g_MOST_MODULUS : ∃ t, mg "MOST_MODULUS" = some (.int 60 t))
    (g_MOST_NUMBER : ∃ t, mg "MOST_NUMBER" = some (.int 1000 t))
    (g_MOST_NUMBERS : ∃ t, mg "MOST_NUMBERS" = some (.int 40 t)) : OkF P w K mg base T Γ "is_lot_of" ["thing"] 3 (f_is_lot_of_9254f1 Γ) := by
  refine F.ok (k := 2) (t := t_is_lot_of_9254f1 Γ) sc_is_lot_of (fun cdv A outer s H C hr => ?_) (v_is_lot_of_9254f1 Γ)
  have nd := (sc_is_lot_of).nd
  have tk : Takes (cxOf (L2.CX P w) P w K mg base N_is_lot_of "is_lot_of" (defScope s_is_lot_of) (Γ "is_lot_of") cdv A outer s H C.E) (fun cls d _ H => C.E cls d H) := takes_of rfl rfl rfl rfl
  have hp : Passes (L2.CX P w) (cxOf (L2.CX P w) P w K mg base N_is_lot_of "is_lot_of" (defScope s_is_lot_of) (Γ "is_lot_of") cdv A outer s H C.E) C.E := passes_call tk fun _ _ _ _ h => h
  exact (ls_cons (ls_if (PW.pt (lw_or (lt_not (lt_val (le_cb call_isi rc_isi (by rfl) z_isinstance (by decide +kernel) (la_cons (le_var 0 (pv 0)) (la_cons (le_ty (a := .tuple) (pe_bltn (by rfl) z_tuple (by decide +kernel) rfl)) la_nil))))) (lw_or1 (lt_cmp (or_ne hr.units) rb_ne (le_cb cr_len rc_len (by rfl) z_len (by decide +kernel) (la_cons (le_var 0 (pv 0)) la_nil)) le_int (nomark _))))) (ls_one (ls_ret le_bl)) ls_nil)
    (ls_cons (ls_asg (tt := (.tp [1, 2, 3])) (le_var 0 (pv 0)) (pg_tup rfl (pgs_cons (pg_name (i := 1) nd rfl (.inl rfl)) (pgs_cons (pg_name (i := 2) nd rfl (.inr rfl)) (pgs_cons (pg_name (i := 3) nd rfl (.inr rfl)) pgs_nil)))))
    (ls_cons (ls_if (PW.pt (lw_or (lt_not (lt_val (le_callF k_is_rising (hr.mono (by decide)) (by rfl) hp (la_cons (le_var 1 (pv 1)) (la_cons (le_neg (le_c (v := .int 1000) (pe_glob (by rfl) g_MOST_NUMBER.choose_spec ⟨_, rfl⟩) fun _ => .int _)) (la_cons (le_c (v := .int 1000) (pe_glob (by rfl) g_MOST_NUMBER.choose_spec ⟨_, rfl⟩) fun _ => .int _) la_nil)))))) (lw_or1 (lt_cmp op_gt rb_cmp (le_cb cr_len rc_len (by rfl) z_len (by decide +kernel) (la_cons (le_var 1 (pv 1)) la_nil)) (le_c (v := .int 40) (pe_glob (by rfl) g_MOST_NUMBERS.choose_spec ⟨_, rfl⟩) fun _ => .int _) (nomark _))))) (ls_one (ls_ret le_bl)) ls_nil)
    (ls_cons (ls_if (PW.pt (lw_or (lt_not (lt_val (le_callF k_is_number (hr.mono (by decide)) (by rfl) hp (la_cons (le_var 2 (pv 2)) la_nil)))) (lw_or (lt_not (lt_chain op_le rb_cmp op_le rb_cmp le_int (le_var 2 (pv 2)) (le_c (v := .int 60) (pe_glob (by rfl) g_MOST_MODULUS.choose_spec ⟨_, rfl⟩) fun _ => .int _))) (lw_or1 (lt_not (lt_val (le_callF k_is_rising (hr.mono (by decide)) (by rfl) hp (la_cons (le_var 3 (pv 3)) (la_cons le_int (la_cons (le_op op_sub rb_sub (le_var 2 (pv 2)) le_int) la_nil)))))))))) (ls_one (ls_ret le_bl)) ls_nil)
    (ls_cons (ls_if (lt_cmp (or_eq hr.units) rb_eq (le_var 3 (pv 3)) (le_tup la_nil) (nomark _)) (ls_one (ls_ret (le_and (le_cmp (or_eq hr.units) rb_eq (le_var 2 (pv 2)) le_int (nomark _)) (le_one (le_cmp (or_ne hr.units) rb_ne (le_var 1 (pv 1)) (le_tup la_nil) (nomark _)))))) ls_nil)
    (ls_one (ls_ret (le_not (le_cb (cr_any rfl) rc_any (by rfl) z_any (by decide +kernel) (la_cons (le_lc rfl nd (li_seq (le_var 1 (pv 1))) (blkOk_by (own := [("number", 4)]) (N := N_is_lot_of) (sc := defScope s_is_lot_of) (by decide +kernel)) (t := (.nm 4)) rfl (by decide) (fun _ _ _ _ _ => (pg_name (i := 4) nd rfl (by first | exact .inl rfl | exact .inr rfl))) (fun _ _ _ _ _ => lts_nil) (fun _ _ _ _ _ => (le_cmp op_in_seq rb_in (le_op op_mod rb_mod (le_var 4 (pv 4)) (le_var 2 (pv 2))) (le_var 3 (pv 3)) (by rfl)))) la_nil))))))))))

abbrev s_need_lot : Stmt := topS 15
abbrev N_need_lot : List Str := ["lot"]
theorem sc_need_lot : FnScope N_need_lot ["lot"] (defScope s_need_lot) := ⟨rfl, rfl, rfl, by decide +kernel, rfl, by decide +kernel, by decide +kernel⟩
theorem ok_need_lot (F : DefF K mg Γ "need_lot" s_need_lot ["lot"])
    (k_is_lot_of : OkF P w K mg base T Γ "is_lot_of" ["thing"] 3 (f_is_lot_of_9254f1 Γ))
    (g_BadLot : mg "BadLot" = some (.ref (Γ "BadLot"))) (x_BadLot : ExcF K (Γ "BadLot")) : OkF P w K mg base T Γ "need_lot" ["lot"] 4 (f_need_lot_5260a2 Γ) := by
  refine F.ok (k := 3) (t := t_need_lot_5260a2 Γ) sc_need_lot (fun cdv A outer s H C hr => ?_) (v_need_lot_5260a2 Γ)
  have nd := (sc_need_lot).nd
  have tk : Takes (cxOf (L2.CX P w) P w K mg base N_need_lot "need_lot" (defScope s_need_lot) (Γ "need_lot") cdv A outer s H C.E) (fun cls d _ H => C.E cls d H) := takes_of rfl rfl rfl rfl
  have hp : Passes (L2.CX P w) (cxOf (L2.CX P w) P w K mg base N_need_lot "need_lot" (defScope s_need_lot) (Γ "need_lot") cdv A outer s H C.E) C.E := passes_call tk fun _ _ _ _ h => h
  exact (ls_one (ls_if (lt_not (lt_val (le_callF k_is_lot_of (hr.mono (by decide)) (by rfl) hp (la_cons (le_var 0 (pv 0)) la_nil)))) (ls_one (ls_raise rfl tk PySem.F.excBase_ValueError x_BadLot.xp g_BadLot x_BadLot.kp (raises_own x_BadLot.bp x_BadLot.tp) (by rfl))) ls_nil))

abbrev s_need_many : Stmt := topS 18
abbrev N_need_many : List Str := ["many"]
theorem sc_need_many : FnScope N_need_many ["many"] (defScope s_need_many) := ⟨rfl, rfl, rfl, by decide +kernel, rfl, by decide +kernel, by decide +kernel⟩
theorem ok_need_many (F : DefF K mg Γ "need_many" s_need_many ["many"])
    (k_is_number : OkF P w K mg base T Γ "is_number" ["thing"] 1 (f_is_number_0ede20 Γ))
    (g_MOST_K : ∃ t, mg "MOST_K" = some (.int 60 t))
    (g_BadMany : mg "BadMany" = some (.ref (Γ "BadMany"))) (x_BadMany : ExcF K (Γ "BadMany")) : OkF P w K mg base T Γ "need_many" ["many"] 2 (f_need_many_c47553 Γ) := by
  refine F.ok (k := 1) (t := t_need_many_c47553 Γ) sc_need_many (fun cdv A outer s H C hr => ?_) (v_need_many_c47553 Γ)
  have nd := (sc_need_many).nd
  have tk : Takes (cxOf (L2.CX P w) P w K mg base N_need_many "need_many" (defScope s_need_many) (Γ "need_many") cdv A outer s H C.E) (fun cls d _ H => C.E cls d H) := takes_of rfl rfl rfl rfl
  have hp : Passes (L2.CX P w) (cxOf (L2.CX P w) P w K mg base N_need_many "need_many" (defScope s_need_many) (Γ "need_many") cdv A outer s H C.E) C.E := passes_call tk fun _ _ _ _ h => h
  exact (ls_one (ls_if (PW.pt (lw_or (lt_not (lt_val (le_callF k_is_number (hr.mono (by decide)) (by rfl) hp (la_cons (le_var 0 (pv 0)) la_nil)))) (lw_or1 (lt_not (lt_chain op_le rb_cmp op_le rb_cmp le_int (le_var 0 (pv 0)) (le_c (v := .int 60) (pe_glob (by rfl) g_MOST_K.choose_spec ⟨_, rfl⟩) fun _ => .int _)))))) (ls_one (ls_raise rfl tk PySem.F.excBase_ValueError x_BadMany.xp g_BadMany x_BadMany.kp (raises_own x_BadMany.bp x_BadMany.tp) (by rfl))) ls_nil))

abbrev s_is_prime : Stmt := topS 16
abbrev N_is_prime : List Str := ["number", "part"]
theorem sc_is_prime : FnScope N_is_prime ["number"] (defScope s_is_prime) := ⟨rfl, rfl, rfl, by decide +kernel, rfl, by decide +kernel, by decide +kernel⟩
theorem ok_is_prime (F : DefF K mg Γ "is_prime" s_is_prime ["number"]) : OkF P w K mg base T Γ "is_prime" ["number"] 1 (f_is_prime_407134 Γ) := by
  refine F.ok (k := 0) (t := t_is_prime_407134 Γ) sc_is_prime (fun cdv A outer s H C hr => ?_) (v_is_prime_407134 Γ)
  have nd := (sc_is_prime).nd
  have tk : Takes (cxOf (L2.CX P w) P w K mg base N_is_prime "is_prime" (defScope s_is_prime) (Γ "is_prime") cdv A outer s H C.E) (fun cls d _ H => C.E cls d H) := takes_of rfl rfl rfl rfl
  have hp : Passes (L2.CX P w) (cxOf (L2.CX P w) P w K mg base N_is_prime "is_prime" (defScope s_is_prime) (Γ "is_prime") cdv A outer s H C.E) C.E := passes_call tk fun _ _ _ _ h => h
  have hpo : PassesOwn (model P w) (cxOf (L2.CX P w) P w K mg base N_is_prime "is_prime" (defScope s_is_prime) (Γ "is_prime") cdv A outer s H C.E).A (cxOf (L2.CX P w) P w K mg base N_is_prime "is_prime" (defScope s_is_prime) (Γ "is_prime") cdv A outer s H C.E).env (cxOf (L2.CX P w) P w K mg base N_is_prime "is_prime" (defScope s_is_prime) (Γ "is_prime") cdv A outer s H C.E).xe := passes_of rfl
  exact (ls_cons (ls_if (lt_cmp op_lt rb_cmp (le_var 0 (pv 0)) le_int (nomark _)) (ls_one (ls_ret le_bl)) ls_nil)
    (ls_cons (ls_set (i := 1) nd rfl (.inl rfl) le_int)
    (ls_cons (ls_while hpo (lt_cmp op_le rb_cmp (le_op or_mul rb_mul (le_var 1 (pv 1)) (le_var 1 (pv 1))) (le_var 0 (pv 0)) (nomark _)) (ls_cons (ls_if (lt_cmp (or_eq hr.units) rb_eq (le_op op_mod rb_mod (le_var 0 (pv 0)) (le_var 1 (pv 1))) le_int (nomark _)) (ls_one (ls_ret le_bl)) ls_nil)
    (ls_one (ls_set (i := 1) nd rfl (.inl rfl) (le_op or_add rb_add (le_var 1 (pv 1)) le_int)))))
    (ls_one (ls_ret le_bl)))))

abbrev s_need_prime : Stmt := topS 17
abbrev N_need_prime : List Str := ["prime"]
theorem sc_need_prime : FnScope N_need_prime ["prime"] (defScope s_need_prime) := ⟨rfl, rfl, rfl, by decide +kernel, rfl, by decide +kernel, by decide +kernel⟩
theorem ok_need_prime (F : DefF K mg Γ "need_prime" s_need_prime ["prime"])
    (k_is_number : OkF P w K mg base T Γ "is_number" ["thing"] 1 (f_is_number_0ede20 Γ))
    (k_is_prime : OkF P w K mg base T Γ "is_prime" ["number"] 1 (f_is_prime_407134 Γ))
    (g_MOST_PRIME : ∃ t, mg "MOST_PRIME" = some (.int 2000 t))
    (g_BadPrime : mg "BadPrime" = some (.ref (Γ "BadPrime"))) (x_BadPrime : ExcF K (Γ "BadPrime")) : OkF P w K mg base T Γ "need_prime" ["prime"] 2 (f_need_prime_d449eb Γ) := by
  refine F.ok (k := 1) (t := t_need_prime_d449eb Γ) sc_need_prime (fun cdv A outer s H C hr => ?_) (v_need_prime_d449eb Γ)
  have nd := (sc_need_prime).nd
  have tk : Takes (cxOf (L2.CX P w) P w K mg base N_need_prime "need_prime" (defScope s_need_prime) (Γ "need_prime") cdv A outer s H C.E) (fun cls d _ H => C.E cls d H) := takes_of rfl rfl rfl rfl
  have hp : Passes (L2.CX P w) (cxOf (L2.CX P w) P w K mg base N_need_prime "need_prime" (defScope s_need_prime) (Γ "need_prime") cdv A outer s H C.E) C.E := passes_call tk fun _ _ _ _ h => h
  exact (ls_one (ls_if (PW.pt (lw_or (lt_not (lt_val (le_callF k_is_number (hr.mono (by decide)) (by rfl) hp (la_cons (le_var 0 (pv 0)) la_nil)))) (lw_or (lt_cmp op_ge rb_cmp (le_var 0 (pv 0)) (le_c (v := .int 2000) (pe_glob (by rfl) g_MOST_PRIME.choose_spec ⟨_, rfl⟩) fun _ => .int _) (nomark _)) (lw_or1 (lt_not (lt_val (le_callF k_is_prime (hr.mono (by decide)) (by rfl) hp (la_cons (le_var 0 (pv 0)) la_nil)))))))) (ls_one (ls_raise rfl tk PySem.F.excBase_ValueError x_BadPrime.xp g_BadPrime x_BadPrime.kp (raises_own x_BadPrime.bp x_BadPrime.tp) (by rfl))) ls_nil))

abbrev s_first_order : Stmt := topS 35
abbrev N_first_order : List Str := ["lot", "prime", "many"]
theorem sc_first_order : FnScope N_first_order ["lot", "prime", "many"] (defScope s_first_order) := ⟨rfl, rfl, rfl, by decide +kernel, rfl, by decide +kernel, by decide +kernel⟩
theorem ok_first_order (F : DefF K mg Γ "first_order" s_first_order ["lot", "prime", "many"])
    (k_first_order_by : OkF P w K mg base T Γ "first_order_by" ["lot", "prime", "many"] 4 (f_first_order_by_b9829e Γ))
    (k_need_lot : OkF P w K mg base T Γ "need_lot" ["lot"] 4 (f_need_lot_5260a2 Γ))
    (k_need_many : OkF P w K mg base T Γ "need_many" ["many"] 2 (f_need_many_c47553 Γ))
    (k_need_prime : OkF P w K mg base T Γ "need_prime" ["prime"] 2 (f_need_prime_d449eb Γ))
    (z_tuple : mg "tuple" = none) : OkF P w K mg base T Γ "first_order" ["lot", "prime", "many"] 5 (f_first_order_e2491c Γ) := by
  refine F.ok (k := 4) (t := t_first_order_e2491c Γ) sc_first_order (fun cdv A outer s H C hr => ?_) (v_first_order_e2491c Γ)
  have nd := (sc_first_order).nd
  have tk : Takes (cxOf (L2.CX P w) P w K mg base N_first_order "first_order" (defScope s_first_order) (Γ "first_order") cdv A outer s H C.E) (fun cls d _ H => C.E cls d H) := takes_of rfl rfl rfl rfl
  have hp : Passes (L2.CX P w) (cxOf (L2.CX P w) P w K mg base N_first_order "first_order" (defScope s_first_order) (Γ "first_order") cdv A outer s H C.E) C.E := passes_call tk fun _ _ _ _ h => h
  exact (ls_cons (ls_expr (le_callF k_need_lot (hr.mono (by decide)) (by rfl) hp (la_cons (le_var 0 (pv 0)) la_nil)))
    (ls_cons (ls_expr (le_callF k_need_prime (hr.mono (by decide)) (by rfl) hp (la_cons (le_var 1 (pv 1)) la_nil)))
    (ls_cons (ls_expr (le_callF k_need_many (hr.mono (by decide)) (by rfl) hp (la_cons (le_var 2 (pv 2)) la_nil)))
    (ls_one (ls_ret (le_cty call_tuple_of rc_tuple (by rfl) z_tuple (by decide +kernel) (la_cons (le_callF k_first_order_by (hr.mono (by decide)) (by rfl) hp (la_cons (le_var 0 (pv 0)) (la_cons (le_var 1 (pv 1)) (la_cons (le_var 2 (pv 2)) la_nil)))) la_nil)))))))

abbrev s_law : Stmt := topS 55
abbrev N_law : List Str := ["script", "draw", "lap", "lot", "prime", "many", "due", "errors", "told"]
theorem sc_law : FnScope N_law ["script"] (defScope s_law) := ⟨rfl, rfl, rfl, by decide +kernel, rfl, by decide +kernel, by decide +kernel⟩
theorem ok_law {cod tab : Addr} (F : DefL K mg Γ "law" s_law ["script"] cod) (TB : LamX.TabB base mg cod tab) (hmT : (tab, (PyProof.Rows.envOfC (Str.ofString "law") (defScope s_law) 0 0 .none).qual ++ "<lambda>") ∈ T) (huT : ∀ p ∈ T, p.1 = tab → p.2 = (PyProof.Rows.envOfC (Str.ofString "law") (defScope s_law) 0 0 .none).qual ++ "<lambda>")
    (k_law_caught : CatchF K mg Γ "_law_caught" (Γ "LotError")) (kin_h : ∀ D ∈ [Γ "LotError", Γ "BadLot", Γ "BadMany", Γ "BadPrime"], PySem.W.exmOne K (.ref D) (.ref (Γ "LotError")) = some true)
    (i_BadLot : IsXF K Γ "BadLot" [("LotError", false), ("BadLot", true), ("BadMany", false), ("BadPrime", false)])
    (i_BadMany : IsXF K Γ "BadMany" [("LotError", false), ("BadLot", false), ("BadMany", true), ("BadPrime", false)])
    (i_BadPrime : IsXF K Γ "BadPrime" [("LotError", false), ("BadLot", false), ("BadMany", false), ("BadPrime", true)])
    (D_first_order : DefF K mg Γ "first_order" (topS 35) ["lot", "prime", "many"])
    (k_law_begun : OkF P w K mg base T Γ "_law_begun" ["script"] 1 (f_law_begun_aea9f3 Γ))
    (k_law_first_order : OkF P w K mg base T Γ "_law_first_order" ["lot", "prime", "many"] 3 (f_law_first_order_f43384 Γ))
    (k_law_lot : OkF P w K mg base T Γ "_law_lot" ["draw"] 5 (f_law_lot_6121c3 Γ))
    (k_law_no_lot : OkF P w K mg base T Γ "_law_no_lot" ["draw"] 5 (f_law_no_lot_b60b62 Γ))
    (k_law_no_prime : OkF P w K mg base T Γ "_law_no_prime" ["draw"] 4 (f_law_no_prime_4d0d92 Γ))
    (k_law_pick : OkF P w K mg base T Γ "_law_pick" ["draw", "items"] 3 (f_law_pick_79bebb Γ))
    (k_law_says : OkF P w K mg base T Γ "_law_says" ["told", "due"] 2 (f_law_says_deff49 Γ))
    (k_law_take : OkF P w K mg base T Γ "_law_take" ["draw", "amount"] 2 (f_law_take_18ca62 Γ))
    (k_first_order : OkF P w K mg base T Γ "first_order" ["lot", "prime", "many"] 5 (f_first_order_e2491c Γ))
    (z_isinstance : mg "isinstance" = none)
    (z_len : mg "len" = none)
    (z_min : mg "min" = none)
    (z_range : mg "range" = none)
    (g_BadLot : mg "BadLot" = some (.ref (Γ "BadLot"))) (x_BadLot : ExcF K (Γ "BadLot"))
    (g_BadMany : mg "BadMany" = some (.ref (Γ "BadMany"))) (x_BadMany : ExcF K (Γ "BadMany"))
    (g_BadPrime : mg "BadPrime" = some (.ref (Γ "BadPrime"))) (x_BadPrime : ExcF K (Γ "BadPrime")) : OkF P w K mg base T Γ "law" ["script"] 8 (f_law_fef447 Γ) := by
  refine F.ok (k := 7) (t := t_law_fef447 Γ) sc_law (fun A outer s H C hr => ?_) (v_law_fef447 Γ)
  have nd := (sc_law).nd
  have tk : Takes (cxOf (L2.CX P w) P w K mg base N_law "law" (defScope s_law) (Γ "law") (.ref cod) A outer s H C.E) (fun cls d _ H => C.E cls d H) := takes_of rfl rfl rfl rfl
  have hp : Passes (L2.CX P w) (cxOf (L2.CX P w) P w K mg base N_law "law" (defScope s_law) (Γ "law") (.ref cod) A outer s H C.E) C.E := passes_call tk fun _ _ _ _ h => h
  have hpo : PassesOwn (model P w) (cxOf (L2.CX P w) P w K mg base N_law "law" (defScope s_law) (Γ "law") (.ref cod) A outer s H C.E).A (cxOf (L2.CX P w) P w K mg base N_law "law" (defScope s_law) (Γ "law") (.ref cod) A outer s H C.E).env (cxOf (L2.CX P w) P w K mg base N_law "law" (defScope s_law) (Γ "law") (.ref cod) A outer s H C.E).xe := passes_of rfl
  have hp2 := fun (A2 : Around) (outer2 : List Env) (s2 : Shared) (H2 : Hp) (sc2 : Scope) (f2 c2 : Addr) (C' : Ct) => lam_passes (X := cxOf (L2.CX P w) P w K mg base N_law "law" (defScope s_law) (Γ "law") (.ref cod) A outer s H C.E) (A := A2) (outer := outer2) (s := s2) (H := H2) (scope := sc2) (f := f2) (c' := c2) (E := C'.E)
  exact (ls_cons (ls_set (i := 1) nd rfl (.inr rfl) (le_callF k_law_begun (hr.mono (by decide)) (by rfl) hp (la_cons (le_var 0 (pv 0)) la_nil)))
    (ls_cons (ls_for (tt := (.nm 2)) hpo rfl (li_range1 (by rfl) z_range (la_cons (le_op or_add rb_add le_int (le_cb (call_min2 rfl) rc_2 (by rfl) z_min (by decide +kernel) (la_cons (le_cb cr_len rc_len (by rfl) z_len (by decide +kernel) (la_cons (le_var 0 (pv 0)) la_nil)) (la_cons le_int la_nil)))) la_nil)) (pg_name (i := 2) nd rfl (.inl rfl)) (ls_cons (ls_asg (tt := (.tp [3, 4, 5])) (le_tup (la_cons (le_callF k_law_lot (hr.mono (by decide)) (by rfl) hp (la_cons (le_var 1 (pv 1)) la_nil)) (la_cons (le_callF k_law_pick (hr.mono (by decide)) (by rfl) hp (la_cons (le_var 1 (pv 1)) (la_cons (le_lst (la_cons le_int (la_cons le_int (la_cons le_int (la_cons le_int (la_cons le_int (la_cons le_int la_nil))))))) la_nil))) (la_cons (le_callF k_law_take (hr.mono (by decide)) (by rfl) hp (la_cons (le_var 1 (pv 1)) (la_cons le_int la_nil))) la_nil)))) (pg_tup rfl (pgs_cons (pg_name (i := 3) nd rfl (.inr rfl)) (pgs_cons (pg_name (i := 4) nd rfl (.inr rfl)) (pgs_cons (pg_name (i := 5) nd rfl (.inl rfl)) pgs_nil)))))
    (ls_cons (ls_set (i := 6) nd rfl (.inl rfl) (le_callF k_law_first_order (hr.mono (by decide)) (by rfl) hp (la_cons (le_var 3 (pv 3)) (la_cons (le_var 4 (pv 4)) (la_cons (le_var 5 (pv 5)) la_nil)))))
    (ls_cons (ls_if (lt_not (lt_val (le_callF k_law_says (hr.mono (by decide)) (by rfl) hp (la_cons (le_lst (la_cons (le_callF k_first_order (hr.mono (by decide)) (by rfl) hp (la_cons (le_var 3 (pv 3)) (la_cons (le_var 4 (pv 4)) (la_cons (le_var 5 (pv 5)) la_nil)))) (la_cons (le_callKF (ks := ["many", "prime", "lot"]) (ix := [2, 1, 0]) k_first_order D_first_order (hr.mono (by decide)) (by rfl) hp (fun _ _ _ _ _ _ us hl => match us, hl with | [_, _, _], _ => rfl) (lk_cons (le_var 5 (pv 5)) (lk_cons (le_var 4 (pv 4)) (lk_cons (le_var 3 (pv 3)) lk_nil))) (fun xs hl => match xs, hl with | [_, _, _], _ => rfl)) la_nil))) (la_cons (le_lst (la_cons (le_var 6 (pv 6)) (la_cons (le_var 6 (pv 6)) la_nil))) la_nil))))) (ls_one (ls_ret le_bl)) ls_nil)
    (ls_cons (ls_ownL (i := 7) nd rfl (.inl rfl) (la_cons (le_caught (kin := [Γ "LotError", Γ "BadLot", Γ "BadMany", Γ "BadPrime"]) (k := 5) (q := fun Ep => (pCall (f_first_order_e2491c Γ) Ep (aCons (pCall (f_law_no_lot_b60b62 Γ) Ep (aCons (pVar 1) aNil)) (aCons (pC .non) (aCons (pC .non) aNil))))) k_law_caught kin_h TB rfl hmT huT (hr.mono (by decide)) (by rfl) (LamX.lamS_by (sc := defScope s_law) (by decide +kernel)) (fun A2 outer2 s2 H2 E2 f2 c2 C' hE2 hr2 => by
      subst hE2
      exact (le_callF k_first_order (hr2.mono (by decide)) (by rfl) (hp2 A2 outer2 s2 H2 _ f2 c2 C') (la_cons (le_callF k_law_no_lot (hr2.mono (by decide)) (by rfl) (hp2 A2 outer2 s2 H2 _ f2 c2 C') (la_cons (le_var 1 (pv 1)) la_nil)) (la_cons le_non (la_cons le_non la_nil)))))) la_nil))
    (ls_cons (ls_app (i := 7) (ps_expr (pe_bm PySem.F.plainAttrs_list PySem.F.slot_list_append PySem.F.type_list_append mt_append (pv 7) (pa_cons (le_caught (kin := [Γ "LotError", Γ "BadLot", Γ "BadMany", Γ "BadPrime"]) (k := 5) (q := fun Ep => (pCall (f_first_order_e2491c Γ) Ep (aCons (pVar 3) (aCons (pCall (f_law_no_prime_4d0d92 Γ) Ep (aCons (pVar 1) aNil)) (aCons (pC .non) aNil))))) k_law_caught kin_h TB rfl hmT huT (hr.mono (by decide)) (by rfl) (LamX.lamS_by (sc := defScope s_law) (by decide +kernel)) (fun A2 outer2 s2 H2 E2 f2 c2 C' hE2 hr2 => by
      subst hE2
      exact (le_callF k_first_order (hr2.mono (by decide)) (by rfl) (hp2 A2 outer2 s2 H2 _ f2 c2 C') (la_cons (le_var 3 (pv 3)) (la_cons (le_callF k_law_no_prime (hr2.mono (by decide)) (by rfl) (hp2 A2 outer2 s2 H2 _ f2 c2 C') (la_cons (le_var 1 (pv 1)) la_nil)) (la_cons le_non la_nil)))))) pa_nil))))
    (ls_cons (ls_app (i := 7) (ps_expr (pe_bm PySem.F.plainAttrs_list PySem.F.slot_list_append PySem.F.type_list_append mt_append (pv 7) (pa_cons (le_caught (kin := [Γ "LotError", Γ "BadLot", Γ "BadMany", Γ "BadPrime"]) (k := 5) (q := fun Ep => (pCall (f_first_order_e2491c Γ) Ep (aCons (pVar 3) (aCons (pVar 4) (aCons (pCall (f_law_pick_79bebb Γ) Ep (aCons (pVar 1) (aCons (pLst (aCons (pC .non) (aCons (pNeg (pC (.int 1))) (aCons (pC (.int 61)) (aCons (pC (.bl true)) (aCons (pC (.str "1")) aNil)))))) aNil))) aNil))))) k_law_caught kin_h TB rfl hmT huT (hr.mono (by decide)) (by rfl) (LamX.lamS_by (sc := defScope s_law) (by decide +kernel)) (fun A2 outer2 s2 H2 E2 f2 c2 C' hE2 hr2 => by
      subst hE2
      exact (le_callF k_first_order (hr2.mono (by decide)) (by rfl) (hp2 A2 outer2 s2 H2 _ f2 c2 C') (la_cons (le_var 3 (pv 3)) (la_cons (le_var 4 (pv 4)) (la_cons (le_callF k_law_pick (hr2.mono (by decide)) (by rfl) (hp2 A2 outer2 s2 H2 _ f2 c2 C') (la_cons (le_var 1 (pv 1)) (la_cons (le_lst (la_cons le_non (la_cons (le_neg le_int) (la_cons le_int (la_cons le_bl (la_cons le_str la_nil)))))) la_nil))) la_nil)))))) pa_nil))))
    (ls_one (ls_if (lt_bor (PW.pt (lw_or (lt_not (lt_val (le_cb cr_isX (rc_isX i_BadLot) (by rfl) z_isinstance (by decide +kernel) (la_cons (le_ixk (k := 0) (le_var 7 (pv 7)) (fun _ _ => rfl)) (la_cons (le_ref (pe_glob (by rfl) g_BadLot rfl)) la_nil))))) (lw_or (lt_not (lt_val (le_cb cr_isX (rc_isX i_BadPrime) (by rfl) z_isinstance (by decide +kernel) (la_cons (le_ixk (k := 1) (le_var 7 (pv 7)) (fun _ _ => rfl)) (la_cons (le_ref (pe_glob (by rfl) g_BadPrime rfl)) la_nil))))) (lw_or1 (lt_not (lt_val (le_cb cr_isX (rc_isX i_BadMany) (by rfl) z_isinstance (by decide +kernel) (la_cons (le_ixk (k := 2) (le_var 7 (pv 7)) (fun _ _ => rfl)) (la_cons (le_ref (pe_glob (by rfl) g_BadMany rfl)) la_nil)))))))))) (ls_one (ls_ret le_bl)) ls_nil)))))))))
    (ls_cons (ls_set (i := 8) nd rfl (.inl rfl) (le_lst (la_cons (le_callF k_first_order (hr.mono (by decide)) (by rfl) hp (la_cons (le_tup (la_cons (le_tup la_nil) (la_cons le_int (la_cons (le_tup (la_cons le_int la_nil)) la_nil)))) (la_cons le_int (la_cons le_int la_nil)))) (la_cons (le_callF k_first_order (hr.mono (by decide)) (by rfl) hp (la_cons (le_tup (la_cons (le_tup (la_cons le_int (la_cons le_int (la_cons le_int la_nil)))) (la_cons le_int (la_cons (le_tup la_nil) la_nil)))) (la_cons le_int (la_cons le_int la_nil)))) (la_cons (le_callF k_first_order (hr.mono (by decide)) (by rfl) hp (la_cons (le_tup (la_cons (le_tup la_nil) (la_cons le_int (la_cons (le_tup (la_cons le_int la_nil)) la_nil)))) (la_cons le_int (la_cons le_int la_nil)))) (la_cons (le_callF k_first_order (hr.mono (by decide)) (by rfl) hp (la_cons (le_tup (la_cons (le_tup (la_cons (le_neg le_int) (la_cons le_int la_nil))) (la_cons le_int (la_cons (le_tup la_nil) la_nil)))) (la_cons le_int (la_cons le_int la_nil)))) la_nil))))))
    (ls_one (ls_ret (le_callF k_law_says (hr.mono (by decide)) (by rfl) hp (la_cons (le_var 8 (pv 8)) (la_cons (le_lst (la_cons (le_tup (la_cons le_int (la_cons le_int (la_cons (le_neg le_int) (la_cons le_int (la_cons (le_neg le_int) la_nil)))))) (la_cons (le_tup (la_cons le_int (la_cons le_int (la_cons le_int la_nil)))) (la_cons (le_tup (la_cons le_int (la_cons (le_neg le_int) (la_cons le_int la_nil)))) (la_cons (le_tup (la_cons le_int la_nil)) la_nil))))) la_nil))))))))

end
theorem facts {l : PySem.W.OpenLaw} {w : World} {K : PySem.W.Frag} {h : Heap} {mg : Str → Option Value} {fa : Addr} (X : K.In h) (G : h.Ns mainGlobals mg) (hfa : mg "law" = some (.ref fa)) {ts : List Addr} (hts : ∀ P ∈ ts, h.get? P = some { cls := .none, data := .fields #[] })
    {A_law_begun A_law_has A_law_power_in A_law_sample A_law_row A_law_first_order A_law_mixed A_law_take A_law_pick A_law_endless_lot A_law_finite_lot A_law_lot A_law_odd A_law_no_lot A_law_no_prime A_law_kinds A_law_says A_has_by A_power_in A_power_behind A_nearest A_is_endless A_is_end A_merged A_trimmed_lot A_part_by A_plain_row A_rests_of A_row_by A_first_order_by A_is_number A_is_rising A_is_lot_of A_need_lot A_need_many A_is_prime A_need_prime A_first_order A_law A_law_caught A_BadLot A_BadMany A_BadPrime A_LotError : Addr}
    {oc_law_begun kV_law_begun dc_law_begun pm_law_begun ct_law_begun : Value} {od_law_begun an_law_begun : Option Addr} {sl_law_begun : Array (Option Value)} {cd_law_begun : Value}
    {oc_law_has kV_law_has dc_law_has pm_law_has ct_law_has : Value} {od_law_has an_law_has : Option Addr} {sl_law_has : Array (Option Value)} {cd_law_has : Value}
    {oc_law_power_in kV_law_power_in dc_law_power_in pm_law_power_in ct_law_power_in : Value} {od_law_power_in an_law_power_in : Option Addr} {sl_law_power_in : Array (Option Value)} {cd_law_power_in : Value}
    {oc_law_sample kV_law_sample dc_law_sample pm_law_sample ct_law_sample : Value} {od_law_sample an_law_sample : Option Addr} {sl_law_sample : Array (Option Value)} {cd_law_sample : Value}
    {oc_law_row kV_law_row dc_law_row pm_law_row ct_law_row : Value} {od_law_row an_law_row : Option Addr} {sl_law_row : Array (Option Value)} {cd_law_row : Value}
    {oc_law_first_order kV_law_first_order dc_law_first_order pm_law_first_order ct_law_first_order : Value} {od_law_first_order an_law_first_order : Option Addr} {sl_law_first_order : Array (Option Value)} {cd_law_first_order : Value}
    {oc_law_mixed kV_law_mixed dc_law_mixed pm_law_mixed ct_law_mixed : Value} {od_law_mixed an_law_mixed : Option Addr} {sl_law_mixed : Array (Option Value)} {cd_law_mixed : Value}
    {oc_law_take kV_law_take dc_law_take pm_law_take ct_law_take : Value} {od_law_take an_law_take : Option Addr} {sl_law_take : Array (Option Value)} {cd_law_take : Value}
    {oc_law_pick kV_law_pick dc_law_pick pm_law_pick ct_law_pick : Value} {od_law_pick an_law_pick : Option Addr} {sl_law_pick : Array (Option Value)} {cd_law_pick : Value}
    {oc_law_endless_lot kV_law_endless_lot dc_law_endless_lot pm_law_endless_lot ct_law_endless_lot : Value} {od_law_endless_lot an_law_endless_lot : Option Addr} {sl_law_endless_lot : Array (Option Value)} {cd_law_endless_lot : Value}
    {oc_law_finite_lot kV_law_finite_lot dc_law_finite_lot pm_law_finite_lot ct_law_finite_lot : Value} {od_law_finite_lot an_law_finite_lot : Option Addr} {sl_law_finite_lot : Array (Option Value)} {cd_law_finite_lot : Value}
    {oc_law_lot kV_law_lot dc_law_lot pm_law_lot ct_law_lot : Value} {od_law_lot an_law_lot : Option Addr} {sl_law_lot : Array (Option Value)} {cd_law_lot : Value}
    {oc_law_odd kV_law_odd dc_law_odd pm_law_odd ct_law_odd : Value} {od_law_odd an_law_odd : Option Addr} {sl_law_odd : Array (Option Value)} {cd_law_odd : Value}
    {oc_law_no_lot kV_law_no_lot dc_law_no_lot pm_law_no_lot ct_law_no_lot : Value} {od_law_no_lot an_law_no_lot : Option Addr} {sl_law_no_lot : Array (Option Value)} {cd_law_no_lot : Value}
    {oc_law_no_prime kV_law_no_prime dc_law_no_prime pm_law_no_prime ct_law_no_prime : Value} {od_law_no_prime an_law_no_prime : Option Addr} {sl_law_no_prime : Array (Option Value)} {cd_law_no_prime : Value}
    {oc_law_kinds kV_law_kinds dc_law_kinds pm_law_kinds ct_law_kinds : Value} {od_law_kinds an_law_kinds : Option Addr} {sl_law_kinds : Array (Option Value)} {cd_law_kinds : Value}
    {oc_law_says kV_law_says dc_law_says pm_law_says ct_law_says : Value} {od_law_says an_law_says : Option Addr} {sl_law_says : Array (Option Value)} {cd_law_says : Value}
    {oc_has_by kV_has_by dc_has_by pm_has_by ct_has_by : Value} {od_has_by an_has_by : Option Addr} {sl_has_by : Array (Option Value)} {cd_has_by : Value}
    {oc_power_in kV_power_in dc_power_in pm_power_in ct_power_in : Value} {od_power_in an_power_in : Option Addr} {sl_power_in : Array (Option Value)} {cd_power_in : Value}
    {oc_power_behind kV_power_behind dc_power_behind pm_power_behind ct_power_behind : Value} {od_power_behind an_power_behind : Option Addr} {sl_power_behind : Array (Option Value)} {cd_power_behind : Value}
    {oc_nearest kV_nearest dc_nearest pm_nearest ct_nearest : Value} {od_nearest an_nearest : Option Addr} {sl_nearest : Array (Option Value)} {cd_nearest : Value}
    {oc_is_endless kV_is_endless dc_is_endless pm_is_endless ct_is_endless : Value} {od_is_endless an_is_endless : Option Addr} {sl_is_endless : Array (Option Value)} {cd_is_endless : Value}
    {oc_is_end kV_is_end dc_is_end pm_is_end ct_is_end : Value} {od_is_end an_is_end : Option Addr} {sl_is_end : Array (Option Value)} {cd_is_end : Value}
    {oc_merged kV_merged dc_merged pm_merged ct_merged : Value} {od_merged an_merged : Option Addr} {sl_merged : Array (Option Value)} {cd_merged : Value}
    {oc_trimmed_lot kV_trimmed_lot dc_trimmed_lot pm_trimmed_lot ct_trimmed_lot : Value} {od_trimmed_lot an_trimmed_lot : Option Addr} {sl_trimmed_lot : Array (Option Value)} {cd_trimmed_lot : Value}
    {oc_part_by kV_part_by dc_part_by pm_part_by ct_part_by : Value} {od_part_by an_part_by : Option Addr} {sl_part_by : Array (Option Value)} {cd_part_by : Value}
    {oc_plain_row kV_plain_row dc_plain_row pm_plain_row ct_plain_row : Value} {od_plain_row an_plain_row : Option Addr} {sl_plain_row : Array (Option Value)} {cd_plain_row : Value}
    {oc_rests_of kV_rests_of dc_rests_of pm_rests_of ct_rests_of : Value} {od_rests_of an_rests_of : Option Addr} {sl_rests_of : Array (Option Value)} {cd_rests_of : Value}
    {oc_row_by kV_row_by dc_row_by pm_row_by ct_row_by : Value} {od_row_by an_row_by : Option Addr} {sl_row_by : Array (Option Value)} {cd_row_by : Value}
    {oc_first_order_by kV_first_order_by dc_first_order_by pm_first_order_by ct_first_order_by : Value} {od_first_order_by an_first_order_by : Option Addr} {sl_first_order_by : Array (Option Value)} {cd_first_order_by : Value}
    {oc_is_number kV_is_number dc_is_number pm_is_number ct_is_number : Value} {od_is_number an_is_number : Option Addr} {sl_is_number : Array (Option Value)} {cd_is_number : Value}
    {oc_is_rising kV_is_rising dc_is_rising pm_is_rising ct_is_rising : Value} {od_is_rising an_is_rising : Option Addr} {sl_is_rising : Array (Option Value)} {cd_is_rising : Value}
    {oc_is_lot_of kV_is_lot_of dc_is_lot_of pm_is_lot_of ct_is_lot_of : Value} {od_is_lot_of an_is_lot_of : Option Addr} {sl_is_lot_of : Array (Option Value)} {cd_is_lot_of : Value}
    {oc_need_lot kV_need_lot dc_need_lot pm_need_lot ct_need_lot : Value} {od_need_lot an_need_lot : Option Addr} {sl_need_lot : Array (Option Value)} {cd_need_lot : Value}
    {oc_need_many kV_need_many dc_need_many pm_need_many ct_need_many : Value} {od_need_many an_need_many : Option Addr} {sl_need_many : Array (Option Value)} {cd_need_many : Value}
    {oc_is_prime kV_is_prime dc_is_prime pm_is_prime ct_is_prime : Value} {od_is_prime an_is_prime : Option Addr} {sl_is_prime : Array (Option Value)} {cd_is_prime : Value}
    {oc_need_prime kV_need_prime dc_need_prime pm_need_prime ct_need_prime : Value} {od_need_prime an_need_prime : Option Addr} {sl_need_prime : Array (Option Value)} {cd_need_prime : Value}
    {oc_first_order kV_first_order dc_first_order pm_first_order ct_first_order : Value} {od_first_order an_first_order : Option Addr} {sl_first_order : Array (Option Value)} {cd_first_order : Value}
    {oc_law kV_law dc_law pm_law ct_law : Value} {od_law an_law : Option Addr} {sl_law : Array (Option Value)} {cd_law : Addr}
    {oc_law_caught kV_law_caught dc_law_caught pm_law_caught ct_law_caught : Value} {od_law_caught an_law_caught : Option Addr} {sl_law_caught : Array (Option Value)} {cd_law_caught : Value}
    {tk_MOST_K : Tok}
    {tk_MOST_MODULUS : Tok}
    {tk_MOST_NUMBER : Tok}
    {tk_MOST_NUMBERS : Tok}
    {tk_MOST_PRIME : Tok}
    (a_law_begun : PySem.W.nsIn K mainGlobals "_law_begun" = some (some (.ref A_law_begun)))
    (l_law_begun : K.lookup A_law_begun = some ⟨oc_law_begun, od_law_begun, .func (PySem.W.fnOf "_law_begun" "_law_begun" (defArgs (topS 37)) (defBody (topS 37)) (defScope (topS 37)) .none kV_law_begun dc_law_begun pm_law_begun an_law_begun cd_law_begun ct_law_begun), sl_law_begun⟩)
    (c_law_begun : PySem.W.codeIn K cd_law_begun "_law_begun" = true)
    (k_law_begun : PySem.W.keepIn K (.ref A_law_begun) = true)
    (a_law_has : PySem.W.nsIn K mainGlobals "_law_has" = some (some (.ref A_law_has)))
    (l_law_has : K.lookup A_law_has = some ⟨oc_law_has, od_law_has, .func (PySem.W.fnOf "_law_has" "_law_has" (defArgs (topS 45)) (defBody (topS 45)) (defScope (topS 45)) .none kV_law_has dc_law_has pm_law_has an_law_has cd_law_has ct_law_has), sl_law_has⟩)
    (c_law_has : PySem.W.codeIn K cd_law_has "_law_has" = true)
    (k_law_has : PySem.W.keepIn K (.ref A_law_has) = true)
    (a_law_power_in : PySem.W.nsIn K mainGlobals "_law_power_in" = some (some (.ref A_law_power_in)))
    (l_law_power_in : K.lookup A_law_power_in = some ⟨oc_law_power_in, od_law_power_in, .func (PySem.W.fnOf "_law_power_in" "_law_power_in" (defArgs (topS 44)) (defBody (topS 44)) (defScope (topS 44)) .none kV_law_power_in dc_law_power_in pm_law_power_in an_law_power_in cd_law_power_in ct_law_power_in), sl_law_power_in⟩)
    (c_law_power_in : PySem.W.codeIn K cd_law_power_in "_law_power_in" = true)
    (k_law_power_in : PySem.W.keepIn K (.ref A_law_power_in) = true)
    (a_law_sample : PySem.W.nsIn K mainGlobals "_law_sample" = some (some (.ref A_law_sample)))
    (l_law_sample : K.lookup A_law_sample = some ⟨oc_law_sample, od_law_sample, .func (PySem.W.fnOf "_law_sample" "_law_sample" (defArgs (topS 46)) (defBody (topS 46)) (defScope (topS 46)) .none kV_law_sample dc_law_sample pm_law_sample an_law_sample cd_law_sample ct_law_sample), sl_law_sample⟩)
    (c_law_sample : PySem.W.codeIn K cd_law_sample "_law_sample" = true)
    (k_law_sample : PySem.W.keepIn K (.ref A_law_sample) = true)
    (a_law_row : PySem.W.nsIn K mainGlobals "_law_row" = some (some (.ref A_law_row)))
    (l_law_row : K.lookup A_law_row = some ⟨oc_law_row, od_law_row, .func (PySem.W.fnOf "_law_row" "_law_row" (defArgs (topS 47)) (defBody (topS 47)) (defScope (topS 47)) .none kV_law_row dc_law_row pm_law_row an_law_row cd_law_row ct_law_row), sl_law_row⟩)
    (c_law_row : PySem.W.codeIn K cd_law_row "_law_row" = true)
    (k_law_row : PySem.W.keepIn K (.ref A_law_row) = true)
    (a_law_first_order : PySem.W.nsIn K mainGlobals "_law_first_order" = some (some (.ref A_law_first_order)))
    (l_law_first_order : K.lookup A_law_first_order = some ⟨oc_law_first_order, od_law_first_order, .func (PySem.W.fnOf "_law_first_order" "_law_first_order" (defArgs (topS 54)) (defBody (topS 54)) (defScope (topS 54)) .none kV_law_first_order dc_law_first_order pm_law_first_order an_law_first_order cd_law_first_order ct_law_first_order), sl_law_first_order⟩)
    (c_law_first_order : PySem.W.codeIn K cd_law_first_order "_law_first_order" = true)
    (k_law_first_order : PySem.W.keepIn K (.ref A_law_first_order) = true)
    (a_law_mixed : PySem.W.nsIn K mainGlobals "_law_mixed" = some (some (.ref A_law_mixed)))
    (l_law_mixed : K.lookup A_law_mixed = some ⟨oc_law_mixed, od_law_mixed, .func (PySem.W.fnOf "_law_mixed" "_law_mixed" (defArgs (topS 38)) (defBody (topS 38)) (defScope (topS 38)) .none kV_law_mixed dc_law_mixed pm_law_mixed an_law_mixed cd_law_mixed ct_law_mixed), sl_law_mixed⟩)
    (c_law_mixed : PySem.W.codeIn K cd_law_mixed "_law_mixed" = true)
    (k_law_mixed : PySem.W.keepIn K (.ref A_law_mixed) = true)
    (a_law_take : PySem.W.nsIn K mainGlobals "_law_take" = some (some (.ref A_law_take)))
    (l_law_take : K.lookup A_law_take = some ⟨oc_law_take, od_law_take, .func (PySem.W.fnOf "_law_take" "_law_take" (defArgs (topS 39)) (defBody (topS 39)) (defScope (topS 39)) .none kV_law_take dc_law_take pm_law_take an_law_take cd_law_take ct_law_take), sl_law_take⟩)
    (c_law_take : PySem.W.codeIn K cd_law_take "_law_take" = true)
    (k_law_take : PySem.W.keepIn K (.ref A_law_take) = true)
    (a_law_pick : PySem.W.nsIn K mainGlobals "_law_pick" = some (some (.ref A_law_pick)))
    (l_law_pick : K.lookup A_law_pick = some ⟨oc_law_pick, od_law_pick, .func (PySem.W.fnOf "_law_pick" "_law_pick" (defArgs (topS 40)) (defBody (topS 40)) (defScope (topS 40)) .none kV_law_pick dc_law_pick pm_law_pick an_law_pick cd_law_pick ct_law_pick), sl_law_pick⟩)
    (c_law_pick : PySem.W.codeIn K cd_law_pick "_law_pick" = true)
    (k_law_pick : PySem.W.keepIn K (.ref A_law_pick) = true)
    (a_law_endless_lot : PySem.W.nsIn K mainGlobals "_law_endless_lot" = some (some (.ref A_law_endless_lot)))
    (l_law_endless_lot : K.lookup A_law_endless_lot = some ⟨oc_law_endless_lot, od_law_endless_lot, .func (PySem.W.fnOf "_law_endless_lot" "_law_endless_lot" (defArgs (topS 49)) (defBody (topS 49)) (defScope (topS 49)) .none kV_law_endless_lot dc_law_endless_lot pm_law_endless_lot an_law_endless_lot cd_law_endless_lot ct_law_endless_lot), sl_law_endless_lot⟩)
    (c_law_endless_lot : PySem.W.codeIn K cd_law_endless_lot "_law_endless_lot" = true)
    (k_law_endless_lot : PySem.W.keepIn K (.ref A_law_endless_lot) = true)
    (a_law_finite_lot : PySem.W.nsIn K mainGlobals "_law_finite_lot" = some (some (.ref A_law_finite_lot)))
    (l_law_finite_lot : K.lookup A_law_finite_lot = some ⟨oc_law_finite_lot, od_law_finite_lot, .func (PySem.W.fnOf "_law_finite_lot" "_law_finite_lot" (defArgs (topS 48)) (defBody (topS 48)) (defScope (topS 48)) .none kV_law_finite_lot dc_law_finite_lot pm_law_finite_lot an_law_finite_lot cd_law_finite_lot ct_law_finite_lot), sl_law_finite_lot⟩)
    (c_law_finite_lot : PySem.W.codeIn K cd_law_finite_lot "_law_finite_lot" = true)
    (k_law_finite_lot : PySem.W.keepIn K (.ref A_law_finite_lot) = true)
    (a_law_lot : PySem.W.nsIn K mainGlobals "_law_lot" = some (some (.ref A_law_lot)))
    (l_law_lot : K.lookup A_law_lot = some ⟨oc_law_lot, od_law_lot, .func (PySem.W.fnOf "_law_lot" "_law_lot" (defArgs (topS 50)) (defBody (topS 50)) (defScope (topS 50)) .none kV_law_lot dc_law_lot pm_law_lot an_law_lot cd_law_lot ct_law_lot), sl_law_lot⟩)
    (c_law_lot : PySem.W.codeIn K cd_law_lot "_law_lot" = true)
    (k_law_lot : PySem.W.keepIn K (.ref A_law_lot) = true)
    (a_law_odd : PySem.W.nsIn K mainGlobals "_law_odd" = some (some (.ref A_law_odd)))
    (l_law_odd : K.lookup A_law_odd = some ⟨oc_law_odd, od_law_odd, .func (PySem.W.fnOf "_law_odd" "_law_odd" (defArgs (topS 51)) (defBody (topS 51)) (defScope (topS 51)) .none kV_law_odd dc_law_odd pm_law_odd an_law_odd cd_law_odd ct_law_odd), sl_law_odd⟩)
    (c_law_odd : PySem.W.codeIn K cd_law_odd "_law_odd" = true)
    (k_law_odd : PySem.W.keepIn K (.ref A_law_odd) = true)
    (a_law_no_lot : PySem.W.nsIn K mainGlobals "_law_no_lot" = some (some (.ref A_law_no_lot)))
    (l_law_no_lot : K.lookup A_law_no_lot = some ⟨oc_law_no_lot, od_law_no_lot, .func (PySem.W.fnOf "_law_no_lot" "_law_no_lot" (defArgs (topS 52)) (defBody (topS 52)) (defScope (topS 52)) .none kV_law_no_lot dc_law_no_lot pm_law_no_lot an_law_no_lot cd_law_no_lot ct_law_no_lot), sl_law_no_lot⟩)
    (c_law_no_lot : PySem.W.codeIn K cd_law_no_lot "_law_no_lot" = true)
    (k_law_no_lot : PySem.W.keepIn K (.ref A_law_no_lot) = true)
    (a_law_no_prime : PySem.W.nsIn K mainGlobals "_law_no_prime" = some (some (.ref A_law_no_prime)))
    (l_law_no_prime : K.lookup A_law_no_prime = some ⟨oc_law_no_prime, od_law_no_prime, .func (PySem.W.fnOf "_law_no_prime" "_law_no_prime" (defArgs (topS 53)) (defBody (topS 53)) (defScope (topS 53)) .none kV_law_no_prime dc_law_no_prime pm_law_no_prime an_law_no_prime cd_law_no_prime ct_law_no_prime), sl_law_no_prime⟩)
    (c_law_no_prime : PySem.W.codeIn K cd_law_no_prime "_law_no_prime" = true)
    (k_law_no_prime : PySem.W.keepIn K (.ref A_law_no_prime) = true)
    (a_law_kinds : PySem.W.nsIn K mainGlobals "_law_kinds" = some (some (.ref A_law_kinds)))
    (l_law_kinds : K.lookup A_law_kinds = some ⟨oc_law_kinds, od_law_kinds, .func (PySem.W.fnOf "_law_kinds" "_law_kinds" (defArgs (topS 42)) (defBody (topS 42)) (defScope (topS 42)) .none kV_law_kinds dc_law_kinds pm_law_kinds an_law_kinds cd_law_kinds ct_law_kinds), sl_law_kinds⟩)
    (c_law_kinds : PySem.W.codeIn K cd_law_kinds "_law_kinds" = true)
    (k_law_kinds : PySem.W.keepIn K (.ref A_law_kinds) = true)
    (a_law_says : PySem.W.nsIn K mainGlobals "_law_says" = some (some (.ref A_law_says)))
    (l_law_says : K.lookup A_law_says = some ⟨oc_law_says, od_law_says, .func (PySem.W.fnOf "_law_says" "_law_says" (defArgs (topS 43)) (defBody (topS 43)) (defScope (topS 43)) .none kV_law_says dc_law_says pm_law_says an_law_says cd_law_says ct_law_says), sl_law_says⟩)
    (c_law_says : PySem.W.codeIn K cd_law_says "_law_says" = true)
    (k_law_says : PySem.W.keepIn K (.ref A_law_says) = true)
    (a_has_by : PySem.W.nsIn K mainGlobals "has_by" = some (some (.ref A_has_by)))
    (l_has_by : K.lookup A_has_by = some ⟨oc_has_by, od_has_by, .func (PySem.W.fnOf "has_by" "has_by" (defArgs (topS 20)) (defBody (topS 20)) (defScope (topS 20)) .none kV_has_by dc_has_by pm_has_by an_has_by cd_has_by ct_has_by), sl_has_by⟩)
    (c_has_by : PySem.W.codeIn K cd_has_by "has_by" = true)
    (k_has_by : PySem.W.keepIn K (.ref A_has_by) = true)
    (a_power_in : PySem.W.nsIn K mainGlobals "power_in" = some (some (.ref A_power_in)))
    (l_power_in : K.lookup A_power_in = some ⟨oc_power_in, od_power_in, .func (PySem.W.fnOf "power_in" "power_in" (defArgs (topS 26)) (defBody (topS 26)) (defScope (topS 26)) .none kV_power_in dc_power_in pm_power_in an_power_in cd_power_in ct_power_in), sl_power_in⟩)
    (c_power_in : PySem.W.codeIn K cd_power_in "power_in" = true)
    (k_power_in : PySem.W.keepIn K (.ref A_power_in) = true)
    (a_power_behind : PySem.W.nsIn K mainGlobals "power_behind" = some (some (.ref A_power_behind)))
    (l_power_behind : K.lookup A_power_behind = some ⟨oc_power_behind, od_power_behind, .func (PySem.W.fnOf "power_behind" "power_behind" (defArgs (topS 32)) (defBody (topS 32)) (defScope (topS 32)) .none kV_power_behind dc_power_behind pm_power_behind an_power_behind cd_power_behind ct_power_behind), sl_power_behind⟩)
    (c_power_behind : PySem.W.codeIn K cd_power_behind "power_behind" = true)
    (k_power_behind : PySem.W.keepIn K (.ref A_power_behind) = true)
    (a_nearest : PySem.W.nsIn K mainGlobals "nearest" = some (some (.ref A_nearest)))
    (l_nearest : K.lookup A_nearest = some ⟨oc_nearest, od_nearest, .func (PySem.W.fnOf "nearest" "nearest" (defArgs (topS 33)) (defBody (topS 33)) (defScope (topS 33)) .none kV_nearest dc_nearest pm_nearest an_nearest cd_nearest ct_nearest), sl_nearest⟩)
    (c_nearest : PySem.W.codeIn K cd_nearest "nearest" = true)
    (k_nearest : PySem.W.keepIn K (.ref A_nearest) = true)
    (a_is_endless : PySem.W.nsIn K mainGlobals "is_endless" = some (some (.ref A_is_endless)))
    (l_is_endless : K.lookup A_is_endless = some ⟨oc_is_endless, od_is_endless, .func (PySem.W.fnOf "is_endless" "is_endless" (defArgs (topS 19)) (defBody (topS 19)) (defScope (topS 19)) .none kV_is_endless dc_is_endless pm_is_endless an_is_endless cd_is_endless ct_is_endless), sl_is_endless⟩)
    (c_is_endless : PySem.W.codeIn K cd_is_endless "is_endless" = true)
    (k_is_endless : PySem.W.keepIn K (.ref A_is_endless) = true)
    (a_is_end : PySem.W.nsIn K mainGlobals "is_end" = some (some (.ref A_is_end)))
    (l_is_end : K.lookup A_is_end = some ⟨oc_is_end, od_is_end, .func (PySem.W.fnOf "is_end" "is_end" (defArgs (topS 28)) (defBody (topS 28)) (defScope (topS 28)) .none kV_is_end dc_is_end pm_is_end an_is_end cd_is_end ct_is_end), sl_is_end⟩)
    (c_is_end : PySem.W.codeIn K cd_is_end "is_end" = true)
    (k_is_end : PySem.W.keepIn K (.ref A_is_end) = true)
    (a_merged : PySem.W.nsIn K mainGlobals "merged" = some (some (.ref A_merged)))
    (l_merged : K.lookup A_merged = some ⟨oc_merged, od_merged, .func (PySem.W.fnOf "merged" "merged" (defArgs (topS 29)) (defBody (topS 29)) (defScope (topS 29)) .none kV_merged dc_merged pm_merged an_merged cd_merged ct_merged), sl_merged⟩)
    (c_merged : PySem.W.codeIn K cd_merged "merged" = true)
    (k_merged : PySem.W.keepIn K (.ref A_merged) = true)
    (a_trimmed_lot : PySem.W.nsIn K mainGlobals "trimmed_lot" = some (some (.ref A_trimmed_lot)))
    (l_trimmed_lot : K.lookup A_trimmed_lot = some ⟨oc_trimmed_lot, od_trimmed_lot, .func (PySem.W.fnOf "trimmed_lot" "trimmed_lot" (defArgs (topS 21)) (defBody (topS 21)) (defScope (topS 21)) .none kV_trimmed_lot dc_trimmed_lot pm_trimmed_lot an_trimmed_lot cd_trimmed_lot ct_trimmed_lot), sl_trimmed_lot⟩)
    (c_trimmed_lot : PySem.W.codeIn K cd_trimmed_lot "trimmed_lot" = true)
    (k_trimmed_lot : PySem.W.keepIn K (.ref A_trimmed_lot) = true)
    (a_part_by : PySem.W.nsIn K mainGlobals "part_by" = some (some (.ref A_part_by)))
    (l_part_by : K.lookup A_part_by = some ⟨oc_part_by, od_part_by, .func (PySem.W.fnOf "part_by" "part_by" (defArgs (topS 24)) (defBody (topS 24)) (defScope (topS 24)) .none kV_part_by dc_part_by pm_part_by an_part_by cd_part_by ct_part_by), sl_part_by⟩)
    (c_part_by : PySem.W.codeIn K cd_part_by "part_by" = true)
    (k_part_by : PySem.W.keepIn K (.ref A_part_by) = true)
    (a_plain_row : PySem.W.nsIn K mainGlobals "plain_row" = some (some (.ref A_plain_row)))
    (l_plain_row : K.lookup A_plain_row = some ⟨oc_plain_row, od_plain_row, .func (PySem.W.fnOf "plain_row" "plain_row" (defArgs (topS 27)) (defBody (topS 27)) (defScope (topS 27)) .none kV_plain_row dc_plain_row pm_plain_row an_plain_row cd_plain_row ct_plain_row), sl_plain_row⟩)
    (c_plain_row : PySem.W.codeIn K cd_plain_row "plain_row" = true)
    (k_plain_row : PySem.W.keepIn K (.ref A_plain_row) = true)
    (a_rests_of : PySem.W.nsIn K mainGlobals "rests_of" = some (some (.ref A_rests_of)))
    (l_rests_of : K.lookup A_rests_of = some ⟨oc_rests_of, od_rests_of, .func (PySem.W.fnOf "rests_of" "rests_of" (defArgs (topS 23)) (defBody (topS 23)) (defScope (topS 23)) .none kV_rests_of dc_rests_of pm_rests_of an_rests_of cd_rests_of ct_rests_of), sl_rests_of⟩)
    (c_rests_of : PySem.W.codeIn K cd_rests_of "rests_of" = true)
    (k_rests_of : PySem.W.keepIn K (.ref A_rests_of) = true)
    (a_row_by : PySem.W.nsIn K mainGlobals "row_by" = some (some (.ref A_row_by)))
    (l_row_by : K.lookup A_row_by = some ⟨oc_row_by, od_row_by, .func (PySem.W.fnOf "row_by" "row_by" (defArgs (topS 30)) (defBody (topS 30)) (defScope (topS 30)) .none kV_row_by dc_row_by pm_row_by an_row_by cd_row_by ct_row_by), sl_row_by⟩)
    (c_row_by : PySem.W.codeIn K cd_row_by "row_by" = true)
    (k_row_by : PySem.W.keepIn K (.ref A_row_by) = true)
    (a_first_order_by : PySem.W.nsIn K mainGlobals "first_order_by" = some (some (.ref A_first_order_by)))
    (l_first_order_by : K.lookup A_first_order_by = some ⟨oc_first_order_by, od_first_order_by, .func (PySem.W.fnOf "first_order_by" "first_order_by" (defArgs (topS 34)) (defBody (topS 34)) (defScope (topS 34)) .none kV_first_order_by dc_first_order_by pm_first_order_by an_first_order_by cd_first_order_by ct_first_order_by), sl_first_order_by⟩)
    (c_first_order_by : PySem.W.codeIn K cd_first_order_by "first_order_by" = true)
    (k_first_order_by : PySem.W.keepIn K (.ref A_first_order_by) = true)
    (a_is_number : PySem.W.nsIn K mainGlobals "is_number" = some (some (.ref A_is_number)))
    (l_is_number : K.lookup A_is_number = some ⟨oc_is_number, od_is_number, .func (PySem.W.fnOf "is_number" "is_number" (defArgs (topS 12)) (defBody (topS 12)) (defScope (topS 12)) .none kV_is_number dc_is_number pm_is_number an_is_number cd_is_number ct_is_number), sl_is_number⟩)
    (c_is_number : PySem.W.codeIn K cd_is_number "is_number" = true)
    (k_is_number : PySem.W.keepIn K (.ref A_is_number) = true)
    (a_is_rising : PySem.W.nsIn K mainGlobals "is_rising" = some (some (.ref A_is_rising)))
    (l_is_rising : K.lookup A_is_rising = some ⟨oc_is_rising, od_is_rising, .func (PySem.W.fnOf "is_rising" "is_rising" (defArgs (topS 13)) (defBody (topS 13)) (defScope (topS 13)) .none kV_is_rising dc_is_rising pm_is_rising an_is_rising cd_is_rising ct_is_rising), sl_is_rising⟩)
    (c_is_rising : PySem.W.codeIn K cd_is_rising "is_rising" = true)
    (k_is_rising : PySem.W.keepIn K (.ref A_is_rising) = true)
    (a_is_lot_of : PySem.W.nsIn K mainGlobals "is_lot_of" = some (some (.ref A_is_lot_of)))
    (l_is_lot_of : K.lookup A_is_lot_of = some ⟨oc_is_lot_of, od_is_lot_of, .func (PySem.W.fnOf "is_lot_of" "is_lot_of" (defArgs (topS 14)) (defBody (topS 14)) (defScope (topS 14)) .none kV_is_lot_of dc_is_lot_of pm_is_lot_of an_is_lot_of cd_is_lot_of ct_is_lot_of), sl_is_lot_of⟩)
    (c_is_lot_of : PySem.W.codeIn K cd_is_lot_of "is_lot_of" = true)
    (k_is_lot_of : PySem.W.keepIn K (.ref A_is_lot_of) = true)
    (a_need_lot : PySem.W.nsIn K mainGlobals "need_lot" = some (some (.ref A_need_lot)))
    (l_need_lot : K.lookup A_need_lot = some ⟨oc_need_lot, od_need_lot, .func (PySem.W.fnOf "need_lot" "need_lot" (defArgs (topS 15)) (defBody (topS 15)) (defScope (topS 15)) .none kV_need_lot dc_need_lot pm_need_lot an_need_lot cd_need_lot ct_need_lot), sl_need_lot⟩)
    (c_need_lot : PySem.W.codeIn K cd_need_lot "need_lot" = true)
    (k_need_lot : PySem.W.keepIn K (.ref A_need_lot) = true)
    (a_need_many : PySem.W.nsIn K mainGlobals "need_many" = some (some (.ref A_need_many)))
    (l_need_many : K.lookup A_need_many = some ⟨oc_need_many, od_need_many, .func (PySem.W.fnOf "need_many" "need_many" (defArgs (topS 18)) (defBody (topS 18)) (defScope (topS 18)) .none kV_need_many dc_need_many pm_need_many an_need_many cd_need_many ct_need_many), sl_need_many⟩)
    (c_need_many : PySem.W.codeIn K cd_need_many "need_many" = true)
    (k_need_many : PySem.W.keepIn K (.ref A_need_many) = true)
    (a_is_prime : PySem.W.nsIn K mainGlobals "is_prime" = some (some (.ref A_is_prime)))
    (l_is_prime : K.lookup A_is_prime = some ⟨oc_is_prime, od_is_prime, .func (PySem.W.fnOf "is_prime" "is_prime" (defArgs (topS 16)) (defBody (topS 16)) (defScope (topS 16)) .none kV_is_prime dc_is_prime pm_is_prime an_is_prime cd_is_prime ct_is_prime), sl_is_prime⟩)
    (c_is_prime : PySem.W.codeIn K cd_is_prime "is_prime" = true)
    (k_is_prime : PySem.W.keepIn K (.ref A_is_prime) = true)
    (a_need_prime : PySem.W.nsIn K mainGlobals "need_prime" = some (some (.ref A_need_prime)))
    (l_need_prime : K.lookup A_need_prime = some ⟨oc_need_prime, od_need_prime, .func (PySem.W.fnOf "need_prime" "need_prime" (defArgs (topS 17)) (defBody (topS 17)) (defScope (topS 17)) .none kV_need_prime dc_need_prime pm_need_prime an_need_prime cd_need_prime ct_need_prime), sl_need_prime⟩)
    (c_need_prime : PySem.W.codeIn K cd_need_prime "need_prime" = true)
    (k_need_prime : PySem.W.keepIn K (.ref A_need_prime) = true)
    (a_first_order : PySem.W.nsIn K mainGlobals "first_order" = some (some (.ref A_first_order)))
    (l_first_order : K.lookup A_first_order = some ⟨oc_first_order, od_first_order, .func (PySem.W.fnOf "first_order" "first_order" (defArgs (topS 35)) (defBody (topS 35)) (defScope (topS 35)) .none kV_first_order dc_first_order pm_first_order an_first_order cd_first_order ct_first_order), sl_first_order⟩)
    (c_first_order : PySem.W.codeIn K cd_first_order "first_order" = true)
    (k_first_order : PySem.W.keepIn K (.ref A_first_order) = true)
    (a_law : PySem.W.nsIn K mainGlobals "law" = some (some (.ref A_law)))
    (l_law : K.lookup A_law = some ⟨oc_law, od_law, .func (PySem.W.fnOf "law" "law" (defArgs (topS 55)) (defBody (topS 55)) (defScope (topS 55)) .none kV_law dc_law pm_law an_law (.ref cd_law) ct_law), sl_law⟩)
    (c_law : PySem.W.codeIn K (.ref cd_law) "law" = true)
    (k_law : PySem.W.keepIn K (.ref A_law) = true)
    (t_law : ∃ tab, tab ∈ ts ∧ PySem.W.codeHdIn K cd_law tab = true ∧ K.lookup tab = none)
    (a_law_caught : PySem.W.nsIn K mainGlobals "_law_caught" = some (some (.ref A_law_caught)))
    (l_law_caught : K.lookup A_law_caught = some ⟨oc_law_caught, od_law_caught, .func (PySem.W.fnOf "_law_caught" "_law_caught" (defArgs (topS 41)) (defBody (topS 41)) (defScope (topS 41)) .none kV_law_caught dc_law_caught pm_law_caught an_law_caught cd_law_caught ct_law_caught), sl_law_caught⟩)
    (c_law_caught : PySem.W.codeIn K cd_law_caught "_law_caught" = true)
    (k_law_caught : PySem.W.keepIn K (.ref A_law_caught) = true)
    (z_all : PySem.W.nsIn K mainGlobals "all" = some none)
    (z_any : PySem.W.nsIn K mainGlobals "any" = some none)
    (z_bool : PySem.W.nsIn K mainGlobals "bool" = some none)
    (z_dict : PySem.W.nsIn K mainGlobals "dict" = some none)
    (z_enumerate : PySem.W.nsIn K mainGlobals "enumerate" = some none)
    (z_int : PySem.W.nsIn K mainGlobals "int" = some none)
    (z_isinstance : PySem.W.nsIn K mainGlobals "isinstance" = some none)
    (z_len : PySem.W.nsIn K mainGlobals "len" = some none)
    (z_list : PySem.W.nsIn K mainGlobals "list" = some none)
    (z_min : PySem.W.nsIn K mainGlobals "min" = some none)
    (z_range : PySem.W.nsIn K mainGlobals "range" = some none)
    (z_repr : PySem.W.nsIn K mainGlobals "repr" = some none)
    (z_set : PySem.W.nsIn K mainGlobals "set" = some none)
    (z_sorted : PySem.W.nsIn K mainGlobals "sorted" = some none)
    (z_str : PySem.W.nsIn K mainGlobals "str" = some none)
    (z_sum : PySem.W.nsIn K mainGlobals "sum" = some none)
    (z_tuple : PySem.W.nsIn K mainGlobals "tuple" = some none)
    (z_zip : PySem.W.nsIn K mainGlobals "zip" = some none)
    (v_MOST_K : PySem.W.nsIn K mainGlobals "MOST_K" = some (some (.int 60 tk_MOST_K)))
    (v_MOST_MODULUS : PySem.W.nsIn K mainGlobals "MOST_MODULUS" = some (some (.int 60 tk_MOST_MODULUS)))
    (v_MOST_NUMBER : PySem.W.nsIn K mainGlobals "MOST_NUMBER" = some (some (.int 1000 tk_MOST_NUMBER)))
    (v_MOST_NUMBERS : PySem.W.nsIn K mainGlobals "MOST_NUMBERS" = some (some (.int 40 tk_MOST_NUMBERS)))
    (v_MOST_PRIME : PySem.W.nsIn K mainGlobals "MOST_PRIME" = some (some (.int 2000 tk_MOST_PRIME)))
    (v_gcd : PySem.W.nsIn K mainGlobals "gcd" = some (some (.builtin "math.gcd")))
    (q0_BadLot : PySem.W.nsIn K mainGlobals "BadLot" = some (some (.ref A_BadLot)))
    (q1_BadLot : PySem.W.excIn K A_BadLot [.type "ValueError", .type "Exception", .type "BaseException", .type "object"] "ValueError.__new__" = true)
    (q2_BadLot : PySem.W.keepIn K (.ref A_BadLot) = true)
    (q3_BadLot : PySem.W.subIn K (.ref A_BadLot) (.type "BaseException") = some true)
    (q4_BadLot : PySem.W.typeIn K (.ref A_BadLot) = some (.type "type"))
    (q5_BadLot : PySem.W.findIn K (.ref A_BadLot) "__getattribute__" = some (some (.builtin "BaseException.__getattribute__")))
    (q6_BadLot : PySem.W.findIn K (.ref A_BadLot) "__getattr__" = some none)
    (q7_BadLot : PySem.W.hasDictIn K A_BadLot = true)
    (q8_BadLot : PySem.W.findIn K (.ref A_BadLot) "__class__" = some (some (.builtin "object.__class__")))
    (q9_BadLot : PySem.W.mroIn K A_BadLot (.type "object") = some true)
    (q0_BadMany : PySem.W.nsIn K mainGlobals "BadMany" = some (some (.ref A_BadMany)))
    (q1_BadMany : PySem.W.excIn K A_BadMany [.type "ValueError", .type "Exception", .type "BaseException", .type "object"] "ValueError.__new__" = true)
    (q2_BadMany : PySem.W.keepIn K (.ref A_BadMany) = true)
    (q3_BadMany : PySem.W.subIn K (.ref A_BadMany) (.type "BaseException") = some true)
    (q4_BadMany : PySem.W.typeIn K (.ref A_BadMany) = some (.type "type"))
    (q5_BadMany : PySem.W.findIn K (.ref A_BadMany) "__getattribute__" = some (some (.builtin "BaseException.__getattribute__")))
    (q6_BadMany : PySem.W.findIn K (.ref A_BadMany) "__getattr__" = some none)
    (q7_BadMany : PySem.W.hasDictIn K A_BadMany = true)
    (q8_BadMany : PySem.W.findIn K (.ref A_BadMany) "__class__" = some (some (.builtin "object.__class__")))
    (q9_BadMany : PySem.W.mroIn K A_BadMany (.type "object") = some true)
    (q0_BadPrime : PySem.W.nsIn K mainGlobals "BadPrime" = some (some (.ref A_BadPrime)))
    (q1_BadPrime : PySem.W.excIn K A_BadPrime [.type "ValueError", .type "Exception", .type "BaseException", .type "object"] "ValueError.__new__" = true)
    (q2_BadPrime : PySem.W.keepIn K (.ref A_BadPrime) = true)
    (q3_BadPrime : PySem.W.subIn K (.ref A_BadPrime) (.type "BaseException") = some true)
    (q4_BadPrime : PySem.W.typeIn K (.ref A_BadPrime) = some (.type "type"))
    (q5_BadPrime : PySem.W.findIn K (.ref A_BadPrime) "__getattribute__" = some (some (.builtin "BaseException.__getattribute__")))
    (q6_BadPrime : PySem.W.findIn K (.ref A_BadPrime) "__getattr__" = some none)
    (q7_BadPrime : PySem.W.hasDictIn K A_BadPrime = true)
    (q8_BadPrime : PySem.W.findIn K (.ref A_BadPrime) "__class__" = some (some (.builtin "object.__class__")))
    (q9_BadPrime : PySem.W.mroIn K A_BadPrime (.type "object") = some true)
    (q0_LotError : PySem.W.nsIn K mainGlobals "LotError" = some (some (.ref A_LotError)))
    (q1_LotError : PySem.W.excIn K A_LotError [.type "ValueError", .type "Exception", .type "BaseException", .type "object"] "ValueError.__new__" = true)
    (q2_LotError : PySem.W.keepIn K (.ref A_LotError) = true)
    (q3_LotError : PySem.W.subIn K (.ref A_LotError) (.type "BaseException") = some true)
    (q4_LotError : PySem.W.typeIn K (.ref A_LotError) = some (.type "type"))
    (q5_LotError : PySem.W.findIn K (.ref A_LotError) "__getattribute__" = some (some (.builtin "BaseException.__getattribute__")))
    (q6_LotError : PySem.W.findIn K (.ref A_LotError) "__getattr__" = some none)
    (q7_LotError : PySem.W.hasDictIn K A_LotError = true)
    (q8_LotError : PySem.W.findIn K (.ref A_LotError) "__class__" = some (some (.builtin "object.__class__")))
    (q9_LotError : PySem.W.mroIn K A_LotError (.type "object") = some true)
    (s1 : PySem.W.specialIn K (.builtin "object.__class__") "__get__" = some (some (.builtin "getset_descriptor.__get__")))
    (s2 : PySem.W.takesIn K (.builtin "object.__class__") = some true)
    (j_LotError_BadLot : PySem.W.subIn K (.ref A_LotError) (.ref A_BadLot) = some false)
    (d_LotError_BadLot : A_LotError ≠ A_BadLot)
    (j_BadLot_BadLot : PySem.W.subIn K (.ref A_BadLot) (.ref A_BadLot) = some true)
    (j_BadMany_BadLot : PySem.W.subIn K (.ref A_BadMany) (.ref A_BadLot) = some false)
    (d_BadMany_BadLot : A_BadMany ≠ A_BadLot)
    (j_BadPrime_BadLot : PySem.W.subIn K (.ref A_BadPrime) (.ref A_BadLot) = some false)
    (d_BadPrime_BadLot : A_BadPrime ≠ A_BadLot)
    (j_LotError_BadMany : PySem.W.subIn K (.ref A_LotError) (.ref A_BadMany) = some false)
    (d_LotError_BadMany : A_LotError ≠ A_BadMany)
    (j_BadLot_BadMany : PySem.W.subIn K (.ref A_BadLot) (.ref A_BadMany) = some false)
    (d_BadLot_BadMany : A_BadLot ≠ A_BadMany)
    (j_BadMany_BadMany : PySem.W.subIn K (.ref A_BadMany) (.ref A_BadMany) = some true)
    (j_BadPrime_BadMany : PySem.W.subIn K (.ref A_BadPrime) (.ref A_BadMany) = some false)
    (d_BadPrime_BadMany : A_BadPrime ≠ A_BadMany)
    (j_LotError_BadPrime : PySem.W.subIn K (.ref A_LotError) (.ref A_BadPrime) = some false)
    (d_LotError_BadPrime : A_LotError ≠ A_BadPrime)
    (j_BadLot_BadPrime : PySem.W.subIn K (.ref A_BadLot) (.ref A_BadPrime) = some false)
    (d_BadLot_BadPrime : A_BadLot ≠ A_BadPrime)
    (j_BadMany_BadPrime : PySem.W.subIn K (.ref A_BadMany) (.ref A_BadPrime) = some false)
    (d_BadMany_BadPrime : A_BadMany ≠ A_BadPrime)
    (j_BadPrime_BadPrime : PySem.W.subIn K (.ref A_BadPrime) (.ref A_BadPrime) = some true)
    (x_LotError : PySem.W.subIn K (.ref A_LotError) (.ref A_LotError) = some true)
    (x_BadLot : PySem.W.subIn K (.ref A_BadLot) (.ref A_LotError) = some true)
    (x_BadMany : PySem.W.subIn K (.ref A_BadMany) (.ref A_LotError) = some true)
    (x_BadPrime : PySem.W.subIn K (.ref A_BadPrime) (.ref A_LotError) = some true) : LamX.LawAtS l w K (L2.CX l.prog w) 8 63 "script" mg fa h := by
  obtain ⟨Γ, hΓ⟩ : ∃ Γ : String → Addr, Γ = look [("_law_begun", A_law_begun), ("_law_has", A_law_has), ("_law_power_in", A_law_power_in), ("_law_sample", A_law_sample), ("_law_row", A_law_row), ("_law_first_order", A_law_first_order), ("_law_mixed", A_law_mixed), ("_law_take", A_law_take), ("_law_pick", A_law_pick), ("_law_endless_lot", A_law_endless_lot), ("_law_finite_lot", A_law_finite_lot), ("_law_lot", A_law_lot), ("_law_odd", A_law_odd), ("_law_no_lot", A_law_no_lot), ("_law_no_prime", A_law_no_prime), ("_law_kinds", A_law_kinds), ("_law_says", A_law_says), ("has_by", A_has_by), ("power_in", A_power_in), ("power_behind", A_power_behind), ("nearest", A_nearest), ("is_endless", A_is_endless), ("is_end", A_is_end), ("merged", A_merged), ("trimmed_lot", A_trimmed_lot), ("part_by", A_part_by), ("plain_row", A_plain_row), ("rests_of", A_rests_of), ("row_by", A_row_by), ("first_order_by", A_first_order_by), ("is_number", A_is_number), ("is_rising", A_is_rising), ("is_lot_of", A_is_lot_of), ("need_lot", A_need_lot), ("need_many", A_need_many), ("is_prime", A_is_prime), ("need_prime", A_need_prime), ("first_order", A_first_order), ("law", A_law), ("_law_caught", A_law_caught), ("BadLot", A_BadLot), ("BadMany", A_BadMany), ("BadPrime", A_BadPrime), ("LotError", A_LotError)] := ⟨_, rfl⟩
  have e_law_begun : Γ "_law_begun" = A_law_begun := by rw [hΓ]; exact look_hd
  have e_law_has : Γ "_law_has" = A_law_has := by rw [hΓ]; exact (look_tl (by decide)).trans <| look_hd
  have e_law_power_in : Γ "_law_power_in" = A_law_power_in := by rw [hΓ]; exact (look_tl (by decide)).trans <| (look_tl (by decide)).trans <| look_hd
  have e_law_sample : Γ "_law_sample" = A_law_sample := by rw [hΓ]; exact (look_tl (by decide)).trans <| (look_tl (by decide)).trans <| (look_tl (by decide)).trans <| look_hd
  have e_law_row : Γ "_law_row" = A_law_row := by rw [hΓ]; exact (look_tl (by decide)).trans <| (look_tl (by decide)).trans <| (look_tl (by decide)).trans <| (look_tl (by decide)).trans <| look_hd
  have e_law_first_order : Γ "_law_first_order" = A_law_first_order := by rw [hΓ]; exact (look_tl (by decide)).trans <| (look_tl (by decide)).trans <| (look_tl (by decide)).trans <| (look_tl (by decide)).trans <| (look_tl (by decide)).trans <| look_hd
  have e_law_mixed : Γ "_law_mixed" = A_law_mixed := by rw [hΓ]; exact (look_tl (by decide)).trans <| (look_tl (by decide)).trans <| (look_tl (by decide)).trans <| (look_tl (by decide)).trans <| (look_tl (by decide)).trans <| (look_tl (by decide)).trans <| look_hd
  have e_law_take : Γ "_law_take" = A_law_take := by rw [hΓ]; exact (look_tl (by decide)).trans <| (look_tl (by decide)).trans <| (look_tl (by decide)).trans <| (look_tl (by decide)).trans <| (look_tl (by decide)).trans <| (look_tl (by decide)).trans <| (look_tl (by decide)).trans <| look_hd
  have e_law_pick : Γ "_law_pick" = A_law_pick := by rw [hΓ]; exact (look_tl (by decide)).trans <| (look_tl (by decide)).trans <| (look_tl (by decide)).trans <| (look_tl (by decide)).trans <| (look_tl (by decide)).trans <| (look_tl (by decide)).trans <| (look_tl (by decide)).trans <| (look_tl (by decide)).trans <| look_hd
  have e_law_endless_lot : Γ "_law_endless_lot" = A_law_endless_lot := by rw [hΓ]; exact (look_tl (by decide)).trans <| (look_tl (by decide)).trans <| (look_tl (by decide)).trans <| (look_tl (by decide)).trans <| (look_tl (by decide)).trans <| (look_tl (by decide)).trans <| (look_tl (by decide)).trans <| (look_tl (by decide)).trans <| (look_tl (by decide)).trans <| look_hd
  have e_law_finite_lot : Γ "_law_finite_lot" = A_law_finite_lot := by rw [hΓ]; exact (look_tl (by decide)).trans <| (look_tl (by decide)).trans <| (look_tl (by decide)).trans <| (look_tl (by decide)).trans <| (look_tl (by decide)).trans <| (look_tl (by decide)).trans <| (look_tl (by decide)).trans <| (look_tl (by decide)).trans <| (look_tl (by decide)).trans <| (look_tl (by decide)).trans <| look_hd
  have e_law_lot : Γ "_law_lot" = A_law_lot := by rw [hΓ]; exact (look_tl (by decide)).trans <| (look_tl (by decide)).trans <| (look_tl (by decide)).trans <| (look_tl (by decide)).trans <| (look_tl (by decide)).trans <| (look_tl (by decide)).trans <| (look_tl (by decide)).trans <| (look_tl (by decide)).trans <| (look_tl (by decide)).trans <| (look_tl (by decide)).trans <| (look_tl (by decide)).trans <| look_hd
  have e_law_odd : Γ "_law_odd" = A_law_odd := by rw [hΓ]; exact (look_tl (by decide)).trans <| (look_tl (by decide)).trans <| (look_tl (by decide)).trans <| (look_tl (by decide)).trans <| (look_tl (by decide)).trans <| (look_tl (by decide)).trans <| (look_tl (by decide)).trans <| (look_tl (by decide)).trans <| (look_tl (by decide)).trans <| (look_tl (by decide)).trans <| (look_tl (by decide)).trans <| (look_tl (by decide)).trans <| look_hd
  have e_law_no_lot : Γ "_law_no_lot" = A_law_no_lot := by rw [hΓ]; exact (look_tl (by decide)).trans <| (look_tl (by decide)).trans <| (look_tl (by decide)).trans <| (look_tl (by decide)).trans <| (look_tl (by decide)).trans <| (look_tl (by decide)).trans <| (look_tl (by decide)).trans <| (look_tl (by decide)).trans <| (look_tl (by decide)).trans <| (look_tl (by decide)).trans <| (look_tl (by decide)).trans <| (look_tl (by decide)).trans <| (look_tl (by decide)).trans <| look_hd
  have e_law_no_prime : Γ "_law_no_prime" = A_law_no_prime := by rw [hΓ]; exact (look_tl (by decide)).trans <| (look_tl (by decide)).trans <| (look_tl (by decide)).trans <| (look_tl (by decide)).trans <| (look_tl (by decide)).trans <| (look_tl (by decide)).trans <| (look_tl (by decide)).trans <| (look_tl (by decide)).trans <| (look_tl (by decide)).trans <| (look_tl (by decide)).trans <| (look_tl (by decide)).trans <| (look_tl (by decide)).trans <| (look_tl (by decide)).trans <| (look_tl (by decide)).trans <| look_hd
  have e_law_kinds : Γ "_law_kinds" = A_law_kinds := by rw [hΓ]; exact (look_tl (by decide)).trans <| (look_tl (by decide)).trans <| (look_tl (by decide)).trans <| (look_tl (by decide)).trans <| (look_tl (by decide)).trans <| (look_tl (by decide)).trans <| (look_tl (by decide)).trans <| (look_tl (by decide)).trans <| (look_tl (by decide)).trans <| (look_tl (by decide)).trans <| (look_tl (by decide)).trans <| (look_tl (by decide)).trans <| (look_tl (by decide)).trans <| (look_tl (by decide)).trans <| (look_tl (by decide)).trans <| look_hd
  have e_law_says : Γ "_law_says" = A_law_says := by rw [hΓ]; exact (look_tl (by decide)).trans <| (look_tl (by decide)).trans <| (look_tl (by decide)).trans <| (look_tl (by decide)).trans <| (look_tl (by decide)).trans <| (look_tl (by decide)).trans <| (look_tl (by decide)).trans <| (look_tl (by decide)).trans <| (look_tl (by decide)).trans <| (look_tl (by decide)).trans <| (look_tl (by decide)).trans <| (look_tl (by decide)).trans <| (look_tl (by decide)).trans <| (look_tl (by decide)).trans <| (look_tl (by decide)).trans <| (look_tl (by decide)).trans <| look_hd
  have e_has_by : Γ "has_by" = A_has_by := by rw [hΓ]; exact (look_tl (by decide)).trans <| (look_tl (by decide)).trans <| (look_tl (by decide)).trans <| (look_tl (by decide)).trans <| (look_tl (by decide)).trans <| (look_tl (by decide)).trans <| (look_tl (by decide)).trans <| (look_tl (by decide)).trans <| (look_tl (by decide)).trans <| (look_tl (by decide)).trans <| (look_tl (by decide)).trans <| (look_tl (by decide)).trans <| (look_tl (by decide)).trans <| (look_tl (by decide)).trans <| (look_tl (by decide)).trans <| (look_tl (by decide)).trans <| (look_tl (by decide)).trans <| look_hd
  have e_power_in : Γ "power_in" = A_power_in := by rw [hΓ]; exact (look_tl (by decide)).trans <| (look_tl (by decide)).trans <| (look_tl (by decide)).trans <| (look_tl (by decide)).trans <| (look_tl (by decide)).trans <| (look_tl (by decide)).trans <| (look_tl (by decide)).trans <| (look_tl (by decide)).trans <| (look_tl (by decide)).trans <| (look_tl (by decide)).trans <| (look_tl (by decide)).trans <| (look_tl (by decide)).trans <| (look_tl (by decide)).trans <| (look_tl (by decide)).trans <| (look_tl (by decide)).trans <| (look_tl (by decide)).trans <| (look_tl (by decide)).trans <| (look_tl (by decide)).trans <| look_hd
  have e_power_behind : Γ "power_behind" = A_power_behind := by rw [hΓ]; exact (look_tl (by decide)).trans <| (look_tl (by decide)).trans <| (look_tl (by decide)).trans <| (look_tl (by decide)).trans <| (look_tl (by decide)).trans <| (look_tl (by decide)).trans <| (look_tl (by decide)).trans <| (look_tl (by decide)).trans <| (look_tl (by decide)).trans <| (look_tl (by decide)).trans <| (look_tl (by decide)).trans <| (look_tl (by decide)).trans <| (look_tl (by decide)).trans <| (look_tl (by decide)).trans <| (look_tl (by decide)).trans <| (look_tl (by decide)).trans <| (look_tl (by decide)).trans <| (look_tl (by decide)).trans <| (look_tl (by decide)).trans <| look_hd
  have e_nearest : Γ "nearest" = A_nearest := by rw [hΓ]; exact (look_tl (by decide)).trans <| (look_tl (by decide)).trans <| (look_tl (by decide)).trans <| (look_tl (by decide)).trans <| (look_tl (by decide)).trans <| (look_tl (by decide)).trans <| (look_tl (by decide)).trans <| (look_tl (by decide)).trans <| (look_tl (by decide)).trans <| (look_tl (by decide)).trans <| (look_tl (by decide)).trans <| (look_tl (by decide)).trans <| (look_tl (by decide)).trans <| (look_tl (by decide)).trans <| (look_tl (by decide)).trans <| (look_tl (by decide)).trans <| (look_tl (by decide)).trans <| (look_tl (by decide)).trans <| (look_tl (by decide)).trans <| (look_tl (by decide)).trans <| look_hd
  have e_is_endless : Γ "is_endless" = A_is_endless := by rw [hΓ]; exact (look_tl (by decide)).trans <| (look_tl (by decide)).trans <| (look_tl (by decide)).trans <| (look_tl (by decide)).trans <| (look_tl (by decide)).trans <| (look_tl (by decide)).trans <| (look_tl (by decide)).trans <| (look_tl (by decide)).trans <| (look_tl (by decide)).trans <| (look_tl (by decide)).trans <| (look_tl (by decide)).trans <| (look_tl (by decide)).trans <| (look_tl (by decide)).trans <| (look_tl (by decide)).trans <| (look_tl (by decide)).trans <| (look_tl (by decide)).trans <| (look_tl (by decide)).trans <| (look_tl (by decide)).trans <| (look_tl (by decide)).trans <| (look_tl (by decide)).trans <| (look_tl (by decide)).trans <| look_hd
  have e_is_end : Γ "is_end" = A_is_end := by rw [hΓ]; exact (look_tl (by decide)).trans <| (look_tl (by decide)).trans <| (look_tl (by decide)).trans <| (look_tl (by decide)).trans <| (look_tl (by decide)).trans <| (look_tl (by decide)).trans <| (look_tl (by decide)).trans <| (look_tl (by decide)).trans <| (look_tl (by decide)).trans <| (look_tl (by decide)).trans <| (look_tl (by decide)).trans <| (look_tl (by decide)).trans <| (look_tl (by decide)).trans <| (look_tl (by decide)).trans <| (look_tl (by decide)).trans <| (look_tl (by decide)).trans <| (look_tl (by decide)).trans <| (look_tl (by decide)).trans <| (look_tl (by decide)).trans <| (look_tl (by decide)).trans <| (look_tl (by decide)).trans <| (look_tl (by decide)).trans <| look_hd
  have e_merged : Γ "merged" = A_merged := by rw [hΓ]; exact (look_tl (by decide)).trans <| (look_tl (by decide)).trans <| (look_tl (by decide)).trans <| (look_tl (by decide)).trans <| (look_tl (by decide)).trans <| (look_tl (by decide)).trans <| (look_tl (by decide)).trans <| (look_tl (by decide)).trans <| (look_tl (by decide)).trans <| (look_tl (by decide)).trans <| (look_tl (by decide)).trans <| (look_tl (by decide)).trans <| (look_tl (by decide)).trans <| (look_tl (by decide)).trans <| (look_tl (by decide)).trans <| (look_tl (by decide)).trans <| (look_tl (by decide)).trans <| (look_tl (by decide)).trans <| (look_tl (by decide)).trans <| (look_tl (by decide)).trans <| (look_tl (by decide)).trans <| (look_tl (by decide)).trans <| (look_tl (by decide)).trans <| look_hd
  have e_trimmed_lot : Γ "trimmed_lot" = A_trimmed_lot := by rw [hΓ]; exact (look_tl (by decide)).trans <| (look_tl (by decide)).trans <| (look_tl (by decide)).trans <| (look_tl (by decide)).trans <| (look_tl (by decide)).trans <| (look_tl (by decide)).trans <| (look_tl (by decide)).trans <| (look_tl (by decide)).trans <| (look_tl (by decide)).trans <| (look_tl (by decide)).trans <| (look_tl (by decide)).trans <| (look_tl (by decide)).trans <| (look_tl (by decide)).trans <| (look_tl (by decide)).trans <| (look_tl (by decide)).trans <| (look_tl (by decide)).trans <| (look_tl (by decide)).trans <| (look_tl (by decide)).trans <| (look_tl (by decide)).trans <| (look_tl (by decide)).trans <| (look_tl (by decide)).trans <| (look_tl (by decide)).trans <| (look_tl (by decide)).trans <| (look_tl (by decide)).trans <| look_hd
  have e_part_by : Γ "part_by" = A_part_by := by rw [hΓ]; exact (look_tl (by decide)).trans <| (look_tl (by decide)).trans <| (look_tl (by decide)).trans <| (look_tl (by decide)).trans <| (look_tl (by decide)).trans <| (look_tl (by decide)).trans <| (look_tl (by decide)).trans <| (look_tl (by decide)).trans <| (look_tl (by decide)).trans <| (look_tl (by decide)).trans <| (look_tl (by decide)).trans <| (look_tl (by decide)).trans <| (look_tl (by decide)).trans <| (look_tl (by decide)).trans <| (look_tl (by decide)).trans <| (look_tl (by decide)).trans <| (look_tl (by decide)).trans <| (look_tl (by decide)).trans <| (look_tl (by decide)).trans <| (look_tl (by decide)).trans <| (look_tl (by decide)).trans <| (look_tl (by decide)).trans <| (look_tl (by decide)).trans <| (look_tl (by decide)).trans <| (look_tl (by decide)).trans <| look_hd
  have e_plain_row : Γ "plain_row" = A_plain_row := by rw [hΓ]; exact (look_tl (by decide)).trans <| (look_tl (by decide)).trans <| (look_tl (by decide)).trans <| (look_tl (by decide)).trans <| (look_tl (by decide)).trans <| (look_tl (by decide)).trans <| (look_tl (by decide)).trans <| (look_tl (by decide)).trans <| (look_tl (by decide)).trans <| (look_tl (by decide)).trans <| (look_tl (by decide)).trans <| (look_tl (by decide)).trans <| (look_tl (by decide)).trans <| (look_tl (by decide)).trans <| (look_tl (by decide)).trans <| (look_tl (by decide)).trans <| (look_tl (by decide)).trans <| (look_tl (by decide)).trans <| (look_tl (by decide)).trans <| (look_tl (by decide)).trans <| (look_tl (by decide)).trans <| (look_tl (by decide)).trans <| (look_tl (by decide)).trans <| (look_tl (by decide)).trans <| (look_tl (by decide)).trans <| (look_tl (by decide)).trans <| look_hd
  have e_rests_of : Γ "rests_of" = A_rests_of := by rw [hΓ]; exact (look_tl (by decide)).trans <| (look_tl (by decide)).trans <| (look_tl (by decide)).trans <| (look_tl (by decide)).trans <| (look_tl (by decide)).trans <| (look_tl (by decide)).trans <| (look_tl (by decide)).trans <| (look_tl (by decide)).trans <| (look_tl (by decide)).trans <| (look_tl (by decide)).trans <| (look_tl (by decide)).trans <| (look_tl (by decide)).trans <| (look_tl (by decide)).trans <| (look_tl (by decide)).trans <| (look_tl (by decide)).trans <| (look_tl (by decide)).trans <| (look_tl (by decide)).trans <| (look_tl (by decide)).trans <| (look_tl (by decide)).trans <| (look_tl (by decide)).trans <| (look_tl (by decide)).trans <| (look_tl (by decide)).trans <| (look_tl (by decide)).trans <| (look_tl (by decide)).trans <| (look_tl (by decide)).trans <| (look_tl (by decide)).trans <| (look_tl (by decide)).trans <| look_hd
  have e_row_by : Γ "row_by" = A_row_by := by rw [hΓ]; exact (look_tl (by decide)).trans <| (look_tl (by decide)).trans <| (look_tl (by decide)).trans <| (look_tl (by decide)).trans <| (look_tl (by decide)).trans <| (look_tl (by decide)).trans <| (look_tl (by decide)).trans <| (look_tl (by decide)).trans <| (look_tl (by decide)).trans <| (look_tl (by decide)).trans <| (look_tl (by decide)).trans <| (look_tl (by decide)).trans <| (look_tl (by decide)).trans <| (look_tl (by decide)).trans <| (look_tl (by decide)).trans <| (look_tl (by decide)).trans <| (look_tl (by decide)).trans <| (look_tl (by decide)).trans <| (look_tl (by decide)).trans <| (look_tl (by decide)).trans <| (look_tl (by decide)).trans <| (look_tl (by decide)).trans <| (look_tl (by decide)).trans <| (look_tl (by decide)).trans <| (look_tl (by decide)).trans <| (look_tl (by decide)).trans <| (look_tl (by decide)).trans <| (look_tl (by decide)).trans <| look_hd
  have e_first_order_by : Γ "first_order_by" = A_first_order_by := by rw [hΓ]; exact (look_tl (by decide)).trans <| (look_tl (by decide)).trans <| (look_tl (by decide)).trans <| (look_tl (by decide)).trans <| (look_tl (by decide)).trans <| (look_tl (by decide)).trans <| (look_tl (by decide)).trans <| (look_tl (by decide)).trans <| (look_tl (by decide)).trans <| (look_tl (by decide)).trans <| (look_tl (by decide)).trans <| (look_tl (by decide)).trans <| (look_tl (by decide)).trans <| (look_tl (by decide)).trans <| (look_tl (by decide)).trans <| (look_tl (by decide)).trans <| (look_tl (by decide)).trans <| (look_tl (by decide)).trans <| (look_tl (by decide)).trans <| (look_tl (by decide)).trans <| (look_tl (by decide)).trans <| (look_tl (by decide)).trans <| (look_tl (by decide)).trans <| (look_tl (by decide)).trans <| (look_tl (by decide)).trans <| (look_tl (by decide)).trans <| (look_tl (by decide)).trans <| (look_tl (by decide)).trans <| (look_tl (by decide)).trans <| look_hd
  have e_is_number : Γ "is_number" = A_is_number := by rw [hΓ]; exact (look_tl (by decide)).trans <| (look_tl (by decide)).trans <| (look_tl (by decide)).trans <| (look_tl (by decide)).trans <| (look_tl (by decide)).trans <| (look_tl (by decide)).trans <| (look_tl (by decide)).trans <| (look_tl (by decide)).trans <| (look_tl (by decide)).trans <| (look_tl (by decide)).trans <| (look_tl (by decide)).trans <| (look_tl (by decide)).trans <| (look_tl (by decide)).trans <| (look_tl (by decide)).trans <| (look_tl (by decide)).trans <| (look_tl (by decide)).trans <| (look_tl (by decide)).trans <| (look_tl (by decide)).trans <| (look_tl (by decide)).trans <| (look_tl (by decide)).trans <| (look_tl (by decide)).trans <| (look_tl (by decide)).trans <| (look_tl (by decide)).trans <| (look_tl (by decide)).trans <| (look_tl (by decide)).trans <| (look_tl (by decide)).trans <| (look_tl (by decide)).trans <| (look_tl (by decide)).trans <| (look_tl (by decide)).trans <| (look_tl (by decide)).trans <| look_hd
  have e_is_rising : Γ "is_rising" = A_is_rising := by rw [hΓ]; exact (look_tl (by decide)).trans <| (look_tl (by decide)).trans <| (look_tl (by decide)).trans <| (look_tl (by decide)).trans <| (look_tl (by decide)).trans <| (look_tl (by decide)).trans <| (look_tl (by decide)).trans <| (look_tl (by decide)).trans <| (look_tl (by decide)).trans <| (look_tl (by decide)).trans <| (look_tl (by decide)).trans <| (look_tl (by decide)).trans <| (look_tl (by decide)).trans <| (look_tl (by decide)).trans <| (look_tl (by decide)).trans <| (look_tl (by decide)).trans <| (look_tl (by decide)).trans <| (look_tl (by decide)).trans <| (look_tl (by decide)).trans <| (look_tl (by decide)).trans <| (look_tl (by decide)).trans <| (look_tl (by decide)).trans <| (look_tl (by decide)).trans <| (look_tl (by decide)).trans <| (look_tl (by decide)).trans <| (look_tl (by decide)).trans <| (look_tl (by decide)).trans <| (look_tl (by decide)).trans <| (look_tl (by decide)).trans <| (look_tl (by decide)).trans <| (look_tl (by decide)).trans <| look_hd
  have e_is_lot_of : Γ "is_lot_of" = A_is_lot_of := by rw [hΓ]; exact (look_tl (by decide)).trans <| (look_tl (by decide)).trans <| (look_tl (by decide)).trans <| (look_tl (by decide)).trans <| (look_tl (by decide)).trans <| (look_tl (by decide)).trans <| (look_tl (by decide)).trans <| (look_tl (by decide)).trans <| (look_tl (by decide)).trans <| (look_tl (by decide)).trans <| (look_tl (by decide)).trans <| (look_tl (by decide)).trans <| (look_tl (by decide)).trans <| (look_tl (by decide)).trans <| (look_tl (by decide)).trans <| (look_tl (by decide)).trans <| (look_tl (by decide)).trans <| (look_tl (by decide)).trans <| (look_tl (by decide)).trans <| (look_tl (by decide)).trans <| (look_tl (by decide)).trans <| (look_tl (by decide)).trans <| (look_tl (by decide)).trans <| (look_tl (by decide)).trans <| (look_tl (by decide)).trans <| (look_tl (by decide)).trans <| (look_tl (by decide)).trans <| (look_tl (by decide)).trans <| (look_tl (by decide)).trans <| (look_tl (by decide)).trans <| (look_tl (by decide)).trans <| (look_tl (by decide)).trans <| look_hd
  have e_need_lot : Γ "need_lot" = A_need_lot := by rw [hΓ]; exact (look_tl (by decide)).trans <| (look_tl (by decide)).trans <| (look_tl (by decide)).trans <| (look_tl (by decide)).trans <| (look_tl (by decide)).trans <| (look_tl (by decide)).trans <| (look_tl (by decide)).trans <| (look_tl (by decide)).trans <| (look_tl (by decide)).trans <| (look_tl (by decide)).trans <| (look_tl (by decide)).trans <| (look_tl (by decide)).trans <| (look_tl (by decide)).trans <| (look_tl (by decide)).trans <| (look_tl (by decide)).trans <| (look_tl (by decide)).trans <| (look_tl (by decide)).trans <| (look_tl (by decide)).trans <| (look_tl (by decide)).trans <| (look_tl (by decide)).trans <| (look_tl (by decide)).trans <| (look_tl (by decide)).trans <| (look_tl (by decide)).trans <| (look_tl (by decide)).trans <| (look_tl (by decide)).trans <| (look_tl (by decide)).trans <| (look_tl (by decide)).trans <| (look_tl (by decide)).trans <| (look_tl (by decide)).trans <| (look_tl (by decide)).trans <| (look_tl (by decide)).trans <| (look_tl (by decide)).trans <| (look_tl (by decide)).trans <| look_hd
  have e_need_many : Γ "need_many" = A_need_many := by rw [hΓ]; exact (look_tl (by decide)).trans <| (look_tl (by decide)).trans <| (look_tl (by decide)).trans <| (look_tl (by decide)).trans <| (look_tl (by decide)).trans <| (look_tl (by decide)).trans <| (look_tl (by decide)).trans <| (look_tl (by decide)).trans <| (look_tl (by decide)).trans <| (look_tl (by decide)).trans <| (look_tl (by decide)).trans <| (look_tl (by decide)).trans <| (look_tl (by decide)).trans <| (look_tl (by decide)).trans <| (look_tl (by decide)).trans <| (look_tl (by decide)).trans <| (look_tl (by decide)).trans <| (look_tl (by decide)).trans <| (look_tl (by decide)).trans <| (look_tl (by decide)).trans <| (look_tl (by decide)).trans <| (look_tl (by decide)).trans <| (look_tl (by decide)).trans <| (look_tl (by decide)).trans <| (look_tl (by decide)).trans <| (look_tl (by decide)).trans <| (look_tl (by decide)).trans <| (look_tl (by decide)).trans <| (look_tl (by decide)).trans <| (look_tl (by decide)).trans <| (look_tl (by decide)).trans <| (look_tl (by decide)).trans <| (look_tl (by decide)).trans <| (look_tl (by decide)).trans <| look_hd
  have e_is_prime : Γ "is_prime" = A_is_prime := by rw [hΓ]; exact (look_tl (by decide)).trans <| (look_tl (by decide)).trans <| (look_tl (by decide)).trans <| (look_tl (by decide)).trans <| (look_tl (by decide)).trans <| (look_tl (by decide)).trans <| (look_tl (by decide)).trans <| (look_tl (by decide)).trans <| (look_tl (by decide)).trans <| (look_tl (by decide)).trans <| (look_tl (by decide)).trans <| (look_tl (by decide)).trans <| (look_tl (by decide)).trans <| (look_tl (by decide)).trans <| (look_tl (by decide)).trans <| (look_tl (by decide)).trans <| (look_tl (by decide)).trans <| (look_tl (by decide)).trans <| (look_tl (by decide)).trans <| (look_tl (by decide)).trans <| (look_tl (by decide)).trans <| (look_tl (by decide)).trans <| (look_tl (by decide)).trans <| (look_tl (by decide)).trans <| (look_tl (by decide)).trans <| (look_tl (by decide)).trans <| (look_tl (by decide)).trans <| (look_tl (by decide)).trans <| (look_tl (by decide)).trans <| (look_tl (by decide)).trans <| (look_tl (by decide)).trans <| (look_tl (by decide)).trans <| (look_tl (by decide)).trans <| (look_tl (by decide)).trans <| (look_tl (by decide)).trans <| look_hd
  have e_need_prime : Γ "need_prime" = A_need_prime := by rw [hΓ]; exact (look_tl (by decide)).trans <| (look_tl (by decide)).trans <| (look_tl (by decide)).trans <| (look_tl (by decide)).trans <| (look_tl (by decide)).trans <| (look_tl (by decide)).trans <| (look_tl (by decide)).trans <| (look_tl (by decide)).trans <| (look_tl (by decide)).trans <| (look_tl (by decide)).trans <| (look_tl (by decide)).trans <| (look_tl (by decide)).trans <| (look_tl (by decide)).trans <| (look_tl (by decide)).trans <| (look_tl (by decide)).trans <| (look_tl (by decide)).trans <| (look_tl (by decide)).trans <| (look_tl (by decide)).trans <| (look_tl (by decide)).trans <| (look_tl (by decide)).trans <| (look_tl (by decide)).trans <| (look_tl (by decide)).trans <| (look_tl (by decide)).trans <| (look_tl (by decide)).trans <| (look_tl (by decide)).trans <| (look_tl (by decide)).trans <| (look_tl (by decide)).trans <| (look_tl (by decide)).trans <| (look_tl (by decide)).trans <| (look_tl (by decide)).trans <| (look_tl (by decide)).trans <| (look_tl (by decide)).trans <| (look_tl (by decide)).trans <| (look_tl (by decide)).trans <| (look_tl (by decide)).trans <| (look_tl (by decide)).trans <| look_hd
  have e_first_order : Γ "first_order" = A_first_order := by rw [hΓ]; exact (look_tl (by decide)).trans <| (look_tl (by decide)).trans <| (look_tl (by decide)).trans <| (look_tl (by decide)).trans <| (look_tl (by decide)).trans <| (look_tl (by decide)).trans <| (look_tl (by decide)).trans <| (look_tl (by decide)).trans <| (look_tl (by decide)).trans <| (look_tl (by decide)).trans <| (look_tl (by decide)).trans <| (look_tl (by decide)).trans <| (look_tl (by decide)).trans <| (look_tl (by decide)).trans <| (look_tl (by decide)).trans <| (look_tl (by decide)).trans <| (look_tl (by decide)).trans <| (look_tl (by decide)).trans <| (look_tl (by decide)).trans <| (look_tl (by decide)).trans <| (look_tl (by decide)).trans <| (look_tl (by decide)).trans <| (look_tl (by decide)).trans <| (look_tl (by decide)).trans <| (look_tl (by decide)).trans <| (look_tl (by decide)).trans <| (look_tl (by decide)).trans <| (look_tl (by decide)).trans <| (look_tl (by decide)).trans <| (look_tl (by decide)).trans <| (look_tl (by decide)).trans <| (look_tl (by decide)).trans <| (look_tl (by decide)).trans <| (look_tl (by decide)).trans <| (look_tl (by decide)).trans <| (look_tl (by decide)).trans <| (look_tl (by decide)).trans <| look_hd
  have e_law : Γ "law" = A_law := by rw [hΓ]; exact (look_tl (by decide)).trans <| (look_tl (by decide)).trans <| (look_tl (by decide)).trans <| (look_tl (by decide)).trans <| (look_tl (by decide)).trans <| (look_tl (by decide)).trans <| (look_tl (by decide)).trans <| (look_tl (by decide)).trans <| (look_tl (by decide)).trans <| (look_tl (by decide)).trans <| (look_tl (by decide)).trans <| (look_tl (by decide)).trans <| (look_tl (by decide)).trans <| (look_tl (by decide)).trans <| (look_tl (by decide)).trans <| (look_tl (by decide)).trans <| (look_tl (by decide)).trans <| (look_tl (by decide)).trans <| (look_tl (by decide)).trans <| (look_tl (by decide)).trans <| (look_tl (by decide)).trans <| (look_tl (by decide)).trans <| (look_tl (by decide)).trans <| (look_tl (by decide)).trans <| (look_tl (by decide)).trans <| (look_tl (by decide)).trans <| (look_tl (by decide)).trans <| (look_tl (by decide)).trans <| (look_tl (by decide)).trans <| (look_tl (by decide)).trans <| (look_tl (by decide)).trans <| (look_tl (by decide)).trans <| (look_tl (by decide)).trans <| (look_tl (by decide)).trans <| (look_tl (by decide)).trans <| (look_tl (by decide)).trans <| (look_tl (by decide)).trans <| (look_tl (by decide)).trans <| look_hd
  have e_law_caught : Γ "_law_caught" = A_law_caught := by rw [hΓ]; exact (look_tl (by decide)).trans <| (look_tl (by decide)).trans <| (look_tl (by decide)).trans <| (look_tl (by decide)).trans <| (look_tl (by decide)).trans <| (look_tl (by decide)).trans <| (look_tl (by decide)).trans <| (look_tl (by decide)).trans <| (look_tl (by decide)).trans <| (look_tl (by decide)).trans <| (look_tl (by decide)).trans <| (look_tl (by decide)).trans <| (look_tl (by decide)).trans <| (look_tl (by decide)).trans <| (look_tl (by decide)).trans <| (look_tl (by decide)).trans <| (look_tl (by decide)).trans <| (look_tl (by decide)).trans <| (look_tl (by decide)).trans <| (look_tl (by decide)).trans <| (look_tl (by decide)).trans <| (look_tl (by decide)).trans <| (look_tl (by decide)).trans <| (look_tl (by decide)).trans <| (look_tl (by decide)).trans <| (look_tl (by decide)).trans <| (look_tl (by decide)).trans <| (look_tl (by decide)).trans <| (look_tl (by decide)).trans <| (look_tl (by decide)).trans <| (look_tl (by decide)).trans <| (look_tl (by decide)).trans <| (look_tl (by decide)).trans <| (look_tl (by decide)).trans <| (look_tl (by decide)).trans <| (look_tl (by decide)).trans <| (look_tl (by decide)).trans <| (look_tl (by decide)).trans <| (look_tl (by decide)).trans <| look_hd
  have e_BadLot : Γ "BadLot" = A_BadLot := by rw [hΓ]; exact (look_tl (by decide)).trans <| (look_tl (by decide)).trans <| (look_tl (by decide)).trans <| (look_tl (by decide)).trans <| (look_tl (by decide)).trans <| (look_tl (by decide)).trans <| (look_tl (by decide)).trans <| (look_tl (by decide)).trans <| (look_tl (by decide)).trans <| (look_tl (by decide)).trans <| (look_tl (by decide)).trans <| (look_tl (by decide)).trans <| (look_tl (by decide)).trans <| (look_tl (by decide)).trans <| (look_tl (by decide)).trans <| (look_tl (by decide)).trans <| (look_tl (by decide)).trans <| (look_tl (by decide)).trans <| (look_tl (by decide)).trans <| (look_tl (by decide)).trans <| (look_tl (by decide)).trans <| (look_tl (by decide)).trans <| (look_tl (by decide)).trans <| (look_tl (by decide)).trans <| (look_tl (by decide)).trans <| (look_tl (by decide)).trans <| (look_tl (by decide)).trans <| (look_tl (by decide)).trans <| (look_tl (by decide)).trans <| (look_tl (by decide)).trans <| (look_tl (by decide)).trans <| (look_tl (by decide)).trans <| (look_tl (by decide)).trans <| (look_tl (by decide)).trans <| (look_tl (by decide)).trans <| (look_tl (by decide)).trans <| (look_tl (by decide)).trans <| (look_tl (by decide)).trans <| (look_tl (by decide)).trans <| (look_tl (by decide)).trans <| look_hd
  have e_BadMany : Γ "BadMany" = A_BadMany := by rw [hΓ]; exact (look_tl (by decide)).trans <| (look_tl (by decide)).trans <| (look_tl (by decide)).trans <| (look_tl (by decide)).trans <| (look_tl (by decide)).trans <| (look_tl (by decide)).trans <| (look_tl (by decide)).trans <| (look_tl (by decide)).trans <| (look_tl (by decide)).trans <| (look_tl (by decide)).trans <| (look_tl (by decide)).trans <| (look_tl (by decide)).trans <| (look_tl (by decide)).trans <| (look_tl (by decide)).trans <| (look_tl (by decide)).trans <| (look_tl (by decide)).trans <| (look_tl (by decide)).trans <| (look_tl (by decide)).trans <| (look_tl (by decide)).trans <| (look_tl (by decide)).trans <| (look_tl (by decide)).trans <| (look_tl (by decide)).trans <| (look_tl (by decide)).trans <| (look_tl (by decide)).trans <| (look_tl (by decide)).trans <| (look_tl (by decide)).trans <| (look_tl (by decide)).trans <| (look_tl (by decide)).trans <| (look_tl (by decide)).trans <| (look_tl (by decide)).trans <| (look_tl (by decide)).trans <| (look_tl (by decide)).trans <| (look_tl (by decide)).trans <| (look_tl (by decide)).trans <| (look_tl (by decide)).trans <| (look_tl (by decide)).trans <| (look_tl (by decide)).trans <| (look_tl (by decide)).trans <| (look_tl (by decide)).trans <| (look_tl (by decide)).trans <| (look_tl (by decide)).trans <| look_hd
  have e_BadPrime : Γ "BadPrime" = A_BadPrime := by rw [hΓ]; exact (look_tl (by decide)).trans <| (look_tl (by decide)).trans <| (look_tl (by decide)).trans <| (look_tl (by decide)).trans <| (look_tl (by decide)).trans <| (look_tl (by decide)).trans <| (look_tl (by decide)).trans <| (look_tl (by decide)).trans <| (look_tl (by decide)).trans <| (look_tl (by decide)).trans <| (look_tl (by decide)).trans <| (look_tl (by decide)).trans <| (look_tl (by decide)).trans <| (look_tl (by decide)).trans <| (look_tl (by decide)).trans <| (look_tl (by decide)).trans <| (look_tl (by decide)).trans <| (look_tl (by decide)).trans <| (look_tl (by decide)).trans <| (look_tl (by decide)).trans <| (look_tl (by decide)).trans <| (look_tl (by decide)).trans <| (look_tl (by decide)).trans <| (look_tl (by decide)).trans <| (look_tl (by decide)).trans <| (look_tl (by decide)).trans <| (look_tl (by decide)).trans <| (look_tl (by decide)).trans <| (look_tl (by decide)).trans <| (look_tl (by decide)).trans <| (look_tl (by decide)).trans <| (look_tl (by decide)).trans <| (look_tl (by decide)).trans <| (look_tl (by decide)).trans <| (look_tl (by decide)).trans <| (look_tl (by decide)).trans <| (look_tl (by decide)).trans <| (look_tl (by decide)).trans <| (look_tl (by decide)).trans <| (look_tl (by decide)).trans <| (look_tl (by decide)).trans <| (look_tl (by decide)).trans <| look_hd
  have e_LotError : Γ "LotError" = A_LotError := by rw [hΓ]; exact (look_tl (by decide)).trans <| (look_tl (by decide)).trans <| (look_tl (by decide)).trans <| (look_tl (by decide)).trans <| (look_tl (by decide)).trans <| (look_tl (by decide)).trans <| (look_tl (by decide)).trans <| (look_tl (by decide)).trans <| (look_tl (by decide)).trans <| (look_tl (by decide)).trans <| (look_tl (by decide)).trans <| (look_tl (by decide)).trans <| (look_tl (by decide)).trans <| (look_tl (by decide)).trans <| (look_tl (by decide)).trans <| (look_tl (by decide)).trans <| (look_tl (by decide)).trans <| (look_tl (by decide)).trans <| (look_tl (by decide)).trans <| (look_tl (by decide)).trans <| (look_tl (by decide)).trans <| (look_tl (by decide)).trans <| (look_tl (by decide)).trans <| (look_tl (by decide)).trans <| (look_tl (by decide)).trans <| (look_tl (by decide)).trans <| (look_tl (by decide)).trans <| (look_tl (by decide)).trans <| (look_tl (by decide)).trans <| (look_tl (by decide)).trans <| (look_tl (by decide)).trans <| (look_tl (by decide)).trans <| (look_tl (by decide)).trans <| (look_tl (by decide)).trans <| (look_tl (by decide)).trans <| (look_tl (by decide)).trans <| (look_tl (by decide)).trans <| (look_tl (by decide)).trans <| (look_tl (by decide)).trans <| (look_tl (by decide)).trans <| (look_tl (by decide)).trans <| (look_tl (by decide)).trans <| (look_tl (by decide)).trans <| look_hd
  have D_law_begun : DefF K mg Γ "_law_begun" (topS 37) ["script"] := defF_mk X G e_law_begun a_law_begun l_law_begun c_law_begun k_law_begun (fun _ _ _ _ _ _ us hl => match us, hl with | [_], _ => rfl)
  have D_law_has : DefF K mg Γ "_law_has" (topS 45) ["lot", "number"] := defF_mk X G e_law_has a_law_has l_law_has c_law_has k_law_has (fun _ _ _ _ _ _ us hl => match us, hl with | [_, _], _ => rfl)
  have D_law_power_in : DefF K mg Γ "_law_power_in" (topS 44) ["prime", "number"] := defF_mk X G e_law_power_in a_law_power_in l_law_power_in c_law_power_in k_law_power_in (fun _ _ _ _ _ _ us hl => match us, hl with | [_, _], _ => rfl)
  have D_law_sample : DefF K mg Γ "_law_sample" (topS 46) ["lot", "many"] := defF_mk X G e_law_sample a_law_sample l_law_sample c_law_sample k_law_sample (fun _ _ _ _ _ _ us hl => match us, hl with | [_, _], _ => rfl)
  have D_law_row : DefF K mg Γ "_law_row" (topS 47) ["lot", "prime", "many"] := defF_mk X G e_law_row a_law_row l_law_row c_law_row k_law_row (fun _ _ _ _ _ _ us hl => match us, hl with | [_, _, _], _ => rfl)
  have D_law_first_order : DefF K mg Γ "_law_first_order" (topS 54) ["lot", "prime", "many"] := defF_mk X G e_law_first_order a_law_first_order l_law_first_order c_law_first_order k_law_first_order (fun _ _ _ _ _ _ us hl => match us, hl with | [_, _, _], _ => rfl)
  have D_law_mixed : DefF K mg Γ "_law_mixed" (topS 38) ["draw"] := defF_mk X G e_law_mixed a_law_mixed l_law_mixed c_law_mixed k_law_mixed (fun _ _ _ _ _ _ us hl => match us, hl with | [_], _ => rfl)
  have D_law_take : DefF K mg Γ "_law_take" (topS 39) ["draw", "amount"] := defF_mk X G e_law_take a_law_take l_law_take c_law_take k_law_take (fun _ _ _ _ _ _ us hl => match us, hl with | [_, _], _ => rfl)
  have D_law_pick : DefF K mg Γ "_law_pick" (topS 40) ["draw", "items"] := defF_mk X G e_law_pick a_law_pick l_law_pick c_law_pick k_law_pick (fun _ _ _ _ _ _ us hl => match us, hl with | [_, _], _ => rfl)
  have D_law_endless_lot : DefF K mg Γ "_law_endless_lot" (topS 49) ["draw", "most"] := defF_mk X G e_law_endless_lot a_law_endless_lot l_law_endless_lot c_law_endless_lot k_law_endless_lot (fun _ _ _ _ _ _ us hl => match us, hl with | [_, _], _ => rfl)
  have D_law_finite_lot : DefF K mg Γ "_law_finite_lot" (topS 48) ["draw", "most"] := defF_mk X G e_law_finite_lot a_law_finite_lot l_law_finite_lot c_law_finite_lot k_law_finite_lot (fun _ _ _ _ _ _ us hl => match us, hl with | [_, _], _ => rfl)
  have D_law_lot : DefF K mg Γ "_law_lot" (topS 50) ["draw"] := defF_mk X G e_law_lot a_law_lot l_law_lot c_law_lot k_law_lot (fun _ _ _ _ _ _ us hl => match us, hl with | [_], _ => rfl)
  have D_law_odd : DefF K mg Γ "_law_odd" (topS 51) ["draw"] := defF_mk X G e_law_odd a_law_odd l_law_odd c_law_odd k_law_odd (fun _ _ _ _ _ _ us hl => match us, hl with | [_], _ => rfl)
  have D_law_no_lot : DefF K mg Γ "_law_no_lot" (topS 52) ["draw"] := defF_mk X G e_law_no_lot a_law_no_lot l_law_no_lot c_law_no_lot k_law_no_lot (fun _ _ _ _ _ _ us hl => match us, hl with | [_], _ => rfl)
  have D_law_no_prime : DefF K mg Γ "_law_no_prime" (topS 53) ["draw"] := defF_mk X G e_law_no_prime a_law_no_prime l_law_no_prime c_law_no_prime k_law_no_prime (fun _ _ _ _ _ _ us hl => match us, hl with | [_], _ => rfl)
  have D_law_kinds : DefF K mg Γ "_law_kinds" (topS 42) ["thing"] := defF_mk X G e_law_kinds a_law_kinds l_law_kinds c_law_kinds k_law_kinds (fun _ _ _ _ _ _ us hl => match us, hl with | [_], _ => rfl)
  have D_law_says : DefF K mg Γ "_law_says" (topS 43) ["told", "due"] := defF_mk X G e_law_says a_law_says l_law_says c_law_says k_law_says (fun _ _ _ _ _ _ us hl => match us, hl with | [_, _], _ => rfl)
  have D_has_by : DefF K mg Γ "has_by" (topS 20) ["lot", "number"] := defF_mk X G e_has_by a_has_by l_has_by c_has_by k_has_by (fun _ _ _ _ _ _ us hl => match us, hl with | [_, _], _ => rfl)
  have D_power_in : DefF K mg Γ "power_in" (topS 26) ["prime", "number"] := defF_mk X G e_power_in a_power_in l_power_in c_power_in k_power_in (fun _ _ _ _ _ _ us hl => match us, hl with | [_, _], _ => rfl)
  have D_power_behind : DefF K mg Γ "power_behind" (topS 32) ["prime", "ahead", "number"] := defF_mk X G e_power_behind a_power_behind l_power_behind c_power_behind k_power_behind (fun _ _ _ _ _ _ us hl => match us, hl with | [_, _, _], _ => rfl)
  have D_nearest : DefF K mg Γ "nearest" (topS 33) ["lot", "prime", "ahead", "due"] := defF_mk X G e_nearest a_nearest l_nearest c_nearest k_nearest (fun _ _ _ _ _ _ us hl => match us, hl with | [_, _, _, _], _ => rfl)
  have D_is_endless : DefF K mg Γ "is_endless" (topS 19) ["lot"] := defF_mk X G e_is_endless a_is_endless l_is_endless c_is_endless k_is_endless (fun _ _ _ _ _ _ us hl => match us, hl with | [_], _ => rfl)
  have D_is_end : DefF K mg Γ "is_end" (topS 28) ["lot", "prime"] := defF_mk X G e_is_end a_is_end l_is_end c_is_end k_is_end (fun _ _ _ _ _ _ us hl => match us, hl with | [_, _], _ => rfl)
  have D_merged : DefF K mg Γ "merged" (topS 29) ["rows", "many"] := defF_mk X G e_merged a_merged l_merged c_merged k_merged (fun _ _ _ _ _ _ us hl => match us, hl with | [_, _], _ => rfl)
  have D_trimmed_lot : DefF K mg Γ "trimmed_lot" (topS 21) ["lot"] := defF_mk X G e_trimmed_lot a_trimmed_lot l_trimmed_lot c_trimmed_lot k_trimmed_lot (fun _ _ _ _ _ _ us hl => match us, hl with | [_], _ => rfl)
  have D_part_by : DefF K mg Γ "part_by" (topS 24) ["lot", "prime", "rest"] := defF_mk X G e_part_by a_part_by l_part_by c_part_by k_part_by (fun _ _ _ _ _ _ us hl => match us, hl with | [_, _, _], _ => rfl)
  have D_plain_row : DefF K mg Γ "plain_row" (topS 27) ["prime", "many"] := defF_mk X G e_plain_row a_plain_row l_plain_row c_plain_row k_plain_row (fun _ _ _ _ _ _ us hl => match us, hl with | [_, _], _ => rfl)
  have D_rests_of : DefF K mg Γ "rests_of" (topS 23) ["lot", "divisor"] := defF_mk X G e_rests_of a_rests_of l_rests_of c_rests_of k_rests_of (fun _ _ _ _ _ _ us hl => match us, hl with | [_, _], _ => rfl)
  have D_row_by : DefF K mg Γ "row_by" (topS 30) ["lot", "prime", "many"] := defF_mk X G e_row_by a_row_by l_row_by c_row_by k_row_by (fun _ _ _ _ _ _ us hl => match us, hl with | [_, _, _], _ => rfl)
  have D_first_order_by : DefF K mg Γ "first_order_by" (topS 34) ["lot", "prime", "many"] := defF_mk X G e_first_order_by a_first_order_by l_first_order_by c_first_order_by k_first_order_by (fun _ _ _ _ _ _ us hl => match us, hl with | [_, _, _], _ => rfl)
  have D_is_number : DefF K mg Γ "is_number" (topS 12) ["thing"] := defF_mk X G e_is_number a_is_number l_is_number c_is_number k_is_number (fun _ _ _ _ _ _ us hl => match us, hl with | [_], _ => rfl)
  have D_is_rising : DefF K mg Γ "is_rising" (topS 13) ["thing", "low", "high"] := defF_mk X G e_is_rising a_is_rising l_is_rising c_is_rising k_is_rising (fun _ _ _ _ _ _ us hl => match us, hl with | [_, _, _], _ => rfl)
  have D_is_lot_of : DefF K mg Γ "is_lot_of" (topS 14) ["thing"] := defF_mk X G e_is_lot_of a_is_lot_of l_is_lot_of c_is_lot_of k_is_lot_of (fun _ _ _ _ _ _ us hl => match us, hl with | [_], _ => rfl)
  have D_need_lot : DefF K mg Γ "need_lot" (topS 15) ["lot"] := defF_mk X G e_need_lot a_need_lot l_need_lot c_need_lot k_need_lot (fun _ _ _ _ _ _ us hl => match us, hl with | [_], _ => rfl)
  have D_need_many : DefF K mg Γ "need_many" (topS 18) ["many"] := defF_mk X G e_need_many a_need_many l_need_many c_need_many k_need_many (fun _ _ _ _ _ _ us hl => match us, hl with | [_], _ => rfl)
  have D_is_prime : DefF K mg Γ "is_prime" (topS 16) ["number"] := defF_mk X G e_is_prime a_is_prime l_is_prime c_is_prime k_is_prime (fun _ _ _ _ _ _ us hl => match us, hl with | [_], _ => rfl)
  have D_need_prime : DefF K mg Γ "need_prime" (topS 17) ["prime"] := defF_mk X G e_need_prime a_need_prime l_need_prime c_need_prime k_need_prime (fun _ _ _ _ _ _ us hl => match us, hl with | [_], _ => rfl)
  have D_first_order : DefF K mg Γ "first_order" (topS 35) ["lot", "prime", "many"] := defF_mk X G e_first_order a_first_order l_first_order c_first_order k_first_order (fun _ _ _ _ _ _ us hl => match us, hl with | [_, _, _], _ => rfl)
  have L_law : DefL K mg Γ "law" (topS 55) ["script"] cd_law := defL_mk X G e_law a_law l_law c_law k_law (fun _ _ _ _ _ _ us hl => match us, hl with | [_], _ => rfl)
  have D_law_caught : DefF K mg Γ "_law_caught" (topS 41) ["work"] := defF_mk X G e_law_caught a_law_caught l_law_caught c_law_caught k_law_caught (fun _ _ _ _ _ _ us hl => match us, hl with | [_], _ => rfl)
  have Z_all : mg "all" = none := PySem.W.mg_none_of X G z_all
  have Z_any : mg "any" = none := PySem.W.mg_none_of X G z_any
  have Z_bool : mg "bool" = none := PySem.W.mg_none_of X G z_bool
  have Z_dict : mg "dict" = none := PySem.W.mg_none_of X G z_dict
  have Z_enumerate : mg "enumerate" = none := PySem.W.mg_none_of X G z_enumerate
  have Z_int : mg "int" = none := PySem.W.mg_none_of X G z_int
  have Z_isinstance : mg "isinstance" = none := PySem.W.mg_none_of X G z_isinstance
  have Z_len : mg "len" = none := PySem.W.mg_none_of X G z_len
  have Z_list : mg "list" = none := PySem.W.mg_none_of X G z_list
  have Z_min : mg "min" = none := PySem.W.mg_none_of X G z_min
  have Z_range : mg "range" = none := PySem.W.mg_none_of X G z_range
  have Z_repr : mg "repr" = none := PySem.W.mg_none_of X G z_repr
  have Z_set : mg "set" = none := PySem.W.mg_none_of X G z_set
  have Z_sorted : mg "sorted" = none := PySem.W.mg_none_of X G z_sorted
  have Z_str : mg "str" = none := PySem.W.mg_none_of X G z_str
  have Z_sum : mg "sum" = none := PySem.W.mg_none_of X G z_sum
  have Z_tuple : mg "tuple" = none := PySem.W.mg_none_of X G z_tuple
  have Z_zip : mg "zip" = none := PySem.W.mg_none_of X G z_zip
  have G_MOST_K := PySem.W.mg_of X G v_MOST_K
  have G_MOST_MODULUS := PySem.W.mg_of X G v_MOST_MODULUS
  have G_MOST_NUMBER := PySem.W.mg_of X G v_MOST_NUMBER
  have G_MOST_NUMBERS := PySem.W.mg_of X G v_MOST_NUMBERS
  have G_MOST_PRIME := PySem.W.mg_of X G v_MOST_PRIME
  have M_gcd := PySem.W.mg_of X G v_gcd
  have cls_BadLot : ClsF K mg "BadLot" (Γ "BadLot") := by rw [e_BadLot]; exact ⟨PySem.W.mg_of X G q0_BadLot, ⟨q1_BadLot, q2_BadLot, q3_BadLot, q4_BadLot⟩, ⟨q5_BadLot, q6_BadLot, q3_BadLot, q7_BadLot, q8_BadLot, s1, s2, q9_BadLot⟩⟩
  have cls_BadMany : ClsF K mg "BadMany" (Γ "BadMany") := by rw [e_BadMany]; exact ⟨PySem.W.mg_of X G q0_BadMany, ⟨q1_BadMany, q2_BadMany, q3_BadMany, q4_BadMany⟩, ⟨q5_BadMany, q6_BadMany, q3_BadMany, q7_BadMany, q8_BadMany, s1, s2, q9_BadMany⟩⟩
  have cls_BadPrime : ClsF K mg "BadPrime" (Γ "BadPrime") := by rw [e_BadPrime]; exact ⟨PySem.W.mg_of X G q0_BadPrime, ⟨q1_BadPrime, q2_BadPrime, q3_BadPrime, q4_BadPrime⟩, ⟨q5_BadPrime, q6_BadPrime, q3_BadPrime, q7_BadPrime, q8_BadPrime, s1, s2, q9_BadPrime⟩⟩
  have cls_LotError : ClsF K mg "LotError" (Γ "LotError") := by rw [e_LotError]; exact ⟨PySem.W.mg_of X G q0_LotError, ⟨q1_LotError, q2_LotError, q3_LotError, q4_LotError⟩, ⟨q5_LotError, q6_LotError, q3_LotError, q7_LotError, q8_LotError, s1, s2, q9_LotError⟩⟩
  have I_BadLot : IsXF K Γ "BadLot" [("LotError", false), ("BadLot", true), ("BadMany", false), ("BadPrime", false)] := ⟨fun p hp => by
    simp only [List.mem_cons, List.not_mem_nil, or_false] at hp
    rcases hp with rfl | rfl | rfl | rfl
    · exact ⟨by simp only [e_LotError, e_BadLot]; exact kit_ref q7_BadLot q4_BadLot j_LotError_BadLot (fun z => absurd (Value.ref.inj z) d_LotError_BadLot), (cls_LotError).c⟩
    · exact ⟨by simp only [e_BadLot, e_BadLot]; exact kit_ref q7_BadLot q4_BadLot j_BadLot_BadLot (fun _ => rfl), (cls_BadLot).c⟩
    · exact ⟨by simp only [e_BadMany, e_BadLot]; exact kit_ref q7_BadLot q4_BadLot j_BadMany_BadLot (fun z => absurd (Value.ref.inj z) d_BadMany_BadLot), (cls_BadMany).c⟩
    · exact ⟨by simp only [e_BadPrime, e_BadLot]; exact kit_ref q7_BadLot q4_BadLot j_BadPrime_BadLot (fun z => absurd (Value.ref.inj z) d_BadPrime_BadLot), (cls_BadPrime).c⟩, by rw [e_BadLot]; exact kit_ref q7_BadLot q4_BadLot sub_non (fun z => by cases z)⟩
  have I_BadMany : IsXF K Γ "BadMany" [("LotError", false), ("BadLot", false), ("BadMany", true), ("BadPrime", false)] := ⟨fun p hp => by
    simp only [List.mem_cons, List.not_mem_nil, or_false] at hp
    rcases hp with rfl | rfl | rfl | rfl
    · exact ⟨by simp only [e_LotError, e_BadMany]; exact kit_ref q7_BadMany q4_BadMany j_LotError_BadMany (fun z => absurd (Value.ref.inj z) d_LotError_BadMany), (cls_LotError).c⟩
    · exact ⟨by simp only [e_BadLot, e_BadMany]; exact kit_ref q7_BadMany q4_BadMany j_BadLot_BadMany (fun z => absurd (Value.ref.inj z) d_BadLot_BadMany), (cls_BadLot).c⟩
    · exact ⟨by simp only [e_BadMany, e_BadMany]; exact kit_ref q7_BadMany q4_BadMany j_BadMany_BadMany (fun _ => rfl), (cls_BadMany).c⟩
    · exact ⟨by simp only [e_BadPrime, e_BadMany]; exact kit_ref q7_BadMany q4_BadMany j_BadPrime_BadMany (fun z => absurd (Value.ref.inj z) d_BadPrime_BadMany), (cls_BadPrime).c⟩, by rw [e_BadMany]; exact kit_ref q7_BadMany q4_BadMany sub_non (fun z => by cases z)⟩
  have I_BadPrime : IsXF K Γ "BadPrime" [("LotError", false), ("BadLot", false), ("BadMany", false), ("BadPrime", true)] := ⟨fun p hp => by
    simp only [List.mem_cons, List.not_mem_nil, or_false] at hp
    rcases hp with rfl | rfl | rfl | rfl
    · exact ⟨by simp only [e_LotError, e_BadPrime]; exact kit_ref q7_BadPrime q4_BadPrime j_LotError_BadPrime (fun z => absurd (Value.ref.inj z) d_LotError_BadPrime), (cls_LotError).c⟩
    · exact ⟨by simp only [e_BadLot, e_BadPrime]; exact kit_ref q7_BadPrime q4_BadPrime j_BadLot_BadPrime (fun z => absurd (Value.ref.inj z) d_BadLot_BadPrime), (cls_BadLot).c⟩
    · exact ⟨by simp only [e_BadMany, e_BadPrime]; exact kit_ref q7_BadPrime q4_BadPrime j_BadMany_BadPrime (fun z => absurd (Value.ref.inj z) d_BadMany_BadPrime), (cls_BadMany).c⟩
    · exact ⟨by simp only [e_BadPrime, e_BadPrime]; exact kit_ref q7_BadPrime q4_BadPrime j_BadPrime_BadPrime (fun _ => rfl), (cls_BadPrime).c⟩, by rw [e_BadPrime]; exact kit_ref q7_BadPrime q4_BadPrime sub_non (fun z => by cases z)⟩
  have KIN : ∀ D ∈ [Γ "LotError", Γ "BadLot", Γ "BadMany", Γ "BadPrime"], PySem.W.exmOne K (.ref D) (.ref (Γ "LotError")) = some true := fun D hD => by
    simp only [List.mem_cons, List.not_mem_nil, or_false] at hD
    rcases hD with rfl | rfl | rfl | rfl
    · simp only [e_LotError, e_LotError]; exact exm_of q3_LotError q7_LotError q4_LotError x_LotError
    · simp only [e_BadLot, e_LotError]; exact exm_of q3_LotError q7_LotError q4_LotError x_BadLot
    · simp only [e_BadMany, e_LotError]; exact exm_of q3_LotError q7_LotError q4_LotError x_BadMany
    · simp only [e_BadPrime, e_LotError]; exact exm_of q3_LotError q7_LotError q4_LotError x_BadPrime
  have CK : CatchF K mg Γ "_law_caught" (Γ "LotError") := ⟨topS 41, "work", ["work", "caught", "error"], D_law_caught, ⟨rfl, rfl, rfl, by decide +kernel, rfl, by decide +kernel, by decide +kernel⟩, rfl, .inl rfl, by decide, by decide, fun X hK hm cdv q => by subst hK hm; exact caught_gives (by decide +kernel) rfl (cls_LotError).g (by decide) rfl rfl (by decide) (by decide) (by decide) (by decide) (fun _ => rfl) (fun _ => rfl)⟩
  obtain ⟨tab, m1, m2, m3⟩ := t_law
  refine lawAt (φ := f_law_fef447 Γ) (q := (PyProof.Rows.envOfC (Str.ofString "law") (defScope s_law) 0 0 .none).qual ++ "<lambda>") L_law hfa (fun _ _ _ _ _ _ us hl => match us, hl with | [_], _ => rfl) (hts tab m1) m3 (PySem.W.codeHd_of_K X m2) (fun base KX GB TB_law => ?_) (fun ns h1 h2 => ⟨h1, h2, rfl⟩)
  have hmT_law := List.mem_singleton_self (tab, (PyProof.Rows.envOfC (Str.ofString "law") (defScope s_law) 0 0 .none).qual ++ "<lambda>")
  have huT_law : ∀ p ∈ [(tab, (PyProof.Rows.envOfC (Str.ofString "law") (defScope s_law) 0 0 .none).qual ++ "<lambda>")], p.1 = tab → p.2 = (PyProof.Rows.envOfC (Str.ofString "law") (defScope s_law) 0 0 .none).qual ++ "<lambda>" := fun p hp _ => by rw [List.mem_singleton] at hp; rw [hp]
  have K_law_begun := ok_law_begun (P := l.prog) (w := w) (base := base) (T := [(tab, (PyProof.Rows.envOfC (Str.ofString "law") (defScope s_law) 0 0 .none).qual ++ "<lambda>")]) (Γ := Γ) (F := D_law_begun) (z_int := Z_int) (z_isinstance := Z_isinstance)
  have K_law_has := ok_law_has (P := l.prog) (w := w) (base := base) (T := [(tab, (PyProof.Rows.envOfC (Str.ofString "law") (defScope s_law) 0 0 .none).qual ++ "<lambda>")]) (Γ := Γ) (F := D_law_has) (z_int := Z_int)
  have K_law_power_in := ok_law_power_in (P := l.prog) (w := w) (base := base) (T := [(tab, (PyProof.Rows.envOfC (Str.ofString "law") (defScope s_law) 0 0 .none).qual ++ "<lambda>")]) (Γ := Γ) (F := D_law_power_in) (z_int := Z_int)
  have K_law_sample := ok_law_sample (P := l.prog) (w := w) (base := base) (T := [(tab, (PyProof.Rows.envOfC (Str.ofString "law") (defScope s_law) 0 0 .none).qual ++ "<lambda>")]) (Γ := Γ) (F := D_law_sample) (z_int := Z_int) (z_list := Z_list) (z_range := Z_range)
  have K_law_row := ok_law_row (P := l.prog) (w := w) (base := base) (T := [(tab, (PyProof.Rows.envOfC (Str.ofString "law") (defScope s_law) 0 0 .none).qual ++ "<lambda>")]) (Γ := Γ) (F := D_law_row) (k_law_power_in := K_law_power_in) (k_law_sample := K_law_sample) (z_dict := Z_dict) (z_list := Z_list) (z_min := Z_min) (z_range := Z_range)
  have K_law_first_order := ok_law_first_order (P := l.prog) (w := w) (base := base) (T := [(tab, (PyProof.Rows.envOfC (Str.ofString "law") (defScope s_law) 0 0 .none).qual ++ "<lambda>")]) (Γ := Γ) (F := D_law_first_order) (k_law_has := K_law_has) (k_law_power_in := K_law_power_in) (k_law_row := K_law_row) (z_sum := Z_sum) (z_tuple := Z_tuple)
  have K_law_mixed := ok_law_mixed (P := l.prog) (w := w) (base := base) (T := [(tab, (PyProof.Rows.envOfC (Str.ofString "law") (defScope s_law) 0 0 .none).qual ++ "<lambda>")]) (Γ := Γ) (F := D_law_mixed) (z_int := Z_int)
  have K_law_take := ok_law_take (P := l.prog) (w := w) (base := base) (T := [(tab, (PyProof.Rows.envOfC (Str.ofString "law") (defScope s_law) 0 0 .none).qual ++ "<lambda>")]) (Γ := Γ) (F := D_law_take) (k_law_mixed := K_law_mixed) (z_int := Z_int)
  have K_law_pick := ok_law_pick (P := l.prog) (w := w) (base := base) (T := [(tab, (PyProof.Rows.envOfC (Str.ofString "law") (defScope s_law) 0 0 .none).qual ++ "<lambda>")]) (Γ := Γ) (F := D_law_pick) (k_law_take := K_law_take) (z_len := Z_len)
  have K_law_endless_lot := ok_law_endless_lot (P := l.prog) (w := w) (base := base) (T := [(tab, (PyProof.Rows.envOfC (Str.ofString "law") (defScope s_law) 0 0 .none).qual ++ "<lambda>")]) (Γ := Γ) (F := D_law_endless_lot) (k_law_pick := K_law_pick) (k_law_take := K_law_take) (z_int := Z_int) (z_range := Z_range) (z_set := Z_set) (z_sorted := Z_sorted) (z_tuple := Z_tuple)
  have K_law_finite_lot := ok_law_finite_lot (P := l.prog) (w := w) (base := base) (T := [(tab, (PyProof.Rows.envOfC (Str.ofString "law") (defScope s_law) 0 0 .none).qual ++ "<lambda>")]) (Γ := Γ) (F := D_law_finite_lot) (k_law_pick := K_law_pick) (k_law_take := K_law_take) (z_range := Z_range) (z_set := Z_set) (z_sorted := Z_sorted) (z_tuple := Z_tuple)
  have K_law_lot := ok_law_lot (P := l.prog) (w := w) (base := base) (T := [(tab, (PyProof.Rows.envOfC (Str.ofString "law") (defScope s_law) 0 0 .none).qual ++ "<lambda>")]) (Γ := Γ) (F := D_law_lot) (k_law_endless_lot := K_law_endless_lot) (k_law_finite_lot := K_law_finite_lot) (k_law_take := K_law_take)
  have K_law_odd := ok_law_odd (P := l.prog) (w := w) (base := base) (T := [(tab, (PyProof.Rows.envOfC (Str.ofString "law") (defScope s_law) 0 0 .none).qual ++ "<lambda>")]) (Γ := Γ) (F := D_law_odd) (k_law_pick := K_law_pick)
  have K_law_no_lot := ok_law_no_lot (P := l.prog) (w := w) (base := base) (T := [(tab, (PyProof.Rows.envOfC (Str.ofString "law") (defScope s_law) 0 0 .none).qual ++ "<lambda>")]) (Γ := Γ) (F := D_law_no_lot) (k_law_odd := K_law_odd) (k_law_pick := K_law_pick) (z_range := Z_range) (z_tuple := Z_tuple)
  have K_law_no_prime := ok_law_no_prime (P := l.prog) (w := w) (base := base) (T := [(tab, (PyProof.Rows.envOfC (Str.ofString "law") (defScope s_law) 0 0 .none).qual ++ "<lambda>")]) (Γ := Γ) (F := D_law_no_prime) (k_law_pick := K_law_pick)
  have K_law_kinds := ok_law_kinds (P := l.prog) (w := w) (base := base) (T := [(tab, (PyProof.Rows.envOfC (Str.ofString "law") (defScope s_law) 0 0 .none).qual ++ "<lambda>")]) (Γ := Γ) (F := D_law_kinds) (z_bool := Z_bool) (z_dict := Z_dict) (z_int := Z_int) (z_isinstance := Z_isinstance) (z_list := Z_list) (z_repr := Z_repr) (z_str := Z_str) (z_tuple := Z_tuple)
  have K_law_says := ok_law_says (P := l.prog) (w := w) (base := base) (T := [(tab, (PyProof.Rows.envOfC (Str.ofString "law") (defScope s_law) 0 0 .none).qual ++ "<lambda>")]) (Γ := Γ) (F := D_law_says) (k_law_kinds := K_law_kinds)
  have K_has_by := ok_has_by (P := l.prog) (w := w) (base := base) (T := [(tab, (PyProof.Rows.envOfC (Str.ofString "law") (defScope s_law) 0 0 .none).qual ++ "<lambda>")]) (Γ := Γ) (F := D_has_by)
  have K_power_in := ok_power_in (P := l.prog) (w := w) (base := base) (T := [(tab, (PyProof.Rows.envOfC (Str.ofString "law") (defScope s_law) 0 0 .none).qual ++ "<lambda>")]) (Γ := Γ) (F := D_power_in)
  have K_power_behind := ok_power_behind (P := l.prog) (w := w) (base := base) (T := [(tab, (PyProof.Rows.envOfC (Str.ofString "law") (defScope s_law) 0 0 .none).qual ++ "<lambda>")]) (Γ := Γ) (F := D_power_behind) (k_power_in := K_power_in) (z_sum := Z_sum)
  have K_nearest := ok_nearest (P := l.prog) (w := w) (base := base) (T := [(tab, (PyProof.Rows.envOfC (Str.ofString "law") (defScope s_law) 0 0 .none).qual ++ "<lambda>")]) (Γ := Γ) (F := D_nearest) (k_has_by := K_has_by) (k_power_behind := K_power_behind)
  have K_is_endless := ok_is_endless (P := l.prog) (w := w) (base := base) (T := [(tab, (PyProof.Rows.envOfC (Str.ofString "law") (defScope s_law) 0 0 .none).qual ++ "<lambda>")]) (Γ := Γ) (F := D_is_endless)
  have K_is_end := ok_is_end (P := l.prog) (w := w) (base := base) (T := [(tab, (PyProof.Rows.envOfC (Str.ofString "law") (defScope s_law) 0 0 .none).qual ++ "<lambda>")]) (Γ := Γ) (F := D_is_end) (k_is_endless := K_is_endless) (z_len := Z_len)
  have K_merged := ok_merged (P := l.prog) (w := w) (base := base) (T := [(tab, (PyProof.Rows.envOfC (Str.ofString "law") (defScope s_law) 0 0 .none).qual ++ "<lambda>")]) (Γ := Γ) (F := D_merged) (z_enumerate := Z_enumerate) (z_len := Z_len) (z_sorted := Z_sorted)
  have K_trimmed_lot := ok_trimmed_lot (P := l.prog) (w := w) (base := base) (T := [(tab, (PyProof.Rows.envOfC (Str.ofString "law") (defScope s_law) 0 0 .none).qual ++ "<lambda>")]) (Γ := Γ) (F := D_trimmed_lot) (z_len := Z_len) (z_range := Z_range) (z_sorted := Z_sorted) (z_tuple := Z_tuple)
  have K_part_by := ok_part_by (P := l.prog) (w := w) (base := base) (T := [(tab, (PyProof.Rows.envOfC (Str.ofString "law") (defScope s_law) 0 0 .none).qual ++ "<lambda>")]) (Γ := Γ) (F := D_part_by) (k_trimmed_lot := K_trimmed_lot) (z_min := Z_min) (z_range := Z_range) (z_sorted := Z_sorted) (z_tuple := Z_tuple)
  have K_plain_row := ok_plain_row (P := l.prog) (w := w) (base := base) (T := [(tab, (PyProof.Rows.envOfC (Str.ofString "law") (defScope s_law) 0 0 .none).qual ++ "<lambda>")]) (Γ := Γ) (F := D_plain_row) (k_power_in := K_power_in) (z_range := Z_range)
  have K_rests_of := ok_rests_of (P := l.prog) (w := w) (base := base) (T := [(tab, (PyProof.Rows.envOfC (Str.ofString "law") (defScope s_law) 0 0 .none).qual ++ "<lambda>")]) (Γ := Γ) (F := D_rests_of) (z_range := Z_range) (z_sorted := Z_sorted) (m_gcd := M_gcd)
  have K_row_by := ok_row_by (P := l.prog) (w := w) (base := base) (T := [(tab, (PyProof.Rows.envOfC (Str.ofString "law") (defScope s_law) 0 0 .none).qual ++ "<lambda>")]) (Γ := Γ) (F := D_row_by) (k_is_end := K_is_end) (k_is_endless := K_is_endless) (k_merged := K_merged) (k_part_by := K_part_by) (k_plain_row := K_plain_row) (k_rests_of := K_rests_of) (z_len := Z_len) (z_list := Z_list) (z_range := Z_range)
  have K_first_order_by := ok_first_order_by (P := l.prog) (w := w) (base := base) (T := [(tab, (PyProof.Rows.envOfC (Str.ofString "law") (defScope s_law) 0 0 .none).qual ++ "<lambda>")]) (Γ := Γ) (F := D_first_order_by) (k_nearest := K_nearest) (k_row_by := K_row_by)
  have K_is_number := ok_is_number (P := l.prog) (w := w) (base := base) (T := [(tab, (PyProof.Rows.envOfC (Str.ofString "law") (defScope s_law) 0 0 .none).qual ++ "<lambda>")]) (Γ := Γ) (F := D_is_number) (z_bool := Z_bool) (z_int := Z_int) (z_isinstance := Z_isinstance)
  have K_is_rising := ok_is_rising (P := l.prog) (w := w) (base := base) (T := [(tab, (PyProof.Rows.envOfC (Str.ofString "law") (defScope s_law) 0 0 .none).qual ++ "<lambda>")]) (Γ := Γ) (F := D_is_rising) (k_is_number := K_is_number) (z_all := Z_all) (z_isinstance := Z_isinstance) (z_tuple := Z_tuple) (z_zip := Z_zip)
  have K_is_lot_of := ok_is_lot_of (P := l.prog) (w := w) (base := base) (T := [(tab, (PyProof.Rows.envOfC (Str.ofString "law") (defScope s_law) 0 0 .none).qual ++ "<lambda>")]) (Γ := Γ) (F := D_is_lot_of) (k_is_number := K_is_number) (k_is_rising := K_is_rising) (z_any := Z_any) (z_isinstance := Z_isinstance) (z_len := Z_len) (z_tuple := Z_tuple) (g_MOST_MODULUS := ⟨_, G_MOST_MODULUS⟩) (g_MOST_NUMBER := ⟨_, G_MOST_NUMBER⟩) (g_MOST_NUMBERS := ⟨_, G_MOST_NUMBERS⟩)
  have K_need_lot := ok_need_lot (P := l.prog) (w := w) (base := base) (T := [(tab, (PyProof.Rows.envOfC (Str.ofString "law") (defScope s_law) 0 0 .none).qual ++ "<lambda>")]) (Γ := Γ) (F := D_need_lot) (k_is_lot_of := K_is_lot_of) (g_BadLot := (cls_BadLot).g) (x_BadLot := (cls_BadLot).x)
  have K_need_many := ok_need_many (P := l.prog) (w := w) (base := base) (T := [(tab, (PyProof.Rows.envOfC (Str.ofString "law") (defScope s_law) 0 0 .none).qual ++ "<lambda>")]) (Γ := Γ) (F := D_need_many) (k_is_number := K_is_number) (g_MOST_K := ⟨_, G_MOST_K⟩) (g_BadMany := (cls_BadMany).g) (x_BadMany := (cls_BadMany).x)
  have K_is_prime := ok_is_prime (P := l.prog) (w := w) (base := base) (T := [(tab, (PyProof.Rows.envOfC (Str.ofString "law") (defScope s_law) 0 0 .none).qual ++ "<lambda>")]) (Γ := Γ) (F := D_is_prime)
  have K_need_prime := ok_need_prime (P := l.prog) (w := w) (base := base) (T := [(tab, (PyProof.Rows.envOfC (Str.ofString "law") (defScope s_law) 0 0 .none).qual ++ "<lambda>")]) (Γ := Γ) (F := D_need_prime) (k_is_number := K_is_number) (k_is_prime := K_is_prime) (g_MOST_PRIME := ⟨_, G_MOST_PRIME⟩) (g_BadPrime := (cls_BadPrime).g) (x_BadPrime := (cls_BadPrime).x)
  have K_first_order := ok_first_order (P := l.prog) (w := w) (base := base) (T := [(tab, (PyProof.Rows.envOfC (Str.ofString "law") (defScope s_law) 0 0 .none).qual ++ "<lambda>")]) (Γ := Γ) (F := D_first_order) (k_first_order_by := K_first_order_by) (k_need_lot := K_need_lot) (k_need_many := K_need_many) (k_need_prime := K_need_prime) (z_tuple := Z_tuple)
  have K_law := ok_law (P := l.prog) (w := w) (base := base) (T := [(tab, (PyProof.Rows.envOfC (Str.ofString "law") (defScope s_law) 0 0 .none).qual ++ "<lambda>")]) (Γ := Γ) (F := L_law) (TB := TB_law) (hmT := hmT_law) (huT := huT_law) (k_law_caught := CK) (kin_h := KIN) (i_BadLot := I_BadLot) (i_BadMany := I_BadMany) (i_BadPrime := I_BadPrime) (D_first_order := D_first_order) (k_law_begun := K_law_begun) (k_law_first_order := K_law_first_order) (k_law_lot := K_law_lot) (k_law_no_lot := K_law_no_lot) (k_law_no_prime := K_law_no_prime) (k_law_pick := K_law_pick) (k_law_says := K_law_says) (k_law_take := K_law_take) (k_first_order := K_first_order) (z_isinstance := Z_isinstance) (z_len := Z_len) (z_min := Z_min) (z_range := Z_range) (g_BadLot := (cls_BadLot).g) (x_BadLot := (cls_BadLot).x) (g_BadMany := (cls_BadMany).g) (x_BadMany := (cls_BadMany).x) (g_BadPrime := (cls_BadPrime).g) (x_BadPrime := (cls_BadPrime).x)
  exact K_law
end Kp
open PySem PySem.W PyProof.Rows in
set_option maxRecDepth 100000 in
set_option maxHeartbeats 40000000 in
theorem PySem.Challenge.cw_setfactorials_k05_whole_first_orders_holds : PySem.Challenge.rw_setfactorials_k05_whole_first_orders.Holds := by
  w_on; o_law
  k_head
  (case hw => w_witness2)
  k_fill
  refine LamX.walk_ofTs (l := PySem.Challenge.rw_setfactorials_k05_whole_first_orders) (x := "script") (k := 8) (n := 63) (CX := fun w => L2.CX (PySem.W.OpenLaw.prog PySem.Challenge.rw_setfactorials_k05_whole_first_orders) w) (by decide +kernel) (by decide) rfl ⟨rfl, by decide, by decide⟩ (fun w h Y => PySem.W.km_in_of Y) ?F (fun w H s e s' => Pu.cx_none)
  case F =>
    intro w mg fa h Y KX G hmg
    refine' Kp.facts KX G hmg (PySem.W.km_tabs_of Y) ?a_law_begun ?l_law_begun ?c_law_begun ?k_law_begun ?a_law_has ?l_law_has ?c_law_has ?k_law_has ?a_law_power_in ?l_law_power_in ?c_law_power_in ?k_law_power_in ?a_law_sample ?l_law_sample ?c_law_sample ?k_law_sample ?a_law_row ?l_law_row ?c_law_row ?k_law_row ?a_law_first_order ?l_law_first_order ?c_law_first_order ?k_law_first_order ?a_law_mixed ?l_law_mixed ?c_law_mixed ?k_law_mixed ?a_law_take ?l_law_take ?c_law_take ?k_law_take ?a_law_pick ?l_law_pick ?c_law_pick ?k_law_pick ?a_law_endless_lot ?l_law_endless_lot ?c_law_endless_lot ?k_law_endless_lot ?a_law_finite_lot ?l_law_finite_lot ?c_law_finite_lot ?k_law_finite_lot ?a_law_lot ?l_law_lot ?c_law_lot ?k_law_lot ?a_law_odd ?l_law_odd ?c_law_odd ?k_law_odd ?a_law_no_lot ?l_law_no_lot ?c_law_no_lot ?k_law_no_lot ?a_law_no_prime ?l_law_no_prime ?c_law_no_prime ?k_law_no_prime ?a_law_kinds ?l_law_kinds ?c_law_kinds ?k_law_kinds ?a_law_says ?l_law_says ?c_law_says ?k_law_says ?a_has_by ?l_has_by ?c_has_by ?k_has_by ?a_power_in ?l_power_in ?c_power_in ?k_power_in ?a_power_behind ?l_power_behind ?c_power_behind ?k_power_behind ?a_nearest ?l_nearest ?c_nearest ?k_nearest ?a_is_endless ?l_is_endless ?c_is_endless ?k_is_endless ?a_is_end ?l_is_end ?c_is_end ?k_is_end ?a_merged ?l_merged ?c_merged ?k_merged ?a_trimmed_lot ?l_trimmed_lot ?c_trimmed_lot ?k_trimmed_lot ?a_part_by ?l_part_by ?c_part_by ?k_part_by ?a_plain_row ?l_plain_row ?c_plain_row ?k_plain_row ?a_rests_of ?l_rests_of ?c_rests_of ?k_rests_of ?a_row_by ?l_row_by ?c_row_by ?k_row_by ?a_first_order_by ?l_first_order_by ?c_first_order_by ?k_first_order_by ?a_is_number ?l_is_number ?c_is_number ?k_is_number ?a_is_rising ?l_is_rising ?c_is_rising ?k_is_rising ?a_is_lot_of ?l_is_lot_of ?c_is_lot_of ?k_is_lot_of ?a_need_lot ?l_need_lot ?c_need_lot ?k_need_lot ?a_need_many ?l_need_many ?c_need_many ?k_need_many ?a_is_prime ?l_is_prime ?c_is_prime ?k_is_prime ?a_need_prime ?l_need_prime ?c_need_prime ?k_need_prime ?a_first_order ?l_first_order ?c_first_order ?k_first_order ?a_law ?l_law ?c_law ?k_law ?t_law ?a_law_caught ?l_law_caught ?c_law_caught ?k_law_caught ?z_all ?z_any ?z_bool ?z_dict ?z_enumerate ?z_int ?z_isinstance ?z_len ?z_list ?z_min ?z_range ?z_repr ?z_set ?z_sorted ?z_str ?z_sum ?z_tuple ?z_zip ?v_MOST_K ?v_MOST_MODULUS ?v_MOST_NUMBER ?v_MOST_NUMBERS ?v_MOST_PRIME ?v_gcd ?q0_BadLot ?q1_BadLot ?q2_BadLot ?q3_BadLot ?q4_BadLot ?q5_BadLot ?q6_BadLot ?q7_BadLot ?q8_BadLot ?q9_BadLot ?q0_BadMany ?q1_BadMany ?q2_BadMany ?q3_BadMany ?q4_BadMany ?q5_BadMany ?q6_BadMany ?q7_BadMany ?q8_BadMany ?q9_BadMany ?q0_BadPrime ?q1_BadPrime ?q2_BadPrime ?q3_BadPrime ?q4_BadPrime ?q5_BadPrime ?q6_BadPrime ?q7_BadPrime ?q8_BadPrime ?q9_BadPrime ?q0_LotError ?q1_LotError ?q2_LotError ?q3_LotError ?q4_LotError ?q5_LotError ?q6_LotError ?q7_LotError ?q8_LotError ?q9_LotError ?s1 ?s2 ?j_LotError_BadLot ?d_LotError_BadLot ?j_BadLot_BadLot ?j_BadMany_BadLot ?d_BadMany_BadLot ?j_BadPrime_BadLot ?d_BadPrime_BadLot ?j_LotError_BadMany ?d_LotError_BadMany ?j_BadLot_BadMany ?d_BadLot_BadMany ?j_BadMany_BadMany ?j_BadPrime_BadMany ?d_BadPrime_BadMany ?j_LotError_BadPrime ?d_LotError_BadPrime ?j_BadLot_BadPrime ?d_BadLot_BadPrime ?j_BadMany_BadPrime ?d_BadMany_BadPrime ?j_BadPrime_BadPrime ?x_LotError ?x_BadLot ?x_BadMany ?x_BadPrime
    (case a_law_begun => k_is)
    (case l_law_begun => k_is)
    (case c_law_begun => k_is)
    (case k_law_begun => k_is)
    (case a_law_has => k_is)
    (case l_law_has => k_is)
    (case c_law_has => k_is)
    (case k_law_has => k_is)
    (case a_law_power_in => k_is)
    (case l_law_power_in => k_is)
    (case c_law_power_in => k_is)
    (case k_law_power_in => k_is)
    (case a_law_sample => k_is)
    (case l_law_sample => k_is)
    (case c_law_sample => k_is)
    (case k_law_sample => k_is)
    (case a_law_row => k_is)
    (case l_law_row => k_is)
    (case c_law_row => k_is)
    (case k_law_row => k_is)
    (case a_law_first_order => k_is)
    (case l_law_first_order => k_is)
    (case c_law_first_order => k_is)
    (case k_law_first_order => k_is)
    (case a_law_mixed => k_is)
    (case l_law_mixed => k_is)
    (case c_law_mixed => k_is)
    (case k_law_mixed => k_is)
    (case a_law_take => k_is)
    (case l_law_take => k_is)
    (case c_law_take => k_is)
    (case k_law_take => k_is)
    (case a_law_pick => k_is)
    (case l_law_pick => k_is)
    (case c_law_pick => k_is)
    (case k_law_pick => k_is)
    (case a_law_endless_lot => k_is)
    (case l_law_endless_lot => k_is)
    (case c_law_endless_lot => k_is)
    (case k_law_endless_lot => k_is)
    (case a_law_finite_lot => k_is)
    (case l_law_finite_lot => k_is)
    (case c_law_finite_lot => k_is)
    (case k_law_finite_lot => k_is)
    (case a_law_lot => k_is)
    (case l_law_lot => k_is)
    (case c_law_lot => k_is)
    (case k_law_lot => k_is)
    (case a_law_odd => k_is)
    (case l_law_odd => k_is)
    (case c_law_odd => k_is)
    (case k_law_odd => k_is)
    (case a_law_no_lot => k_is)
    (case l_law_no_lot => k_is)
    (case c_law_no_lot => k_is)
    (case k_law_no_lot => k_is)
    (case a_law_no_prime => k_is)
    (case l_law_no_prime => k_is)
    (case c_law_no_prime => k_is)
    (case k_law_no_prime => k_is)
    (case a_law_kinds => k_is)
    (case l_law_kinds => k_is)
    (case c_law_kinds => k_is)
    (case k_law_kinds => k_is)
    (case a_law_says => k_is)
    (case l_law_says => k_is)
    (case c_law_says => k_is)
    (case k_law_says => k_is)
    (case a_has_by => k_is)
    (case l_has_by => k_is)
    (case c_has_by => k_is)
    (case k_has_by => k_is)
    (case a_power_in => k_is)
    (case l_power_in => k_is)
    (case c_power_in => k_is)
    (case k_power_in => k_is)
    (case a_power_behind => k_is)
    (case l_power_behind => k_is)
    (case c_power_behind => k_is)
    (case k_power_behind => k_is)
    (case a_nearest => k_is)
    (case l_nearest => k_is)
    (case c_nearest => k_is)
    (case k_nearest => k_is)
    (case a_is_endless => k_is)
    (case l_is_endless => k_is)
    (case c_is_endless => k_is)
    (case k_is_endless => k_is)
    (case a_is_end => k_is)
    (case l_is_end => k_is)
    (case c_is_end => k_is)
    (case k_is_end => k_is)
    (case a_merged => k_is)
    (case l_merged => k_is)
    (case c_merged => k_is)
    (case k_merged => k_is)
    (case a_trimmed_lot => k_is)
    (case l_trimmed_lot => k_is)
    (case c_trimmed_lot => k_is)
    (case k_trimmed_lot => k_is)
    (case a_part_by => k_is)
    (case l_part_by => k_is)
    (case c_part_by => k_is)
    (case k_part_by => k_is)
    (case a_plain_row => k_is)
    (case l_plain_row => k_is)
    (case c_plain_row => k_is)
    (case k_plain_row => k_is)
    (case a_rests_of => k_is)
    (case l_rests_of => k_is)
    (case c_rests_of => k_is)
    (case k_rests_of => k_is)
    (case a_row_by => k_is)
    (case l_row_by => k_is)
    (case c_row_by => k_is)
    (case k_row_by => k_is)
    (case a_first_order_by => k_is)
    (case l_first_order_by => k_is)
    (case c_first_order_by => k_is)
    (case k_first_order_by => k_is)
    (case a_is_number => k_is)
    (case l_is_number => k_is)
    (case c_is_number => k_is)
    (case k_is_number => k_is)
    (case a_is_rising => k_is)
    (case l_is_rising => k_is)
    (case c_is_rising => k_is)
    (case k_is_rising => k_is)
    (case a_is_lot_of => k_is)
    (case l_is_lot_of => k_is)
    (case c_is_lot_of => k_is)
    (case k_is_lot_of => k_is)
    (case a_need_lot => k_is)
    (case l_need_lot => k_is)
    (case c_need_lot => k_is)
    (case k_need_lot => k_is)
    (case a_need_many => k_is)
    (case l_need_many => k_is)
    (case c_need_many => k_is)
    (case k_need_many => k_is)
    (case a_is_prime => k_is)
    (case l_is_prime => k_is)
    (case c_is_prime => k_is)
    (case k_is_prime => k_is)
    (case a_need_prime => k_is)
    (case l_need_prime => k_is)
    (case c_need_prime => k_is)
    (case k_need_prime => k_is)
    (case a_first_order => k_is)
    (case l_first_order => k_is)
    (case c_first_order => k_is)
    (case k_first_order => k_is)
    (case a_law => k_is)
    (case l_law => k_is)
    (case c_law => k_is)
    (case k_law => k_is)
    (case t_law => exact ⟨_, List.Mem.tail _ (List.Mem.head _), by kernel_rfl, by kernel_rfl⟩)
    (case a_law_caught => k_is)
    (case l_law_caught => k_is)
    (case c_law_caught => k_is)
    (case k_law_caught => k_is)
    (case z_all => k_is)
    (case z_any => k_is)
    (case z_bool => k_is)
    (case z_dict => k_is)
    (case z_enumerate => k_is)
    (case z_int => k_is)
    (case z_isinstance => k_is)
    (case z_len => k_is)
    (case z_list => k_is)
    (case z_min => k_is)
    (case z_range => k_is)
    (case z_repr => k_is)
    (case z_set => k_is)
    (case z_sorted => k_is)
    (case z_str => k_is)
    (case z_sum => k_is)
    (case z_tuple => k_is)
    (case z_zip => k_is)
    (case v_MOST_K => k_is)
    (case v_MOST_MODULUS => k_is)
    (case v_MOST_NUMBER => k_is)
    (case v_MOST_NUMBERS => k_is)
    (case v_MOST_PRIME => k_is)
    (case v_gcd => k_is)
    (case q0_BadLot => k_is)
    (case q1_BadLot => first | k_is | k_exc)
    (case q2_BadLot => k_is)
    (case q3_BadLot => k_is)
    (case q4_BadLot => k_is)
    (case q5_BadLot => k_is)
    (case q6_BadLot => k_is)
    (case q7_BadLot => k_is)
    (case q8_BadLot => k_is)
    (case q9_BadLot => k_is)
    (case q0_BadMany => k_is)
    (case q1_BadMany => first | k_is | k_exc)
    (case q2_BadMany => k_is)
    (case q3_BadMany => k_is)
    (case q4_BadMany => k_is)
    (case q5_BadMany => k_is)
    (case q6_BadMany => k_is)
    (case q7_BadMany => k_is)
    (case q8_BadMany => k_is)
    (case q9_BadMany => k_is)
    (case q0_BadPrime => k_is)
    (case q1_BadPrime => first | k_is | k_exc)
    (case q2_BadPrime => k_is)
    (case q3_BadPrime => k_is)
    (case q4_BadPrime => k_is)
    (case q5_BadPrime => k_is)
    (case q6_BadPrime => k_is)
    (case q7_BadPrime => k_is)
    (case q8_BadPrime => k_is)
    (case q9_BadPrime => k_is)
    (case q0_LotError => k_is)
    (case q1_LotError => first | k_is | k_exc)
    (case q2_LotError => k_is)
    (case q3_LotError => k_is)
    (case q4_LotError => k_is)
    (case q5_LotError => k_is)
    (case q6_LotError => k_is)
    (case q7_LotError => k_is)
    (case q8_LotError => k_is)
    (case q9_LotError => k_is)
    (case s1 => k_is)
    (case s2 => k_is)
    (case j_LotError_BadLot => first | k_is | kernel_rfl)
    (case d_LotError_BadLot => decide)
    (case j_BadLot_BadLot => first | k_is | kernel_rfl)
    (case j_BadMany_BadLot => first | k_is | kernel_rfl)
    (case d_BadMany_BadLot => decide)
    (case j_BadPrime_BadLot => first | k_is | kernel_rfl)
    (case d_BadPrime_BadLot => decide)
    (case j_LotError_BadMany => first | k_is | kernel_rfl)
    (case d_LotError_BadMany => decide)
    (case j_BadLot_BadMany => first | k_is | kernel_rfl)
    (case d_BadLot_BadMany => decide)
    (case j_BadMany_BadMany => first | k_is | kernel_rfl)
    (case j_BadPrime_BadMany => first | k_is | kernel_rfl)
    (case d_BadPrime_BadMany => decide)
    (case j_LotError_BadPrime => first | k_is | kernel_rfl)
    (case d_LotError_BadPrime => decide)
    (case j_BadLot_BadPrime => first | k_is | kernel_rfl)
    (case d_BadLot_BadPrime => decide)
    (case j_BadMany_BadPrime => first | k_is | kernel_rfl)
    (case d_BadMany_BadPrime => decide)
    (case j_BadPrime_BadPrime => first | k_is | kernel_rfl)
    (case x_LotError => first | k_is | kernel_rfl)
    (case x_BadLot => first | k_is | kernel_rfl)
    (case x_BadMany => first | k_is | kernel_rfl)
    (case x_BadPrime => first | k_is | kernel_rfl)
