import PyProof.Rows.All
import Wide.All
import OpenK.AllK
import Wide.FinOn
import KE.KStateDown
import Lean
import HandS.Base
import HandS.Call
import HandS.List
import HandS.Ends
import HandS.More
import HandS.Words
import HandS.WordsExc
import HandS.Defaults
import HandS.Head0
import HandS.Head1
import HandS.Head2
import HandS.HeadEnd
import HandS.HeadHook1
import HandS.HeadHook2
import KE.KDictKeyed
import HandS.ForMost
import HandS.Exc
import HandS.TryOnly
import HandS.TryMany
import HandS.ExcOwn
import HandS.ExcInit
import HandS.ExcSuper
import HandS.Property
import HandS.IsInst
import HandS.TupAny
import HandS.TupMul
import HandS.Deep
import HandS.Style
import HandS.Flow
import HandS.Wide
import HandS.WideBits
import HandS.SortInts
import HandS.Star
import HandS.Lambda
import HandS.EndBits
import HandS.EndTab
import HandS.Walk
import HandS.Zip
import KE.GoesMore
import PyProof.EnumMake
import KE.KExcSuper
import HandS.OwnEq
import HandS.ExcField
import HandS.ExcIs
import KE.KExcIs
import HandS.Nested
import HandS.CallSlots
import HandS.Iter
import PySem.Challenge.RW_takesmemory_k07_whole_partings
set_option Elab.async false
set_option linter.all false
set_option maxRecDepth 100000
set_option maxHeartbeats 4000000
section
namespace Tk
open PySem PySem.Spec L2
/-! ### frames between abstract heaps: all but the objects at S stays (code tables may grow); tuples and locked things always stay -/
/-- what never changes: an exception's fields, a code object -/
def Stay (b : Addr) (o : HO) : Prop := (∃ fs, o = .xd fs) ∨ ∃ q, o = LamX.CodeO b q
/-- P: of which tables it is told what they hold -/
structure FrG (P : Addr → Str → Prop) (S : List Addr) (H H' : Hp) : Prop where
  keep : ∀ b o, b ∉ S → (∀ ps, o ≠ .tbl ps) → H b = some o → H' b = some o
  tup : ∀ b xs, H b = some (.tup xs) → H' b = some (.tup xs)
  frz : ∀ b o u, H b = some (.frz o u) → H' b = some (.frz o u)
  dom : ∀ b, H b ≠ none → H' b ≠ none
  tbs : ∀ b q, P b q → LamX.TabS H b q → LamX.TabS H' b q
  pm : ∀ b o, Stay b o → H b = some o → H' b = some o
abbrev Fr : List Addr → Hp → Hp → Prop := FrG fun _ _ => True
theorem upd_dom {H : Hp} {p b : Addr} {o : HO} (h : H b ≠ none) : upd H p o b ≠ none := by
  by_cases e : b = p
  · rw [e, upd_same]
    exact fun z => by cases z
  · rw [upd_ne e]
    exact h
theorem tabS_upd {H : Hp} {p b : Addr} {q : Str} {o : HO} (h : LamX.TabS H b q) (n : ∀ u, H p = some u → (∀ ps, u ≠ .tbl ps) ∧ ∀ q, u ≠ LamX.CodeO p q) : LamX.TabS (upd H p o) b q := by
  obtain ⟨ps, h1, h2, h3⟩ := h
  refine ⟨ps, by rw [upd_ne (fun e : b = p => (n _ (by rw [← e]; exact h1)).1 ps rfl)]; exact h1, h2, fun pos cv hc => ?_⟩
  obtain ⟨c, e1, e2⟩ := h3 pos cv hc
  exact ⟨c, e1, by rw [upd_ne (fun e : c = p => (n (LamX.CodeO c q) (by rw [← e]; exact e2)).2 q (by rw [e]))]; exact e2⟩
theorem FrG.refl {P : Addr → Str → Prop} {S : List Addr} {H : Hp} : FrG P S H H := ⟨fun _ _ _ _ h => h, fun _ _ h => h, fun _ _ _ h => h, fun _ h => h, fun _ _ _ h => h, fun _ _ _ h => h⟩
theorem FrG.trans {P : Addr → Str → Prop} {S : List Addr} {H H1 H2 : Hp} (a : FrG P S H H1) (b : FrG P S H1 H2) : FrG P S H H2 :=
  ⟨fun c o n t h => b.keep c o n t (a.keep c o n t h), fun c xs h => b.tup c xs (a.tup c xs h), fun c o u h => b.frz c o u (a.frz c o u h), fun c h => b.dom c (a.dom c h), fun c q p h => b.tbs c q p (a.tbs c q p h), fun c o t h => b.pm c o t (a.pm c o t h)⟩
theorem FrG.mono {P : Addr → Str → Prop} {S S' : List Addr} {H H' : Hp} (a : FrG P S H H') (h : ∀ b, b ∈ S → b ∈ S') : FrG P S' H H' :=
  ⟨fun c o n t e => a.keep c o (fun z => n (h c z)) t e, a.tup, a.frz, a.dom, a.tbs, a.pm⟩
theorem FrG.nil {P : Addr → Str → Prop} {S : List Addr} {H H' : Hp} (a : FrG P [] H H') : FrG P S H H' := a.mono fun _ z => absurd z List.not_mem_nil
theorem FrG.new {P : Addr → Str → Prop} {S : List Addr} {H : Hp} {p : Addr} {o : HO} (n : H p = none) : FrG P S H (upd H p o) :=
  ⟨fun c u _ _ h => by rw [upd_ne (ne_of_none h n)]; exact h, fun c u h => by rw [upd_ne (ne_of_none h n)]; exact h, fun c u v h => by rw [upd_ne (ne_of_none h n)]; exact h, fun _ h => upd_dom h, fun _ _ _ h => tabS_upd h fun u e => (by rw [n] at e; cases e), fun c u _ h => by rw [upd_ne (ne_of_none h n)]; exact h⟩
/-- an object that is no tuple, no locked thing is written -/
theorem FrG.put {P : Addr → Str → Prop} {S : List Addr} {H : Hp} {p : Addr} {o u : HO} (e : H p = some u) (ht : ∀ xs, u ≠ .tup xs) (hf : ∀ a v, u ≠ .frz a v) (m : p ∈ S) (hb : ∀ ps, u ≠ .tbl ps := by intro _ z; cases z) (hc : ∀ q, u ≠ LamX.CodeO p q := by intro _ z; unfold LamX.CodeO at z; cases z) (hx : ∀ fs, u ≠ .xd fs := by intro _ z; cases z) : FrG P S H (upd H p o) :=
  ⟨fun c u' n _ h => by rw [upd_ne (show c ≠ p from fun z => n (by rw [z]; exact m))]; exact h,
   fun c xs h => by rw [upd_ne (show c ≠ p from fun z => ht xs (by rw [z, e] at h; exact Option.some.inj h))]; exact h,
   fun c a v h => by rw [upd_ne (show c ≠ p from fun z => hf a v (by rw [z, e] at h; exact Option.some.inj h))]; exact h, fun _ h => upd_dom h, fun _ _ _ h => tabS_upd h fun v e2 => (by rw [e] at e2; cases e2; exact ⟨hb, hc⟩),
   fun c v t h => by rw [upd_ne (show c ≠ p from fun z => by rw [z, e] at h; cases h; exact t.elim (fun ⟨_, q⟩ => hx _ q) fun ⟨_, q⟩ => hc _ (by rw [z] at q; exact q))]; exact h⟩
theorem FrG.xd {P : Addr → Str → Prop} {S : List Addr} {H H' : Hp} {b : Addr} {fs : List (Str × V)} (F : FrG P S H H') (h : H b = some (.xd fs)) : H' b = some (.xd fs) := F.pm b _ (.inl ⟨_, rfl⟩) h
theorem FrG.code {P : Addr → Str → Prop} {S : List Addr} {H H' : Hp} {b : Addr} {q : Str} (F : FrG P S H H') (h : H b = some (LamX.CodeO b q)) : H' b = some (LamX.CodeO b q) := F.pm b _ (.inr ⟨_, rfl⟩) h
theorem FrG.lst {P : Addr → Str → Prop} {S : List Addr} {H H' : Hp} {b : Addr} {xs : List V} (F : FrG P S H H') (n : b ∉ S) (h : H b = some (.lst xs)) : H' b = some (.lst xs) := F.keep b _ n (fun _ z => by cases z) h
theorem FrG.lst0 {P : Addr → Str → Prop} {H H' : Hp} {b : Addr} {xs : List V} (F : FrG P [] H H') (h : H b = some (.lst xs)) : H' b = some (.lst xs) := F.lst List.not_mem_nil h
theorem FrG.ins {P : Addr → Str → Prop} {S : List Addr} {H H' : Hp} {b C d : Addr} {fs : List (Str × V)} (F : FrG P S H H') (n : b ∉ S) (h : H b = some (.ins C d fs)) : H' b = some (.ins C d fs) := F.keep b _ n (fun _ z => by cases z) h
theorem FrG.ins0 {P : Addr → Str → Prop} {H H' : Hp} {b C d : Addr} {fs : List (Str × V)} (F : FrG P [] H H') (h : H b = some (.ins C d fs)) : H' b = some (.ins C d fs) := F.ins List.not_mem_nil h
theorem FrG.dK {P : Addr → Str → Prop} {S : List Addr} {H H' : Hp} {b : Addr} {kvs : List (Key × V)} (F : FrG P S H H') (n : b ∉ S) (h : H b = some (.dK kvs)) : H' b = some (.dK kvs) := F.keep b _ n (fun _ z => by cases z) h
theorem FrG.ext {P : Addr → Str → Prop} {S : List Addr} {H H' : Hp} {b : Addr} {φ : Heap → Prop} (F : FrG P S H H') (n : b ∉ S) (h : H b = some (.ext φ)) : H' b = some (.ext φ) := F.keep b _ n (fun _ z => by cases z) h
theorem FrG.sqt {K : PySem.W.Frag} {P : Addr → Str → Prop} {S : List Addr} {H H' : Hp} {a : Addr} {xs : List V} (F : FrG P S H H') (h : SqT K H a xs) : SqT K H' a xs := by
  rcases h with (h | ⟨o, h⟩) | h
  · exact .inl (.inl (F.tup _ _ h))
  · exact .inl (.inr ⟨o, F.frz _ _ _ h⟩)
  · exact .inr h
theorem FrG.sql {K : PySem.W.Frag} {P : Addr → Str → Prop} {S : List Addr} {H H' : Hp} {a : Addr} {xs : List V} (F : FrG P S H H') (n : a ∉ S) (h : SqL K H a xs) : SqL K H' a xs := by
  rcases h with (h | ⟨o, h⟩) | h
  · exact .inl (.inl (F.lst n h))
  · exact .inl (.inr ⟨o, F.frz _ _ _ h⟩)
  · exact .inr h
theorem FrG.sql0 {K : PySem.W.Frag} {P : Addr → Str → Prop} {H H' : Hp} {a : Addr} {xs : List V} (F : FrG P [] H H') (h : SqL K H a xs) : SqL K H' a xs := F.sql List.not_mem_nil h
/-- what is free behind was free ahead -/
theorem FrG.free {P : Addr → Str → Prop} {S : List Addr} {H H' : Hp} {l : Addr} (F : FrG P S H H') (h : H' l = none) : H l = none := by
  cases q : H l with
  | none => rfl
  | some o => exact absurd h (F.dom l (by rw [q]; exact fun z => by cases z))

theorem FrG.over {P : Addr → Str → Prop} {S : List Addr} {H H1 H2 : Hp} {p : Addr} (n : H p = none) (F : FrG P S H H1) (G : FrG P (p :: S) H1 H2) : FrG P S H H2 :=
  ⟨fun b o nb t h => G.keep b o (fun z => (List.mem_cons.mp z).elim (fun e => by rw [e, n] at h; cases h) nb) t (F.keep b o nb t h), fun b xs h => G.tup b xs (F.tup b xs h), fun b o u h => G.frz b o u (F.frz b o u h), fun b h => G.dom b (F.dom b h), fun b q p h => G.tbs b q p (F.tbs b q p h), fun b o t h => G.pm b o t (F.pm b o t h)⟩
theorem FrG.weak {P : Addr → Str → Prop} {S : List Addr} {H H' : Hp} (F : Fr S H H') : FrG P S H H' := ⟨F.keep, F.tup, F.frz, F.dom, fun b q _ h => F.tbs b q trivial h, F.pm⟩
theorem FrG.imp {P P' : Addr → Str → Prop} {S : List Addr} {H H' : Hp} (F : FrG P S H H') (h : ∀ b q, P' b q → P b q) : FrG P' S H H' := ⟨F.keep, F.tup, F.frz, F.dom, fun b q p x => F.tbs b q (h b q p) x, F.pm⟩
theorem Fr.refl {S : List Addr} {H : Hp} : Fr S H H := FrG.refl
theorem Fr.new {S : List Addr} {H : Hp} {p : Addr} {o : HO} (n : H p = none) : Fr S H (upd H p o) := FrG.new n
theorem Fr.put {S : List Addr} {H : Hp} {p : Addr} {o u : HO} (e : H p = some u) (ht : ∀ xs, u ≠ .tup xs) (hf : ∀ a v, u ≠ .frz a v) (m : p ∈ S) (hb : ∀ ps, u ≠ .tbl ps := by intro _ z; cases z) (hc : ∀ q, u ≠ LamX.CodeO p q := by intro _ z; unfold LamX.CodeO at z; cases z) (hx : ∀ fs, u ≠ .xd fs := by intro _ z; cases z) : Fr S H (upd H p o) := FrG.put e ht hf m hb hc hx
theorem Fr.over {S : List Addr} {H H1 H2 : Hp} {p : Addr} (n : H p = none) (F : Fr S H H1) (G : Fr (p :: S) H1 H2) : Fr S H H2 := FrG.over n F G
/-! ### data without change: None, bools, ints, texts, tuples of such -/
mutual
inductive Tp (K : PySem.W.Frag) (H : Hp) : V → PyData → Prop
  | non : Tp K H .non .none
  | bl (b : Bool) : Tp K H (.bl b) (.bool b)
  | int (i : Int) : Tp K H (.int i) (.int i)
  | str (x : Str) : Tp K H (.str x) (.str x)
  | tup {a : Addr} {xs : List V} {ds : List PyData} : SqT K H a xs → TpL K H xs ds → Tp K H (.ref a) (.tuple ds)
inductive TpL (K : PySem.W.Frag) (H : Hp) : List V → List PyData → Prop
  | nil : TpL K H [] []
  | cons {v : V} {vs : List V} {d : PyData} {ds : List PyData} : Tp K H v d → TpL K H vs ds → TpL K H (v :: vs) (d :: ds)
end
section
variable {K : PySem.W.Frag} {Pf : Addr → Str → Prop} {S : List Addr} {H H' : Hp}
mutual
theorem Tp.fr (F : FrG Pf S H H') : ∀ {v : V} {d : PyData}, Tp K H v d → Tp K H' v d
  | _, _, .non => .non
  | _, _, .bl b => .bl b
  | _, _, .int i => .int i
  | _, _, .str x => .str x
  | _, _, .tup h t => .tup (F.sqt h) (TpL.fr F t)
theorem TpL.fr (F : FrG Pf S H H') : ∀ {vs : List V} {ds : List PyData}, TpL K H vs ds → TpL K H' vs ds
  | _, _, .nil => .nil
  | _, _, .cons h t => .cons (Tp.fr F h) (TpL.fr F t)
end
mutual
theorem Tp.dp : ∀ {v : V} {d : PyData}, Tp K H v d → Dp K H v d
  | _, _, .non => .non
  | _, _, .bl b => .bl b
  | _, _, .int i => .int i
  | _, _, .str x => .str x
  | _, _, .tup h t => .tup h (TpL.dp t)
theorem TpL.dp : ∀ {vs : List V} {ds : List PyData}, TpL K H vs ds → DpAll K H vs ds
  | _, _, .nil => .nil
  | _, _, .cons h t => .cons (Tp.dp h) (TpL.dp t)
end
theorem TpL.length : ∀ {vs : List V} {ds : List PyData}, TpL K H vs ds → vs.length = ds.length
  | _, _, .nil => rfl
  | _, _, .cons _ t => congrArg Nat.succ (TpL.length t)
theorem TpL.get : ∀ {vs : List V} {ds : List PyData} {i : Nat} {d : PyData}, TpL K H vs ds → ds[i]? = some d → ∃ v, vs[i]? = some v ∧ Tp K H v d
  | _, _, _, _, .nil, e => by simp at e
  | _, _, 0, _, .cons h _, e => by simp at e; subst e; exact ⟨_, rfl, h⟩
  | _, _, i + 1, d, .cons _ t, e => by
    obtain ⟨v, h1, h2⟩ := TpL.get (i := i) (d := d) t (by simpa using e)
    exact ⟨v, by simpa using h1, h2⟩
theorem TpL.get' : ∀ {vs : List V} {ds : List PyData} {i : Nat} {v : V}, TpL K H vs ds → vs[i]? = some v → ∃ d, ds[i]? = some d ∧ Tp K H v d
  | _, _, _, _, .nil, e => by simp at e
  | _, _, 0, _, .cons h _, e => by simp at e; subst e; exact ⟨_, rfl, h⟩
  | _, _, i + 1, d, .cons _ t, e => by
    obtain ⟨v, h1, h2⟩ := TpL.get' (i := i) (v := d) t (by simpa using e)
    exact ⟨v, by simpa using h1, h2⟩
theorem TpL.app : ∀ {vs us : List V} {ds es : List PyData}, TpL K H vs ds → TpL K H us es → TpL K H (vs ++ us) (ds ++ es)
  | _, _, _, _, .nil, h => h
  | _, _, _, _, .cons h t, g => .cons h (TpL.app t g)
theorem TpL.one {v : V} {d : PyData} (h : Tp K H v d) : TpL K H [v] [d] := .cons h .nil
theorem TpL.snoc {vs : List V} {ds : List PyData} {v : V} {d : PyData} (t : TpL K H vs ds) (h : Tp K H v d) : TpL K H (vs ++ [v]) (ds ++ [d]) := t.app (.one h)
theorem TpL.drop : ∀ {vs : List V} {ds : List PyData} (n : Nat), TpL K H vs ds → TpL K H (vs.drop n) (ds.drop n)
  | _, _, 0, h => h
  | _, _, _ + 1, .nil => .nil
  | _, _, n + 1, .cons _ t => TpL.drop n t
theorem TpL.take : ∀ {vs : List V} {ds : List PyData} (n : Nat), TpL K H vs ds → TpL K H (vs.take n) (ds.take n)
  | _, _, 0, _ => .nil
  | _, _, _ + 1, .nil => .nil
  | _, _, n + 1, .cons h t => .cons h (TpL.take n t)
theorem TpL.rev : ∀ {vs : List V} {ds : List PyData}, TpL K H vs ds → TpL K H vs.reverse ds.reverse
  | _, _, .nil => .nil
  | _, _, .cons h t => by rw [List.reverse_cons, List.reverse_cons]; exact (TpL.rev t).snoc h
theorem TpL.set : ∀ {vs : List V} {ds : List PyData} {v : V} {d : PyData} (n : Nat), TpL K H vs ds → Tp K H v d → TpL K H (vs.set n v) (ds.set n d)
  | _, _, _, _, _, .nil, _ => .nil
  | _, _, _, _, 0, .cons _ t, h => .cons h t
  | _, _, _, _, n + 1, .cons g t, h => .cons g (TpL.set n t h)
theorem TpL.ints : ∀ (ns : List Int), TpL K H (ns.map V.int) (ns.map PyData.int)
  | [] => .nil
  | n :: ns => .cons (.int n) (TpL.ints ns)
theorem TpL.bls : ∀ (ns : List Bool), TpL K H (ns.map V.bl) (ns.map PyData.bool)
  | [] => .nil
  | n :: ns => .cons (.bl n) (TpL.bls ns)
theorem TpL.strs : ∀ (ns : List Str), TpL K H (ns.map V.str) (ns.map PyData.str)
  | [] => .nil
  | n :: ns => .cons (.str n) (TpL.strs ns)
theorem TpL.of_ints : ∀ {ns : List Int} {vs : List V}, TpL K H vs (ns.map PyData.int) → vs = ns.map V.int
  | [], _, .nil => rfl
  | n :: ns, _, .cons (.int _) t => by rw [TpL.of_ints t]; rfl
theorem TpL.of_bls : ∀ {ns : List Bool} {vs : List V}, TpL K H vs (ns.map PyData.bool) → vs = ns.map V.bl
  | [], _, .nil => rfl
  | n :: ns, _, .cons (.bl _) t => by rw [TpL.of_bls t]; rfl
theorem TpL.of_strs : ∀ {ns : List Str} {vs : List V}, TpL K H vs (ns.map PyData.str) → vs = ns.map V.str
  | [], _, .nil => rfl
  | n :: ns, _, .cons (.str _) t => by rw [TpL.of_strs t]; rfl
theorem Tp.tupi {v : V} {ds : List PyData} (h : Tp K H v (.tuple ds)) : ∃ a xs, v = .ref a ∧ SqT K H a xs ∧ TpL K H xs ds := by
  cases h with
  | tup h t => exact ⟨_, _, rfl, h, t⟩
end
/-- at a: a list of the data ds -/
def LsD (K : PySem.W.Frag) (H : Hp) (a : Addr) (ds : List PyData) : Prop := ∃ xs, H a = some (.lst xs) ∧ TpL K H xs ds
theorem LsD.fr {K : PySem.W.Frag} {Pf : Addr → Str → Prop} {S : List Addr} {H H' : Hp} {a : Addr} {ds : List PyData} (F : FrG Pf S H H') (n : a ∉ S) : LsD K H a ds → LsD K H' a ds
  | ⟨xs, h, t⟩ => ⟨xs, F.lst n h, t.fr F⟩
theorem LsD.fr0 {K : PySem.W.Frag} {Pf : Addr → Str → Prop} {H H' : Hp} {a : Addr} {ds : List PyData} (F : FrG Pf [] H H') (h : LsD K H a ds) : LsD K H' a ds := h.fr F List.not_mem_nil
end Tk

end

section
namespace Tk
open PySem PySem.Spec L2
/-! ### operators by values: one rule each, several kinds of values -/
theorem OpR.orr {X : Cx} {f : Value → Value → Sem Value} {r r' : R2} (h : OpR X f r) (h' : OpR X f r') : OpR X f (fun x y H Q => r x y H Q ∨ r' x y H Q) := by
  intro pins s σ H x y v u Q I rx ry q
  rcases q with q | q
  · exact h pins s σ H x y v u Q I rx ry q
  · exact h' pins s σ H x y v u Q I rx ry q
abbrev rAddI : R2 := rI0 fun i j => .int (i + j)
abbrev rAddS : R2 := fun x y H Q => ∃ i j, x = .str i ∧ y = .str j ∧ i.length + j.length ≤ sizeLine ∧ Q (.str (i ++ j)) H
def rAddA (K : PySem.W.Frag) : R2 := fun x y H Q => rAddI x y H Q ∨ rAddS x y H Q ∨ rCat x y H Q ∨ rCatA K x y H Q
theorem op_addA {X : Cx} : OpR X (binaryOp .Add) (rAddA X.K) := OpR.orr op_add (OpR.orr op_add_str (OpR.orr op_cat op_catA))
abbrev rMulI : R2 := rI CMul fun i j => .int (i * j)
def rMulA (K : PySem.W.Frag) : R2 := fun x y H Q => rMulI x y H Q ∨ rRep x y H Q ∨ rRepT K x y H Q
theorem op_mulA {X : Cx} : OpR X (binaryOp .Mult) (rMulA X.K) := OpR.orr op_mul (OpR.orr op_rep op_repT)
def rEqA (K : PySem.W.Frag) : R2 := fun x y H Q => rEq x y H Q ∨ rEqD K x y H Q
def rNeA (K : PySem.W.Frag) : R2 := fun x y H Q => rNe x y H Q ∨ rNeD K x y H Q
theorem op_eqA {X : Cx} (hu : X.A.units + 64 < cLine) : OpR X (compareOp .Eq) (rEqA X.K) := OpR.orr op_eq (op_eqD hu)
theorem op_neA {X : Cx} (hu : X.A.units + 64 < cLine) : OpR X (compareOp .NotEq) (rNeA X.K) := OpR.orr op_ne (op_neD hu)
def rInA (K : PySem.W.Frag) : R2 := fun x y H Q => rIn K false x y H Q ∨ rInD K x y H Q
def rNotInA (K : PySem.W.Frag) : R2 := fun x y H Q => rIn K true x y H Q ∨ rNotInD K x y H Q
theorem op_inA {X : Cx} (hu : X.A.units + 65 < cLine) : OpR X (compareOp .In) (rInA X.K) := OpR.orr op_in_seq (op_inD hu)
theorem op_notInA {X : Cx} (hu : X.A.units + 65 < cLine) : OpR X (compareOp .NotIn) (rNotInA X.K) := OpR.orr op_notIn_seq (op_notInD hu)
def rSl (K : PySem.W.Frag) : V → Option Int → Option Int → Hp → VK → Prop := fun x lo hi H Q => rSlL K x lo hi H Q ∨ rSlA K x lo hi H Q
theorem sl_any {X : Cx} : SlR X (rSl X.K) := SlR.or sl_list sl_tupA
theorem units64 {k : Nat} {A : Around} (r : Room k A) : A.units + 64 < cLine := r.units
theorem units65 {k : Nat} {A : Around} (r : Room k A) : A.units + 65 < cLine := by have := r.un; omega

/-! ### what is known of a def: its promise, by its name -/
def Ok (P : Program) (w : World) (K : PySem.W.Frag) (mg : Str → Option Value) (base : Heap) (x : Str) (k : Nat) (ps : List Str) (sp : Sp) : Prop :=
  ∃ fd, FnOk P w K mg base (L2.CX P w) k (He.ga K x) fd ps sp ∧ PySem.W.keepIn K (.ref (He.ga K x)) = true ∧ Binds K fd ps [] ∧ mg x = some (.ref (He.ga K x))
section
variable {X : Cx} {W : WX} {k : Nat} {ps : List Str} {sp : Sp} {x : Str} {p pos : Pos} {e : Expr} {es : List Expr} {t : TA}
theorem pe_callO (F : Ok X.prog X.w X.K X.mg X.base x k ps sp) (hr : Room k X.A) (hg : Gl X x) (tk : Takes X W)
    (ha : PA X (e :: es) t) (hdb : (x == ("__debug__" : Str)) = false := by decide) (he : starEach (e :: es) X.env = (false, eval e X.env) :: starEach es X.env := by rfl) (hpl : (backTo pos (starEach es X.env)).any (·.1) = false := by rfl) :
    PE X (.Call (.Name x p) (e :: es) [] pos) (tCallS sp (WE W) t) := by
  refine ⟨fun pins s σ H Q I h => ?_⟩
  obtain ⟨fd, G, hk, hb, hm⟩ := F
  exact (pe_callS G hr hg hm hk hb (fun σ => passAt tk σ) ha hdb he hpl).run pins s σ H Q I h
theorem pe_gint {i : Int} (hg : Gl X x) (h : ∃ t, X.mg x = some (.int i t)) (hd : (x == ("__debug__" : Str)) = false := by decide) : PE X (.Name x pos) (tC (.int i)) := by
  obtain ⟨t, h⟩ := h
  exact pe_glob hg h ⟨t, rfl⟩ hd
theorem pe_gstr {z : Str} (hg : Gl X x) (h : ∃ t, X.mg x = some (.str z t)) (hd : (x == ("__debug__" : Str)) = false := by decide) : PE X (.Name x pos) (tC (.str z)) := by
  obtain ⟨t, h⟩ := h
  exact pe_glob hg h ⟨t, rfl⟩ hd
theorem pe_gref {a : Addr} (hg : Gl X x) (h : X.mg x = some (.ref a)) (hd : (x == ("__debug__" : Str)) = false := by decide) : PE X (.Name x pos) (tC (.ref a)) := pe_glob hg h rfl hd
end

/-! ### reading steps -/
section
variable {σ : St} {H : Hp} {Q : VK} {D : Ends} {K : PySem.W.Frag}
theorem g_seq {t u : TS} (h : t { D with nx := u D } σ H) : tSeq t u D σ H := h
theorem g_asg {te : TE} {g : TG} (h : te σ H fun x H1 => g x σ H1 D.nx) : tAsg te g D σ H := h
theorem g_ret {te : TE} (h : te σ H D.rt) : tRet te D σ H := h
theorem g_retN (h : D.rt .non H) : tRetN D σ H := h
theorem g_drop {te : TE} (h : te σ H fun _ H1 => D.nx σ H1) : tDrop te D σ H := h
theorem g_next (h : D.nx σ H) : tNext D σ H := h
theorem g_brk (h : D.bk σ H) : tBreak D σ H := h
theorem g_cont (h : D.ct σ H) : tCont D σ H := h
theorem g_name {i : Nat} {v : V} {R : St → Hp → Prop} {σ' : St} (e : σ.set i (some v) = σ') (h : R σ' H) : gName i v σ H R := by subst e; exact h
theorem g_var {i : Nat} {v : V} (e : σ[i]? = some (some v)) (h : Q v H) : tVar i σ H Q := ⟨v, e, h⟩
theorem g_c {v : V} (h : Q v H) : tC v σ H Q := h
theorem g_op {r : R2} {ta tb : TE} (h : ta σ H fun x H1 => tb σ H1 fun y H2 => r x y H2 Q) : tOp r ta tb σ H Q := h
theorem g_un {r : V → Hp → VK → Prop} {ta : TE} (h : ta σ H fun x H1 => r x H1 Q) : tUn r ta σ H Q := h
theorem g_cb {r : List V → Hp → VK → Prop} {t : TA} (h : t σ H fun vs H1 => r vs H1 Q) : tCB r t σ H Q := h
theorem g_nil {R : List V → Hp → Prop} (h : R [] H) : tNil σ H R := h
theorem g_cons {ta : TE} {tr : TA} {R : List V → Hp → Prop} (h : ta σ H fun x H1 => tr σ H1 fun xs H2 => R (x :: xs) H2) : tCons ta tr σ H R := h
theorem g_if {c : TT} {t u : TS} (h : c σ H fun b H1 => if b = true then t D σ H1 else u D σ H1) : tIfS c t u D σ H := h
theorem g_ife {c : TT} {ta tb : TE} (h : c σ H fun b H1 => if b = true then ta σ H1 Q else tb σ H1 Q) : tIf c ta tb σ H Q := h
theorem g_test {t : TE} {R : Bool → Hp → Prop} (h : t σ H fun x H' => ∃ k, x = .bl k ∧ R k H') : tTest t σ H R := h
theorem g_tb {t : TE} {R : Bool → Hp → Prop} (h : t σ H fun x H' => ∃ k, x = .bl k ∧ R k H') : tB t σ H R := h
theorem g_bl {k : Bool} {R : Bool → Prop} (h : R k) : ∃ c, V.bl k = .bl c ∧ R c := ⟨k, rfl, h⟩
theorem g_and {t u : TT} {R : Bool → Hp → Prop} (h : t σ H fun c H1 => if c = true then u σ H1 R else R false H1) : tAnd t u σ H R := h
theorem g_or {t u : TT} {R : Bool → Hp → Prop} (h : t σ H fun c H1 => if c = true then R true H1 else u σ H1 R) : tOr t u σ H R := h
theorem g_not {t : TT} {R : Bool → Hp → Prop} (h : t σ H fun c H1 => R (!c) H1) : tNot t σ H R := h
theorem g_andV {ta tb : TE} (h : ta σ H fun x H1 => ∃ c, x = .bl c ∧ if c = true then tb σ H1 Q else Q (.bl false) H1) : tAndV ta tb σ H Q := h
theorem g_orV {ta tb : TE} (h : ta σ H fun x H1 => ∃ c, x = .bl c ∧ if c = true then Q (.bl true) H1 else tb σ H1 Q) : tOrV ta tb σ H Q := h
theorem g_notV {ta : TE} (h : ta σ H fun x H1 => ∃ c, x = .bl c ∧ Q (.bl (!c)) H1) : tNotV ta σ H Q := h
theorem g_yes {R : Bool → Hp → Prop} (h : R true H) : tYes σ H R := h
theorem g_iT {A B : Prop} (h : A) : if true = true then A else B := iteT h
theorem g_iF {A B : Prop} (h : B) : if false = true then A else B := iteF h
theorem g_iNT {A B : Prop} (h : B) : if (!true) = true then A else B := iteF h
theorem g_iNF {A B : Prop} (h : A) : if (!false) = true then A else B := iteT h
theorem g_chain {r r' : R2} {ta tb tc : TE} (h : ta σ H fun x H1 => tb σ H1 fun y H2 => r x y H2 fun z H3 => ∃ k, z = .bl k ∧ (if k = true then tc σ H3 fun w' H4 => r' y w' H4 Q else Q (.bl false) H3)) : tChain r r' ta tb tc σ H Q := h
theorem g_callS {sp : Sp} {E : St → XK} {t : TA} (h : t σ H fun vs H1 => sp vs H1 Q (E σ)) : tCallS sp E t σ H Q := h
theorem g_isN {ta : TE} (h : ta σ H fun x H1 => Q (.bl (decide (x = .non))) H1) : tIsN ta σ H Q := h
theorem g_notN {ta : TE} (h : ta σ H fun x H1 => Q (.bl (!decide (x = .non))) H1) : tNotN ta σ H Q := h
theorem g_tup {t : TA} (h : t σ H fun xs H1 => xs.length ≤ sizeLine ∧ ∀ p, H1 p = none → Q (.ref p) (upd H1 p (.tup xs))) : tTup t σ H Q := h
theorem g_lst {t : TA} (h : t σ H fun xs H1 => xs.length ≤ sizeLine ∧ ∀ p, H1 p = none → Q (.ref p) (upd H1 p (.lst xs))) : tLst t σ H Q := h
theorem g_iList {tl : TE} {R : It → Hp → Prop} (h : tl σ H fun x H1 => ∃ a, x = .ref a ∧ (∃ xs, SqL K H1 a xs) ∧ R (Itl K a) H1) : iList K tl σ H R := h
theorem g_iTup {tl : TE} {R : It → Hp → Prop} (h : tl σ H fun x H1 => ∃ a, x = .ref a ∧ (∃ xs, SqT K H1 a xs) ∧ R (Itt K a) H1) : iTup K tl σ H R := h
theorem g_gTup {n : Nat} {t : TGs} {a : Addr} {xs : List V} {R : St → Hp → Prop} (h : SqT K H a xs) (hl : xs.length = n) (q : t xs σ H R) : gTup K n t (.ref a) σ H R := ⟨a, xs, rfl, h, hl, q⟩
theorem g_gNil {R : St → Hp → Prop} (q : R σ H) : gNil [] σ H R := ⟨rfl, q⟩
theorem g_gCons {t : TG} {u : TGs} {v : V} {r : List V} {R : St → Hp → Prop} (q : t v σ H fun σ' H' => u r σ' H' R) : gCons t u (v :: r) σ H R := ⟨v, r, rfl, q⟩
/-- a new tuple, a new list -/
theorem g_newT {xs : List V} {R : Addr → Prop} (hs : xs.length ≤ sizeLine) (h : ∀ p, H p = none → Fr [] H (upd H p (.tup xs)) → upd H p (.tup xs) p = some (.tup xs) → R p) : xs.length ≤ sizeLine ∧ ∀ p, H p = none → R p :=
  ⟨hs, fun p n => h p n (Fr.new n) upd_same⟩
theorem g_newL {xs : List V} {R : Addr → Prop} (hs : xs.length ≤ sizeLine) (h : ∀ p, H p = none → Fr [] H (upd H p (.lst xs)) → upd H p (.lst xs) p = some (.lst xs) → R p) : xs.length ≤ sizeLine ∧ ∀ p, H p = none → R p :=
  ⟨hs, fun p n => h p n (Fr.new n) upd_same⟩
theorem g_newO {o : HO} {R : Addr → Prop} (h : ∀ p, H p = none → Fr [] H (upd H p o) → upd H p o p = some o → R p) : ∀ p, H p = none → R p :=
  fun p n => h p n (Fr.new n) upd_same
/-! operators -/
theorem r_I0 {g : Int → Int → V} {i j : Int} (h : Q (g i j) H) : rI0 g (.int i) (.int j) H Q := ⟨i, j, rfl, rfl, h⟩
theorem r_I {C : Int → Int → Prop} {g : Int → Int → V} {i j : Int} (c : C i j) (h : Q (g i j) H) : rI C g (.int i) (.int j) H Q := ⟨i, j, rfl, rfl, c, h⟩
theorem r_addI {i j : Int} (h : Q (.int (i + j)) H) : rAddA K (.int i) (.int j) H Q := .inl ⟨i, j, rfl, rfl, h⟩
theorem r_addS {i j : Str} (l : i.length + j.length ≤ sizeLine) (h : Q (.str (i ++ j)) H) : rAddA K (.str i) (.str j) H Q := .inr (.inl ⟨i, j, rfl, rfl, l, h⟩)
theorem r_addL {a b : Addr} {xs ys : List V} (ha : H a = some (.lst xs)) (hb : H b = some (.lst ys)) (l : xs.length + ys.length ≤ sizeLine)
    (h : ∀ p, H p = none → Fr [] H (upd H p (.lst (xs ++ ys))) → upd H p (.lst (xs ++ ys)) p = some (.lst (xs ++ ys)) → Q (.ref p) (upd H p (.lst (xs ++ ys)))) : rAddA K (.ref a) (.ref b) H Q :=
  .inr (.inr (.inl ⟨a, b, xs, ys, rfl, rfl, ha, hb, l, fun p n => h p n (Fr.new n) upd_same⟩))
theorem r_addT {a b : Addr} {xs ys : List V} (ha : SqT K H a xs) (hb : SqT K H b ys) (l : xs.length + ys.length ≤ sizeLine)
    (h : ∀ p H', Fr [] H H' → SqT K H' p (xs ++ ys) → Q (.ref p) H') : rAddA K (.ref a) (.ref b) H Q :=
  .inr (.inr (.inr ⟨a, b, xs, ys, rfl, rfl, ha, hb, l, fun e => h b H Fr.refl (by subst e; exact hb), fun _ e => h a H Fr.refl (by subst e; rw [List.append_nil]; exact ha),
    fun _ _ p n => h p _ (Fr.new n) (SqT.of upd_same)⟩))
theorem r_mulI {i j : Int} (c : CMul i j) (h : Q (.int (i * j)) H) : rMulA K (.int i) (.int j) H Q := .inl ⟨i, j, rfl, rfl, c, h⟩
theorem r_eqI {i j : Int} (h : Q (.bl (decide (i = j))) H) : rEqA K (.int i) (.int j) H Q := .inl ⟨rfl, by
  have e : decide (V.int i = V.int j) = decide (i = j) := by rw [dec_int, Bool.beq_eq_decide_eq]
  rw [e]; exact h⟩
theorem r_neI {i j : Int} (h : Q (.bl (!decide (i = j))) H) : rNeA K (.int i) (.int j) H Q := .inl ⟨rfl, by
  have e : decide (V.int i = V.int j) = decide (i = j) := by rw [dec_int, Bool.beq_eq_decide_eq]
  rw [e]; exact h⟩
theorem r_eqS {i j : Str} (h : Q (.bl (decide (i = j))) H) : rEqA K (.str i) (.str j) H Q := .inl ⟨rfl, by
  have e : decide (V.str i = V.str j) = decide (i = j) := by rw [dec_str, Bool.beq_eq_decide_eq]
  rw [e]; exact h⟩
theorem r_neS {i j : Str} (h : Q (.bl (!decide (i = j))) H) : rNeA K (.str i) (.str j) H Q := .inl ⟨rfl, by
  have e : decide (V.str i = V.str j) = decide (i = j) := by rw [dec_str, Bool.beq_eq_decide_eq]
  rw [e]; exact h⟩
theorem r_eqB {i j : Bool} (h : Q (.bl (i == j)) H) : rEqA K (.bl i) (.bl j) H Q := .inl ⟨rfl, by rw [dec_bl]; exact h⟩
theorem r_neB {i j : Bool} (h : Q (.bl (!(i == j))) H) : rNeA K (.bl i) (.bl j) H Q := .inl ⟨rfl, by rw [dec_bl]; exact h⟩
theorem r_eqD {x y : V} {d e : PyData} (hx : Tp K H x d) (hy : Tp K H y e) (s1 : SeqAt.shaped d = true) (s2 : SeqAt.shaped e = true) (h : Q (.bl (PyData.eqv d e)) H) : rEqA K x y H Q := .inr ⟨d, e, hx.dp, hy.dp, s1, s2, h⟩
theorem r_neD {x y : V} {d e : PyData} (hx : Tp K H x d) (hy : Tp K H y e) (s1 : SeqAt.shaped d = true) (s2 : SeqAt.shaped e = true) (h : Q (.bl (!PyData.eqv d e)) H) : rNeA K x y H Q := .inr ⟨d, e, hx.dp, hy.dp, s1, s2, h⟩
theorem r_eqL {a b : Addr} {d e : List PyData} (hx : LsD K H a d) (hy : LsD K H b e) (s1 : SeqAt.shaped (.list d) = true) (s2 : SeqAt.shaped (.list e) = true) (h : Q (.bl (PyData.eqvAll d e)) H) : rEqA K (.ref a) (.ref b) H Q := by
  obtain ⟨xs, hx, tx⟩ := hx
  obtain ⟨ys, hy, ty⟩ := hy
  exact .inr ⟨.list d, .list e, .lst (SqL.of hx) tx.dp, .lst (SqL.of hy) ty.dp, s1, s2, by rw [PyData.eqv]; exact h⟩
theorem r_neL {a b : Addr} {d e : List PyData} (hx : LsD K H a d) (hy : LsD K H b e) (s1 : SeqAt.shaped (.list d) = true) (s2 : SeqAt.shaped (.list e) = true) (h : Q (.bl (!PyData.eqvAll d e)) H) : rNeA K (.ref a) (.ref b) H Q := by
  obtain ⟨xs, hx, tx⟩ := hx
  obtain ⟨ys, hy, ty⟩ := hy
  exact .inr ⟨.list d, .list e, .lst (SqL.of hx) tx.dp, .lst (SqL.of hy) ty.dp, s1, s2, by rw [PyData.eqv]; exact h⟩
/-- an item of a tuple, of a list -/
theorem r_ixT {a : Addr} {xs : List V} {j : Nat} {v : V} (ha : SqT K H a xs) (e : xs[j]? = some v) (h : Q v H) : rIx K (.ref a) (.int (j : Int)) H Q := .inr (.inl ⟨a, xs, _, v, rfl, rfl, ha, atI_nat e, h⟩)
theorem r_ixL {a : Addr} {xs : List V} {j : Nat} {v : V} (ha : SqL K H a xs) (e : xs[j]? = some v) (h : Q v H) : rIx K (.ref a) (.int (j : Int)) H Q := .inl ⟨a, xs, _, v, rfl, rfl, ha, atI_nat e, h⟩
theorem r_ixTd {x : V} {ds : List PyData} {i : Int} {j : Nat} {d : PyData} (hx : Tp K H x (.tuple ds)) (ei : i = (j : Int)) (e : ds[j]? = some d) (h : ∀ v, Tp K H v d → Q v H) : rIx K x (.int i) H Q := by
  obtain ⟨a, xs, rfl, hs, t⟩ := hx.tupi
  obtain ⟨v, h1, h2⟩ := t.get e
  subst ei
  exact r_ixT hs h1 (h v h2)
theorem r_ixLd {a : Addr} {ds : List PyData} {i : Int} {j : Nat} {d : PyData} (hx : LsD K H a ds) (ei : i = (j : Int)) (e : ds[j]? = some d) (h : ∀ v, Tp K H v d → Q v H) : rIx K (.ref a) (.int i) H Q := by
  obtain ⟨xs, hs, t⟩ := hx
  obtain ⟨v, h1, h2⟩ := t.get e
  subst ei
  exact r_ixL (SqL.of hs) h1 (h v h2)
theorem g_lc {wi : TI} {g : TG} {tt : TT} {te : TE} {vs : List Nat} (h : wi σ H fun J H1 => ∀ D, H1 D = none → ∃ W : Nat → Nat → Hp → Prop, (∃ m, W 0 m (upd H1 D (.lst []))) ∧ ∀ i m H, W i m H →
  (J.stop i H ∧ Q (.ref D) H) ∨ (J.go i H ∧ ∃ Nx : Hp → Prop, (∀ H', Nx H' → ∃ m', m' < m ∧ W (i + 1) m' H') ∧ ∀ x H', J.yld i H x H' → g x (wipe σ vs) H' fun σ2 H2 => wipe σ2 vs = wipe σ vs ∧ tt σ2 H2 fun b H3 =>
    if b = true then te σ2 H3 fun y H4 => ∃ acc, H4 D = some (.lst acc) ∧ acc.length < sizeLine ∧ Nx (upd H4 D (.lst (acc ++ [y]))) else Nx H3)) : tLc wi g tt te vs σ H Q := h
theorem g_sl {r : V → Option Int → Option Int → Hp → VK → Prop} {te : TE} {tl th : TO} (h : te σ H fun x H1 => tl σ H1 fun l H2 => th σ H2 fun u H3 => r x l u H3 Q) : tSl r te tl th σ H Q := h
theorem g_noPart {R : Option Int → Hp → Prop} (h : R none H) : tNoPart σ H R := h
theorem g_part {t : TE} {R : Option Int → Hp → Prop} (h : t σ H fun x H1 => ∃ i, x = .int i ∧ R (some i) H1) : tPart t σ H R := h
theorem g_int {i : Int} {R : Int → Prop} (h : R i) : ∃ j, V.int i = .int j ∧ R j := ⟨i, rfl, h⟩
theorem sIx_none {n d : Nat} : HT.sIx n d none = d := rfl
theorem cut_all {xs : List V} : cutV xs none none = xs := by
  unfold cutV
  simp [HT.sIx]
theorem r_slT {a : Addr} {xs : List V} {lo hi : Option Int} (h : SqT K H a xs) (q : ∀ p H', Fr [] H H' → SqT K H' p (cutV xs lo hi) → Q (.ref p) H') : rSl K (.ref a) lo hi H Q := by
  refine .inr ⟨a, xs, rfl, h, fun ⟨e1, e2⟩ => q a H Fr.refl ?_, fun _ p n => q p _ (Fr.new n) (SqT.of upd_same)⟩
  have e : cutV xs lo hi = xs := by
    unfold cutV
    rw [e1, e2]
    simp
  rw [e]
  exact h
theorem r_slL {a : Addr} {xs : List V} {lo hi : Option Int} (h : SqL K H a xs) (q : ∀ p, H p = none → Fr [] H (upd H p (.lst (cutV xs lo hi))) → upd H p (.lst (cutV xs lo hi)) p = some (.lst (cutV xs lo hi)) → Q (.ref p) (upd H p (.lst (cutV xs lo hi)))) : rSl K (.ref a) lo hi H Q :=
  .inl ⟨a, xs, rfl, h, fun p n => q p n (Fr.new n) upd_same⟩
end
end Tk

end

section
namespace PySem
open PySem.W PyProof.Rows
/-- enumerate(v), v told by its iterator -/
theorem meets_enum_b {v : Value} {o : Obj} {H : Heap → Prop} (B : Begins v o H) :
    Meets (Builtin.«enumerate.__new__» ⟨[.type "enumerate", v], []⟩) (fun _ R s => H s.heap ∧
      R (.ok (.ret (.ref (s.heap.push o).objs.size))) { s with heap := (s.heap.push o).push { cls := .type "enumerate", data := .fields #[.none, .bool false, .ref s.heap.objs.size, rawInt 0, .none, .none] } }) :=
  .of_wp fun prog w A R s h => by
    obtain ⟨hp, gs, d, tk, os⟩ := s
    obtain ⟨h1, h⟩ := h
    have hsub := sub_enumerate
    have q1 : ∀ {A' : Around} {E : Value → Shared → Prop} {Q : Value → Shared → Prop}, Q (.ref hp.objs.size) ⟨hp.push o, gs, d, tk, os⟩ → wpAny (model prog w) A' (pyIter v) Q E ⟨hp, gs, d, tk, os⟩ :=
      fun q => B.iter prog w _ _ ⟨hp, gs, d, tk, os⟩ _ h1 q
    wp_walk using q1
    refine wpAny_stack_any fun st => wpAny_pure ?_
    split
    · rename_i c _ _ _ _ _
      cases (c == Value.type "enumerate")
      · wp_walk using q1
        exact ⟨_, rfl, h⟩
      · wp_walk using q1
        exact ⟨_, rfl, h⟩
    · wp_walk using q1
      exact ⟨_, rfl, h⟩
theorem call_enum_b {prog : Program} {w : World} {A : Around} {E : Value → Shared → Prop} {s : Shared} {v : Value} {o : Obj} {H : Heap → Prop} {Q : Value → Shared → Prop} (B : Begins v o H) (h1 : H s.heap)
    (h : ∀ h', IsEnum h' (s.heap.objs.size + 1) s.heap.objs.size 0 .none → h'.get? s.heap.objs.size = some o → h'.objs.size = s.heap.objs.size + 2 →
      (∀ b o, s.heap.get? b = some o → h'.get? b = some o) → Q (.ref (s.heap.objs.size + 1)) { s with heap := h' }) : wpAny (model prog w) A (call (.type "enumerate") [v]) Q E s := by
  refine callType_new F.called_enumerate (by decide) (F.typeCall_enumerate_1 _) (F.newCall_enumerate_1 _) (fun obj => F.args_object_init_2 obj _) F.entry_enumerate_new
    (meets_enum_b B) ⟨h1, ?_⟩
  have hz : (s.heap.push o).objs.size = s.heap.objs.size + 1 := Heap.size_push ..
  show _ ∧ _
  rw [hz]
  have he : IsEnum ((s.heap.push o).push { cls := .type "enumerate", data := .fields #[.none, .bool false, .ref s.heap.objs.size, rawInt 0, .none, .none] }) (s.heap.objs.size + 1) s.heap.objs.size 0 .none := by
    have q := Heap.get?_push_size (s.heap.push o) (o := { cls := .type "enumerate", data := .fields #[.none, .bool false, .ref s.heap.objs.size, rawInt 0, .none, .none] }) rfl
    rw [hz] at q
    exact q
  exact ⟨⟨_, he, rfl⟩, h _ he (Heap.get?_push_of_some _ (Heap.get?_push_size _ B.free)) (by rw [Heap.size_push, hz]) fun b o x => Heap.get?_push_of_some _ (Heap.get?_push_of_some _ x)⟩
end PySem
namespace Tk
open PySem PySem.Spec L2 RZ
/-! ### walked things: a list or a tuple; enumerate of either -/
def iSeq (K : PySem.W.Frag) (tl : TE) : TI := fun σ H R => tl σ H fun x H1 => ∃ a, x = .ref a ∧ (((∃ xs, SqL K H1 a xs) ∧ R (Itl K a) H1) ∨ ((∃ xs, SqT K H1 a xs) ∧ R (Itt K a) H1))
theorem pi_seq {X : Cx} {tg l : Expr} {tl : TE} (hl : PE X l tl) : PI X tg l (iSeq X.K tl) := by
  refine ⟨fun pins s σ H R I h => ?_⟩
  refine thn (hl.run pins s σ H _ I h) fun v s1 ⟨x, H1, I1, r1, q1⟩ => ?_
  obtain ⟨a, e, q⟩ := q1
  subst e
  cases r1
  have fr : ∀ b ∈ [s1.heap.objs.size], FpOk X pins H1 b := fun b hb => by
    have e : b = s1.heap.objs.size := by simpa using hb
    subst e
    exact I1.fpOk (Nat.le_refl _) (I1.hok.fresh (Nat.le_refl _))
  rcases q with ⟨⟨xs, hq⟩, q⟩ | ⟨⟨xs, hq⟩, q⟩
  · obtain ⟨its, rv, p, hz⟩ := I1.list hq
    refine wpAny_pyIter_list p.isList ?_
    exact ⟨s1.heap.objs.size, [s1.heap.objs.size], _, _, H1, rfl, I1.kept (t' := s1.toks) fun b o e => Heap.get?_push_of_some _ e, turn_list a _, ⟨_, Heap.get?_push_size _ rfl, rfl, rfl⟩, fr, q⟩
  · obtain ⟨its, rv, p, hz⟩ := I1.tuple hq
    refine wpAny_pyIter_tuple (show s1.heap.IsTuple a its.toArray from p) ?_
    exact ⟨s1.heap.objs.size, [s1.heap.objs.size], _, _, H1, rfl, I1.kept (t' := s1.toks) fun b o e => Heap.get?_push_of_some _ e, turn_tuple a _, ⟨_, Heap.get?_push_size _ rfl, rfl, rfl⟩, fr, q⟩
/-- a tuple at a, each item in a new pair -/
def IteT (K : PySem.W.Frag) (a : Addr) : It :=
  ⟨fun i H => ∃ (xs : List V) (x : V), SqT K H a xs ∧ xs[i]? = some x, fun i H v H' => ∃ T x, v = .ref T ∧ H T = none ∧ H' = upd H T (.tup [.int (i : Nat), x]) ∧ ∀ xs, SqT K H a xs → xs[i]? = some x, fun i H => ∃ xs : List V, SqT K H a xs ∧ xs.length ≤ i⟩
theorem turn_enumT {P : Program} {w : World} {K : PySem.W.Frag} {elts : List Expr} {kk : Nat} {tpos : Pos} (a e it : Addr) :
    Turn P w K (.Tuple elts kk tpos) (IteT K a) [e, it] e (fun i h => (∃ old, IsEnum h e it ((i : Nat) : Int) old) ∧ h.IsTupleIter it a i ∧ e ≠ it ∧ a ≠ it ∧ a ≠ e) where
  mem := by simp
  obj := fun i h st b hb => by
    obtain ⟨⟨old, he⟩, ⟨o, ho, hc, hd⟩, _⟩ := st
    have e' : b = e ∨ b = it := by simpa using hb
    rcases e' with z | z
    · rw [z]; exact ⟨_, he, fun v q => nomatch q⟩
    · rw [z]; exact ⟨o, ho, fun v q => by rw [hd] at q; cases q⟩
  keep := fun i h h' st k => let ⟨⟨old, he⟩, hi, hne⟩ := st; ⟨⟨old, k e (by simp) _ he⟩, hi.at fun o q => k it (by simp) o q, hne⟩
  item := by
    intro X hP hw hK hc i pins s σ H E I hf st hg
    subst hP hw hK
    obtain ⟨⟨old, he⟩, hit, hne, nai, nae⟩ := st
    obtain ⟨xs, x, hq, hx⟩ := hg
    obtain ⟨its, rv, p, hz⟩ := I.tuple hq
    obtain ⟨u, hu, ru⟩ := rv.get hx
    have hel : e < s.heap.objs.size := Heap.lt_size he
    have hil : it < s.heap.objs.size := by obtain ⟨_, q, _⟩ := hit; exact Heap.lt_size q
    have D := Draws.tuple (prog := X.prog) (w := X.w) (A := X.A.in1) (I.ok.hd hc) it a nai its.toArray
    have hlt : i < its.toArray.size := by
      have q := (List.getElem?_eq_some_iff.mp hu).1
      simpa using q
    refine wpAny_pyNext_enum_itemD D he ⟨hit, p⟩ hlt hne (by simp [hne, Ne.symm nae]) fun y h' tk hy ho hst' hT hsz hk => ?_
    have ey : y = u := by
      have q : its.toArray[i]? = some y := hy
      rw [show its.toArray[i]? = its[i]? by simp, hu] at q
      exact (Option.some.inj q).symm
    subst ey
    refine ⟨_, rfl, wpAny_letOwnedTupleGo_enum (s := { s with heap := h', toks := tk + 1 }) ho fun h'' he' sb => ?_⟩
    have hT2 : h''.get? s.heap.objs.size = some { cls := .type "tuple", data := .seq #[.int i tk, y] } := (sb.2 _ (Nat.ne_of_gt hel)).trans hT
    have new : ObjOk X.prog X.w (upd H s.heap.objs.size (.tup [.int (i : Nat), x])) h'' s.heap.objs.size (.tup [.int (i : Nat), x]) :=
      ⟨by show 2 ≤ sizeLine; decide, [.int i tk, y], .cons ⟨_, rfl⟩ (.cons ru .nil), ⟨_, hT2, rfl, _, rfl⟩⟩
    have I1 : Inv X pins σ (upd H s.heap.objs.size (.tup [.int (i : Nat), x])) { s with heap := h'', toks := tk + 1 } :=
      I.turnedNew (ch := [e, it]) (fun b ob hb q => (sb.2 b (fun z => hb (by simp [z]))).trans (hk b ob (fun z => hb (by simp [z])) (fun z => hb (by simp [z])) q)) hf (Nat.le_refl _) new
    refine ⟨.ref s.heap.objs.size, _, I1, rfl, ⟨_, x, rfl, I.hok.fresh (Nat.le_refl _), rfl, fun ys hy => by rw [I.tuple_inj hy hq]; exact hx⟩, ⟨⟨y, ?_⟩, hst'.1.at fun o q => (sb.2 it (Ne.symm hne)).trans q, hne, nai, nae⟩, fun b hb => ?_⟩
    · have e1 : ((i + 1 : Nat) : Int) = (i : Int) + 1 := by omega
      rw [e1]; exact he'
    · have hb' : b < s.heap.objs.size := by
        have e' : b = e ∨ b = it := by simpa using hb
        rcases e' with z | z
        · rw [z]; exact hel
        · rw [z]; exact hil
      rw [upd_ne (Nat.ne_of_lt hb')]
      exact (hf b hb).1
  done := by
    intro X hP hw hK hc i pins s σ H E I hf st hg
    subst hP hw hK
    obtain ⟨⟨old, he⟩, hit, hne, nai, nae⟩ := st
    obtain ⟨xs, hq, hx⟩ := hg
    obtain ⟨its, rv, p, hz⟩ := I.tuple hq
    obtain ⟨f0, f1, f2, f3, f4, f5⟩ := hf it (by simp)
    have hl := rv.length
    have hT : s.TypeIs (.ref e) "enumerate" := ⟨_, he, rfl⟩
    unfold pyNext
    refine wpAny_bind (wpAny_attempt (wpAny_callSpecial?_slot (name := Str.ofString "__next__") hT F.slot_enumerate_next
      (wpAny_call_entry F.slot_enumerate_next hT F.entry_enumerate_next ?_ (F.args_enumerate_next_1 _))))
    show wpAny _ _ (field (.ref e) 2 >>= _) _ _ _
    refine wpAny_bind (wpAny_field he rfl (x := .ref it) rfl ?_)
    refine wpAny_bind (wpAny_nextOf_tuple_end (I.ok.hd hc) hit p (by simp; omega) fun h' x he' hx' => ?_)
    obtain ⟨o, ho, hc2⟩ := hx'
    refine wpAny_bind (wpAny_isInstance (T := "StopIteration") (b := true) ⟨o, ho, hc2⟩ isSubtype_stop ?_)
    exact wpAny_pure ⟨rfl, I.turned (t' := s.toks) (fun b o hb q => he' b o hb q) f0 f1 f3 f4 f5⟩
  self := fun A i s Q E st h => let ⟨⟨_, he⟩, _⟩ := st; wpAny_pyIter_enum he h
def iEnumA (K : PySem.W.Frag) (ta : TA) : TI := fun σ H R => ta σ H fun vs H1 => ∃ a, vs = [.ref a] ∧ (((∃ xs, SqL K H1 a xs) ∧ R (Ite K a) H1) ∨ ((∃ xs, SqT K H1 a xs) ∧ R (IteT K a) H1))
theorem pi_enumA {X : Cx} {e : Expr} {ta : TA} {p pos tpos : Pos} {elts : List Expr} {kk : Nat} (hg : Gl X "enumerate") (hm : X.mg "enumerate" = none) (ha : PA X [e] ta) (hs : starEach [e] X.env = [(false, eval e X.env)] := by rfl) :
    PI X (.Tuple elts kk tpos) (.Call (.Name "enumerate" p) [e] [] pos) (iEnumA X.K ta) := by
  refine ⟨fun pins s σ H R I h => ?_⟩
  refine PyProof.Rows.Call_ (ld_blt I hg hm PyProof.Rows.boot_enumerate (PyProof.Rows.callWith_type1 (thn (ha.run pos pins s σ H _ I h) fun us s1 ⟨vs, H1, I1, r1, q1⟩ => ?_) hs rfl))
  obtain ⟨a, ex, q⟩ := q1
  subst ex
  cases r1 with
  | cons r rr =>
    cases rr
    cases r
    have fr : ∀ b ∈ [s1.heap.objs.size + 1, s1.heap.objs.size], FpOk X pins H1 b := fun b hb => by
      have e' : b = s1.heap.objs.size + 1 ∨ b = s1.heap.objs.size := by simpa using hb
      have hle : s1.heap.objs.size ≤ b := by
        rcases e' with z | z
        · rw [z]; exact Nat.le_add_right _ _
        · rw [z]; exact Nat.le_refl _
      exact I1.fpOk hle (I1.hok.fresh hle)
    rcases q with ⟨⟨xs, hq⟩, q⟩ | ⟨⟨xs, hq⟩, q⟩
    · obtain ⟨its, rv, p', hz⟩ := I1.list hq
      refine call_enumerate_list p'.isList fun h' he hit hsz hk => wpAny_pyIter_enum he ?_
      have I2 : Inv X pins σ H1 { s1 with heap := h' } := I1.kept (t' := s1.toks) hk
      exact ⟨s1.heap.objs.size + 1, [s1.heap.objs.size + 1, s1.heap.objs.size], _, _, H1, rfl, I2, turn_enum a (s1.heap.objs.size + 1) s1.heap.objs.size, ⟨⟨.none, he⟩, hit, Nat.succ_ne_self _⟩, fr, q⟩
    · obtain ⟨its, rv, p', hz⟩ := I1.tuple hq
      have hal : a < s1.heap.objs.size := by obtain ⟨_, q, _⟩ := id p'; exact Heap.lt_size q
      refine call_enum_b (begins_tuple a its.toArray) p' fun h' he hit hsz hk => wpAny_pyIter_enum he ?_
      have I2 : Inv X pins σ H1 { s1 with heap := h' } := I1.kept (t' := s1.toks) hk
      exact ⟨s1.heap.objs.size + 1, [s1.heap.objs.size + 1, s1.heap.objs.size], _, _, H1, rfl, I2, turn_enumT a (s1.heap.objs.size + 1) s1.heap.objs.size, ⟨⟨.none, he⟩, ⟨_, hit, rfl, rfl⟩, Nat.succ_ne_self _, Nat.ne_of_lt hal, Nat.ne_of_lt (Nat.lt_succ_of_lt hal)⟩, fr, q⟩
section
variable {K : PySem.W.Frag} {a b : Addr} {xs ys : List V}
theorem walk_enumT : Walk (IteT K a) xs.length (fun H => SqT K H a xs) (YPair (fun i => some (.int (i : Nat))) (fun i => xs[i]?)) := by
  refine ⟨fun i _ hi q => ⟨xs, xs[i], q, by simp [hi]⟩, fun _ q => ⟨xs, q, Nat.le_refl _⟩, fun i H v H' _ q y => ?_⟩
  obtain ⟨T, x, h1, h2, h3, h4⟩ := y
  exact ⟨T, .int (i : Nat), x, h1, h2, h3, rfl, h4 xs q⟩
theorem walk_zipT {n : Nat} (hn : n = min xs.length ys.length) : Walk (ItzT K a b) n (fun H => SqT K H a xs ∧ SqT K H b ys) (YPair (fun i => xs[i]?) (fun i => ys[i]?)) := by
  subst hn
  refine ⟨fun i _ hi q => ?_, fun _ q => ⟨xs, ys, q.1, q.2, by omega⟩, fun i H v H' _ q y => ?_⟩
  · have h1 : i < xs.length := by omega
    have h2 : i < ys.length := by omega
    exact ⟨xs, ys, xs[i], ys[i], q.1, q.2, by simp [h1], by simp [h2]⟩
  · obtain ⟨T, x, z, h1, h2, h3, h4, h5⟩ := y
    exact ⟨T, x, z, h1, h2, h3, h4 xs q.1, h5 ys q.2⟩
end
/-! ### a comprehension that makes data and changes nothing -/
theorem lc_data {K : PySem.W.Frag} {J : It} {n : Nat} {G : Hp → Prop} {Y : Nat → Hp → V → Hp → Prop} (w : Walk J n G Y) (f : Nat → Option PyData) (hn : n < sizeLine) {g : TG} {tt : TT} {te : TE} {vs : List Nat} {σ : L2.St} {H1 : Hp} {Qd : Addr → Hp → Prop}
    (hG : ∀ H', Fr [] H1 H' → G H')
    (hs : ∀ i x H H' (R : V → Hp → Prop) (Rn : Hp → Prop), i < n → Fr [] H1 H → Y i H x H' → (∀ y H4 d, f i = some d → Tp K H4 y d → Fr [] H H4 → R y H4) → (∀ H3, f i = none → Fr [] H H3 → Rn H3) →
      g x (wipe σ vs) H' fun σ2 H2 => wipe σ2 vs = wipe σ vs ∧ tt σ2 H2 fun b H3 => if b = true then te σ2 H3 R else Rn H3)
    (hd : ∀ D H', H1 D = none → Fr [] H1 H' → LsD K H' D ((List.range n).filterMap f) → Qd D H') :
    ∀ D, H1 D = none → ∃ W : Nat → Nat → Hp → Prop, (∃ m, W 0 m (upd H1 D (.lst []))) ∧ ∀ i m H, W i m H →
      (J.stop i H ∧ Qd D H) ∨ (J.go i H ∧ ∃ Nx : Hp → Prop, (∀ H', Nx H' → ∃ m', m' < m ∧ W (i + 1) m' H') ∧ ∀ x H', J.yld i H x H' → g x (wipe σ vs) H' fun σ2 H2 => wipe σ2 vs = wipe σ vs ∧ tt σ2 H2 fun b H3 =>
        if b = true then te σ2 H3 fun y H4 => ∃ acc, H4 D = some (.lst acc) ∧ acc.length < sizeLine ∧ Nx (upd H4 D (.lst (acc ++ [y]))) else Nx H3) := by
  intro D nD
  refine lc_it w (fun i H => Fr [] H1 H ∧ ∃ acc, H D = some (.lst acc) ∧ acc.length ≤ i ∧ TpL K H acc ((List.range i).filterMap f)) ⟨Fr.new nD, [], upd_same, Nat.le_refl _, .nil⟩ (fun i H _ p => hG H p.1) ?_ fun H p => hd D H nD p.1 (let ⟨acc, h1, _, h3⟩ := p.2; ⟨acc, h1, h3⟩)
  rintro i x H H' hi ⟨F1, acc, hD, hl, ht⟩ y
  refine hs i x H H' _ _ hi F1 y (fun v H4 d e1 e2 F4 => ?_) (fun H3 e1 F4 => ?_)
  · have hD4 := F4.lst0 hD
    refine ⟨acc, hD4, by omega, Fr.over nD (F1.trans F4) (Fr.put hD4 (fun _ z => by cases z) (fun _ _ z => by cases z) (by simp)), acc ++ [v], upd_same, by rw [List.length_append]; simp; omega, ?_⟩
    · have FD : Fr [D] H4 (upd H4 D (.lst (acc ++ [v]))) := Fr.put hD4 (fun _ z => by cases z) (fun _ _ z => by cases z) (by simp)
      rw [List.range_succ, List.filterMap_append]
      simp only [List.filterMap_cons, e1, List.filterMap_nil]
      exact ((ht.fr F4).fr FD).snoc (e2.fr FD)
  · refine ⟨F1.trans F4, acc, F4.lst0 hD, by omega, ?_⟩
    rw [List.range_succ, List.filterMap_append]
    simp only [List.filterMap_cons, e1, List.filterMap_nil, List.append_nil]
    exact ht.fr F4
end Tk

end

section
namespace Tk
open PySem PySem.Spec L2 RZ
open PyProof.Rows (envOfC)
/-! ### built-ins, by values -/
def rLenA (K : PySem.W.Frag) : List V → Hp → VK → Prop := fun xs H Q => ∃ x n, xs = [x] ∧ LenV K x H n ∧ Q (.int n) H
def rInt1 : List V → Hp → VK → Prop := fun xs H Q => (∃ i, xs = [.int i] ∧ Q (.int i) H) ∨ ∃ k, xs = [.bl k] ∧ Q (.int (if k then 1 else 0)) H
def rIntS : List V → Hp → VK → Prop := fun xs H Q => ∃ a n, xs = [.str a] ∧ PySem.intText? a = some n ∧ a.length ≤ 640 ∧ Q (.int n) H
def rStrI : List V → Hp → VK → Prop := fun xs H Q => ∃ i, xs = [.int i] ∧ i.natAbs.log2 < 1920 ∧ Q (.str (toString i)) H
def rMax2 : List V → Hp → VK → Prop := fun xs H Q => ∃ i j, xs = [.int i, .int j] ∧ Q (.int (if j > i then j else i)) H
def rMin2 : List V → Hp → VK → Prop := fun xs H Q => ∃ i j, xs = [.int i, .int j] ∧ Q (.int (if j < i then j else i)) H
def rListOf (K : PySem.W.Frag) : List V → Hp → VK → Prop := fun xs H Q => ∃ p ys, xs = [.ref p] ∧ (SqL K H p ys ∨ SqT K H p ys) ∧ ∀ l, H l = none → Q (.ref l) (upd H l (.lst ys))
def rTupleOf (K : PySem.W.Frag) : List V → Hp → VK → Prop := fun xs H Q => ∃ p ys, xs = [.ref p] ∧ ((SqL K H p ys ∧ ∀ l, H l = none → Q (.ref l) (upd H l (.tup ys))) ∨ (SqT K H p ys ∧ Q (.ref p) H))
section
variable {X : Cx}
theorem call_lenA : CallR X (.builtin "len") (rLenA X.K) := call_len
theorem call_int1A : CallR X (.type "int") rInt1 := call_int1
theorem call_intS : CallR X (.type "int") rIntS := call_int_str
theorem call_strI : CallR X (.type "str") rStrI := call_str_int
theorem call_max2A (hc : X.calm = true) : CallR X (.builtin "max") rMax2 := call_max2 hc
theorem call_min2A (hc : X.calm = true) : CallR X (.builtin "min") rMin2 := call_min2 hc
theorem call_listOf : CallR X (.type "list") (rListOf X.K) := call_list_of
theorem call_tupleOf : CallR X (.type "tuple") (rTupleOf X.K) := call_tuple_of
end
section
variable {K : PySem.W.Frag} {H : Hp} {Q : VK}
theorem r_lenT {a : Addr} {xs : List V} (h : SqT K H a xs) (q : Q (.int (xs.length : Nat)) H) : rLenA K [.ref a] H Q := ⟨_, _, rfl, .inr ⟨xs, h, rfl⟩, q⟩
theorem r_lenL {a : Addr} {xs : List V} (h : SqL K H a xs) (q : Q (.int (xs.length : Nat)) H) : rLenA K [.ref a] H Q := ⟨_, _, rfl, .inl ⟨xs, h, rfl⟩, q⟩
theorem r_lenS {z : Str} (h : z.length ≤ sizeLine) (q : Q (.int (z.length : Nat)) H) : rLenA K [.str z] H Q := ⟨_, _, rfl, ⟨h, rfl⟩, q⟩
theorem r_lenTd {v : V} {ds : List PyData} (h : Tp K H v (.tuple ds)) (q : Q (.int (ds.length : Nat)) H) : rLenA K [v] H Q := by
  obtain ⟨a, xs, rfl, hs, t⟩ := h.tupi
  rw [← t.length] at q
  exact r_lenT hs q
theorem r_lenLd {a : Addr} {ds : List PyData} (h : LsD K H a ds) (q : Q (.int (ds.length : Nat)) H) : rLenA K [.ref a] H Q := by
  obtain ⟨xs, hs, t⟩ := h
  rw [← t.length] at q
  exact r_lenL (SqL.of hs) q
theorem r_int1 {i : Int} (q : Q (.int i) H) : rInt1 [.int i] H Q := .inl ⟨i, rfl, q⟩
theorem r_max2 {i j : Int} (q : Q (.int (if j > i then j else i)) H) : rMax2 [.int i, .int j] H Q := ⟨i, j, rfl, q⟩
theorem r_min2 {i j : Int} (q : Q (.int (if j < i then j else i)) H) : rMin2 [.int i, .int j] H Q := ⟨i, j, rfl, q⟩
theorem r_strI {i : Int} (h : i.natAbs.log2 < 1920) (q : Q (.str (toString i)) H) : rStrI [.int i] H Q := ⟨i, rfl, h, q⟩
/-- tuple(list): a new tuple of the same data -/
theorem r_tupOf {a : Addr} {ds : List PyData} (h : LsD K H a ds) (hl : ds.length ≤ sizeLine) (q : ∀ p H', H p = none → Fr [] H H' → Tp K H' (.ref p) (.tuple ds) → Q (.ref p) H') : rTupleOf K [.ref a] H Q := by
  obtain ⟨xs, hs, t⟩ := h
  refine ⟨a, xs, rfl, .inl ⟨SqL.of hs, fun p n => q p _ n (Fr.new n) (.tup (SqT.of upd_same) (t.fr (Fr.new (S := []) n)))⟩⟩
theorem r_listOfL {a : Addr} {xs : List V} (h : SqL K H a xs) (q : ∀ p, H p = none → Fr [] H (upd H p (.lst xs)) → upd H p (.lst xs) p = some (.lst xs) → Q (.ref p) (upd H p (.lst xs))) : rListOf K [.ref a] H Q :=
  ⟨a, xs, rfl, .inl h, fun p n => q p n (Fr.new n) upd_same⟩
theorem r_listOfT {a : Addr} {xs : List V} (h : SqT K H a xs) (q : ∀ p, H p = none → Fr [] H (upd H p (.lst xs)) → upd H p (.lst xs) p = some (.lst xs) → Q (.ref p) (upd H p (.lst xs))) : rListOf K [.ref a] H Q :=
  ⟨a, xs, rfl, .inr h, fun p n => q p n (Fr.new n) upd_same⟩
theorem r_isi {x c : V} {t u : Value} {b : Bool} (hc : ClsV c u) (hx : TyX K H x t) (e : PySem.W.kitOne K t u = some b) (q : Q (.bl b) H) : rIsi K [x, c] H Q := ⟨x, c, t, u, b, rfl, hc, hx, e, q⟩
theorem r_isN {x : V} (q : Q (.bl (decide (x = .non))) H) : (fun x y H Q => y = V.non ∧ Q (.bl (decide (x = .non))) H : R2) x .non H Q := ⟨rfl, q⟩
theorem r_all {a : Addr} {bs : List Bool} (h : LsD K H a (bs.map PyData.bool)) (q : Q (.bl (bs.all id)) H) : rAll K [.ref a] H Q := by
  obtain ⟨xs, hs, t⟩ := h
  have e := t.of_bls
  subst e
  exact ⟨a, bs, rfl, SqL.of hs, q⟩
theorem r_any {a : Addr} {bs : List Bool} (h : LsD K H a (bs.map PyData.bool)) (q : Q (.bl (bs.any id)) H) : rAny K [.ref a] H Q := by
  obtain ⟨xs, hs, t⟩ := h
  have e := t.of_bls
  subst e
  exact ⟨a, bs, rfl, SqL.of hs, q⟩
end
/-! ### promises with the number of arguments -/
def spL (n : Nat) (sp : Sp) : Sp := fun vs H Q E => vs.length = n ∧ sp vs H Q E
theorem ok_mk {P : Program} {w : World} {K : PySem.W.Frag} {mg : Str → Option Value} {base : Heap} {x : Str} {st : Stmt} {N ps : List Str} {k : Nat} {sp : Sp} {t : XK → TS}
    (F : ∃ fd, FunD K x x (defArgs st) (defBody st) (defScope st) [] [] (He.fAd K (x, none)) fd) (hm : mg x = some (.ref (He.ga K x))) (S : FnScope N ps (defScope st))
    (hb : ∀ (kV doc pm : Value) (an : Option Addr) (cdv ct : Value) (us : List Value), us.length = ps.length → bindArgs (PySem.W.fnOf x x (defArgs st) (defBody st) (defScope st) .none kV doc pm an cdv ct) ⟨us, []⟩ = pure (ps.zip us))
    (hd : ∀ (cdv : Value) (A : Around) (outer : List Env) (s : Shared) (H : Hp) (E : XK), Room k (A.deeper (envOfC x (defScope st) s.heap.objs.size (He.ga K x) cdv)) → PSs (cxOf (L2.CX P w) P w K mg base N x (defScope st) (He.ga K x) cdv A outer s H E) (defBody st) (t E))
    (hp : ∀ (vs : List V) (H : Hp) (Q : VK) (E : XK), vs.length = ps.length → sp vs H Q E → t E { nx := fun _ H' => Q .non H', rt := Q } (start N vs) H) : Ok P w K mg base x (k + 1) ps (spL ps.length sp) := by
  obtain ⟨fd, F⟩ := F
  refine ⟨fd, FunD.ok F S (fun vs H Q E h => h.1) (fun cdv A outer s H vs Q E hr h => ⟨t E, hd cdv A outer s H E hr, hp vs H Q E h.1 h.2⟩), F.kp, FunD.bindsN F hb, hm⟩
/-! ### written data -/
mutual
def dataB (K : PySem.W.Frag) : PyData → Value → Bool
  | .none, .none => true
  | .bool b, .bool c => b == c
  | .int i, .int j _ => decide (i = j)
  | .str x, .str y _ => decide (x = y)
  | .tuple ds, .ref a => (match K.lookup a with
    | some ⟨.type c, _, .seq its _, _⟩ => decide (c = "tuple") && decide (its.size ≤ sizeLine) && dataBs K ds its.toList
    | _ => false)
  | _, _ => false
def dataBs (K : PySem.W.Frag) : List PyData → List Value → Bool
  | [], [] => true
  | d :: ds, u :: us => dataB K d u && dataBs K ds us
  | _, _ => false
end
mutual
theorem dataB_ok {K : PySem.W.Frag} (H : Hp) : ∀ {d : PyData} {u : Value}, dataB K d u = true → ∃ v, RelV v u ∧ Tp K H v d
  | .none, .none, _ => ⟨.non, rfl, .non⟩
  | .bool b, .bool c, h => ⟨.bl c, rfl, by simp only [dataB, beq_iff_eq] at h; subst h; exact .bl b⟩
  | .int i, .int j t, h => ⟨.int j, ⟨t, rfl⟩, by simp only [dataB, decide_eq_true_eq] at h; subst h; exact .int i⟩
  | .str x, .str y t, h => ⟨.str y, ⟨t, rfl⟩, by simp only [dataB, decide_eq_true_eq] at h; subst h; exact .str x⟩
  | .tuple ds, .ref a, h => by
    rw [dataB] at h
    cases q : K.lookup a with
    | none => rw [q] at h; cases h
    | some o =>
      obtain ⟨oc, od, dt, osl⟩ := o
      rw [q] at h
      cases oc with
      | type c =>
        cases dt with
        | seq its n =>
          simp only [Bool.and_eq_true, decide_eq_true_eq] at h
          obtain ⟨⟨h1, h2⟩, h3⟩ := h
          obtain ⟨vs, r, t⟩ := dataBs_ok H h3
          exact ⟨.ref a, rfl, .tup (.inr ⟨_, its, n, q, congrArg Value.type h1, rfl, h2, r⟩) t⟩
        | _ => cases h
      | _ => cases dt <;> cases h
theorem dataBs_ok {K : PySem.W.Frag} (H : Hp) : ∀ {ds : List PyData} {us : List Value}, dataBs K ds us = true → ∃ vs, Vals vs us ∧ TpL K H vs ds
  | [], [], _ => ⟨[], .nil, .nil⟩
  | d :: ds, u :: us, h => by
    rw [dataBs, Bool.and_eq_true] at h
    obtain ⟨v, r, t⟩ := dataB_ok H h.1
    obtain ⟨vs, rs, ts⟩ := dataBs_ok H h.2
    exact ⟨v :: vs, .cons r rs, .cons t ts⟩
  | [], _ :: _, h => by simp [dataBs] at h
  | _ :: _, [], h => by simp [dataBs] at h
end
theorem data_at {K : PySem.W.Frag} {x : Str} {d : PyData} (h : dataB K d (.ref (He.ga K x)) = true) (H : Hp) : Tp K H (.ref (He.ga K x)) d := by
  obtain ⟨v, r, t⟩ := dataB_ok H h
  have e := r.abs
  have e2 : v = .ref (He.ga K x) := by
    have q : absV (.ref (He.ga K x)) = some (.ref (He.ga K x)) := rfl
    rw [q] at e
    exact (Option.some.inj e).symm
  subst e2
  exact t
end Tk

end

section
namespace Tk
open PySem PySem.Spec L2 RZ
open PyProof.Rows (envOfC)
/-! ### any value that may be handed over, with its kind -/
inductive Ty where
  | non | bl | int | str | lst | tup | dct
  deriving DecidableEq
def Ty.name : Ty → String
  | .non => "NoneType" | .bl => "bool" | .int => "int" | .str => "str" | .lst => "list" | .tup => "tuple" | .dct => "dict"
inductive AnyV (K : PySem.W.Frag) (H : Hp) : V → Ty → Prop
  | non : AnyV K H .non .non
  | bl (b : Bool) : AnyV K H (.bl b) .bl
  | int (i : Int) : AnyV K H (.int i) .int
  | str (x : Str) : AnyV K H (.str x) .str
  | lst {a : Addr} {xs : List V} (h : SqL K H a xs) : AnyV K H (.ref a) .lst
  | tup {a : Addr} {xs : List V} (h : SqT K H a xs) : AnyV K H (.ref a) .tup
  | dK {a : Addr} {kvs : List (Key × V)} (h : H a = some (.dK kvs)) : AnyV K H (.ref a) .dct
section
variable {K : PySem.W.Frag} {H H' : Hp} {x : V} {n : Ty} {Q : VK}
theorem SqL.ty {a : Addr} {xs : List V} (h : SqL K H a xs) : TyX K H (.ref a) (.type "list") := by
  rcases h with (h | ⟨o, h⟩) | ⟨o, its, n, h, hc, _⟩
  · exact .base (.lst h)
  · exact .base (.frz h)
  · exact .kList h hc
theorem SqT.ty {a : Addr} {xs : List V} (h : SqT K H a xs) : TyX K H (.ref a) (.type "tuple") := by
  rcases h with (h | ⟨o, h⟩) | ⟨o, its, n, h, hc, _⟩
  · exact .base (.tup h)
  · exact .fTuple h
  · exact .kTuple h hc
theorem AnyV.ty (h : AnyV K H x n) : TyX K H x (.type n.name) := by
  cases h with
  | non => exact .base .non
  | bl b => exact .base (.bl b)
  | int b => exact .base (.int b)
  | str b => exact .base (.str b)
  | lst h => exact SqL.ty h
  | tup h => exact SqT.ty h
  | dK h => exact .base (.dK h)
theorem AnyV.fr {Pf : Addr → Str → Prop} (F : FrG Pf [] H H') (h : AnyV K H x n) : AnyV K H' x n := by
  cases h with
  | non => exact .non
  | bl b => exact .bl b
  | int b => exact .int b
  | str b => exact .str b
  | lst h => exact .lst (F.sql0 h)
  | tup h => exact .tup (F.sqt h)
  | dK h => exact .dK (F.dK List.not_mem_nil h)
theorem Tp.any {d : PyData} (h : Tp K H x d) : ∃ n, AnyV K H x n := by
  cases h with
  | non => exact ⟨_, .non⟩
  | bl b => exact ⟨_, .bl b⟩
  | int b => exact ⟨_, .int b⟩
  | str b => exact ⟨_, .str b⟩
  | tup h _ => exact ⟨_, .tup h⟩
def Ty.isInt : Ty → Bool
  | .int => true | .bl => true | _ => false
def Ty.isBool : Ty → Bool
  | .bl => true | _ => false
def Ty.isStr : Ty → Bool
  | .str => true | _ => false
def Ty.isTup : Ty → Bool
  | .tup => true | _ => false
def Ty.isLst : Ty → Bool
  | .lst => true | _ => false
def Ty.isDct : Ty → Bool
  | .dct => true | _ => false
theorem r_isiT {T : String} {b : Bool} (h : AnyV K H x n) (e : kitB n.name T = some b) (q : Q (.bl b) H) : rIsi K [x, .ty T] H Q := r_isi (.ty T) h.ty (kit_ty e) q
theorem r_isi_int (h : AnyV K H x n) (q : Q (.bl n.isInt) H) : rIsi K [x, .ty "int"] H Q := r_isiT h (by cases n <;> decide +kernel) q
theorem r_isi_bool (h : AnyV K H x n) (q : Q (.bl n.isBool) H) : rIsi K [x, .ty "bool"] H Q := r_isiT h (by cases n <;> decide +kernel) q
theorem r_isi_str (h : AnyV K H x n) (q : Q (.bl n.isStr) H) : rIsi K [x, .ty "str"] H Q := r_isiT h (by cases n <;> decide +kernel) q
theorem r_isi_tup (h : AnyV K H x n) (q : Q (.bl n.isTup) H) : rIsi K [x, .ty "tuple"] H Q := r_isiT h (by cases n <;> decide +kernel) q
theorem r_isi_lst (h : AnyV K H x n) (q : Q (.bl n.isLst) H) : rIsi K [x, .ty "list"] H Q := r_isiT h (by cases n <;> decide +kernel) q
theorem r_isi_dct (h : AnyV K H x n) (q : Q (.bl n.isDct) H) : rIsi K [x, .ty "dict"] H Q := r_isiT h (by cases n <;> decide +kernel) q
end
/-! ### any data: with lists, and dicts of which nothing is told -/
mutual
inductive Da (K : PySem.W.Frag) (H : Hp) : V → PyData → Prop
  | non : Da K H .non .none
  | bl (b : Bool) : Da K H (.bl b) (.bool b)
  | int (i : Int) : Da K H (.int i) (.int i)
  | str (x : Str) : Da K H (.str x) (.str x)
  | tup {a : Addr} {xs : List V} {ds : List PyData} : SqT K H a xs → DaL K H xs ds → Da K H (.ref a) (.tuple ds)
  | lst {a : Addr} {xs : List V} {ds : List PyData} : SqL K H a xs → DaL K H xs ds → Da K H (.ref a) (.list ds)
  | dct {a : Addr} {kvs : List (Key × V)} : H a = some (.dK kvs) → Da K H (.ref a) (.dict [])
inductive DaL (K : PySem.W.Frag) (H : Hp) : List V → List PyData → Prop
  | nil : DaL K H [] []
  | cons {v : V} {vs : List V} {d : PyData} {ds : List PyData} : Da K H v d → DaL K H vs ds → DaL K H (v :: vs) (d :: ds)
end
section
variable {K : PySem.W.Frag} {H H' : Hp}
mutual
theorem Da.fr {Pf : Addr → Str → Prop} (F : FrG Pf [] H H') : ∀ {v : V} {d : PyData}, Da K H v d → Da K H' v d
  | _, _, .non => .non
  | _, _, .bl b => .bl b
  | _, _, .int i => .int i
  | _, _, .str x => .str x
  | _, _, .tup h t => .tup (F.sqt h) (DaL.fr F t)
  | _, _, .lst h t => .lst (F.sql0 h) (DaL.fr F t)
  | _, _, .dct h => .dct (F.dK List.not_mem_nil h)
theorem DaL.fr {Pf : Addr → Str → Prop} (F : FrG Pf [] H H') : ∀ {vs : List V} {ds : List PyData}, DaL K H vs ds → DaL K H' vs ds
  | _, _, .nil => .nil
  | _, _, .cons h t => .cons (Da.fr F h) (DaL.fr F t)
end
mutual
theorem Tp.da : ∀ {v : V} {d : PyData}, Tp K H v d → Da K H v d
  | _, _, .non => .non
  | _, _, .bl b => .bl b
  | _, _, .int i => .int i
  | _, _, .str x => .str x
  | _, _, .tup h t => .tup h (TpL.da t)
theorem TpL.da : ∀ {vs : List V} {ds : List PyData}, TpL K H vs ds → DaL K H vs ds
  | _, _, .nil => .nil
  | _, _, .cons h t => .cons (Tp.da h) (TpL.da t)
end
theorem DaL.length : ∀ {vs : List V} {ds : List PyData}, DaL K H vs ds → vs.length = ds.length
  | _, _, .nil => rfl
  | _, _, .cons _ t => congrArg Nat.succ (DaL.length t)
theorem DaL.get : ∀ {vs : List V} {ds : List PyData} {i : Nat} {d : PyData}, DaL K H vs ds → ds[i]? = some d → ∃ v, vs[i]? = some v ∧ Da K H v d
  | _, _, _, _, .nil, e => by simp at e
  | _, _, 0, _, .cons h _, e => by simp at e; subst e; exact ⟨_, rfl, h⟩
  | _, _, i + 1, d, .cons _ t, e => by
    obtain ⟨v, h1, h2⟩ := DaL.get (i := i) (d := d) t (by simpa using e)
    exact ⟨v, by simpa using h1, h2⟩
theorem DaL.get' : ∀ {vs : List V} {ds : List PyData} {i : Nat} {v : V}, DaL K H vs ds → vs[i]? = some v → ∃ d, ds[i]? = some d ∧ Da K H v d
  | _, _, _, _, .nil, e => by simp at e
  | _, _, 0, _, .cons h _, e => by simp at e; subst e; exact ⟨_, rfl, h⟩
  | _, _, i + 1, d, .cons _ t, e => by
    obtain ⟨v, h1, h2⟩ := DaL.get' (i := i) (v := d) t (by simpa using e)
    exact ⟨v, by simpa using h1, h2⟩
theorem Da.any {x : V} {d : PyData} (h : Da K H x d) : ∃ n, AnyV K H x n := by
  cases h with
  | non => exact ⟨_, .non⟩
  | bl b => exact ⟨_, .bl b⟩
  | int b => exact ⟨_, .int b⟩
  | str b => exact ⟨_, .str b⟩
  | tup h _ => exact ⟨_, .tup h⟩
  | lst h _ => exact ⟨_, .lst h⟩
  | dct h => exact ⟨_, .dK h⟩
end
/-- an integer in a range -/
def isInt : V → Int → Int → Bool
  | .int i, lo, hi => decide (lo ≤ i) && decide (i ≤ hi)
  | _, _, _ => false
def isIntD : PyData → Int → Int → Bool
  | .int i, lo, hi => decide (lo ≤ i) && decide (i ≤ hi)
  | _, _, _ => false
theorem Da.isInt {K : PySem.W.Frag} {H : Hp} {x : V} {d : PyData} (h : Da K H x d) (lo hi : Int) : Tk.isInt x lo hi = isIntD d lo hi := by
  cases h <;> rfl
def isTupD : PyData → Bool
  | .tuple _ => true
  | _ => false
def SeqIs (K : PySem.W.Frag) (H : Hp) (x : V) (P : It → Prop) : Prop := ∃ a, x = .ref a ∧ (((∃ xs, SqL K H a xs) ∧ P (Itl K a)) ∨ ((∃ xs, SqT K H a xs) ∧ P (Itt K a)))
def EnumIs (K : PySem.W.Frag) (H : Hp) (vs : List V) (P : It → Prop) : Prop := ∃ a, vs = [.ref a] ∧ (((∃ xs, SqL K H a xs) ∧ P (Ite K a)) ∨ ((∃ xs, SqT K H a xs) ∧ P (IteT K a)))
def ZipIs (K : PySem.W.Frag) (H : Hp) (vs : List V) (P : It → Prop) : Prop := ∃ a b xs ys, vs = [.ref a, .ref b] ∧ ((SqL K H a xs ∧ SqL K H b ys ∧ P (Itz K a b)) ∨ (SqT K H a xs ∧ SqT K H b ys ∧ P (ItzT K a b)))
def Rng1Is (vs : List V) (P : It → Prop) : Prop := ∃ j : Int, vs = [.int j] ∧ -(2 ^ 62) ≤ j ∧ j < 2 ^ 62 ∧ P (Itr 0 j.toNat)
def Rng2Is (vs : List V) (P : It → Prop) : Prop := ∃ i j : Int, vs = [.int i, .int j] ∧ (-(2 ^ 62) ≤ i ∧ i < 2 ^ 62 ∧ -(2 ^ 62) ≤ j ∧ j < 2 ^ 62) ∧ P (Itr i (j - i).toNat)
section
variable {σ : L2.St} {H : Hp} {Q : VK} {D : Ends} {K : PySem.W.Frag} {R : It → Hp → Prop} {P : It → Prop}
theorem g_iSeq {tl : TE} (h : tl σ H fun x H1 => SeqIs K H1 x fun J => R J H1) : iSeq K tl σ H R := h
theorem r_seqT {a : Addr} {xs : List V} (h : SqT K H a xs) (q : P (Itt K a)) : SeqIs K H (.ref a) P := ⟨a, rfl, .inr ⟨⟨xs, h⟩, q⟩⟩
theorem r_seqL {a : Addr} {xs : List V} (h : SqL K H a xs) (q : P (Itl K a)) : SeqIs K H (.ref a) P := ⟨a, rfl, .inl ⟨⟨xs, h⟩, q⟩⟩
theorem g_iEnum {ta : TA} (h : ta σ H fun vs H1 => EnumIs K H1 vs fun J => R J H1) : iEnumA K ta σ H R := h
theorem r_enumT {a : Addr} {xs : List V} (h : SqT K H a xs) (q : P (IteT K a)) : EnumIs K H [.ref a] P := ⟨a, rfl, .inr ⟨⟨xs, h⟩, q⟩⟩
theorem r_enumL {a : Addr} {xs : List V} (h : SqL K H a xs) (q : P (Ite K a)) : EnumIs K H [.ref a] P := ⟨a, rfl, .inl ⟨⟨xs, h⟩, q⟩⟩
theorem g_iZip {ta : TA} (h : ta σ H fun vs H1 => ZipIs K H1 vs fun J => R J H1) : iZipA K ta σ H R := h
theorem r_zipT {a b : Addr} {xs ys : List V} (h : SqT K H a xs) (h2 : SqT K H b ys) (q : P (ItzT K a b)) : ZipIs K H [.ref a, .ref b] P := ⟨a, b, xs, ys, rfl, .inr ⟨h, h2, q⟩⟩
theorem r_zipL {a b : Addr} {xs ys : List V} (h : SqL K H a xs) (h2 : SqL K H b ys) (q : P (Itz K a b)) : ZipIs K H [.ref a, .ref b] P := ⟨a, b, xs, ys, rfl, .inl ⟨h, h2, q⟩⟩
theorem g_rng1 {ta : TA} (h : ta σ H fun vs H1 => Rng1Is vs fun J => R J H1) : iRng1 ta σ H R := h
theorem r_rng1 {j : Int} (h1 : -(2 ^ 62) ≤ j) (h2 : j < 2 ^ 62) (q : P (Itr 0 j.toNat)) : Rng1Is [.int j] P := ⟨j, rfl, h1, h2, q⟩
theorem g_rng2 {ta : TA} (h : ta σ H fun vs H1 => Rng2Is vs fun J => R J H1) : iRng2 ta σ H R := h
theorem r_rng2 {i j : Int} (h1 : -(2 ^ 62) ≤ i ∧ i < 2 ^ 62) (h2 : -(2 ^ 62) ≤ j ∧ j < 2 ^ 62) (q : P (Itr i (j - i).toNat)) : Rng2Is [.int i, .int j] P := ⟨i, j, rfl, ⟨h1.1, h1.2, h2.1, h2.2⟩, q⟩
theorem g_for {wi : TI} {g : TG} {tb : TS} (h : wi σ H fun J H1 => ∃ W : Nat → Nat → L2.St → Hp → Prop, (∃ m, W 0 m σ H1) ∧ ∀ i m σ H, W i m σ H →
  (J.stop i H ∧ D.nx σ H) ∨ (J.go i H ∧ ∃ N : L2.St → Hp → Prop, (∀ σ' H', N σ' H' → ∃ m', m' < m ∧ W (i + 1) m' σ' H') ∧ ∀ x H', J.yld i H x H' → g x σ H' fun σ2 H2 => tb { D with nx := N, ct := N, bk := D.nx } σ2 H2)) : tFor wi g tb D σ H := h
end
theorem fm_get {α β : Type} (l : List α) (g : α → Option β) : (List.range l.length).filterMap (fun i => l[i]?.bind g) = l.filterMap g := by
  have e : ∀ n, n ≤ l.length → (List.range n).filterMap (fun i => l[i]?.bind g) = (l.take n).filterMap g := by
    intro n
    induction n with
    | zero => intro _; simp
    | succ n ih =>
      intro hn
      rw [List.range_succ, List.filterMap_append, ih (by omega), List.take_add_one, List.filterMap_append]
      have h : n < l.length := by omega
      congr 1
      rw [List.getElem?_eq_getElem h]
      show List.filterMap _ [n] = List.filterMap g [l[n]]
      rw [List.filterMap_cons, List.filterMap_cons, List.getElem?_eq_getElem h]
      rfl
  have q := e l.length (Nat.le_refl _)
  rw [List.take_length] at q
  exact q
theorem fm_map {α β : Type} (l : List α) (g : α → β) : (List.range l.length).filterMap (fun i => l[i]?.map g) = l.map g := by
  have q := fm_get l (fun a => some (g a))
  rw [List.filterMap_eq_map'] at q
  rw [← q]
  congr 1
  funext i
  cases l[i]? <;> rfl
theorem fm_fun {β : Type} (n : Nat) (g : Nat → β) : (List.range n).filterMap (fun i => some (g i)) = (List.range n).map g := by
  rw [List.filterMap_eq_map']
/-- a comprehension over n things that tell the list l -/
theorem lc_fm {K : PySem.W.Frag} {α : Type} {J : It} {n : Nat} {G : Hp → Prop} {Y : Nat → Hp → V → Hp → Prop} (w : Walk J n G Y) (l : List α) (f : α → Option PyData) (hl : l.length = n) (hn : n < 16777216) {g : TG} {tt : TT} {te : TE} {vs : List Nat} {σ : L2.St} {H1 : Hp} {Qd : Addr → Hp → Prop}
    (hG : ∀ H', Fr [] H1 H' → G H')
    (hs : ∀ i z x H H' (R : V → Hp → Prop) (Rn : Hp → Prop), l[i]? = some z → Fr [] H1 H → Y i H x H' → (∀ y H4 d, f z = some d → Tp K H4 y d → Fr [] H H4 → R y H4) → (∀ H3, f z = none → Fr [] H H3 → Rn H3) →
      g x (wipe σ vs) H' fun σ2 H2 => wipe σ2 vs = wipe σ vs ∧ tt σ2 H2 fun b H3 => if b = true then te σ2 H3 R else Rn H3)
    (hd : ∀ D H', H1 D = none → Fr [] H1 H' → LsD K H' D (l.filterMap f) → Qd D H') :
    ∀ D, H1 D = none → ∃ W : Nat → Nat → Hp → Prop, (∃ m, W 0 m (upd H1 D (.lst []))) ∧ ∀ i m H, W i m H →
      (J.stop i H ∧ Qd D H) ∨ (J.go i H ∧ ∃ Nx : Hp → Prop, (∀ H', Nx H' → ∃ m', m' < m ∧ W (i + 1) m' H') ∧ ∀ x H', J.yld i H x H' → g x (wipe σ vs) H' fun σ2 H2 => wipe σ2 vs = wipe σ vs ∧ tt σ2 H2 fun b H3 =>
        if b = true then te σ2 H3 fun y H4 => ∃ acc, H4 D = some (.lst acc) ∧ acc.length < sizeLine ∧ Nx (upd H4 D (.lst (acc ++ [y]))) else Nx H3) := by
  subst hl
  refine lc_data (K := K) w (fun i => l[i]?.bind f) (by rw [sizeLine_eq]; exact hn) hG (fun i x H H' R Rn hi F y k1 k2 => ?_) fun D H' n F h => hd D H' n F (by rw [← fm_get]; exact h)
  have e : l[i]? = some l[i] := List.getElem?_eq_getElem hi
  refine hs i l[i] x H H' R Rn e F y (fun y H4 d h => k1 y H4 d ?_) fun H3 h => k2 H3 ?_
  · rw [e]; exact h
  · rw [e]; exact h
theorem cut_from {xs : List V} {n : Nat} : cutV xs (some (n : Int)) none = xs.drop n := by
  unfold cutV
  rw [HT.sIx_nat, HT.sIx_none]
  rcases Nat.lt_or_ge n xs.length with h | h
  · rw [Nat.min_eq_left (Nat.le_of_lt h), List.take_of_length_le (by rw [List.length_drop]; exact Nat.le_refl _)]
  · rw [Nat.min_eq_right h, List.drop_of_length_le (Nat.le_refl _), List.drop_of_length_le h]
    simp
theorem cut_to {xs : List V} {n : Nat} : cutV xs none (some (n : Int)) = xs.take n := by
  unfold cutV
  rw [HT.sIx_nat, HT.sIx_none, List.drop_zero, Nat.sub_zero]
  rcases Nat.lt_or_ge n xs.length with h | h
  · rw [Nat.min_eq_left (Nat.le_of_lt h)]
  · rw [Nat.min_eq_right h, List.take_of_length_le (Nat.le_refl _), List.take_of_length_le h]
theorem cut_mid {xs : List V} {m n : Nat} : cutV xs (some (m : Int)) (some (n : Int)) = (xs.drop m).take (n - m) := by
  unfold cutV
  rw [HT.sIx_nat, HT.sIx_nat]
  rcases Nat.lt_or_ge m xs.length with h | h
  · rw [Nat.min_eq_left (Nat.le_of_lt h)]
    rcases Nat.lt_or_ge n xs.length with h2 | h2
    · rw [Nat.min_eq_left (Nat.le_of_lt h2)]
    · rw [Nat.min_eq_right h2, List.take_of_length_le (by rw [List.length_drop]; exact Nat.le_refl _), List.take_of_length_le (by rw [List.length_drop]; omega)]
  · rw [Nat.min_eq_right h, List.drop_of_length_le (Nat.le_refl _), List.drop_of_length_le h]
    simp
/-- a pair of the i-th of two tuples, a turn of zip -/
theorem DaL.drop {K : PySem.W.Frag} {H : Hp} : ∀ {vs : List V} {ds : List PyData} (n : Nat), DaL K H vs ds → DaL K H (vs.drop n) (ds.drop n)
  | _, _, 0, h => h
  | _, _, _ + 1, .nil => .nil
  | _, _, n + 1, .cons _ t => DaL.drop n t
end Tk

end

section
/-! own exceptions over ValueError whose __init__ says super().__init__(text), then stores at most one field -/
namespace PySem
namespace OwnX
open PySem.W PySem.Calls PyProof.Rows PySem.HandSPX
def iA0 (p1 : Pos) : Arguments := { posonlyargs := [], args := [{ arg := "self", annotation := none, pos := p1 }], vararg := none, kwonlyargs := [], kw_defaults := [], kwarg := none, defaults := [] }
def iA1 (f : Str) (p1 p2 : Pos) : Arguments := { posonlyargs := [], args := [{ arg := "self", annotation := none, pos := p1 }, { arg := f, annotation := none, pos := p2 }], vararg := none, kwonlyargs := [], kw_defaults := [], kwarg := none, defaults := [] }
def iE (t : Str) (u : Nat) (p0 p1 p2 p3 p4 p5 : Pos) : Stmt := .Expr (.Call (.Attribute (.Call (.Name "super" p0) [] [] p1) "__init__" p2) [.Constant (.str t) u p3] [] p4) p5
def iF (f : Str) (p0 p1 p2 p3 : Pos) : Stmt := .Assign [.Attribute (.Name "self" p0) f p1] (.Name f p2) p3
/-- what the written part says of an own exception's class at C, of its __init__ at fI -/
structure OwnT (prog : Program) (K : Frag) (C fI : Addr) (q : Str) (ps : Arguments) (bd : List Stmt) (sc : Scope) : Prop where
  cls : ∃ nm qn N bs bm sn sub ab col dd k0 k1 k2 k3 k5, K.lookup C = some (excClassObj nm qn C N bs bm true sn sub ab col dd k0 k1 k2 k3 k5 "ValueError.__new__") ∧ refsVE bm = true
  sa : findIn K (.ref C) "__setattr__" = some (some (.builtin "object.__setattr__"))
  iC : findIn K (.ref C) "__init__" = some (some (.ref fI))
  tC : typeIn K (.ref fI) = some (.type "function")
  kC : keepIn K (.ref C) = true
  exC : subIn K (.ref C) (.type "BaseException") = some true
  veC : subIn K (.ref C) (.type "ValueError") = some true
  tyC : typeIn K (.ref C) = some (.type "type")
  sup : ks_superIn K C C "__init__" = some (some (.builtin "ValueError.__init__"))
  mro : mroIn K C (.ref C) = some true
  ns : nsIn K mainGlobals "super" = some none
  op : nsIn K cStatics "thirdparty.any" = some none
  top : (prog.main.scope.names.lookup ("super" : Str)).isSome = false
  fn : ∃ oc od doc pm an cda ct osl cc oc2 od2 vs sl2 file tf cl cld csl,
    K.lookup fI = some ⟨oc, od, .func (ksFn "__init__" q ps bd sc .none .none doc pm an (.ref cda) ct cc), osl⟩ ∧ codeIn K (.ref cda) q = true ∧
    K.lookup cda = some ⟨oc2, od2, .fields vs, sl2⟩ ∧ vs[2]? = some (.str file tf) ∧ ((prog.main.file : Str) == file) = true ∧ K.lookup cc = some ⟨cl, cld, .cell (some (.ref C)), csl⟩
section
variable {prog : Program} {w : World} {A : Around} {E : Value → Shared → Prop} {R : Result → Shared → Prop} {K : Frag} {C fI : Addr} {q : Str} {ps : Arguments} {bd : List Stmt} {sc : Scope}
theorem super_tree {o e : Expr} {name : Str} {p2 p4 : Pos} {env : Env} (hpos : (p2.endLine == p4.line) = true) (hs : starEach [e] env = [(false, eval e env)] := by rfl) : eval (.Call (.Attribute o name p2) [e] [] p4) env = (do
      let ov ← attributeBase o name env (eval o env)
      standAt p2.atName
      let (f, first) ← holding [ov] (getMethod ov name (do return (← importBound o env).getD true))
      callWith p4 f first (backTo p4 (starEach [e] env)) []) := by
  have h : ∀ ov, methodCall o name p2 p4 env ov 1 (backTo p4 (starEach [e] env)) [] = (do
      let (f, first) ← holding [ov] (getMethod ov name (do return (← importBound o env).getD true))
      callWith p4 f first (backTo p4 (starEach [e] env)) []) := fun ov => by
    have hf : methodCallForm 1 (backTo p4 (starEach [e] env)) [] = true := by
      rw [hs] <;> rfl
    unfold methodCall methodCallPos calleeOf
    rw [hf]
    simp only [hpos, Bool.not_true, Bool.false_or, if_true, pure_bind]
  rw [arm_eval_Call]
  have e2 : (fun ov => methodCall o name p2 p4 env ov 1 (backTo p4 (starEach [e] env)) []) = _ := funext h
  show (attributeBase o name env (eval o env) >>= fun ov => standAt p2.atName >>= fun _ => (fun ov => methodCall o name p2 p4 env ov 1 (backTo p4 (starEach [e] env)) []) ov) = _
  rw [e2]
/-- super().__init__(text), the statement -/
theorem super_stmt (T : OwnT prog K C fI q ps bd sc) {body : List Stmt} {L x t0 cda cc : Addr} {ar : Arg} {m mg mb : Str → Option Value} {h : Heap} {g : Array GenState} {d : Drawn} {tk : Nat} {os : OsState} {fd : FuncData} {oc2 cl : Value} {od2 cld : Option Addr} {vs : Array Value} {sl2 csl : Array (Option Value)} {file : Str} {tf : Tok}
    {t : Str} {u : Nat} {p0 p1 p2 p3 p4 p5 : Pos} {Q : Flow → Shared → Prop} {oF : Obj}
    (hint : interactive (ksEnv q sc L fI (.ref cda) cc) = false) (hsw : swapsWith (.Call (.Attribute (.Call (.Name "super" p0) [] [] p1) "__init__" p2) [.Constant (.str t) u p3] [] p4) none p5.line (ksEnv q sc L fI (.ref cda) cc) = pure false)
    (hpos : (p2.endLine == p4.line) = true) (X : K.In h) (hn : h.Ns L m) (G : h.Ns mainGlobals mg) (B : h.Ns builtinsNs mb) (hB : mb "super" = some (.type "super")) (hx : h.get? x = some (excO C t0))
    (hF : K.lookup fI = some oF) (hFd : oF.data = .func fd) (hp : (fd.params.posonlyargs ++ fd.params.args).head? = some ar) (hv : m ar.arg = some (.ref x))
    (hcode : K.lookup cda = some ⟨oc2, od2, .fields vs, sl2⟩) (hvs : vs[2]? = some (.str file tf)) (hfile : ((prog.main.file : Str) == file) = true) (hcell : K.lookup cc = some ⟨cl, cld, .cell (some (.ref C)), csl⟩)
    (hks : sc.names.lookup ("super" : Str) = some .globalImplicit) (hkc : sc.names.lookup ("__class__" : Str) = some .free) (hka : sc.names.lookup ar.arg = some .local) (hk : sc.kind = .function)
    (hq : ∀ h' tk' t1, (∀ b o, b ≠ x → h.get? b = some o → h'.get? b = some o) → h'.get? x = some (excO C t1) → Q .next ⟨h', g, d, tk', os⟩) :
    _root_.PySem.wpAt (model prog w) A (.func body (ksEnv q sc L fI (.ref cda) cc)) (exec (iE t u p0 p1 p2 p3 p4 p5) (ksEnv q sc L fI (.ref cda) cc)) Q E ⟨h, g, d, tk, os⟩ := by
  obtain ⟨nm, qn, N, bs, bm, sn, sub, ab, col, dd, k0, k1, k2, k3, k5, hC, hbm⟩ := T.cls
  obtain ⟨cd, hcd⟩ : ∃ cd, clsIn K C = some cd := ⟨_, by unfold clsIn; rw [hC] <;> rfl⟩
  have hxC : x ≠ C := fun z => by
    rw [z, X _ _ hC] at hx
    cases hx
  refine ks_wpAt_Expr_any (ks_wpAt_MethodCall (pl := (do return (← importBound (.Call (.Name "super" p0) [] [] p1) (ksEnv q sc L fI (.ref cda) cc)).getD true)) ?_ (super_tree hpos)) hint hsw
  refine ks_wpAt_super_base (env := ksEnv q sc L fI (.ref cda) cc) hks hkc rfl rfl (X _ _ hF) hFd hp rfl (X _ _ hcode) rfl hvs hfile T.top ?_
  refine ks_loadName_global hk hks (loadGlobal_builtin (env := ksEnv q sc L fI (.ref cda) cc) G (mg_none_of X G T.ns) B hB ⟨rfl, ?_⟩)
  refine wpAny_loadName_free hk hkc rfl ⟨_, X _ _ hcell, rfl⟩ ?_
  refine wpAny_loadName_local hk hka hn hv ?_
  refine ks_wpAny_isType_cls (X _ _ hC) rfl ⟨rfl, ?_⟩
  refine ks_wpAny_call_super (X _ _ hC) rfl hx rfl (fun c e => by cases e) (looks_mroIn X T.mro) (fun h1 e1 k1 => ?_)
  have X1 := X.keeps k1
  have hsu := T.sup
  unfold ks_superIn at hsu
  rw [hcd] at hsu
  have I1 : InstAt h1 x (excO C t0) C none := ⟨k1 _ _ hx, rfl, rfl, trivial⟩
  refine kxs_getMethod kxs_ValueError e1 (looks_opaque X1 T.op) (l₀ := cd.mro) (fun A Q E s k q => wpAny_bind ((looks_clsIn X1 hcd) A _ E s k (wpAny_pure q))) rfl X1 hsu (I1.type.andThen (looks_subIn X1 T.veC)) hxC rfl ?_
  have k2 : ∀ b o, h.get? b = some o → (h1.push (kxs_mw "ValueError.__init__" x)).get? b = some o := fun b o e => Heap.get?_push_of_some _ (k1 b o e)
  have hC2 := k2 _ _ (X _ _ hC)
  have hx2 := k2 _ _ hx
  have hu : (h1.push (kxs_mw "ValueError.__init__" x)).get? h1.objs.size = some (kxs_mw "ValueError.__init__" x) := Heap.get?_push_at rfl rfl
  show wpAny _ _ (callWith p4 (.ref h1.objs.size) [] (backTo p4 (starEach [Expr.Constant (Const.str t) u p3] (ksEnv q sc L fI (.ref cda) cc))) []) _ _ _
  refine kxs_callWith (i := "ValueError.__init__") (x := x) rfl (evalArgs_plain ?_)
  refine spliced_cons (wpAny_Constant_str (k := u) (pos := p3) ?_)
  refine spliced_nil ⟨hu, ?_⟩
  show wpAny _ _ (call (.ref h1.objs.size) [.str t (tk + 1)]) _ _ _
  refine wpAny_call (codeAny_of_tree ?_)
  show wpAny _ A.in1 (callAny (.ref h1.objs.size) ⟨[.str t (tk + 1)], []⟩) _ _ _
  simp only [callAny]
  refine wpAny_bind (wpAny_load hu ?_)
  simp only [kxs_mw, show (Value.type "method-wrapper" == Value.type "method" || Value.type "method-wrapper" == Value.type "builtin_function_or_method" || Value.type "method-wrapper" == Value.type "method-wrapper") = true by decide, if_true]
  refine KFB.if_so (by decide) ?_
  refine wpAny_bind (check_bound_init F.excBase_ValueError.toExcCallFacts hC2 hx2 rfl ?_)
  refine wpAny_bind (wpAny_pure (wpAny_pure ?_))
  refine ⟨plainId_quiet F.excBase_ValueError.init.plain _, codeAny_builtin F.excBase_ValueError.initEntry ?_⟩
  refine exc_init_tree (cls := .ref C) (t0 := t0) (dv := none) (c2 := .none) (c3 := .none) (b4 := .bool false) hx2 (by rw [sizeLine_eq]; exact (by decide : 1 ≤ 16777216)) fun h' k' e' _ => ?_
  exact hq h' _ _ (fun b o hb e => k' b o hb (k2 b o e)) e'
end
/-- what __init__ leaves of a fresh exception at x: no field -/
structure InitEnd0 (h h' : Heap) (x C t1 : Addr) : Prop where
  keep : ∀ b o, b ≠ x → h.get? b = some o → h'.get? b = some o
  obj : h'.get? x = some (excO C t1)
/-- .. one field -/
structure InitEnd1 (h h' : Heap) (x C dx t1 : Addr) (f : Str) (v : Value) : Prop where
  keep : ∀ b o, b ≠ x → h.get? b = some o → h'.get? b = some o
  obj : h'.get? x = some { cls := .ref C, dict := some dx, data := .fields #[.ref t1, .none, .none, .none, .bool false, .none] }
  dbig : h.objs.size ≤ dx
  dne : dx ≠ x
  ns : h'.Ns1 dx (fun y => if y = f then some v else none)
def sc0 : Scope := { kind := .function, names := [("self", .local), ("__class__", .free), ("super", .globalImplicit)], isGenerator := false, isCoroutine := false, more := [] }
def sc1 (f : Str) : Scope := { kind := .function, names := [("self", .local), (f, .local), ("__class__", .free), ("super", .globalImplicit)], isGenerator := false, isCoroutine := false, more := [] }
section
variable {prog : Program} {w : World} {A : Around} {E : Value → Shared → Prop} {R : Result → Shared → Prop} {K : Frag} {C fI : Addr} {q : Str} {s : Shared} {mg mb : Str → Option Value} {t : Str} {u : Nat} {a1 a2 p0 p1 p2 p3 p4 p5 r0 r1 r2 r3 : Pos}
theorem own_init0 (T : OwnT prog K C fI q (iA0 a1) [iE t u p0 p1 p2 p3 p4 p5] sc0) {x t0 : Addr} (hpos : (p2.endLine == p4.line) = true) (hsw : ∀ env, swapsWith (.Call (.Attribute (.Call (.Name "super" p0) [] [] p1) "__init__" p2) [.Constant (.str t) u p3] [] p4) none p5.line env = pure false)
    (X : K.In s.heap) (hlim : s.heap.NoLimit) (G : s.heap.Ns mainGlobals mg) (B : s.heap.Ns builtinsNs mb) (hB : mb "super" = some (.type "super")) (hx : s.heap.get? x = some (excO C t0)) (hnx : K.lookup x = none) (hroom : A.depth < recursionLimit)
    (hq : ∀ h' tk t1, InitEnd0 s.heap h' x C t1 → R (.ok (.ret .none)) { s with heap := h', toks := tk }) :
    codeAny (model prog w) A (.call (.ref fI) ⟨[.ref x], []⟩) R s := by
  obtain ⟨oc, od, doc, pm, an, cda, ct, osl, cc, oc2, od2, vs, sl2, file, tf, cl, cld, csl, hf, hcd, hcode, hvs, hfile, hcell⟩ := T.fn
  refine ks_codeAny_call_defAt (fd := ksFn "__init__" q (iA0 a1) [iE t u p0 p1 p2 p3 p4 p5] sc0 .none .none doc pm an (.ref cda) ct cc) (binds := [("self", .ref x)]) hroom (X _ _ hf) rfl hlim (codeRec_of X hcd) rfl (BindsTo.of_eq (by first | rfl | with_unfolding_all rfl)) ?_ ?_ (fun h₁ hn k => ?_) rfl rfl rfl
  · intro y hy
    simp only [ksFn, fnX, sc0, List.mem_cons, List.not_mem_nil, or_false] at hy
    rcases hy with rfl | rfl | rfl <;> exact fun z => by cases z
  · intro y hy
    simp only [List.mem_cons, List.not_mem_nil, or_false] at hy
    subst hy
    rfl
  have hx₁ := k _ _ hx
  refine ks_wpAt_execs_cons (super_stmt (mg := mg) (mb := mb) T rfl (hsw _) hpos (X.keeps k) hn (G.keeps k) (B.keeps k) hB hx₁ hf rfl rfl (by first | rfl | with_unfolding_all rfl | kernel_rfl) hcode hvs hfile hcell rfl rfl rfl rfl fun h₂ tk₂ t1 k₂ hx₂ => ?_)
  show _root_.PySem.wpAt _ _ _ (execs [] _) _ _ _
  exact wpAt_of_wpAny (wpAny_execs_nil (hq h₂ tk₂ t1 ⟨fun b o hb e => k₂ b o hb (k b o e), hx₂⟩))
theorem own_init1 {f : Str} (T : OwnT prog K C fI q (iA1 f a1 a2) [iE t u p0 p1 p2 p3 p4 p5, iF f r0 r1 r2 r3] (sc1 f)) (hno : findIn K (.ref C) f = some none) {x t0 : Addr} {v : Value} (hpos : (p2.endLine == p4.line) = true) (hsw : ∀ env, swapsWith (.Call (.Attribute (.Call (.Name "super" p0) [] [] p1) "__init__" p2) [.Constant (.str t) u p3] [] p4) none p5.line env = pure false)
    (hsw2 : ∀ env, swapsWith (.Name f r2) (some (.Attribute (.Name "self" r0) f r1)) r3.line env = pure false)
    (hf1 : (f == ("self" : Str)) = false) (hf2 : (f == ("__class__" : Str)) = false) (hf3 : (f == ("super" : Str)) = false) (hf4 : (f == ("__debug__" : Str)) = false)
    (hb : ∀ (doc pm : Value) (an : Option Addr) (cda : Addr) (ct : Value) (cc : Addr) (s : Shared) (x : Addr) (v : Value), BindsTo s (ksFn "__init__" q (iA1 f a1 a2) [iE t u p0 p1 p2 p3 p4 p5, iF f r0 r1 r2 r3] (sc1 f) .none .none doc pm an (.ref cda) ct cc) ⟨[.ref x, v], []⟩ [("self", .ref x), (f, v)])
    (X : K.In s.heap) (hlim : s.heap.NoLimit) (G : s.heap.Ns mainGlobals mg) (B : s.heap.Ns builtinsNs mb) (hB : mb "super" = some (.type "super")) (hx : s.heap.get? x = some (excO C t0)) (hnx : K.lookup x = none) (hroom : A.depth < recursionLimit)
    (hq : ∀ h' tk dx t1, InitEnd1 s.heap h' x C dx t1 f v → R (.ok (.ret .none)) { s with heap := h', toks := tk }) :
    codeAny (model prog w) A (.call (.ref fI) ⟨[.ref x, v], []⟩) R s := by
  obtain ⟨oc, od, doc, pm, an, cda, ct, osl, cc, oc2, od2, vs, sl2, file, tf, cl, cld, csl, hf, hcd, hcode, hvs, hfile, hcell⟩ := T.fn
  obtain ⟨nm, qn, N, bs, bm, sn, sub, ab, col, dd, k0, k1, k2, k3, k5, hC, hbm⟩ := T.cls
  have hcl : clsIn K C = some { name := nm, bases := bs, mro := .ref C :: bm, ns := N, qualname := qn, hasDict := true, slotNames := sn, subclasses := sub, abstract := ab, collection := col, hasDel := false } := by unfold clsIn; rw [hC] <;> rfl
  have l1 : (sc1 f).names.lookup ("self" : Str) = some .local := rfl
  have l2 : (sc1 f).names.lookup f = some .local := by
    show List.lookup f [(("self" : Str), NameKind.local), (f, .local), ("__class__", .free), ("super", .globalImplicit)] = _
    simp [List.lookup, hf1]
  have hg1 : (("__class__" : Str) == f) = false := by
    rw [Bool.eq_false_iff] at hf2 ⊢
    intro z
    exact hf2 (by rw [beq_iff_eq] at z ⊢; exact z.symm)
  have hg2 : (("super" : Str) == f) = false := by
    rw [Bool.eq_false_iff] at hf3 ⊢
    intro z
    exact hf3 (by rw [beq_iff_eq] at z ⊢; exact z.symm)
  have l3 : (sc1 f).names.lookup ("__class__" : Str) = some .free := by
    show List.lookup ("__class__" : Str) [(("self" : Str), NameKind.local), (f, .local), ("__class__", .free), ("super", .globalImplicit)] = _
    simp [List.lookup, hg1, show (("__class__" : Str) == ("self" : Str)) = false by decide]
  have l4 : (sc1 f).names.lookup ("super" : Str) = some .globalImplicit := by
    show List.lookup ("super" : Str) [(("self" : Str), NameKind.local), (f, .local), ("__class__", .free), ("super", .globalImplicit)] = _
    simp [List.lookup, hg2, show (("super" : Str) == ("self" : Str)) = false by decide, show (("super" : Str) == ("__class__" : Str)) = false by decide]
  refine ks_codeAny_call_defAt (fd := ksFn "__init__" q (iA1 f a1 a2) [iE t u p0 p1 p2 p3 p4 p5, iF f r0 r1 r2 r3] (sc1 f) .none .none doc pm an (.ref cda) ct cc) (binds := [("self", .ref x), (f, v)]) hroom (X _ _ hf) rfl hlim (codeRec_of X hcd) rfl (hb _ _ _ _ _ _ _ _ _) ?_ ?_ (fun h₁ hn k => ?_) rfl rfl rfl
  · intro y hy
    simp only [ksFn, fnX, sc1, List.mem_cons, List.not_mem_nil, or_false] at hy
    rcases hy with rfl | rfl | rfl | rfl <;> exact fun z => by cases z
  · intro y hy
    simp only [List.mem_cons, List.not_mem_nil, or_false] at hy
    rcases hy with rfl | rfl
    · exact l1
    · exact l2
  have v1 : ([((("self" : Str)), Value.ref x), (f, v)] : List (Str × Value)).reverse.lookup ("self" : Str) = some (.ref x) := by
    have : (("self" : Str) == f) = false := by
      rw [Bool.eq_false_iff] at hf1 ⊢
      intro z
      exact hf1 (by rw [beq_iff_eq] at z ⊢; exact z.symm)
    simp [List.lookup, this]
  have v2 : ([((("self" : Str)), Value.ref x), (f, v)] : List (Str × Value)).reverse.lookup f = some v := by
    simp [List.lookup]
  have hx₁ := k _ _ hx
  refine ks_wpAt_execs_cons (super_stmt (mg := mg) (mb := mb) T rfl (hsw _) hpos (X.keeps k) hn (G.keeps k) (B.keeps k) hB hx₁ hf rfl rfl v1 hcode hvs hfile hcell l4 l3 l1 rfl fun h₂ tk₂ t1 k₂ hx₂ => ?_)
  show _root_.PySem.wpAt _ _ _ (execs [iF f r0 r1 r2 r3] _) _ _ _
  have hLx : s.heap.objs.size ≠ x := Nat.ne_of_gt (Heap.lt_size hx)
  have hn₂ : h₂.Ns s.heap.objs.size (fun y => ([((("self" : Str)), Value.ref x), (f, v)] : List (Str × Value)).reverse.lookup y) := hn.at fun o e => k₂ _ o hLx e
  have X₂ : K.In h₂ := fun a o e => k₂ a o (fun z => by rw [z, hnx] at e; cases e) (k _ _ (X a o e))
  refine ks_wpAt_execs_cons (ks_wpAt_Assign_Attr (wpAt_of_wpAny ?_) (hsw2 _))
  refine wpAny_Name (wpAny_loadName_local rfl l2 hn₂ v2 ?_) hf4
  refine wpAny_Name (wpAny_loadName_local rfl l1 hn₂ v1 ?_) (by decide)
  refine set_plain X₂ (ox := excO C t1) (od := none) ⟨hx₂, rfl, rfl, trivial⟩ T.sa ?_
  refine exc_osa X₂ hx₂ hcl (show refsVE (.ref C :: bm) = true from hbm) rfl hno (fun h₃ tk₃ dx k₃ dn dne hx₃ hn₃ => ?_)
  show _root_.PySem.wpAt _ _ _ (execs [] _) _ _ _
  have z : s.heap.objs.size < h₁.objs.size := hn.lt
  have z2 : s.heap.objs.size < h₂.objs.size := hn₂.lt
  exact wpAt_of_wpAny (wpAny_execs_nil (hq h₃ tk₃ dx t1 ⟨fun b o hb e => k₃ b o hb (k₂ b o hb (k b o e)), hx₃, Nat.le_of_lt (Nat.lt_of_lt_of_le z2 dn), dne, hn₃⟩))
end
/-- a made one -/
structure Made0 (h h' : Heap) (e C : Addr) : Prop where
  keep : ∀ b o, h.get? b = some o → h'.get? b = some o
  new : h.objs.size ≤ e
  obj : ∃ oe vs, h'.get? e = some oe ∧ oe.cls = .ref C ∧ oe.dict = none ∧ oe.data = .fields vs ∧ vs[1]? = some .none
structure Made1 (h h' : Heap) (e C d : Addr) (f : Str) (v : Value) : Prop where
  keep : ∀ b o, h.get? b = some o → h'.get? b = some o
  new : h.objs.size ≤ e
  obj : ∃ oe vs, h'.get? e = some oe ∧ oe.cls = .ref C ∧ oe.dict = some d ∧ oe.data = .fields vs ∧ vs[1]? = some .none
  dbig : h.objs.size ≤ d
  dne : d ≠ e
  ns : h'.Ns1 d (fun y => if y = f then some v else none)
theorem one_size (v : Value) : [v].length ≤ sizeLine := by
  rw [sizeLine_eq]
  exact (by decide : 1 ≤ 16777216)
theorem nil_size : ([] : List Value).length ≤ sizeLine := by
  rw [sizeLine_eq]
  exact (by decide : 0 ≤ 16777216)
section
variable {prog : Program} {w : World} {A : Around} {E : Value → Shared → Prop} {R : Result → Shared → Prop} {K : Frag} {C fI : Addr} {q : Str} {s : Shared} {mg mb : Str → Option Value} {t : Str} {u : Nat} {a1 a2 p0 p1 p2 p3 p4 p5 r0 r1 r2 r3 : Pos}
theorem own_made0 (T : OwnT prog K C fI q (iA0 a1) [iE t u p0 p1 p2 p3 p4 p5] sc0) (hpos : (p2.endLine == p4.line) = true) (hsw : ∀ env, swapsWith (.Call (.Attribute (.Call (.Name "super" p0) [] [] p1) "__init__" p2) [.Constant (.str t) u p3] [] p4) none p5.line env = pure false)
    (X : K.In s.heap) (hlim : s.heap.NoLimit) (G : s.heap.Ns mainGlobals mg) (B : s.heap.Ns builtinsNs mb) (hB : mb "super" = some (.type "super")) (hroom : A.depth + 1 < recursionLimit)
    (hq : ∀ h' tk e, Made0 s.heap h' e C → R (.ok (.ret (.ref e))) { s with heap := h', toks := tk }) :
    codeAny (model prog w) A (.call (.ref C) ⟨[], []⟩) R s := by
  obtain ⟨nm, qn, N, bs, bm, sn, sub, ab, col, dd, k0, k1, k2, k3, k5, hC, hbm⟩ := T.cls
  obtain ⟨hp, g, dr, tk, os⟩ := s
  have k : ∀ b o, hp.get? b = some o → ((hp.push (kdv_tup [])).push (excO C hp.objs.size)).get? b = some o := fun b o e => Heap.get?_push_of_some _ (Heap.get?_push_of_some _ e)
  have hget : ((hp.push (kdv_tup [])).push (excO C hp.objs.size)).get? (hp.objs.size + 1) = some (excO C hp.objs.size) := by heap_get
  have hnx : K.lookup (hp.objs.size + 1) = none := by
    cases e : K.lookup (hp.objs.size + 1) with
    | none => rfl
    | some o =>
      have z : hp.get? (hp.objs.size + 1) = some o := X _ _ e
      exact absurd (Nat.lt_of_succ_lt (Heap.lt_size z)) (Nat.lt_irrefl _)
  refine call_own F.excBase_ValueError (fun X => refsVE_contains X bm hbm) (X _ _ hC) (looks_findIn X T.iC) (fun self => bind_fn X self T.tC) nil_size ?_
  refine own_init0 (s := ⟨(hp.push (kdv_tup [])).push (excO C hp.objs.size), g, dr, tk, os⟩) T hpos hsw (X.keeps k) (hlim.keeps k) (G.keeps k) (B.keeps k) hB hget hnx ?_ fun h' tk' t1 ⟨k', hx⟩ => ?_
  · show A.depth + 1 < recursionLimit
    exact hroom
  · have old : ∀ b o, hp.get? b = some o → h'.get? b = some o := fun b o e => k' b o (Nat.ne_of_lt (Nat.lt_succ_of_lt (Heap.lt_size e))) (k b o e)
    exact ⟨rfl, hq h' tk' (hp.objs.size + 1) ⟨old, Nat.le_succ _, ⟨_, _, hx, rfl, rfl, rfl, rfl⟩⟩⟩
theorem own_made1 {f : Str} (T : OwnT prog K C fI q (iA1 f a1 a2) [iE t u p0 p1 p2 p3 p4 p5, iF f r0 r1 r2 r3] (sc1 f)) (hno : findIn K (.ref C) f = some none) {v : Value} (hpos : (p2.endLine == p4.line) = true) (hsw : ∀ env, swapsWith (.Call (.Attribute (.Call (.Name "super" p0) [] [] p1) "__init__" p2) [.Constant (.str t) u p3] [] p4) none p5.line env = pure false)
    (hsw2 : ∀ env, swapsWith (.Name f r2) (some (.Attribute (.Name "self" r0) f r1)) r3.line env = pure false)
    (hf1 : (f == ("self" : Str)) = false) (hf2 : (f == ("__class__" : Str)) = false) (hf3 : (f == ("super" : Str)) = false) (hf4 : (f == ("__debug__" : Str)) = false)
    (hb : ∀ (doc pm : Value) (an : Option Addr) (cda : Addr) (ct : Value) (cc : Addr) (s : Shared) (x : Addr) (v : Value), BindsTo s (ksFn "__init__" q (iA1 f a1 a2) [iE t u p0 p1 p2 p3 p4 p5, iF f r0 r1 r2 r3] (sc1 f) .none .none doc pm an (.ref cda) ct cc) ⟨[.ref x, v], []⟩ [("self", .ref x), (f, v)])
    (X : K.In s.heap) (hlim : s.heap.NoLimit) (G : s.heap.Ns mainGlobals mg) (B : s.heap.Ns builtinsNs mb) (hB : mb "super" = some (.type "super")) (hroom : A.depth + 1 < recursionLimit)
    (hq : ∀ h' tk e d, Made1 s.heap h' e C d f v → R (.ok (.ret (.ref e))) { s with heap := h', toks := tk }) :
    codeAny (model prog w) A (.call (.ref C) ⟨[v], []⟩) R s := by
  obtain ⟨nm, qn, N, bs, bm, sn, sub, ab, col, dd, k0, k1, k2, k3, k5, hC, hbm⟩ := T.cls
  obtain ⟨hp, g, dr, tk, os⟩ := s
  have k : ∀ b o, hp.get? b = some o → ((hp.push (kdv_tup [v])).push (excO C hp.objs.size)).get? b = some o := fun b o e => Heap.get?_push_of_some _ (Heap.get?_push_of_some _ e)
  have hget : ((hp.push (kdv_tup [v])).push (excO C hp.objs.size)).get? (hp.objs.size + 1) = some (excO C hp.objs.size) := by heap_get
  have hnx : K.lookup (hp.objs.size + 1) = none := by
    cases e : K.lookup (hp.objs.size + 1) with
    | none => rfl
    | some o =>
      have z : hp.get? (hp.objs.size + 1) = some o := X _ _ e
      exact absurd (Nat.lt_of_succ_lt (Heap.lt_size z)) (Nat.lt_irrefl _)
  refine call_own F.excBase_ValueError (fun X => refsVE_contains X bm hbm) (X _ _ hC) (looks_findIn X T.iC) (fun self => bind_fn X self T.tC) (one_size v) ?_
  refine own_init1 (s := ⟨(hp.push (kdv_tup [v])).push (excO C hp.objs.size), g, dr, tk, os⟩) T hno hpos hsw hsw2 hf1 hf2 hf3 hf4 hb (X.keeps k) (hlim.keeps k) (G.keeps k) (B.keeps k) hB hget hnx ?_ fun h' tk' dx t1 ⟨k', hx, dn, dne, hns⟩ => ?_
  · show A.depth + 1 < recursionLimit
    exact hroom
  · have old : ∀ b o, hp.get? b = some o → h'.get? b = some o := fun b o e => k' b o (Nat.ne_of_lt (Nat.lt_succ_of_lt (Heap.lt_size e))) (k b o e)
    have z : hp.objs.size + 1 + 1 ≤ dx := by
      first
        | (simpa only [Heap.size_push] using dn)
        | exact dn
        | (have q := dn; rw [Heap.size_push, Heap.size_push] at q; exact q)
    exact ⟨rfl, hq h' tk' (hp.objs.size + 1) dx ⟨old, Nat.le_succ _, ⟨_, _, hx, rfl, rfl, rfl, rfl⟩, Nat.le_trans (Nat.le_trans (Nat.le_succ _) (Nat.le_succ _)) z, dne, hns⟩⟩
end
end OwnX
end PySem
namespace Tk
open PySem PySem.Spec PyProof.Rows L2
theorem relO_one {f : Str} {v : V} {v' : Value} (r : RelV v v') (g : Str) : RelO (List.lookup g [(f, v)]) (if g = f then some v' else none) := relO_put (fs := []) (mA := fun _ => none) r (fun _ => True.intro) g
/-- an own exception without fields | with one: what is told of its class -/
def Exc0 (prog : Program) (K : PySem.W.Frag) (mg : Str → Option Value) (x : Str) : Prop := mg x = some (.ref (He.ga K x)) ∧ ∃ fI q t u a1 p0 p1 p2 p3 p4 p5, OwnX.OwnT prog K (He.ga K x) fI q (OwnX.iA0 a1) [OwnX.iE t u p0 p1 p2 p3 p4 p5] OwnX.sc0 ∧ (p2.endLine == p4.line) = true ∧
  ∀ env, swapsWith (.Call (.Attribute (.Call (.Name "super" p0) [] [] p1) "__init__" p2) [.Constant (.str t) u p3] [] p4) none p5.line env = pure false
def Exc1 (prog : Program) (K : PySem.W.Frag) (mg : Str → Option Value) (x f : Str) : Prop := mg x = some (.ref (He.ga K x)) ∧ PySem.W.findIn K (.ref (He.ga K x)) f = some none ∧ ((f == ("self" : Str)) = false ∧ (f == ("__class__" : Str)) = false ∧ (f == ("super" : Str)) = false ∧ (f == ("__debug__" : Str)) = false) ∧
  ∃ fI q t u a1 a2 p0 p1 p2 p3 p4 p5 r0 r1 r2 r3, OwnX.OwnT prog K (He.ga K x) fI q (OwnX.iA1 f a1 a2) [OwnX.iE t u p0 p1 p2 p3 p4 p5, OwnX.iF f r0 r1 r2 r3] (OwnX.sc1 f) ∧ (p2.endLine == p4.line) = true ∧
  (∀ env, swapsWith (.Call (.Attribute (.Call (.Name "super" p0) [] [] p1) "__init__" p2) [.Constant (.str t) u p3] [] p4) none p5.line env = pure false) ∧
  (∀ env, swapsWith (.Name f r2) (some (.Attribute (.Name "self" r0) f r1)) r3.line env = pure false) ∧
  ∀ (doc pm : Value) (an : Option Addr) (cda : Addr) (ct : Value) (cc : Addr) (s : Shared) (x : Addr) (v : Value), BindsTo s (PySem.W.ksFn "__init__" q (OwnX.iA1 f a1 a2) [OwnX.iE t u p0 p1 p2 p3 p4 p5, OwnX.iF f r0 r1 r2 r3] (OwnX.sc1 f) .none .none doc pm an (.ref cda) ct cc) ⟨[.ref x, v], []⟩ [("self", .ref x), (f, v)]
section
variable {X : Cx} {x f : Str}
def tMk0 (C : Addr) : L2.St → Hp → XK → Prop := fun _ H Q => Q (.ref C) none H
def tMk1 (C : Addr) (f : Str) (ta : TA) : L2.St → Hp → XK → Prop := fun σ H Q => ta σ H fun vs H1 => ∃ v, vs = [v] ∧ ∀ d, H1 d = none → Q (.ref C) (some d) (upd H1 d (.xd [(f, v)]))
theorem pmk_0 {p pos : Pos} {k : Nat} (T : Exc0 X.prog X.K X.mg x) (hr : Room k X.A) (hg : Gl X x := by rfl) (hdb : (x == ("__debug__" : Str)) = false := by decide) :
    PMk X (.Call (.Name x p) [] [] pos) (tMk0 (He.ga X.K x)) := by
  intro pins s σ H Q I h
  obtain ⟨hm, fI, q, t, u, a1, p0, p1, p2, p3, p4, p5, T, hpos, hsw⟩ := T
  obtain ⟨mb, hb1, hb2⟩ := I.mod.blt
  refine wpAny_Call_Name_kw (ld_glob I hg hm ?_ hdb)
  refine PySem.W.callWith_K0 I.kIn T.kC ?_
  show wpAny _ _ (call (.ref (He.ga X.K x)) []) _ _ _
  have hlim := I.nolimit
  obtain ⟨hp, g, dr, tk, os⟩ := s
  refine wpAny_call (OwnX.own_made0 (mg := X.mg) (mb := mb) T hpos hsw I.kIn hlim (I.mod.glob.keeps I.bk) (hb1.keeps I.bk) ((hb2 _ (by decide +kernel)).trans (by first | rfl | decide +kernel)) (by have := hr.dp; omega) fun h' tk' e M => ?_)
  show MkP X pins σ Q (.ref e) ⟨h', g, dr, tk', os⟩
  obtain ⟨oe, fv, hoe, hc, hd, hdat, h1⟩ := M.obj
  obtain ⟨G', g1, g2⟩ := restrict h' fun b => decide (b ≠ e)
  have gk : ∀ b, b ≠ e → G'.get? b = h'.get? b := fun b hb => g1 b (decide_eq_true hb)
  have ge : G'.get? e = none := g2 e (by simp)
  have old : ∀ b o, hp.get? b = some o → G'.get? b = some o := fun b o q => (gk b (Nat.ne_of_lt (Nat.lt_of_lt_of_le (Heap.lt_size q) M.new))).trans (M.keep b o q)
  have J : Inv X pins σ H ⟨G', g, dr, tk', os⟩ := I.kept (t' := tk') old
  refine ⟨e, oe, fv, ⟨G', g, dr, tk', os⟩, _, .ref (He.ga X.K x), none, rfl, J, fun b o q => ?_, ge, hoe, ⟨hc, hd⟩, hdat, h1, I.hok.fresh M.new, rfl, I.bare, raises_own T.exC T.tyC, h⟩
  by_cases hb : b = e
  · have q' : G'.get? b = some o := q
    rw [hb, ge] at q'
    cases q'
  · exact (gk b hb).symm.trans q
theorem pmk_1 {e : Expr} {ta : TA} {p pos : Pos} {k : Nat} (T : Exc1 X.prog X.K X.mg x f) (hr : Room k X.A) (ha : PA X [e] ta) (hg : Gl X x := by rfl) (hdb : (x == ("__debug__" : Str)) = false := by decide)
    (he : starEach (e :: []) X.env = (false, eval e X.env) :: starEach [] X.env := by rfl) (hpl : (backTo pos (starEach [] X.env)).any (·.1) = false := by rfl) :
    PMk X (.Call (.Name x p) [e] [] pos) (tMk1 (He.ga X.K x) f ta) := by
  intro pins s σ H Q I h
  obtain ⟨hm, hno, ⟨f1, f2, f3, f4⟩, fI, q, t, u, a1, a2, p0, p1, p2, p3, p4, p5, r0, r1, r2, r3, T, hpos, hsw, hsw2, hb⟩ := T
  refine wpAny_Call_Name_kw (ld_glob I hg hm ?_ hdb)
  refine PySem.W.callWith_K (h₀ := X.base) I.ok.mod.kin T.kC (thn (ha.run pos pins s σ H _ I h) fun us s1 hh => ?_) he hpl
  obtain ⟨vs, H1, I1, rr, v, ev, q1⟩ := hh
  subst ev
  refine ⟨I1.kIn, ?_⟩
  cases rr with
  | cons rv rn =>
    rename_i v' us'
    cases rn
    show wpAny _ _ (call (.ref (He.ga X.K x)) [v']) _ _ _
    have hlim := I1.nolimit
    obtain ⟨mb, hb1, hb2⟩ := I1.mod.blt
    obtain ⟨hp, g, dr, tk, os⟩ := s1
    refine wpAny_call (OwnX.own_made1 (mg := X.mg) (mb := mb) T hno hpos hsw hsw2 f1 f2 f3 f4 hb I1.kIn hlim (I1.mod.glob.keeps I1.bk) (hb1.keeps I1.bk) ((hb2 _ (by decide +kernel)).trans (by first | rfl | decide +kernel)) (by have := hr.dp; omega) fun h' tk' e d M => ?_)
    show MkP X pins σ Q (.ref e) ⟨h', g, dr, tk', os⟩
    obtain ⟨oe, fv, hoe, hc, hd, hdat, h1⟩ := M.obj
    have hns := M.ns
    obtain ⟨G', g1, g2⟩ := restrict h' fun b => decide (b ≠ e)
    have gk : ∀ b, b ≠ e → G'.get? b = h'.get? b := fun b hb => g1 b (decide_eq_true hb)
    have ge : G'.get? e = none := g2 e (by simp)
    have old : ∀ b o, hp.get? b = some o → G'.get? b = some o := fun b o q => (gk b (Nat.ne_of_lt (Nat.lt_of_lt_of_le (Heap.lt_size q) M.new))).trans (M.keep b o q)
    have ob : ObjOk X.prog X.w (upd H1 d (.xd [(f, v)])) G' d (.xd [(f, v)]) :=
      ⟨_, hns.at (fun o q => (gk d M.dne).trans q), fun g => relO_one rv g⟩
    have J : Inv X pins σ (upd H1 d (.xd [(f, v)])) ⟨G', g, dr, tk', os⟩ := I1.laid (t' := tk') old M.dbig ob
    refine ⟨e, oe, fv, ⟨G', g, dr, tk', os⟩, _, .ref (He.ga X.K x), some d, rfl, J, fun b o q => ?_, ge, hoe, ⟨hc, hd⟩, hdat, h1, ?_, rfl, I1.bare, raises_own T.exC T.tyC, q1 d (I1.hok.fresh M.dbig)⟩
    · by_cases hb : b = e
      · have q' : G'.get? b = some o := q
        rw [hb, ge] at q'; cases q'
      · exact (gk b hb).symm.trans q
    · rw [upd_ne (Ne.symm M.dne)]
      exact I1.hok.fresh M.new
/-- raise x(), raise x(e) -/
def tRaise0 (C : Addr) (W : WX) : TS := fun _ σ H => W (.ref C) none σ H
def tRaise1 (C : Addr) (f : Str) (W : WX) (ta : TA) : TS := fun _ σ H => tMk1 C f ta σ H fun cls d H' => W cls d σ H'
theorem ps_raise0 {W : WX} {p pos pos2 : Pos} {k : Nat} (hc : X.calm = true) (T : Exc0 X.prog X.K X.mg x) (hr : Room k X.A) (tk : Takes X W) (hg : Gl X x := by rfl) (hdb : (x == ("__debug__" : Str)) = false := by decide) :
    PS X (.Raise (some (.Call (.Name x p) [] [] pos)) none pos2) (tRaise0 (He.ga X.K x) W) := ps_raise hc tk (pmk_0 T hr hg hdb)
theorem ps_raise1 {e : Expr} {ta : TA} {W : WX} {p pos pos2 : Pos} {k : Nat} (hc : X.calm = true) (T : Exc1 X.prog X.K X.mg x f) (hr : Room k X.A) (tk : Takes X W) (ha : PA X [e] ta) (hg : Gl X x := by rfl) (hdb : (x == ("__debug__" : Str)) = false := by decide)
    (he : starEach (e :: []) X.env = (false, eval e X.env) :: starEach [] X.env := by rfl) (hpl : (backTo pos (starEach [] X.env)).any (·.1) = false := by rfl) :
    PS X (.Raise (some (.Call (.Name x p) [e] [] pos)) none pos2) (tRaise1 (He.ga X.K x) f W ta) := ps_raise hc tk (pmk_1 T hr ha hg hdb he hpl)
theorem g_raise0 {C : Addr} {W : WX} {D : Ends} {σ : L2.St} {H : Hp} (h : W (.ref C) none σ H) : tRaise0 C W D σ H := h
theorem g_raise1 {C : Addr} {f : Str} {W : WX} {ta : TA} {D : Ends} {σ : L2.St} {H : Hp} (h : ta σ H fun vs H1 => ∃ v, vs = [v] ∧ ∀ d, H1 d = none → W (.ref C) (some d) σ (upd H1 d (.xd [(f, v)]))) : tRaise1 C f W ta D σ H := h
end
end Tk

end

section
/-! own facts and hook: functions at addresses of one's own (getters, __init__s that close over __class__), own exceptions -/
namespace Tk
open PySem PySem.Spec PyProof.Rows L2
open He (ga ma eqO eqO_ok ba)
/-! ### functions at addresses -/
abbrev FnA : Type := Option (Str × Str × Arguments × FuncBody × Scope × Addr × List Str × Addr)
def fnA (K : PySem.W.Frag) (a : Addr) : FnA := match K.lookup a with
  | some ⟨_, _, .func fd, _⟩ => some (fd.name, fd.qualname, fd.params, fd.body, fd.scope, fd.globals, fd.closure.map (·.1), fd.builtins)
  | _ => none
structure DefA where
  adr : PySem.W.Frag → Addr
  name : Str
  qual : Str
  params : Arguments
  body : List Stmt
  scope : Scope
  clo : List Str
def DefA.val (d : DefA) : FnA := some (d.name, d.qual, d.params, .stmts d.body, d.scope, mainGlobals, d.clo, builtinsNs)
def noneB : Value → Bool
  | .none => true
  | _ => false
theorem noneB_ok {v : Value} (h : noneB v = true) : v = .none := by
  cases v with
  | none => rfl
  | _ => cases h
def DefA.ok (K : PySem.W.Frag) (d : DefA) : Bool := PySem.W.keepIn K (.ref (d.adr K)) && (match K.lookup (d.adr K) with
  | some ⟨_, _, .func fd, _⟩ => PySem.W.codeIn K fd.code d.qual && (noneB fd.defaults && noneB fd.kwdefaults)
  | _ => false)
theorem DefA.ex {K : PySem.W.Frag} {d : DefA} (e : fnA K (d.adr K) = d.val) (c : d.ok K = true) : ∃ oc od doc pm an cdv ct osl cl,
    K.lookup (d.adr K) = some ⟨oc, od, .func (PySem.W.fnX d.name d.qual d.params d.body d.scope cl .none .none doc pm an cdv ct), osl⟩ ∧ cl.map (·.1) = d.clo ∧ PySem.W.codeIn K cdv d.qual = true ∧ PySem.W.keepIn K (.ref (d.adr K)) = true := by
  obtain ⟨kp, c2⟩ := ba c
  unfold fnA at e
  cases q : K.lookup (d.adr K) with
  | none =>
    rw [q] at c2
    cases c2
  | some o =>
    obtain ⟨oc, od, dt, osl⟩ := o
    rw [q] at c2 e
    cases dt with
    | func fd =>
      obtain ⟨n1, n2, n3, n4, n5, n6, n7, n8, n9, n10, n11, n12, n13, n14, n15⟩ := fd
      have e2 : (some (n1, n2, n3, n4, n5, n6, n7.map (·.1), n15) : FnA) = some (d.name, d.qual, d.params, .stmts d.body, d.scope, mainGlobals, d.clo, builtinsNs) := e
      simp only [Option.some.injEq, Prod.mk.injEq] at e2
      obtain ⟨h1, h2, h3, h4, h5, h6, h7, h8⟩ := e2
      subst h1 h2 h3 h4 h5 h6 h8
      have c3 : (PySem.W.codeIn K n13 d.qual && (noneB n8 && noneB n9)) = true := c2
      obtain ⟨k1, k2⟩ := ba c3
      obtain ⟨k3, k4⟩ := ba k2
      have q8 := noneB_ok k3
      have q9 := noneB_ok k4
      subst q8 q9
      exact ⟨oc, od, n10, n11, n12, n13, n14, osl, n7, rfl, h7, k1, kp⟩
    | _ => cases c2
theorem DefA.funD {K : PySem.W.Frag} {d : DefA} (e : fnA K (d.adr K) = d.val) (c : d.ok K = true) (hc : d.clo = []) : ∃ fd, FunD K d.name d.qual d.params d.body d.scope [] [] (d.adr K) fd := by
  obtain ⟨oc, od, doc, pm, an, cdv, ct, osl, cl, h1, h2, h3, h4⟩ := DefA.ex e c
  have : cl = [] := by
    rw [hc] at h2
    exact List.map_eq_nil_iff.mp h2
  subst this
  exact ⟨_, ⟨oc, od, .none, .none, doc, pm, an, cdv, ct, osl, rfl, h1, h3, .inl ⟨rfl, rfl⟩, .inl rfl⟩, h4⟩
/-! ### the getter of a property -/
def pa (K : PySem.W.Frag) (x f : Str) : Addr := ma K (ga K x) f
def gt (x f : Str) (K : PySem.W.Frag) : Addr := match PySem.W.recIn K (pa K x f) "property" with
  | some (.ref g :: _) => g
  | _ => 0
def propB (K : PySem.W.Frag) (x f : Str) : Bool := eqO (PySem.W.findIn K (.ref (ga K x)) f) (some (some (.ref (pa K x f)))) && (eqO (PySem.W.specialIn K (.ref (pa K x f)) "__get__") (some (some (.builtin "property.__get__"))) &&
  (decide (PySem.W.takesIn K (.ref (pa K x f)) = some true) && (match PySem.W.recIn K (pa K x f) "property" with
  | some (.ref _ :: _) => true
  | _ => false)))
theorem propB_ok {K : PySem.W.Frag} {x f : Str} (h : propB K x f = true) : PropOf K (ga K x) f (pa K x f) (gt x f K) := by
  obtain ⟨h1, h⟩ := ba h
  obtain ⟨h2, h⟩ := ba h
  obtain ⟨h3, h4⟩ := ba h
  refine ⟨eqO_ok h1, eqO_ok h2, of_decide_eq_true h3, ?_⟩
  unfold gt
  cases q : PySem.W.recIn K (pa K x f) "property" with
  | none =>
    rw [q] at h4
    cases h4
  | some l =>
    rw [q] at h4
    match l, h4 with
    | .ref g :: r, _ => exact ⟨r, rfl⟩
/-! ### own exceptions -/
def exCls (K : PySem.W.Frag) (C : Addr) : Bool := match K.lookup C with
  | some ⟨.type "type", _, .cls cd, sl⟩ => (match cd.mro, sl.toList with
    | .ref C' :: bm, [_, _, _, _, some (.builtin n), _] => C' == C && (n == "ValueError.__new__" && (!cd.hasDel && (cd.hasDict && PySem.HandSPX.refsVE bm)))
    | _, _ => false)
  | _ => false
theorem exCls_ok {K : PySem.W.Frag} {C : Addr} (q : exCls K C = true) : ∃ nm qn N bs bm sn sub ab col dd k0 k1 k2 k3 k5, K.lookup C = some (excClassObj nm qn C N bs bm true sn sub ab col dd k0 k1 k2 k3 k5 "ValueError.__new__") ∧ PySem.HandSPX.refsVE bm = true := by
  unfold exCls at q
  split at q
  · rename_i dd cd sl ho
    split at q
    · rename_i C' bm k0 k1 k2 k3 n k5 hm hs
      simp only [Bool.and_eq_true, beq_iff_eq, Bool.not_eq_true'] at q
      obtain ⟨rfl, rfl, hdel, hdic, ht⟩ := q
      obtain ⟨nm, bs, mro, ns, qn, hd, sn, sub, ab, col, del⟩ := cd
      dsimp only at hm hdel hdic
      subst hm hdel hdic
      have hsl : sl = #[k0, k1, k2, k3, some (.builtin "ValueError.__new__"), k5] := by
        obtain ⟨l⟩ := sl
        simp only at hs
        rw [hs]
      subst hsl
      exact ⟨nm, qn, ns, bs, bm, sn, sub, ab, col, dd, k0, k1, k2, k3, k5, ho, ht⟩
    · cases q
  · cases q
def ini (x : Str) (K : PySem.W.Frag) : Addr := ma K (ga K x) "__init__"
/-- its cell, its code's file -/
def exFn (file : Str) (K : PySem.W.Frag) (x : Str) : Bool := match K.lookup (ini x K) with
  | some ⟨_, _, .func fd, _⟩ => (match fd.closure with
    | [(_, cc)] => (match K.lookup cc with
      | some ⟨_, _, .cell (some (.ref D)), _⟩ => D == ga K x
      | _ => false)
    | _ => false) && (match fd.code with
    | .ref c => (match K.lookup c with
      | some ⟨_, _, .fields vs, _⟩ => (match (vs.toList[2]? : Option Value) with
        | some (Value.str f _) => f == file
        | _ => false)
      | _ => false)
    | _ => false)
  | _ => false
def exB (file : Str) (K : PySem.W.Frag) (x : Str) : Bool :=
  exCls K (ga K x) && (eqO (PySem.W.findIn K (.ref (ga K x)) "__setattr__") (some (some (.builtin "object.__setattr__"))) && (eqO (PySem.W.findIn K (.ref (ga K x)) "__init__") (some (some (.ref (ini x K)))) &&
  (eqO ((PySem.W.typeIn K (.ref (ini x K))).map some) (some (some (.type "function"))) && (PySem.W.keepIn K (.ref (ga K x)) && (decide (PySem.W.subIn K (.ref (ga K x)) (.type "BaseException") = some true) &&
  (decide (PySem.W.subIn K (.ref (ga K x)) (.type "ValueError") = some true) && (eqO ((PySem.W.typeIn K (.ref (ga K x))).map some) (some (some (.type "type"))) &&
  (eqO (PySem.W.ks_superIn K (ga K x) (ga K x) "__init__") (some (some (.builtin "ValueError.__init__"))) && (decide (PySem.W.mroIn K (ga K x) (.ref (ga K x)) = some true) &&
  (eqO (PySem.W.nsIn K mainGlobals "super") (some none) && (eqO (PySem.W.nsIn K cStatics "thirdparty.any") (some none) && exFn file K x)))))))))))
theorem mapsome {o : Option Value} {v : Value} (h : o.map some = some (some v)) : o = some v := by
  cases o with
  | none => cases h
  | some u =>
    simp only [Option.map_some, Option.some.injEq] at h
    rw [h]
theorem fileB_ok {K : PySem.W.Frag} {cdv : Value} {file : Str} (m2 : (match cdv with
    | .ref c => (match K.lookup c with
      | some ⟨_, _, .fields vs, _⟩ => (match (vs.toList[2]? : Option Value) with
        | some (Value.str f _) => f == file
        | _ => false)
      | _ => false)
    | _ => false) = true) : ∃ cda oc2 od2 vs sl2 tf, cdv = .ref cda ∧ K.lookup cda = some ⟨oc2, od2, .fields vs, sl2⟩ ∧ vs[2]? = some (.str file tf) := by
  cases cdv with
  | ref cda =>
    simp only at m2
    split at m2
    · rename_i oc2 od2 vs sl2 hl
      split at m2
      · rename_i f tf hv
        have ef : f = file := by simpa using m2
        subst ef
        exact ⟨cda, oc2, od2, vs, sl2, tf, rfl, hl, by rw [← hv]; simp⟩
      · cases m2
    · cases m2
  | _ => cases m2
theorem exB_ok {P : Program} {K : PySem.W.Frag} {x q : Str} {ps : Arguments} {bd : List Stmt} {sc : Scope} {file : Str} (hf : P.main.file = file) (ht : (P.main.scope.names.lookup ("super" : Str)).isSome = false) (h : exB file K x = true)
    (e : fnA K (ini x K) = (DefA.val ⟨ini x, "__init__", q, ps, bd, sc, ["__class__"]⟩)) (c : DefA.ok K ⟨ini x, "__init__", q, ps, bd, sc, ["__class__"]⟩ = true) : OwnX.OwnT P K (ga K x) (ini x K) q ps bd sc := by
  obtain ⟨h1, h⟩ := ba h
  obtain ⟨h2, h⟩ := ba h
  obtain ⟨h3, h⟩ := ba h
  obtain ⟨h4, h⟩ := ba h
  obtain ⟨h5, h⟩ := ba h
  obtain ⟨h6, h⟩ := ba h
  obtain ⟨h7, h⟩ := ba h
  obtain ⟨h8, h⟩ := ba h
  obtain ⟨h9, h⟩ := ba h
  obtain ⟨h10, h⟩ := ba h
  obtain ⟨h11, h⟩ := ba h
  obtain ⟨h12, h13⟩ := ba h
  refine ⟨exCls_ok h1, eqO_ok h2, eqO_ok h3, mapsome (eqO_ok h4), h5, of_decide_eq_true h6, of_decide_eq_true h7, mapsome (eqO_ok h8), eqO_ok h9, of_decide_eq_true h10, eqO_ok h11, eqO_ok h12, ht, ?_⟩
  obtain ⟨oc, od, doc, pm, an, cdv, ct, osl, cl, k1, k2, k3, k4⟩ := DefA.ex (d := ⟨ini x, "__init__", q, ps, bd, sc, ["__class__"]⟩) e c
  unfold exFn at h13
  have k1' : K.lookup (ini x K) = some ⟨oc, od, .func (PySem.W.fnX "__init__" q ps bd sc cl .none .none doc pm an cdv ct), osl⟩ := k1
  rw [k1'] at h13
  obtain ⟨m1, m2⟩ := ba h13
  have k2' : cl.map (·.1) = [("__class__" : Str)] := k2
  obtain ⟨cc, rfl⟩ : ∃ cc, cl = [(("__class__" : Str), cc)] := by
    match cl, k2' with
    | [(a, cc)], z =>
      simp only [List.map_cons, List.map_nil, List.cons.injEq, and_true] at z
      exact ⟨cc, by rw [z]⟩
  have m1' : (match K.lookup cc with
      | some ⟨_, _, .cell (some (.ref D)), _⟩ => D == ga K x
      | _ => false) = true := m1
  obtain ⟨cda, oc2, od2, vs, sl2, tf, rfl, hl, hv⟩ := fileB_ok m2
  split at m1'
  · rename_i cl' cld D csl hc
    have eD : D = ga K x := by simpa using m1'
    subst eD
    exact ⟨oc, od, doc, pm, an, cda, ct, osl, cc, oc2, od2, vs, sl2, file, tf, cl', cld, csl, k1', k3, hl, hv, by rw [hf]; exact beq_self_eq_true _, hc⟩
  · cases m1'
/-! ### the hook -/
def asO (g : Addr → Option Obj) : Nat → List Addr
  | 0 => [mainGlobals, cStatics]
  | n + 1 => He.growD g (asO g n)
abbrev AlO : Type := He.AlD × List FnA
def obsO (fa : List He.Fa) (fn : List He.DefD) (da : List DefA) (more : PySem.W.Frag → List Bool) (K : PySem.W.Frag) : AlO :=
  (((He.obsD fa fn K).1 && ((da.all fun d => d.ok K) && (more K).all id), (He.obsD fa fn K).2), da.map fun d => fnA K (d.adr K))
def valO (fn : List He.DefD) (da : List DefA) : AlO := (He.valD fn, da.map DefA.val)
def SaysO (fa : List He.Fa) (fn : List He.DefD) (da : List DefA) (more : PySem.W.Frag → List Bool) (K : PySem.W.Frag) : Prop := obsO fa fn da more K = valO fn da
def obsOG (n : Nat) (fa : List He.Fa) (fn : List He.DefD) (da : List DefA) (more : PySem.W.Frag → List Bool) (g : Addr → Option Obj) : AlO := obsO fa fn da more (He.frG g (asO g n))
def hookO (n : Nat) (fa : List He.Fa) (fn : List He.DefD) (da : List DefA) (more : PySem.W.Frag → List Bool) : PySem.W.Hook where
  α := AlO
  obs := fun s => obsOG n fa fn da more s.heap.get?
  val := fun _ => valO fn da
  says := fun _ h => ∃ K : PySem.W.Frag, K.In h ∧ SaysO fa fn da more K
  of := fun _ _ e => ⟨_, He.frG_in, e⟩
  keeps := fun _ _ _ ⟨K, hK, c⟩ k => ⟨K, PySem.W.Frag.In.keeps hK k, c⟩
theorem obsOG_eq {n : Nat} {fa : List He.Fa} {fn : List He.DefD} {da : List DefA} {more : PySem.W.Frag → List Bool} {g : Addr → Option Obj} {s : Shared} (h : ∀ a, g a = s.heap.get? a) : obsOG n fa fn da more g = (hookO n fa fn da more).obs s := by
  have e : g = s.heap.get? := funext h
  rw [e] <;> rfl
section
variable {fa : List He.Fa} {fn : List He.DefD} {da : List DefA} {more : PySem.W.Frag → List Bool} {K : PySem.W.Frag}
theorem SaysO.b (c : SaysO fa fn da more K) : ((He.obsD fa fn K).1 && ((da.all fun d => d.ok K) && (more K).all id)) = true := congrArg (fun z : AlO => z.1.1) c
theorem SaysO.says (c : SaysO fa fn da more K) : He.SaysD fa fn K := by
  have h1 := (ba c.b).1
  have h2 : (He.obsD fa fn K).2 = (He.valD fn).2 := congrArg (fun z : AlO => z.1.2) c
  exact Prod.ext h1 h2
theorem SaysO.moreAll (c : SaysO fa fn da more K) : (more K).all id = true := (ba (ba c.b).2).2
theorem SaysO.daAt (c : SaysO fa fn da more K) (i : Nat) {d : DefA} (h : da[i]? = some d := by rfl) : fnA K (d.adr K) = d.val ∧ d.ok K = true := by
  have h1 := List.all_eq_true.mp (ba (ba c.b).2).1 d (List.mem_of_getElem? h)
  have e : da.map (fun d => fnA K (d.adr K)) = da.map DefA.val := congrArg (fun z : AlO => z.2) c
  have e2 : (da.map fun d => fnA K (d.adr K))[i]? = (da.map DefA.val)[i]? := by rw [e]
  rw [List.getElem?_map, List.getElem?_map, h] at e2
  exact ⟨Option.some.inj e2, h1⟩
end
/-! ### promises of methods, getters, makers -/
def OkM (P : Program) (w : World) (K : PySem.W.Frag) (mg : Str → Option Value) (base : Heap) (x m : Str) (k : Nat) (ps : List Str) (sp : Sp) : Prop :=
  ∃ fd, FnOk P w K mg base (L2.CX P w) k (ma K (ga K x) m) fd ps sp ∧ Binds K fd ps [] ∧ (m ≠ "__init__" → Meth K (ga K x) m (ma K (ga K x) m)) ∧ Cls K (ga K x)
def OkI (P : Program) (w : World) (K : PySem.W.Frag) (mg : Str → Option Value) (base : Heap) (x : Str) (k : Nat) (ps : List Str) (sp : Sp) : Prop :=
  ∃ fd, FnOk P w K mg base (L2.CX P w) k (ini x K) fd ps sp ∧ Binds K fd ps [] ∧ Mk K (ga K x) (ini x K) ∧ mg x = some (.ref (ga K x))
def OkP (P : Program) (w : World) (K : PySem.W.Frag) (mg : Str → Option Value) (base : Heap) (x f : Str) (k : Nat) (sp : Sp) : Prop :=
  ∃ fd, FnOk P w K mg base (L2.CX P w) k (gt x f K) fd ["self"] sp ∧ Binds K fd ["self"] [] ∧ PropOf K (ga K x) f (pa K x f) (gt x f K) ∧ Cls K (ga K x)
def tMethO (K : PySem.W.Frag) (x m : Str) (sp : Sp) (E : L2.St → XK) (ta : TE) (t : TA) : TE := fun σ H Q => ta σ H fun o H1 => (∃ a dx fs, o = .ref a ∧ H1 a = some (.ins (ga K x) dx fs) ∧ fs.lookup m = none) ∧ t σ H1 fun vs H2 => sp (o :: vs) H2 Q (E σ)
def tMakeO (K : PySem.W.Frag) (x : Str) (sp : Sp) (E : L2.St → XK) (t : TA) : TE := fun σ H Q => t σ H fun vs H1 => ∀ a dx, H1 a = none → H1 dx = none → dx ≠ a →
  sp (.ref a :: vs) (upd (upd H1 dx (.own a)) a (.ins (ga K x) dx [])) (fun v H2 => v = .non ∧ Q (.ref a) H2) (E σ)
def tPropO (K : PySem.W.Frag) (x : Str) (sp : Sp) (ta : TE) : TE := fun σ H Q => ta σ H fun o H1 => ∃ a dx fs, o = .ref a ∧ H1 a = some (.ins (ga K x) dx fs) ∧ sp [.ref a] H1 Q (fun _ _ _ => False)
section
variable {X : Cx} {k j : Nat} {x m f : Str} {ps : List Str} {sp : Sp} {p pos apos : Pos} {e o : Expr} {es : List Expr} {ta : TE} {t : TA} {W : WX}
theorem pe_methO {pl : Sem Bool} (F : OkM X.prog X.w X.K X.mg X.base x m k ps sp) (hr : Room k X.A) (tk : Takes X W) (he : PE X o ta) (ha : PA X (e :: es) t) (hm : m ≠ "__init__" := by decide)
    (hst : starEach (e :: es) X.env = (false, eval e X.env) :: starEach es X.env := by rfl) (hpl : (backTo pos (starEach es X.env)).any (·.1) = false := by rfl)
    (ht : eval (.Call (.Attribute o m apos) (e :: es) [] pos) X.env = (do
      let ov ← eval o X.env
      standAt apos.atName
      let (f, first) ← holding [ov] (getMethod ov m pl)
      callWith pos f first (backTo pos (starEach (e :: es) X.env)) (backToKw pos (keywordEach [] X.env))) := by rfl) :
    PE X (.Call (.Attribute o m apos) (e :: es) [] pos) (tMethO X.K x m sp (WE W) ta t) := by
  refine ⟨fun pins s σ H Q I h => ?_⟩
  obtain ⟨fd, F, hb, hme, c⟩ := F
  refine PySem.W.methodCall_KW (pl := pl) (thn (he.run pins s σ H _ I h) fun u s1 ⟨x, H1, I1, rx, ⟨a, dx, fs, ex, ea, l⟩, q⟩ => ?_) ht
  subst ex
  obtain rfl : u = Value.ref a := rx
  refine getmeth_ok I1 ea c (hme hm) l ?_
  refine PySem.W.callWith_K (first := [.ref a]) (h₀ := X.base) I.ok.mod.kin (hme hm).kp (thn (ha.run pos pins s1 σ H1 _ I1 q) fun us s2 ⟨vs, H2, I2, r, q2⟩ => ⟨I2.kIn, ?_⟩) hst hpl
  exact run_fnS (us := .ref a :: us) (vs := .ref a :: vs) (E := WE W) F hr hb (passAt tk σ) I2 (.cons rfl r) q2
theorem pe_methO0 {pl : Sem Bool} (F : OkM X.prog X.w X.K X.mg X.base x m k ps sp) (hr : Room k X.A) (tk : Takes X W) (he : PE X o ta) (hm : m ≠ "__init__" := by decide)
    (ht : eval (.Call (.Attribute o m apos) [] [] pos) X.env = (do
      let ov ← eval o X.env
      standAt apos.atName
      let (f, first) ← holding [ov] (getMethod ov m pl)
      callWith pos f first (backTo pos (starEach [] X.env)) (backToKw pos (keywordEach [] X.env))) := by rfl) :
    PE X (.Call (.Attribute o m apos) [] [] pos) (tMethO X.K x m sp (WE W) ta tNil) := by
  refine ⟨fun pins s σ H Q I h => ?_⟩
  obtain ⟨fd, F, hb, hme, c⟩ := F
  refine PySem.W.methodCall_KW (pl := pl) (thn (he.run pins s σ H _ I h) fun u s1 ⟨x, H1, I1, rx, ⟨a, dx, fs, ex, ea, l⟩, q⟩ => ?_) ht
  subst ex
  obtain rfl : u = Value.ref a := rx
  refine getmeth_ok I1 ea c (hme hm) l ?_
  exact PySem.W.callWith_K0 (first := [.ref a]) I1.kIn (hme hm).kp (run_fnS (us := [.ref a]) (vs := [.ref a]) (E := WE W) F hr hb (passAt tk σ) I1 (.cons rfl .nil) q)
theorem run_makeO {pins : List (Addr × Obj)} {σ : L2.St} {H : Hp} {s : Shared} {Q : VK} {us : List Value} {vs : List V} {C f : Addr} {fd : FuncData} (M : Mk X.K C f) (F : FnOk X.prog X.w X.K X.mg X.base (L2.CX X.prog X.w) k f fd ps sp) (hr : Room (k + 1) X.A) (hb : Binds X.K fd ps [])
    (tk : Takes X W) (I : Inv X pins σ H s) (r : Vals vs us)
    (h : ∀ x dx, H x = none → H dx = none → dx ≠ x → sp (.ref x :: vs) (upd (upd H dx (.own x)) x (.ins C dx [])) (fun v H2 => v = .non ∧ Q (.ref x) H2) (WE W σ)) :
    wpAny (model X.prog X.w) X.A (call (.ref C) us) (EP X pins σ Q) X.xe s := by
  have hq := h (s.heap.objs.size + 1) s.heap.objs.size (I.hok.fresh (Nat.le_succ _)) (I.hok.fresh (Nat.le_refl _)) (Nat.ne_of_lt (Nat.lt_succ_self _))
  have I2 := Inv.made (C := C) I
  have r2 : Vals (V.ref (s.heap.objs.size + 1) :: vs) (Value.ref (s.heap.objs.size + 1) :: us) := .cons rfl r
  have hl : (Value.ref (s.heap.objs.size + 1) :: us).length = ps.length := by
    have e := r2.length
    rw [F.len _ _ _ _ hq] at e
    exact e.symm
  have hb2 : ∀ (s : Shared) (us : List Value), X.K.In s.heap → us.length = ps.length → BindsTo s fd ⟨us, []⟩ (ps.zip us) := fun s us k hl => by
    have q := hb s us k (by rw [List.append_nil]; exact hl)
    rwa [List.append_nil] at q
  refine wpAny_call (make_map (f := f) I.kIn M.makes M.init (beq_iff_eq.mp M.fn) (codeAny_mono (F.run _ X.stack _ _ ⟨Value.ref (s.heap.objs.size + 1) :: us, []⟩ (Value.ref (s.heap.objs.size + 1) :: us) _ _ (WE W σ) (hr.make C us [])
    (I2.env0.make C us []) (hb2 _ _ I2.kIn hl) r2 hq) fun r s' hq' => ?_))
  cases r with
  | error e => exact passAt tk σ pins _ _ e s' I2 hq'
  | ok fl =>
    cases fl with
    | ret u =>
      obtain ⟨v, H', I3, rv, ev, q3⟩ := I2.after hq'
      subst ev
      exact ⟨rv, ⟨V.ref (s.heap.objs.size + 1), H', I3, rfl, q3⟩⟩
    | next => exact False.elim hq'
    | brk => exact False.elim hq'
    | cont => exact False.elim hq'
theorem pe_makeO (F : OkI X.prog X.w X.K X.mg X.base x k ps sp) (hr : Room (k + 1) X.A) (hg : Gl X x) (tk : Takes X W)
    (ha : PA X (e :: es) t) (hdb : (x == ("__debug__" : Str)) = false := by decide) (he : starEach (e :: es) X.env = (false, eval e X.env) :: starEach es X.env := by rfl) (hpl : (backTo pos (starEach es X.env)).any (·.1) = false := by rfl) :
    PE X (.Call (.Name x p) (e :: es) [] pos) (tMakeO X.K x sp (WE W) t) := by
  refine ⟨fun pins s σ H Q I h => ?_⟩
  obtain ⟨fd, F, hb, M, hm⟩ := F
  refine wpAny_Call_Name_kw (ld_glob I hg hm ?_ hdb)
  refine PySem.W.callWith_K (h₀ := X.base) I.ok.mod.kin M.kp (thn (ha.run pos pins s σ H _ I h) fun us s1 ⟨vs, H1, I1, r, q⟩ => ⟨I1.kIn, ?_⟩) he hpl
  exact run_makeO M F hr hb tk I1 r q
/-- o.f, a property; nothing is raised -/
theorem pe_propO (F : OkP X.prog X.w X.K X.mg X.base x f k sp) (hr : Room (k + 1) X.A) (he : PE X o ta) (hab : attributeBase o f X.env (eval o X.env) = eval o X.env := by rfl) : PE X (.Attribute o f pos) (tPropO X.K x sp ta) := by
  obtain ⟨fd, F, hb, hp, c⟩ := F
  refine ⟨fun pins s σ H Q I h => ?_⟩
  exact (pe_prop (pos := pos) (sp := sp) (dvs := []) (ds := []) (E := fun _ _ _ => False) he c hp F hr hb .nil (fun _ _ _ _ _ _ _ c => by obtain ⟨_, _, _, _, _, _, _, _, _, _, _, _, z⟩ := c; exact z.elim) hab).run pins s σ H Q I h
/-! steps -/
variable {K : PySem.W.Frag} {σ : L2.St} {H : Hp} {Q : VK} {E : L2.St → XK} {D : Ends}
theorem g_methO (h : ta σ H fun o H1 => (∃ a dx fs, o = .ref a ∧ H1 a = some (.ins (ga K x) dx fs) ∧ fs.lookup m = none) ∧ t σ H1 fun vs H2 => sp (o :: vs) H2 Q (E σ)) : tMethO K x m sp E ta t σ H Q := h
theorem g_makeO (h : t σ H fun vs H1 => ∀ a dx, H1 a = none → H1 dx = none → dx ≠ a → sp (.ref a :: vs) (upd (upd H1 dx (.own a)) a (.ins (ga K x) dx [])) (fun v H2 => v = .non ∧ Q (.ref a) H2) (E σ)) : tMakeO K x sp E t σ H Q := h
theorem g_propO (h : ta σ H fun o H1 => ∃ a dx fs, o = .ref a ∧ H1 a = some (.ins (ga K x) dx fs) ∧ sp [.ref a] H1 Q (fun _ _ _ => False)) : tPropO K x sp ta σ H Q := h
theorem g_fld {C : Addr} (h : ta σ H fun x H1 => ∃ a C dx fs v, x = .ref a ∧ H1 a = some (.ins C dx fs) ∧ Cls K C ∧ NoAttr K C f ∧ fs.lookup f = some v ∧ Q v H1) : tFld K ta f σ H Q := h
theorem g_sFld {tv : TE} (h : tv σ H fun y H1 => ta σ H1 fun x H2 => ∃ a C dx fs, x = .ref a ∧ H2 a = some (.ins C dx fs) ∧ Cls K C ∧ NoAttr K C f ∧ fs.length < 1000 ∧ D.nx σ (upd H2 a (.ins C dx (putF f y fs)))) : sFld K ta tv f D σ H := h
end
end Tk

end

section
namespace Tk
open PySem PySem.Spec PyProof.Rows L2
open He (ga ma)
/-! ### fields of an object of a class of a known name -/
def FldOk (K : PySem.W.Frag) (x f : Str) : Prop := Cls K (ga K x) ∧ NoAttr K (ga K x) f
def tFldO (K : PySem.W.Frag) (x : Str) (ta : TE) (f : Str) : TE := fun σ H Q => ta σ H fun o H1 => ∃ a dx fs v, o = .ref a ∧ H1 a = some (.ins (ga K x) dx fs) ∧ fs.lookup f = some v ∧ Q v H1
def tFldSO (K : PySem.W.Frag) (x : Str) (ta tv : TE) (f : Str) : TS := fun D σ H => tv σ H fun y H1 => ta σ H1 fun o H2 => ∃ a dx fs, o = .ref a ∧ H2 a = some (.ins (ga K x) dx fs) ∧ fs.length < 1000 ∧ D.nx σ (upd H2 a (.ins (ga K x) dx (putF f y fs)))
section
variable {X : Cx} {x f : Str} {e o value : Expr} {ta tv : TE} {pos pos' : Pos}
theorem pe_fldO (c : FldOk X.K x f) (he : PE X e ta) (hb : attributeBase e f X.env (eval e X.env) = eval e X.env := by rfl) : PE X (.Attribute e f pos) (tFldO X.K x ta f) := by
  refine ⟨fun pins s σ H Q I h => ?_⟩
  refine attr_of hb (thn (he.run pins s σ H _ I h) fun u s1 ⟨y, H1, I1, rx, a, dx, fs, v, ex, ea, l, q⟩ => ?_)
  subst ex
  obtain rfl : u = Value.ref a := rx
  exact getattr_ok I1 ea c.1 c.2 l fun u' s2 I2 ru => ⟨v, H1, I2, ru, q⟩
theorem ps_fldO (c : FldOk X.K x f) (ha : PE X o ta) (hv : PE X value tv) (hs : swapsWith value (some (.Attribute o f pos')) pos.line X.env = pure false := by rfl) : PS X (.Assign [.Attribute o f pos'] value pos) (tFldSO X.K x ta tv f) := by
  refine ⟨fun pins s σ H D I h => ?_⟩
  refine plainObj_wpAny_Assign_Attribute (thn (hv.run pins s σ H _ I h) fun u s1 ⟨y, H1, I1, ry, q⟩ => thn (ha.run pins s1 σ H1 _ I1 q) fun ov s2 ⟨x, H2, I2, rx, a, dx, fs, ex, ea, l, q2⟩ => ?_) hs
  subst ex
  obtain rfl : ov = Value.ref a := rx
  exact setattr_ok I2 ea c.1 c.2 l ry fun s3 I3 => ⟨σ, _, I3, q2⟩
variable {K : PySem.W.Frag} {σ : L2.St} {H : Hp} {Q : VK} {D : Ends}
theorem g_fldO (h : ta σ H fun o H1 => ∃ a dx fs v, o = .ref a ∧ H1 a = some (.ins (ga K x) dx fs) ∧ fs.lookup f = some v ∧ Q v H1) : tFldO K x ta f σ H Q := h
theorem g_fldSO (h : tv σ H fun y H1 => ta σ H1 fun o H2 => ∃ a dx fs, o = .ref a ∧ H2 a = some (.ins (ga K x) dx fs) ∧ fs.length < 1000 ∧ D.nx σ (upd H2 a (.ins (ga K x) dx (putF f y fs)))) : tFldSO K x ta tv f D σ H := h
end
/-! ### promises of defs by address -/
section
variable {P : Program} {w : World} {K : PySem.W.Frag} {mg : Str → Option Value} {base : Heap} {x m : Str} {st : Stmt} {N ps : List Str} {k : Nat} {sp : Sp} {t : XK → TS}
theorem fn_mk {nm q : Str} {f : Addr} (F : ∃ fd, FunD K nm q (defArgs st) (defBody st) (defScope st) [] [] f fd) (S : FnScope N ps (defScope st))
    (hb : ∀ (kV doc pm : Value) (an : Option Addr) (cdv ct : Value) (us : List Value), us.length = ps.length → bindArgs (PySem.W.fnOf nm q (defArgs st) (defBody st) (defScope st) .none kV doc pm an cdv ct) ⟨us, []⟩ = pure (ps.zip us))
    (hd : ∀ (cdv : Value) (A : Around) (outer : List Env) (s : Shared) (H : Hp) (E : XK), Room k (A.deeper (envOfC q (defScope st) s.heap.objs.size f cdv)) → PSs (cxOf (L2.CX P w) P w K mg base N q (defScope st) f cdv A outer s H E) (defBody st) (t E))
    (hp : ∀ (vs : List V) (H : Hp) (Q : VK) (E : XK), vs.length = ps.length → sp vs H Q E → t E { nx := fun _ H' => Q .non H', rt := Q } (start N vs) H) : ∃ fd, FnOk P w K mg base (L2.CX P w) (k + 1) f fd ps (spL ps.length sp) ∧ Binds K fd ps [] := by
  obtain ⟨fd, F⟩ := F
  exact ⟨fd, FunD.ok F S (fun vs H Q E h => h.1) (fun cdv A outer s H vs Q E hr h => ⟨t E, hd cdv A outer s H E hr, hp vs H Q E h.1 h.2⟩), FunD.bindsN F hb⟩
theorem OkI.mk (h : ∃ fd, FnOk P w K mg base (L2.CX P w) k (ini x K) fd ps sp ∧ Binds K fd ps []) (M : Mk K (ga K x) (ini x K)) (hm : mg x = some (.ref (ga K x))) : OkI P w K mg base x k ps sp :=
  let ⟨fd, h1, h2⟩ := h; ⟨fd, h1, h2, M, hm⟩
theorem OkM.mk (h : ∃ fd, FnOk P w K mg base (L2.CX P w) k (ma K (ga K x) m) fd ps sp ∧ Binds K fd ps []) (M : Meth K (ga K x) m (ma K (ga K x) m)) (c : Cls K (ga K x)) : OkM P w K mg base x m k ps sp :=
  let ⟨fd, h1, h2⟩ := h; ⟨fd, h1, h2, fun _ => M, c⟩
theorem OkP.mk (h : ∃ fd, FnOk P w K mg base (L2.CX P w) k (gt x m K) fd ["self"] sp ∧ Binds K fd ["self"] []) (M : PropOf K (ga K x) m (pa K x m) (gt x m K)) (c : Cls K (ga K x)) : OkP P w K mg base x m k sp :=
  let ⟨fd, h1, h2⟩ := h; ⟨fd, h1, h2, M, c⟩
end
/-! ### tests -/
section
variable {A B : Prop}
theorem iteD {p : Prop} [Decidable p] (h1 : p → A) (h2 : ¬ p → B) : if decide p = true then A else B := by
  by_cases h : p
  · rw [if_pos (decide_eq_true h)]
    exact h1 h
  · rw [if_neg (by rw [decide_eq_false h]; exact Bool.false_ne_true)]
    exact h2 h
theorem iteDN {p : Prop} [Decidable p] (h1 : ¬ p → A) (h2 : p → B) : if (!decide p) = true then A else B := by
  by_cases h : p
  · rw [if_neg (by rw [decide_eq_true h]; exact Bool.false_ne_true)]
    exact h2 h
  · rw [if_pos (by rw [decide_eq_false h]; rfl)]
    exact h1 h
theorem iteB {b : Bool} (h1 : b = true → A) (h2 : b = false → B) : if b = true then A else B := by
  cases b with
  | true => exact iteT (h1 rfl)
  | false => exact iteF (h2 rfl)
theorem iteBN {b : Bool} (h1 : b = false → A) (h2 : b = true → B) : if (!b) = true then A else B := by
  cases b with
  | true => exact iteF (h2 rfl)
  | false => exact iteT (h1 rfl)
end
/-! ### a for over data -/
/-- a for over n things that tell the list l: Pv by the turn, the slots, the heap -/
theorem for_fm {α : Type} {J : It} {n : Nat} {G : Hp → Prop} {Y : Nat → Hp → V → Hp → Prop} (w : Walk J n G Y) (l : List α) (hl : l.length = n) {g : TG} {tb : TS} {nx : L2.St → Hp → Prop} {rt : VK} {σ : L2.St} {H : Hp} (Pv : Nat → L2.St → Hp → Prop) (h0 : Pv 0 σ H)
    (hG : ∀ i σ' H', Pv i σ' H' → G H')
    (hs : ∀ i z x σ' H1 H', l[i]? = some z → Pv i σ' H1 → Y i H1 x H' → g x σ' H' fun σ2 H2 => tb { nx := Pv (i + 1), rt := rt, bk := nx, ct := Pv (i + 1) } σ2 H2) (hd : ∀ σ' H', Pv l.length σ' H' → nx σ' H') :
    ∃ W : Nat → Nat → L2.St → Hp → Prop, (∃ m, W 0 m σ H) ∧ ∀ i m σ H, W i m σ H →
      (J.stop i H ∧ nx σ H) ∨ (J.go i H ∧ ∃ N : L2.St → Hp → Prop, (∀ σ' H', N σ' H' → ∃ m', m' < m ∧ W (i + 1) m' σ' H') ∧ ∀ x H', J.yld i H x H' → g x σ H' fun σ2 H2 => tb { nx := N, rt := rt, bk := nx, ct := N } σ2 H2) := by
  subst hl
  exact for_it (D := { nx := nx, rt := rt, bk := nx, ct := nx }) w Pv h0 (fun i σ' H' _ p => hG i σ' H' p) (fun i x σ' H1 H' hi p y => hs i l[i] x σ' H1 H' (List.getElem?_eq_getElem hi) p y) hd
end Tk

end

section
namespace Tk
open PySem PySem.Spec PyProof.Rows L2
open He (ga ma)
/-! ### membership in flat sequences -/
theorem flat_ints : ∀ ns : List Int, (ns.map V.int).all flatV = true := fun ns => List.all_eq_true.mpr fun v hv => by
  obtain ⟨n, _, rfl⟩ := List.mem_map.mp hv
  rfl
theorem flat_strs : ∀ ns : List Str, (ns.map V.str).all flatV = true := fun ns => List.all_eq_true.mpr fun v hv => by
  obtain ⟨n, _, rfl⟩ := List.mem_map.mp hv
  rfl
theorem flat_bls : ∀ ns : List Bool, (ns.map V.bl).all flatV = true := fun ns => List.all_eq_true.mpr fun v hv => by
  obtain ⟨n, _, rfl⟩ := List.mem_map.mp hv
  rfl
theorem inV_int (z : Int) (ns : List Int) : inV (.int z) (ns.map V.int) = decide (z ∈ ns) := by
  unfold inV
  rw [List.any_map, Bool.eq_iff_iff, List.any_eq_true, decide_eq_true_iff]
  constructor
  · rintro ⟨a, ha, e⟩
    have e2 : a = z := by simpa [eqV] using e
    rw [← e2]; exact ha
  · intro h
    exact ⟨z, h, by simp [eqV]⟩
theorem inV_str (z : Str) (ns : List Str) : inV (.str z) (ns.map V.str) = decide (z ∈ ns) := by
  unfold inV
  rw [List.any_map, Bool.eq_iff_iff, List.any_eq_true, decide_eq_true_iff]
  constructor
  · rintro ⟨a, ha, e⟩
    have e2 : a = z := by simpa [eqV] using e
    rw [← e2]; exact ha
  · intro h
    exact ⟨z, h, by simp [eqV]⟩
theorem inV_bl (z : Bool) (ns : List Bool) : inV (.bl z) (ns.map V.bl) = decide (z ∈ ns) := by
  unfold inV
  rw [List.any_map, Bool.eq_iff_iff, List.any_eq_true, decide_eq_true_iff]
  constructor
  · rintro ⟨a, ha, e⟩
    have e2 : a = z := by simpa [eqV] using e
    rw [← e2]; exact ha
  · intro h
    exact ⟨z, h, by simp [eqV]⟩
section
variable {K : PySem.W.Frag} {H : Hp} {Q : VK}
theorem r_inT {x : V} {p : Addr} {xs : List V} (h : SqT K H p xs) (fx : flatV x = true) (fs : xs.all flatV = true) (q : Q (.bl (inV x xs)) H) : rInA K x (.ref p) H Q := .inl ⟨p, xs, rfl, .inr h, fx, fs, q⟩
theorem r_inL {x : V} {p : Addr} {xs : List V} (h : SqL K H p xs) (fx : flatV x = true) (fs : xs.all flatV = true) (q : Q (.bl (inV x xs)) H) : rInA K x (.ref p) H Q := .inl ⟨p, xs, rfl, .inl h, fx, fs, q⟩
theorem r_notInT {x : V} {p : Addr} {xs : List V} (h : SqT K H p xs) (fx : flatV x = true) (fs : xs.all flatV = true) (q : Q (.bl (!inV x xs)) H) : rNotInA K x (.ref p) H Q := .inl ⟨p, xs, rfl, .inr h, fx, fs, q⟩
theorem r_notInL {x : V} {p : Addr} {xs : List V} (h : SqL K H p xs) (fx : flatV x = true) (fs : xs.all flatV = true) (q : Q (.bl (!inV x xs)) H) : rNotInA K x (.ref p) H Q := .inl ⟨p, xs, rfl, .inl h, fx, fs, q⟩
theorem r_inTs {z : Str} {v : V} {ns : List Str} (h : Tp K H v (.tuple (ns.map PyData.str))) (q : Q (.bl (decide (z ∈ ns))) H) : rInA K (.str z) v H Q := by
  obtain ⟨a, xs, rfl, hs, t⟩ := h.tupi
  rw [t.of_strs] at hs
  exact r_inT hs rfl (flat_strs ns) (by rw [inV_str]; exact q)
theorem r_notInTs {z : Str} {v : V} {ns : List Str} (h : Tp K H v (.tuple (ns.map PyData.str))) (q : Q (.bl (!decide (z ∈ ns))) H) : rNotInA K (.str z) v H Q := by
  obtain ⟨a, xs, rfl, hs, t⟩ := h.tupi
  rw [t.of_strs] at hs
  exact r_notInT hs rfl (flat_strs ns) (by rw [inV_str]; exact q)
theorem r_inTi {z : Int} {v : V} {ns : List Int} (h : Tp K H v (.tuple (ns.map PyData.int))) (q : Q (.bl (decide (z ∈ ns))) H) : rInA K (.int z) v H Q := by
  obtain ⟨a, xs, rfl, hs, t⟩ := h.tupi
  rw [t.of_ints] at hs
  exact r_inT hs rfl (flat_ints ns) (by rw [inV_int]; exact q)
theorem r_inLi {z : Int} {a : Addr} {ns : List Int} (h : LsD K H a (ns.map PyData.int)) (q : Q (.bl (decide (z ∈ ns))) H) : rInA K (.int z) (.ref a) H Q := by
  obtain ⟨xs, hs, t⟩ := h
  rw [t.of_ints] at hs
  exact r_inL (SqL.of hs) rfl (flat_ints ns) (by rw [inV_int]; exact q)
theorem r_inLs {z : Str} {a : Addr} {ns : List Str} (h : LsD K H a (ns.map PyData.str)) (q : Q (.bl (decide (z ∈ ns))) H) : rInA K (.str z) (.ref a) H Q := by
  obtain ⟨xs, hs, t⟩ := h
  rw [t.of_strs] at hs
  exact r_inL (SqL.of hs) rfl (flat_strs ns) (by rw [inV_str]; exact q)
theorem r_inLb {z : Bool} {a : Addr} {ns : List Bool} (h : LsD K H a (ns.map PyData.bool)) (q : Q (.bl (decide (z ∈ ns))) H) : rInA K (.bl z) (.ref a) H Q := by
  obtain ⟨xs, hs, t⟩ := h
  rw [t.of_bls] at hs
  exact r_inL (SqL.of hs) rfl (flat_bls ns) (by rw [inV_bl]; exact q)
end
/-! ### two writes at one place -/
theorem upd_upd {H : Hp} {a : Addr} {o u : HO} : upd (upd H a o) a u = upd H a u := by
  funext b
  by_cases h : b = a
  · rw [h, upd_same, upd_same]
  · rw [upd_ne h, upd_ne h, upd_ne h]
end Tk

end

section
namespace Tk
open PySem PySem.Spec PyProof.Rows L2 RZ StX
open He (ga ma)
/-! ### == by the class's own __eq__ -/
def rEqOwn (K : PySem.W.Frag) (x : Str) (sp : Sp) : R2 := fun u v H Q => ∃ a dx fs, u = .ref a ∧ H a = some (.ins (ga K x) dx fs) ∧ ((∃ b dy gs, v = .ref b ∧ H b = some (.ins (ga K x) dy gs)) ∨ ∃ b xs, v = .ref b ∧ SqL K H b xs) ∧
  sp [u, v] H (fun w H' => ∃ k, w = .bl k ∧ Q w H') (fun _ _ _ => False)
theorem notFirst_list {K : PySem.W.Frag} {C : Addr} : PySem.W.notFirst K C (.type "list") = true := by
  unfold PySem.W.notFirst PySem.W.subIn
  simp
  exact ⟨[.type "list", .type "object"], by decide +kernel, by simp⟩
theorem op_eqOwn {X : Cx} {x : Str} {k : Nat} {ps : List Str} {sp : Sp} (F : OkM X.prog X.w X.K X.mg X.base x "__eq__" k ps sp) (hr : Room k X.A) : OpR X (compareOp .Eq) (rEqOwn X.K x sp) := by
  obtain ⟨fd, F, hb, hm, c⟩ := F
  have hm := hm (by decide)
  intro pins s σ H u v u' v' Q I rx ry hq
  obtain ⟨a, dx, fs, rfl, ha, hv, hsp⟩ := hq
  cases rx
  obtain ⟨mA, J, _⟩ := ins_get I.hok ha
  obtain ⟨od, J, _⟩ := J.look
  obtain ⟨m, hF⟩ := I.fr
  show wpAny (model X.prog X.w) X.A (richCompare .Eq (.ref a) v') (EP X pins σ Q) X.xe s
  obtain ⟨tb, h1, h2⟩ : ∃ tb, PySem.W.Looks (model X.prog X.w) s.heap (typeOf v') tb ∧ PySem.W.notFirst X.K (ga X.K x) tb = true := by
    rcases hv with ⟨b, dy, gs, rfl, hb'⟩ | ⟨b, xs, rfl, hb'⟩
    · cases ry
      obtain ⟨mB, J', _⟩ := ins_get I.hok hb'
      obtain ⟨od', J', _⟩ := J'.look
      exact ⟨.ref (ga X.K x), J'.type, by simp [PySem.W.notFirst]⟩
    · cases ry
      obtain ⟨its, r, p, z⟩ := I.list hb'
      obtain ⟨o, ho, hc, _⟩ := p.isList
      exact ⟨.type "list", hc ▸ (PySem.W.Looks.ld ho).andThen .now, notFirst_list⟩
  refine PySem.W.cmp_K (op := .Eq) (tb := tb) (hr.units0) hF I.ok.mod.kin J h1 h2 hm.at_ hm.fn ?_
  have hl := F.len _ _ _ _ hsp
  have r2 : Vals [V.ref a, v] [Value.ref a, v'] := .cons rfl (.cons ry .nil)
  refine wpAny_call (codeAny_mono (F.run X.A X.stack s H ⟨[.ref a, v'], []⟩ [.ref a, v'] [.ref a, v] _ _ hr I.env0 (by
    have := hb s [.ref a, v'] I.kIn (by simpa using hl)
    simpa using this) r2 hsp) fun r s' hq => ?_)
  cases r with
  | error e =>
    obtain ⟨_, _, _, _, _, _, _, _, _, _, _, _, z⟩ := hq
    exact z.elim
  | ok fl =>
    cases fl with
    | ret w =>
      obtain ⟨z, H', I', rz, k, ez, ex⟩ := I.after hq
      subst ez
      cases rz
      exact ⟨.bl k, H', I', rfl, ex⟩
    | next => exact False.elim hq
    | brk => exact False.elim hq
    | cont => exact False.elim hq
theorem r_eqOwn {K : PySem.W.Frag} {x : Str} {sp : Sp} {a dx : Addr} {fs : List (Str × V)} {v : V} {H : Hp} {Q : VK} (ha : H a = some (.ins (ga K x) dx fs)) (hv : (∃ b dy gs, v = .ref b ∧ H b = some (.ins (ga K x) dy gs)) ∨ ∃ b xs, v = .ref b ∧ SqL K H b xs)
    (h : sp [.ref a, v] H (fun w H' => ∃ k, w = .bl k ∧ Q w H') (fun _ _ _ => False)) : rEqOwn K x sp (.ref a) v H Q := ⟨a, dx, fs, rfl, ha, hv, h⟩
/-! ### isinstance of an own class -/
structure IsiOk (K : PySem.W.Frag) (x : Str) : Prop where
  c : Cls K (ga K x)
  ha : PySem.W.findIn K (.ref (ga K x)) "__class__" = some (some (.builtin "object.__class__"))
  hn : PySem.W.specialIn K (.builtin "object.__class__") "__get__" = some (some (.builtin "getset_descriptor.__get__"))
  ht : PySem.W.takesIn K (.builtin "object.__class__") = some true
  hm : PySem.W.mroIn K (ga K x) (.type "object") = some true
  hk : ((PySem.W.clsIn K (ga K x)).isSome && PySem.W.typeIn K (.ref (ga K x)) == some (.type "type")) = true
def isiB (K : PySem.W.Frag) (x : Str) : Bool := He.eqO (PySem.W.findIn K (.ref (ga K x)) "__class__") (some (some (.builtin "object.__class__"))) && (He.eqO (PySem.W.specialIn K (.builtin "object.__class__") "__get__") (some (some (.builtin "getset_descriptor.__get__"))) &&
  (decide (PySem.W.takesIn K (.builtin "object.__class__") = some true) && (decide (PySem.W.mroIn K (ga K x) (.type "object") = some true) && ((PySem.W.clsIn K (ga K x)).isSome && PySem.W.typeIn K (.ref (ga K x)) == some (.type "type")))))
theorem isiB_ok {K : PySem.W.Frag} {x : Str} (c : Cls K (ga K x)) (h : isiB K x = true) : IsiOk K x := by
  obtain ⟨h1, h⟩ := He.ba h
  obtain ⟨h2, h⟩ := He.ba h
  obtain ⟨h3, h⟩ := He.ba h
  obtain ⟨h4, h5⟩ := He.ba h
  exact ⟨c, He.eqO_ok h1, He.eqO_ok h2, of_decide_eq_true h3, of_decide_eq_true h4, h5⟩
section
variable {K : PySem.W.Frag} {x : Str} {H : Hp} {Q : VK}
theorem r_isi_own (i : IsiOk K x) {a dx : Addr} {fs : List (Str × V)} (ha : H a = some (.ins (ga K x) dx fs)) (q : Q (.bl true) H) : rIsi K [.ref a, .ref (ga K x)] H Q :=
  ⟨_, _, _, _, true, rfl, .own _, .base (.ins ha i.c i.ha i.hn i.ht i.hm), by unfold PySem.W.kitOne; rw [if_pos (beq_self_eq_true _)], q⟩
theorem subIn_ty {T : String} {C : Addr} (h : ((fastBuiltinMro T).map fun l => l.all fun v => match v with
    | .type _ => true
    | _ => false) = some true) : PySem.W.subIn K (.type T) (.ref C) = some false := by
  show (fastBuiltinMro T).map (·.contains (.ref C)) = some false
  cases e : fastBuiltinMro T with
  | none => rw [e] at h; cases h
  | some l =>
    rw [e] at h
    have h' : (l.all fun v => match v with
    | .type _ => true
    | _ => false) = true := Option.some.inj h
    rw [Option.map_some]
    congr 1
    rw [Bool.eq_false_iff]
    intro hc
    have := List.all_eq_true.mp h' (.ref C) (by simpa using hc)
    cases this
theorem r_isi_other (i : IsiOk K x) {v : V} {n : Ty} (h : AnyV K H v n) (q : Q (.bl false) H) : rIsi K [v, .ref (ga K x)] H Q := by
  refine ⟨_, _, _, _, false, rfl, .own _, h.ty, ?_, q⟩
  unfold PySem.W.kitOne PySem.W.kitCls
  rw [if_neg (by simp)]
  show (if _ then PySem.W.subIn K (.type n.name) (.ref (ga K x)) else none) = _
  rw [if_pos i.hk]
  exact subIn_ty (by cases n <;> decide +kernel)
end
theorem szle {n : Nat} (h : Nat.ble n 1000 = true) : n ≤ sizeLine := by
  rw [sizeLine_eq]
  exact Nat.le_trans (Nat.le_of_ble_eq_true h) (by decide)
section
variable {H : Hp} {xs : List V} {R : Addr → Prop}
/-- a new short tuple, list -/
theorem g_nT (h : ∀ p, H p = none → Fr [] H (upd H p (.tup xs)) → upd H p (.tup xs) p = some (.tup xs) → R p) (hs : Nat.ble xs.length 1000 = true := by rfl) : xs.length ≤ sizeLine ∧ ∀ p, H p = none → R p := g_newT (szle hs) h
theorem g_nL (h : ∀ p, H p = none → Fr [] H (upd H p (.lst xs)) → upd H p (.lst xs) p = some (.lst xs) → R p) (hs : Nat.ble xs.length 1000 = true := by rfl) : xs.length ≤ sizeLine ∧ ∀ p, H p = none → R p := g_newL (szle hs) h
end
/-! ### texts, lists -/
def rJoin (K : PySem.W.Frag) : V → List V → Hp → VK → Prop := fun x xs H Q => ∃ a p, ∃ ys : List Str, x = .str a ∧ xs = [.ref p] ∧ (SqL K H p (ys.map V.str) ∨ SqT K H p (ys.map V.str)) ∧
  (ys.map (·.length)).sum + ys.length * a.length ≤ 16777216 ∧ Q (.str (Txt.join a ys)) H
def rSplit : V → List V → Hp → VK → Prop := fun x xs H Q => ∃ a b, x = .str a ∧ xs = [.str b] ∧ (b.length == 0) = false ∧ a.length + 2 ≤ sizeLine ∧ rNewStrs (Txt.split a b) H Q
def rIntA : List V → Hp → VK → Prop := fun xs H Q => rInt1 xs H Q ∨ rIntS xs H Q
theorem call_intA {X : Cx} : CallR X (.type "int") rIntA := by
  intro pins s σ H vs us Q I r h
  rcases h with h | h
  · exact call_int1A pins s σ H vs us Q I r h
  · exact call_intS pins s σ H vs us Q I r h
section
variable {K : PySem.W.Frag} {σ : L2.St} {H : Hp} {Q : VK}
theorem g_m1 {r : V → List V → Hp → VK → Prop} {to te : TE} (h : to σ H fun x H1 => (∃ a, x = .str a) ∧ te σ H1 fun y H2 => r x [y] H2 Q) : tM1 r to te σ H Q := h
theorem g_isS {z : Str} {A : Prop} (h : A) : (∃ a, V.str z = .str a) ∧ A := ⟨⟨z, rfl⟩, h⟩
theorem g_star {te : TE} {t : TA} {R : List V → Hp → Prop} (h : te σ H fun x H1 => ∃ p xs, x = V.ref p ∧ (SqT K H1 p xs ∨ SqL K H1 p xs) ∧ t σ H1 fun ys H2 => R (xs ++ ys) H2) : tStar K te t σ H R := h
theorem g_bm {T : String} {r : V → List V → Hp → VK → Prop} {to : TE} {t : TA} (h : to σ H fun x H1 => tyV K T x H1 ∧ t σ H1 fun xs H2 => r x xs H2 Q) : tBM K T r to t σ H Q := h
theorem g_bm0 {T : String} {r : V → List V → Hp → VK → Prop} {to : TE} (h : to σ H fun x H1 => tyV K T x H1 ∧ r x [] H1 Q) : tBM0 K T r to σ H Q := h
theorem r_tyL {a : Addr} {xs : List V} (h : SqL K H a xs) : tyV K "list" (.ref a) H := .inl ⟨rfl, xs, h⟩
theorem LsD.sq {a : Addr} {ds : List PyData} (h : LsD K H a ds) : ∃ xs, SqL K H a xs := let ⟨xs, h, _⟩ := h; ⟨xs, SqL.of h⟩
theorem LsD.ty {a : Addr} {ds : List PyData} (h : LsD K H a ds) : tyV K "list" (.ref a) H := let ⟨_, h⟩ := h.sq; r_tyL h
theorem r_join {z : Str} {p : Addr} {ys : List Str} (h : LsD K H p (ys.map PyData.str)) (hz : (ys.map (·.length)).sum + ys.length * z.length ≤ 16777216) (q : Q (.str (Txt.join z ys)) H) : rJoin K (.str z) [.ref p] H Q := by
  obtain ⟨xs, hs, t⟩ := h
  rw [t.of_strs] at hs
  exact ⟨z, p, ys, rfl, rfl, .inl (SqL.of hs), hz, q⟩
theorem r_split {z y : Str} (hy : (y.length == 0) = false) (hz : z.length + 2 ≤ sizeLine) (q : ∀ p H', H p = none → Fr [] H H' → LsD K H' p ((Txt.split z y).map PyData.str) → Q (.ref p) H') : rSplit (.str z) [.str y] H Q :=
  ⟨z, y, rfl, rfl, hy, hz, fun p n => q p _ n (Fr.new n) ⟨_, upd_same, TpL.strs _⟩⟩
theorem r_appendD {l : Addr} {ds : List PyData} {v : V} {d : PyData} (h : LsD K H l ds) (hv : Tp K H v d) (hz : ds.length < 16777216) (q : ∀ H', Fr [l] H H' → LsD K H' l (ds ++ [d]) → Q .non H') : rAppend (.ref l) [v] H Q := by
  obtain ⟨xs, hs, t⟩ := h
  have F : Fr [l] H (upd H l (.lst (xs ++ [v]))) := Fr.put hs (fun _ z => by cases z) (fun _ _ z => by cases z) (by simp)
  exact ⟨l, xs, v, rfl, rfl, hs, by rw [t.length, sizeLine_eq]; exact hz, q _ F ⟨_, upd_same, (t.snoc hv).fr F⟩⟩
theorem r_intS {z : Str} {n : Int} (e : PySem.intText? z = some n) (l : z.length ≤ 640) (q : Q (.int n) H) : rIntA [.str z] H Q := .inr ⟨z, n, rfl, e, l, q⟩
theorem r_intI {i : Int} (q : Q (.int i) H) : rIntA [.int i] H Q := .inl (r_int1 q)
end
/-! ### frames over new objects -/
theorem Fr.over0 {P : Addr → Str → Prop} {H H1 H2 : Hp} {p : Addr} (n : H p = none) (F : FrG P [] H H1) (G : FrG P [p] H1 H2) : FrG P [] H H2 := FrG.over n F G
/-! ### lists of lists -/
def LsLs (K : PySem.W.Frag) (H : Hp) (a : Addr) (ls : List (List PyData)) : Prop := ∃ xs, H a = some (.lst xs) ∧ xs.length = ls.length ∧ ∀ (j : Nat) l v, ls[j]? = some l → xs[j]? = some v → ∃ p, v = .ref p ∧ LsD K H p l
theorem LsLs.fr0 {K : PySem.W.Frag} {Pf : Addr → Str → Prop} {H H' : Hp} {a : Addr} {ls : List (List PyData)} (F : FrG Pf [] H H') : LsLs K H a ls → LsLs K H' a ls := fun ⟨xs, h, e, r⟩ =>
  ⟨xs, F.lst0 h, e, fun j l v h1 h2 => let ⟨p, h3, h4⟩ := r j l v h1 h2; ⟨p, h3, h4.fr0 F⟩⟩
theorem LsLs.ix {K : PySem.W.Frag} {H : Hp} {a : Addr} {ls : List (List PyData)} {Q : VK} (h : LsLs K H a ls) {i : Int} {j : Nat} (ei : i = (j : Int)) {l : List PyData} (e : ls[j]? = some l) (q : ∀ p, LsD K H p l → Q (.ref p) H) : rIx K (.ref a) (.int i) H Q := by
  obtain ⟨xs, hs, hl, r⟩ := h
  obtain ⟨hj, _⟩ := List.getElem?_eq_some_iff.mp e
  have e2 : xs[j]? = some xs[j] := List.getElem?_eq_getElem (by omega)
  obtain ⟨p, ep, hp⟩ := r j l _ e e2
  subst ei
  refine r_ixL (SqL.of hs) e2 ?_
  rw [ep]
  exact q p hp
/-- a comprehension of new lists -/
theorem lc_ll {K : PySem.W.Frag} {α : Type} {J : It} {n : Nat} {G : Hp → Prop} {Y : Nat → Hp → V → Hp → Prop} (w : Walk J n G Y) (l : List α) (f : α → List PyData) (hl : l.length = n) (hn : n < 16777216) {g : TG} {te : TE} {vs : List Nat} {σ : L2.St} {H1 : Hp} {Qd : Addr → Hp → Prop}
    (hG : ∀ H', Fr [] H1 H' → G H')
    (hs : ∀ D i z x H H' (R : V → Hp → Prop), l[i]? = some z → H D ≠ none → Fr [] H1 H → Y i H x H' → (∀ p H4, H' p = none → LsD K H4 p (f z) → Fr [] H H4 → R (.ref p) H4) →
      g x (wipe σ vs) H' fun σ2 H2 => wipe σ2 vs = wipe σ vs ∧ te σ2 H2 R)
    (hYD : ∀ i H x H' D, Y i H x H' → H D ≠ none → H' D ≠ none)
    (hd : ∀ D H', H1 D = none → Fr [] H1 H' → LsLs K H' D (l.map f) → Qd D H') :
    ∀ D, H1 D = none → ∃ W : Nat → Nat → Hp → Prop, (∃ m, W 0 m (upd H1 D (.lst []))) ∧ ∀ i m H, W i m H →
      (J.stop i H ∧ Qd D H) ∨ (J.go i H ∧ ∃ Nx : Hp → Prop, (∀ H', Nx H' → ∃ m', m' < m ∧ W (i + 1) m' H') ∧ ∀ x H', J.yld i H x H' → g x (wipe σ vs) H' fun σ2 H2 => wipe σ2 vs = wipe σ vs ∧ tYes σ2 H2 fun b H3 =>
        if b = true then te σ2 H3 fun y H4 => ∃ acc, H4 D = some (.lst acc) ∧ acc.length < sizeLine ∧ Nx (upd H4 D (.lst (acc ++ [y]))) else Nx H3) := by
  subst hl
  intro D nD
  refine lc_it w (fun i H => Fr [] H1 H ∧ ∃ acc, H D = some (.lst acc) ∧ acc.length = i ∧ ∀ (j : Nat) z v, l[j]? = some z → acc[j]? = some v → ∃ p, v = .ref p ∧ p ≠ D ∧ LsD K H p (f z)) ⟨Fr.new nD, [], upd_same, rfl, fun j z v _ h => by simp at h⟩ (fun i H _ p => hG H p.1) ?_ fun H p => ?_
  · rintro i x H H' hi ⟨F1, acc, hD, hl, ht⟩ y
    have hz : l[i]? = some l[i] := List.getElem?_eq_getElem hi
    have q := hs D i l[i] x H H' (fun y H4 => ∃ acc, H4 D = some (.lst acc) ∧ acc.length < sizeLine ∧ Fr [] H1 (upd H4 D (.lst (acc ++ [y]))) ∧ ∃ acc', upd H4 D (.lst (acc ++ [y])) D = some (.lst acc') ∧ acc'.length = i + 1 ∧ ∀ (j : Nat) z v, l[j]? = some z → acc'[j]? = some v → ∃ p, v = .ref p ∧ p ≠ D ∧ LsD K (upd H4 D (.lst (acc ++ [y]))) p (f z)) hz (by rw [hD]; exact fun z => by cases z) F1 y ?_
    · exact q
    · rintro p H4 np hp F4
      have hD4 := F4.lst0 hD
      have npD : p ≠ D := fun e => hYD i H x H' D y (by rw [hD]; exact fun z => by cases z) (e ▸ np)
      have FD : Fr [D] H4 (upd H4 D (.lst (acc ++ [V.ref p]))) := Fr.put hD4 (fun _ z => by cases z) (fun _ _ z => by cases z) (by simp)
      refine ⟨acc, hD4, by rw [sizeLine_eq]; omega, Fr.over0 nD (F1.trans F4) FD, acc ++ [V.ref p], upd_same, by rw [List.length_append]; simp [hl], fun j z v h1 h2 => ?_⟩
      · rcases Nat.lt_or_ge j acc.length with hj | hj
        · rw [List.getElem?_append_left hj] at h2
          obtain ⟨p', e1, e2, e3⟩ := ht j z v h1 h2
          exact ⟨p', e1, e2, (e3.fr0 F4).fr FD (by simpa using e2)⟩
        · rw [List.getElem?_append_right hj] at h2
          have hj2 : j = acc.length := by
            rcases Nat.eq_or_lt_of_le hj with e | e
            · exact e.symm
            · rw [List.getElem?_eq_none (by simp; omega)] at h2
              cases h2
          subst hj2
          simp at h2
          subst h2
          rw [hl, hz] at h1
          cases h1
          exact ⟨p, rfl, npD, hp.fr FD (by simpa using npD)⟩
  · obtain ⟨F1, acc, hD, hl, ht⟩ := p
    refine hd D H nD F1 ⟨acc, hD, by rw [hl, List.length_map], fun j e v h1 h2 => ?_⟩
    rw [List.getElem?_map] at h1
    cases hz : l[j]? with
    | none => rw [hz] at h1; cases h1
    | some z =>
      rw [hz] at h1
      cases h1
      obtain ⟨p, e1, _, e3⟩ := ht j z v hz h2
      exact ⟨p, e1, e3⟩
/-! ### numbers -/
section
variable {K : PySem.W.Frag} {H : Hp} {Q : VK} {i j : Int}
theorem r_mod (h : 0 < j) (q : Q (.int (i % j)) H) : rI (fun _ j => 0 < j) (fun i j => .int (i % j)) (.int i) (.int j) H Q := ⟨i, j, rfl, rfl, h, q⟩
theorem r_div (h : 0 < j ∧ j < 1073741824) (q : Q (.int (i / j)) H) : rI CDiv (fun i j => .int (i / j)) (.int i) (.int j) H Q := ⟨i, j, rfl, rfl, h, q⟩
theorem r_mulC (h : -(2 ^ 64) < j ∧ j < 2 ^ 64) (q : Q (.int (i * j)) H) : rMulA K (.int i) (.int j) H Q := r_mulI (.inr h) q
theorem r_pow {i j : Int} (h : 0 ≤ j ∧ j ≤ 1000000 ∧ i.natAbs < 2 ^ 64) (q : Q (.int (i ^ j.toNat)) H) : rI CPow (fun i j => .int (i ^ j.toNat)) (.int i) (.int j) H Q := ⟨i, j, rfl, rfl, h, q⟩
theorem r_setL {a : Addr} {xs : List V} {k : Int} {n : Nat} {v : V} {R : Hp → Prop} (h : H a = some (.lst xs)) (e : k = (n : Int)) (hn : n < xs.length) (q : R (upd H a (.lst (xs.set n v)))) : rSetL (.ref a) (.int k) v H R := by
  subst e
  refine ⟨a, xs, _, n, rfl, rfl, h, ?_, q⟩
  unfold ixN
  simp [hn]
theorem g_gSub {σ : L2.St} {to ti : TE} {rs : V → V → V → Hp → (Hp → Prop) → Prop} {v : V} {R : L2.St → Hp → Prop} (h : to σ H fun o H1 => ti σ H1 fun x H2 => rs o x v H2 fun H3 => R σ H3) : gSub to ti rs v σ H R := h
end
end Tk

end

section
/-! tables: data, plain facts -/
namespace Tk
open PySem PySem.Spec L2 RZ
/-- ascending, each once -/
def ascB : List PyData → Bool
  | .int i :: .int j :: r => decide (i < j) && ascB (.int j :: r)
  | _ => true
def isRowD : PyData → Int → Bool
  | .tuple ds, m => ds.all (fun d => isIntD d 1 m) && ascB ds
  | _, _ => false
def ltD : PyData × PyData → Bool
  | (.int i, .int j) => decide (i < j)
  | _ => false
theorem asc_zip : ∀ ds : List PyData, (ds.all (fun d => match d with | .int _ => true | _ => false) = true) → ascB ds = (ds.zip (ds.drop 1)).all ltD
  | [], _ => rfl
  | [_], _ => by simp [ascB]
  | x :: y :: r, h => by
    rw [List.all_cons, List.all_cons, Bool.and_eq_true, Bool.and_eq_true] at h
    obtain ⟨h1, h2, h3⟩ := h
    cases x with
    | int i =>
      cases y with
      | int j =>
        have ih := asc_zip (.int j :: r) (by rw [List.all_cons, h3]; rfl)
        simp only [List.drop_succ_cons, List.drop_zero] at ih ⊢
        rw [ascB, ih, List.zip_cons_cons, List.all_cons]
        rfl
      | _ => cases h2
    | _ => cases h1
/-- the wrong thing of what is no rows -/
def badRows : PyData → Option V
  | .tuple ds => if 2 ≤ ds.length ∧ ds.length ≤ 4 then (ds.findIdx? (fun d => !isRowD d ((ds.length : Int) - 1))).map (fun i => V.int (i : Nat)) else some .non
  | _ => some .non
/-- no row has 1000 items -/
def smallD : PyData → Prop
  | .tuple ds => ∀ d ∈ ds, ∀ es, d = .tuple es → es.length < 1000
  | _ => True
/-- a table -/
structure Tab where
  rows : List (List Int)
  spare : Int
  fate : Str
def rowD (r : List Int) : PyData := .tuple (r.map PyData.int)
def rowsD (rs : List (List Int)) : PyData := .tuple (rs.map rowD)
/-- its fields -/
def tabFs (v : V) (t : Tab) : List (Str × V) := [("allowed", v), ("spare", .int t.spare), ("fate", .str t.fate)]
def AtTab (K : PySem.W.Frag) (H : Hp) (a : Addr) (t : Tab) : Prop := ∃ dx v, H a = some (.ins (He.ga K "Table") dx (tabFs v t)) ∧ Tp K H v (rowsD t.rows)
theorem AtTab.fr {K : PySem.W.Frag} {Pf : Addr → Str → Prop} {S : List Addr} {H H' : Hp} {a : Addr} {t : Tab} (F : FrG Pf S H H') (n : a ∉ S) : AtTab K H a t → AtTab K H' a t := fun ⟨dx, v, h, r⟩ => ⟨dx, v, F.ins n h, r.fr F⟩
theorem AtTab.fr0 {K : PySem.W.Frag} {Pf : Addr → Str → Prop} {H H' : Hp} {a : Addr} {t : Tab} (F : FrG Pf [] H H') (h : AtTab K H a t) : AtTab K H' a t := h.fr F List.not_mem_nil
/-- what Table says: a table | the class and the field of the error -/
inductive TabR where
  | ok (t : Tab)
  | rows (v : V)
  | passes
  | stuck
def rowsOf : PyData → List (List Int)
  | .tuple ds => ds.map fun d => match d with
    | .tuple es => es.map fun e => match e with
      | .int i => i
      | _ => 0
    | _ => []
  | _ => []
def isFateD : PyData → Bool
  | .str z => decide (z = "loses") || decide (z = "wins")
  | _ => false
def intD : PyData → Int
  | .int i => i
  | _ => 0
def strD : PyData → Str
  | .str z => z
  | _ => ""
def tabOf (r p s : PyData) : TabR := match badRows r with
  | some v => .rows v
  | none => if isIntD p 0 1 = true then (if isFateD s = true then .ok ⟨rowsOf r, intD p, strD s⟩ else .stuck) else .passes
theorem isIntD_int {p : PyData} {lo hi : Int} (h : isIntD p lo hi = true) : ∃ i, p = .int i ∧ lo ≤ i ∧ i ≤ hi := by
  cases p with
  | int i =>
    have h' : (decide (lo ≤ i) && decide (i ≤ hi)) = true := h
    rw [Bool.and_eq_true, decide_eq_true_iff, decide_eq_true_iff] at h'
    exact ⟨i, rfl, h'⟩
  | _ => cases h
theorem isRowD_ints {d : PyData} {m : Int} (h : isRowD d m = true) : ∃ ns : List Int, d = rowD ns ∧ (∀ n ∈ ns, 1 ≤ n ∧ n ≤ m) ∧ ascB (ns.map PyData.int) = true := by
  cases d with
  | tuple ds =>
    have h' : (ds.all (fun d => isIntD d 1 m) && ascB ds) = true := h
    obtain ⟨h1, h2⟩ := Bool.and_eq_true_iff.mp h'
    have q : ∀ ds : List PyData, (ds.all (fun d => isIntD d 1 m)) = true → ∃ ns : List Int, ds = ns.map PyData.int ∧ ∀ n ∈ ns, 1 ≤ n ∧ n ≤ m := by
      intro ds
      induction ds with
      | nil => exact fun _ => ⟨[], rfl, fun n hn => by cases hn⟩
      | cons d r ih =>
        intro h
        rw [List.all_cons, Bool.and_eq_true] at h
        obtain ⟨ns, rfl, hn⟩ := ih h.2
        obtain ⟨i, rfl, hi⟩ := isIntD_int h.1
        refine ⟨i :: ns, rfl, fun n hn' => ?_⟩
        rcases List.mem_cons.mp hn' with rfl | hn'
        · exact hi
        · exact hn n hn'
    obtain ⟨ns, rfl, hn⟩ := q ds h1
    exact ⟨ns, rfl, hn, h2⟩
  | _ => cases h
theorem badRows_rows {r : PyData} (h : badRows r = none) : r = rowsD (rowsOf r) ∧ 2 ≤ (rowsOf r).length ∧ (rowsOf r).length ≤ 4 ∧ ∀ ns ∈ rowsOf r, (∀ n ∈ ns, 1 ≤ n ∧ n ≤ ((rowsOf r).length : Int) - 1) ∧ ascB (ns.map PyData.int) = true := by
  cases r with
  | tuple ds =>
    have h' : (if 2 ≤ ds.length ∧ ds.length ≤ 4 then (ds.findIdx? (fun d => !isRowD d ((ds.length : Int) - 1))).map (fun i => V.int (i : Nat)) else some .non) = none := h
    split at h'
    · rename_i hl
      have hf : ds.findIdx? (fun d => !isRowD d ((ds.length : Int) - 1)) = none := by
        cases e : ds.findIdx? (fun d => !isRowD d ((ds.length : Int) - 1)) with
        | none => rfl
        | some i => rw [e] at h'; cases h'
      rw [List.findIdx?_eq_none_iff] at hf
      have q : ∀ (m : Int) (es : List PyData), (∀ d ∈ es, (!isRowD d m) = false) → ∃ rs : List (List Int), es = rs.map rowD ∧ ∀ ns ∈ rs, (∀ n ∈ ns, 1 ≤ n ∧ n ≤ m) ∧ ascB (ns.map PyData.int) = true := by
        intro m es
        induction es with
        | nil => exact fun _ => ⟨[], rfl, fun n hn => by cases hn⟩
        | cons d r ih =>
          intro h
          obtain ⟨rs, rfl, hr⟩ := ih fun d hd => h d (List.mem_cons_of_mem _ hd)
          obtain ⟨ns, rfl, hn⟩ := isRowD_ints (m := m) (by have := h d (List.mem_cons_self ..); simpa using this)
          refine ⟨ns :: rs, rfl, fun n hn' => ?_⟩
          rcases List.mem_cons.mp hn' with rfl | hn'
          · exact hn
          · exact hr n hn'
      obtain ⟨rs, rfl, hr⟩ := q _ ds hf
      have e : rowsOf (.tuple (rs.map rowD)) = rs := by
        show (rs.map rowD).map _ = rs
        rw [List.map_map]
        have : ∀ l : List (List Int), l.map ((fun d => match d with
          | .tuple es => es.map fun e => match e with
            | .int i => i
            | _ => 0
          | _ => []) ∘ rowD) = l := by
          intro l
          induction l with
          | nil => rfl
          | cons x r ih =>
            rw [List.map_cons, ih]
            congr 1
            show (x.map PyData.int).map _ = x
            rw [List.map_map]
            have : ∀ y : List Int, y.map ((fun e => match e with
              | PyData.int i => i
              | _ => 0) ∘ PyData.int) = y := by
              intro y
              induction y with
              | nil => rfl
              | cons a b ih => rw [List.map_cons, ih]; rfl
            exact this x
        exact this rs
      rw [e]
      rw [List.length_map] at hl hr
      exact ⟨rfl, hl.1, hl.2, hr⟩
    · cases h'
  | _ => cases h
/-- data without lists or dicts -/
theorem tp_int {K : PySem.W.Frag} {H : Hp} : ∀ {xs : List V} {ns : List Int}, DaL K H xs (ns.map PyData.int) → TpL K H xs (ns.map PyData.int)
  | _, [], .nil => .nil
  | _, _ :: _, .cons (.int i) t => .cons (.int i) (tp_int t)
theorem tp_rows {K : PySem.W.Frag} {H : Hp} : ∀ {xs : List V} {rs : List (List Int)}, DaL K H xs (rs.map rowD) → TpL K H xs (rs.map rowD)
  | _, [], .nil => .nil
  | _, _ :: _, .cons (.tup h t) r => .cons (.tup h (tp_int t)) (tp_rows r)
theorem badRows_tp {K : PySem.W.Frag} {H : Hp} {x : V} {r : PyData} (hx : Da K H x r) (h : badRows r = none) : Tp K H x (rowsD (rowsOf r)) := by
  have e := (badRows_rows h).1
  rw [e] at hx
  cases hx with
  | tup h t => exact .tup h (tp_rows t)
abbrev fA : Str := "allowed"
abbrev fS : Str := "spare"
abbrev fF : Str := "fate"
theorem put1 (v : V) : putF fA v [] = [(fA, v)] := rfl
theorem put2 (v u : V) : putF fS u [(fA, v)] = [(fA, v), (fS, u)] := by
  unfold putF
  rw [if_neg (by decide)]
  rfl
theorem put3 (v u f : V) : putF fF f [(fA, v), (fS, u)] = [(fA, v), (fS, u), (fF, f)] := by
  unfold putF
  rw [if_neg (by decide)]
  unfold putF
  rw [if_neg (by decide)]
  rfl
theorem AtTab.fld {K : PySem.W.Frag} {H : Hp} {a : Addr} {t : Tab} (h : AtTab K H a t) : ∃ dx v, H a = some (.ins (He.ga K "Table") dx (tabFs v t)) ∧ Tp K H v (rowsD t.rows) ∧ (tabFs v t).lookup fA = some v ∧ (tabFs v t).lookup fS = some (V.int t.spare) ∧ (tabFs v t).lookup fF = some (V.str t.fate) := by
  obtain ⟨dx, v, h1, h2⟩ := h
  have e1 : (fS == fA) = false := by decide
  have e2 : (fF == fA) = false := by decide
  have e3 : (fF == fS) = false := by decide
  refine ⟨dx, v, h1, h2, ?_, ?_, ?_⟩ <;> simp only [tabFs, List.lookup, e1, e2, e3, beq_self_eq_true]
section
variable {K : PySem.W.Frag} {H : Hp} {a : Addr} {t : Tab} {R : V → Prop}
theorem g_tabA (h : AtTab K H a t) (q : ∀ v, Tp K H v (rowsD t.rows) → R v) : ∃ a' dx fs v, V.ref a = .ref a' ∧ H a' = some (.ins (He.ga K "Table") dx fs) ∧ List.lookup ("allowed" : Str) fs = some v ∧ R v :=
  let ⟨dx, v, e, tv, l1, _, _⟩ := h.fld; ⟨a, dx, _, v, rfl, e, l1, q v tv⟩
theorem g_tabS (h : AtTab K H a t) (q : R (.int t.spare)) : ∃ a' dx fs v, V.ref a = .ref a' ∧ H a' = some (.ins (He.ga K "Table") dx fs) ∧ List.lookup ("spare" : Str) fs = some v ∧ R v :=
  let ⟨dx, v, e, tv, _, l2, _⟩ := h.fld; ⟨a, dx, _, _, rfl, e, l2, q⟩
theorem g_tabF (h : AtTab K H a t) (q : R (.str t.fate)) : ∃ a' dx fs v, V.ref a = .ref a' ∧ H a' = some (.ins (He.ga K "Table") dx fs) ∧ List.lookup ("fate" : Str) fs = some v ∧ R v :=
  let ⟨dx, v, e, tv, _, _, l3⟩ := h.fld; ⟨a, dx, _, _, rfl, e, l3, q⟩
end
end Tk

end

section
/-! shapes of data, equality of data -/
namespace Tk
open PySem PySem.Spec L2 RZ
def Shp (n : Nat) (d : PyData) : Prop := d.canLay0 = true ∧ d.depth ≤ n
theorem canAll : ∀ {ds : List PyData}, (∀ d ∈ ds, d.canLay0 = true) → PyData.canLayAll0 ds = true
  | [], _ => by simp only [PyData.canLayAll0]
  | d :: ds, h => by
    simp only [PyData.canLayAll0]
    rw [h d (List.mem_cons_self ..), canAll fun e he => h e (List.mem_cons_of_mem _ he)]
    rfl
theorem depAll {n : Nat} : ∀ {ds : List PyData}, (∀ d ∈ ds, d.depth ≤ n) → PyData.depthAll ds ≤ n
  | [], _ => by simp only [PyData.depthAll]; exact Nat.zero_le _
  | d :: ds, h => by
    simp only [PyData.depthAll]
    exact Nat.max_le.mpr ⟨h d (List.mem_cons_self ..), depAll fun e he => h e (List.mem_cons_of_mem _ he)⟩
theorem Shp.non {n : Nat} : Shp n .none := ⟨by simp only [PyData.canLay0], by simp only [PyData.depth]; exact Nat.zero_le _⟩
theorem Shp.bool {n : Nat} {b : Bool} : Shp n (.bool b) := ⟨by simp only [PyData.canLay0], by simp only [PyData.depth]; exact Nat.zero_le _⟩
theorem Shp.int {n : Nat} {i : Int} : Shp n (.int i) := ⟨by simp only [PyData.canLay0], by simp only [PyData.depth]; exact Nat.zero_le _⟩
theorem Shp.str {n : Nat} {z : Str} (h : PyData.strOk z = true) : Shp n (.str z) := ⟨by simp only [PyData.canLay0]; exact h, by simp only [PyData.depth]; exact Nat.zero_le _⟩
theorem Shp.tup {n : Nat} {ds : List PyData} (h : ∀ d ∈ ds, Shp n d) : Shp (n + 1) (.tuple ds) := ⟨by simp only [PyData.canLay0]; exact canAll fun d hd => (h d hd).1, by simp only [PyData.depth]; exact Nat.succ_le_succ (depAll fun d hd => (h d hd).2)⟩
theorem Shp.lst {n : Nat} {ds : List PyData} (h : ∀ d ∈ ds, Shp n d) : Shp (n + 1) (.list ds) := ⟨by simp only [PyData.canLay0]; exact canAll fun d hd => (h d hd).1, by simp only [PyData.depth]; exact Nat.succ_le_succ (depAll fun d hd => (h d hd).2)⟩
theorem Shp.mono {n m : Nat} {d : PyData} (h : Shp n d) (l : n ≤ m) : Shp m d := ⟨h.1, Nat.le_trans h.2 l⟩
theorem Shp.ok {n : Nat} {d : PyData} (h : Shp n d) (l : n ≤ 64 := by decide) : SeqAt.shaped d = true := by
  unfold SeqAt.shaped
  rw [h.1, decide_eq_true (Nat.le_trans h.2 l)]
  rfl
theorem Shp.maps {n : Nat} {α : Type} {f : α → PyData} {l : List α} (h : ∀ a ∈ l, Shp n (f a)) : ∀ d ∈ l.map f, Shp n d := fun d hd => by
  obtain ⟨a, ha, rfl⟩ := List.mem_map.mp hd
  exact h a ha
theorem shp_row {r : List Int} : Shp 1 (rowD r) := .tup (Shp.maps fun _ _ => .int)
theorem shp_rows {rs : List (List Int)} : Shp 2 (rowsD rs) := .tup (Shp.maps fun _ _ => shp_row)
/-! equality -/
theorem eqv_map {α : Type} [DecidableEq α] {f : α → PyData} (h : ∀ a b, PyData.eqv (f a) (f b) = decide (a = b)) : ∀ l m : List α, PyData.eqvAll (l.map f) (m.map f) = decide (l = m)
  | [], [] => by simp [PyData.eqvAll]
  | [], _ :: _ => by simp [PyData.eqvAll]
  | _ :: _, [] => by simp [PyData.eqvAll]
  | a :: l, b :: m => by
    rw [List.map_cons, List.map_cons, PyData.eqvAll, h, eqv_map h l m, Bool.eq_iff_iff]
    simp
theorem eqv_int (i j : Int) : PyData.eqv (.int i) (.int j) = decide (i = j) := by simp [PyData.eqv, Bool.beq_eq_decide_eq]
theorem eqv_str (i j : Str) : PyData.eqv (.str i) (.str j) = decide (i = j) := by simp [PyData.eqv, Bool.beq_eq_decide_eq]
theorem eqv_bool (i j : Bool) : PyData.eqv (.bool i) (.bool j) = decide (i = j) := by simp [PyData.eqv, Bool.beq_eq_decide_eq]
theorem eqv_row (r s : List Int) : PyData.eqv (rowD r) (rowD s) = decide (r = s) := by
  unfold rowD
  rw [PyData.eqv, eqv_map eqv_int]
theorem eqv_rows (r s : List (List Int)) : PyData.eqv (rowsD r) (rowsD s) = decide (r = s) := by
  unfold rowsD
  rw [PyData.eqv, eqv_map eqv_row]
instance : DecidableEq Tab := fun a b => decidable_of_iff (a.rows = b.rows ∧ a.spare = b.spare ∧ a.fate = b.fate) (by cases a; cases b; simp)
theorem eqv_tab (t u : Tab) : PyData.eqv (.tuple [rowsD t.rows, .int t.spare, .str t.fate]) (.tuple [rowsD u.rows, .int u.spare, .str u.fate]) = decide (t = u) := by
  rw [PyData.eqv, PyData.eqvAll, PyData.eqvAll, PyData.eqvAll, PyData.eqvAll, eqv_rows, eqv_int, eqv_str, Bool.eq_iff_iff]
  cases t
  cases u
  simp
theorem isFate_ok {s : PyData} (h : isFateD s = true) : ∃ z, s = .str z ∧ (z = "loses" ∨ z = "wins") := by
  cases s with
  | str z =>
    have h' : (decide (z = "loses") || decide (z = "wins")) = true := h
    rw [Bool.or_eq_true, decide_eq_true_iff, decide_eq_true_iff] at h'
    exact ⟨z, rfl, h'⟩
  | _ => cases h
/-- a table that Table gives -/
structure Tab.Good (t : Tab) : Prop where
  len : 2 ≤ t.rows.length ∧ t.rows.length ≤ 4
  row : ∀ ns ∈ t.rows, (∀ n ∈ ns, 1 ≤ n ∧ n ≤ (t.rows.length : Int) - 1) ∧ ascB (ns.map PyData.int) = true
  spare : t.spare = 0 ∨ t.spare = 1
  fate : t.fate = "loses" ∨ t.fate = "wins"
theorem tabOf_good {r p s : PyData} {t : Tab} (h : tabOf r p s = .ok t) : t.Good ∧ r = rowsD t.rows ∧ p = .int t.spare ∧ s = .str t.fate := by
  unfold tabOf at h
  cases e : badRows r with
  | some v => rw [e] at h; cases h
  | none =>
    rw [e] at h
    have h' : (if isIntD p 0 1 = true then (if isFateD s = true then TabR.ok ⟨rowsOf r, intD p, strD s⟩ else .stuck) else .passes) = .ok t := h
    by_cases h1 : isIntD p 0 1 = true
    · rw [if_pos h1] at h'
      by_cases h2 : isFateD s = true
      · rw [if_pos h2] at h'
        obtain ⟨i, rfl, hi⟩ := isIntD_int h1
        obtain ⟨z, rfl, hz⟩ := isFate_ok h2
        cases h'
        obtain ⟨b1, b2, b3, b4⟩ := badRows_rows e
        exact ⟨⟨⟨b2, b3⟩, b4, by show i = 0 ∨ i = 1; omega, hz⟩, b1, rfl, rfl⟩
      · rw [if_neg h2] at h'
        cases h'
    · rw [if_neg h1] at h'
      cases h'
theorem strOk_loses : PyData.strOk "loses" = true := by decide +kernel
theorem strOk_wins : PyData.strOk "wins" = true := by decide +kernel
theorem Tab.Good.fateOk {t : Tab} (g : t.Good) : PyData.strOk t.fate = true := by
  rcases g.fate with h | h <;> rw [h]
  · exact strOk_loses
  · exact strOk_wins
theorem shp_tab {t : Tab} (g : t.Good) : Shp 3 (.tuple [rowsD t.rows, .int t.spare, .str t.fate]) := .tup fun d hd => by
  simp only [List.mem_cons, List.not_mem_nil, or_false] at hd
  rcases hd with rfl | rfl | rfl
  · exact shp_rows
  · exact .int
  · exact .str g.fateOk
end Tk

end

section
/-! texts of tables -/
namespace Tk
open PySem PySem.Spec L2 RZ
/-- str(i) -/
def iS (i : Int) : Str := toString i
def lineS (i : Nat) (r : List Int) : Str := Txt.join " " (iS i :: r.map iS)
def linesS (t : Tab) : List Str := ["passes " ++ iS t.spare, "stuck " ++ t.fate] ++ t.rows.zipIdx.map fun p => lineS p.2 p.1
def writeS (t : Tab) : Str := Txt.join "\n" (linesS t)
theorem iS_len {i : Int} (h0 : 0 ≤ i) (h : i ≤ 3) : (iS i).length = 1 := by
  have : i = 0 ∨ i = 1 ∨ i = 2 ∨ i = 3 := by omega
  rcases this with rfl | rfl | rfl | rfl <;> decide +kernel
theorem join_le (y : Str) (l : List Str) : (Txt.join y l).length ≤ (l.map (·.length)).sum + l.length * y.length := by
  rw [TL.join_eq]
  exact StrLaws.join_length_le y l
theorem sum_le {n : Nat} : ∀ {l : List Nat}, (∀ a ∈ l, a ≤ n) → l.sum ≤ l.length * n
  | [], _ => by simp
  | a :: l, h => by
    rw [List.sum_cons, List.length_cons, Nat.add_mul, Nat.one_mul]
    have h1 := h a (List.mem_cons_self ..)
    have h2 := sum_le fun b hb => h b (List.mem_cons_of_mem a hb)
    omega
/-- an ascending row of at most 3 -/
theorem asc_len : ∀ {ns : List Int} {m : Int}, (∀ n ∈ ns, 1 ≤ n ∧ n ≤ m) → ascB (ns.map PyData.int) = true → (ns.length : Int) ≤ max m 0
  | [], m, _, _ => by simp; omega
  | [a], m, h, _ => by
    have := h a (by simp)
    simp
    omega
  | a :: b :: r, m, h, hs => by
    have h' : (decide (a < b) && ascB ((b :: r).map PyData.int)) = true := hs
    rw [Bool.and_eq_true, decide_eq_true_iff] at h'
    have ha := h a (by simp)
    have ih := asc_len (ns := (b :: r).map (· - a)) (m := m - a) (fun n hn => by
      obtain ⟨c, hc, rfl⟩ := List.mem_map.mp hn
      have hc2 := h c (List.mem_cons_of_mem _ hc)
      have key : ∀ {l : List Int} {x : Int}, ascB ((x :: l).map PyData.int) = true → ∀ y ∈ x :: l, x ≤ y := by
        intro l
        induction l with
        | nil => intro x _ y hy; simp at hy; omega
        | cons z l ih =>
          intro x hx y hy
          have hx' : (decide (x < z) && ascB ((z :: l).map PyData.int)) = true := hx
          rw [Bool.and_eq_true, decide_eq_true_iff] at hx'
          rcases List.mem_cons.mp hy with rfl | hy
          · exact Int.le_refl _
          · have := ih hx'.2 y hy
            omega
      have := key h'.2 c hc
      omega) (by
      have shift : ∀ {l : List Int}, ascB (l.map PyData.int) = true → ascB ((l.map (· - a)).map PyData.int) = true := by
        intro l
        induction l with
        | nil => exact fun _ => rfl
        | cons z l ih =>
          intro hl
          cases l with
          | nil => rfl
          | cons z2 l =>
            have hl' : (decide (z < z2) && ascB ((z2 :: l).map PyData.int)) = true := hl
            rw [Bool.and_eq_true, decide_eq_true_iff] at hl'
            show (decide (z - a < z2 - a) && ascB (((z2 :: l).map (· - a)).map PyData.int)) = true
            rw [ih hl'.2, decide_eq_true (by omega)]
            rfl
      exact shift h'.2)
    rw [List.length_map] at ih
    rw [List.length_cons, Int.natCast_succ]
    omega
termination_by ns => ns.length
theorem Tab.Good.rowLen {t : Tab} (g : t.Good) {r : List Int} (h : r ∈ t.rows) : r.length ≤ 3 := by
  obtain ⟨h1, h2⟩ := g.row r h
  have := asc_len h1 h2
  have := g.len
  omega
theorem Tab.Good.take {t : Tab} (g : t.Good) {r : List Int} (h : r ∈ t.rows) {n : Int} (hn : n ∈ r) : 1 ≤ n ∧ n ≤ 3 := by
  obtain ⟨h1, h2⟩ := g.row r h
  have := h1 n hn
  have := g.len
  omega
theorem Tab.Good.sp {t : Tab} (g : t.Good) : 0 ≤ t.spare ∧ t.spare ≤ 3 := by
  have := g.spare
  omega
theorem one_log {i : Int} (h0 : 0 ≤ i) (h : i ≤ 3) : i.natAbs.log2 < 1920 := by
  have : i = 0 ∨ i = 1 ∨ i = 2 ∨ i = 3 := by omega
  rcases this with rfl | rfl | rfl | rfl <;> decide
theorem lines_at {t : Tab} {i : Nat} {r : List Int} (h : t.rows[i]? = some r) : (linesS t)[i + 2]? = some (lineS i r) := by
  unfold linesS
  rw [List.getElem?_append_right (by simp)]
  simp [List.getElem?_zipIdx, h]
theorem lineS_sum {i : Nat} {r : List Int} (hi : i ≤ 3) (hr : r.length ≤ 3) (h : ∀ n ∈ r, 1 ≤ n ∧ n ≤ 3) : ((iS i :: r.map iS).map (·.length)).sum + (iS i :: r.map iS).length * (" " : Str).length ≤ 8 := by
  rw [show (" " : Str).length = 1 from by decide +kernel]
  have h1 : ((iS i :: r.map iS).map (·.length)).sum ≤ ((iS i :: r.map iS).map (·.length)).length * 1 := sum_le fun a ha => by
    obtain ⟨z, hz, rfl⟩ := List.mem_map.mp ha
    rcases List.mem_cons.mp hz with rfl | hz
    · exact Nat.le_of_eq (iS_len (by omega) (by omega))
    · obtain ⟨n, hn, rfl⟩ := List.mem_map.mp hz
      have := h n hn
      exact Nat.le_of_eq (iS_len (by omega) (by omega))
  rw [List.length_map] at h1
  have h2 : (iS i :: r.map iS).length ≤ 4 := by simp; omega
  omega
theorem lines_len {t : Tab} : (linesS t).length = t.rows.length + 2 := by
  unfold linesS
  simp
theorem lineS_len {i : Nat} {r : List Int} (hi : i ≤ 3) (hr : r.length ≤ 3) (h : ∀ n ∈ r, 1 ≤ n ∧ n ≤ 3) : (lineS i r).length ≤ 8 := by
  unfold lineS
  exact Nat.le_trans (join_le _ _) (lineS_sum hi hr h)
theorem Tab.Good.lines {t : Tab} (g : t.Good) : ∀ z ∈ linesS t, z.length ≤ 11 := by
  intro z hz
  obtain ⟨i, hi⟩ := List.getElem?_of_mem hz
  match i, hi with
  | 0, hi =>
    have e : z = "passes " ++ iS t.spare := (Option.some.inj hi).symm
    rw [e, Str.length_append, iS_len g.sp.1 g.sp.2]
    decide +kernel
  | 1, hi =>
    have e : z = "stuck " ++ t.fate := (Option.some.inj hi).symm
    rw [e]
    rcases g.fate with h | h <;> rw [h] <;> decide +kernel
  | i + 2, hi =>
    obtain ⟨hl, _⟩ := List.getElem?_eq_some_iff.mp hi
    rw [lines_len] at hl
    have hr : t.rows[i]? = some t.rows[i] := List.getElem?_eq_getElem (by omega)
    rw [lines_at hr] at hi
    have e := (Option.some.inj hi).symm
    rw [e]
    have hm : t.rows[i] ∈ t.rows := List.getElem_mem _
    have := g.len
    exact Nat.le_trans (lineS_len (by omega) (g.rowLen hm) fun n hn => g.take hm hn) (by decide)
theorem Tab.Good.sumLines {t : Tab} (g : t.Good) : ((linesS t).map (·.length)).sum + (linesS t).length * ("\n" : Str).length ≤ 16777216 := by
  have h1 : ((linesS t).map (·.length)).sum ≤ ((linesS t).map (·.length)).length * 11 := sum_le fun a ha => by
    obtain ⟨z, hz, rfl⟩ := List.mem_map.mp ha
    exact g.lines z hz
  rw [List.length_map, lines_len] at h1
  rw [lines_len, show ("\n" : Str).length = 1 from by decide +kernel]
  have := g.len
  omega
end Tk

end

section
/-! texts read -/
namespace Tk
open PySem PySem.Spec L2 RZ
abbrev digits : List Str := ["1", "2", "3"]
abbrev pass2 : List Str := ["0", "1"]
abbrev fates : List Str := ["loses", "wins"]
def okLine : List Str → Nat → Bool
  | ws, 0 => (match ws with
    | [a, b] => decide (a = "passes") && decide (b ∈ pass2)
    | _ => false)
  | ws, 1 => (match ws with
    | [a, b] => decide (a = "stuck") && decide (b ∈ fates)
    | _ => false)
  | ws, i + 2 => (match ws with
    | [] => false
    | w :: r => decide (i ≤ 3) && (decide (w = iS i) && decide (digits.filter (fun s => decide (s ∈ r)) = r)))
/-- a text that a written digit is -/
def digI (z : Str) : Int := if z = "1" then 1 else if z = "2" then 2 else if z = "3" then 3 else 0
def takesOf (ws : List Str) : List Int := (ws.drop 1).map digI
/-- what read tells: the number of the line at fault, or the table -/
inductive ReadR where
  | line (n : Int)
  | ok (t : Tab)
def badLine (ls : List (List Str)) : Option Nat := (List.range ls.length).find? fun i => !okLine (ls.getD i []) i
def badTake (tk : List (List Int)) : Option Nat := (List.range tk.length).find? fun i => (tk.getD i []).any fun n => decide ((tk.length : Int) - 1 < n)
def takesAll (ls : List (List Str)) : List (List Int) := (ls.drop 2).map takesOf
def tabR (ls : List (List Str)) : Tab := ⟨takesAll ls, digI ((ls.getD 0 []).getD 1 ""), (ls.getD 1 []).getD 1 ""⟩
def readR (ls : List (List Str)) : ReadR := match badLine ls with
  | some i => .line ((i : Nat) + 1)
  | none => if ls.length < 4 then .line ((ls.length : Nat) + 1) else
    match badTake (takesAll ls) with
    | some i => .line ((i : Nat) + 2 + 1)
    | none => .ok (tabR ls)
/-- words without blanks and line ends -/
def gw (z : Str) : Bool := (TL.tl z).all (fun c => decide (c ≠ 32) && (decide (c ≠ 10) && decide (c < 1114112))) && decide (z.length ≤ 100)
structure GoodLs (ls : List (List Str)) : Prop where
  ne : ls ≠ []
  len : ls.length ≤ 100
  each : ∀ l ∈ ls, l ≠ [] ∧ l.length ≤ 100 ∧ ∀ z ∈ l, gw z = true
theorem gw_ok {z : Str} (h : gw z = true) : PyData.strOk z = true := by
  obtain ⟨h1, _⟩ := Bool.and_eq_true_iff.mp h
  unfold PyData.strOk
  rw [← Array.all_toList]
  refine List.all_eq_true.mpr fun c hc => ?_
  have := List.all_eq_true.mp h1 c hc
  simp only [Bool.and_eq_true, decide_eq_true_iff] at this
  exact decide_eq_true this.2.2
theorem gw_no {z : Str} (h : gw z = true) : 32 ∉ TL.tl z ∧ 10 ∉ TL.tl z := by
  obtain ⟨h1, _⟩ := Bool.and_eq_true_iff.mp h
  constructor
  · intro hc
    have := List.all_eq_true.mp h1 _ hc
    simp at this
  · intro hc
    have := List.all_eq_true.mp h1 _ hc
    simp at this
theorem gw_len {z : Str} (h : gw z = true) : z.length ≤ 100 := of_decide_eq_true (Bool.and_eq_true_iff.mp h).2
theorem mem_joinL {S : List Nat} {c : Nat} : ∀ {ps : List (List Nat)}, c ∈ TL.joinL S ps → c ∈ S ∨ ∃ p ∈ ps, c ∈ p
  | [], h => by cases h
  | [p], h => .inr ⟨p, by simp, h⟩
  | p :: q :: r, h => by
    have h' : c ∈ p ++ (S ++ TL.joinL S (q :: r)) := h
    rcases List.mem_append.mp h' with h | h
    · exact .inr ⟨p, by simp, h⟩
    · rcases List.mem_append.mp h with h | h
      · exact .inl h
      · rcases mem_joinL h with h | ⟨x, hx, h⟩
        · exact .inl h
        · exact .inr ⟨x, List.mem_cons_of_mem _ hx, h⟩
abbrev sp1 : Str := " "
abbrev nl1 : Str := "\n"
theorem tl_sp : TL.tl sp1 = [32] := by decide +kernel
theorem tl_nl : TL.tl nl1 = [10] := by decide +kernel
/-- the text of lines of words -/
def txtOf (ls : List (List Str)) : Str := Txt.join nl1 (ls.map (Txt.join sp1))
theorem split_line {l : List Str} (h : l ≠ []) (hz : ∀ z ∈ l, gw z = true) : Txt.split (Txt.join sp1 l) sp1 = l := TL.split_join tl_sp (by decide +kernel) h fun p hp => (gw_no (hz p hp)).1
theorem split_lines {ls : List (List Str)} (g : GoodLs ls) : Txt.split (txtOf ls) nl1 = ls.map (Txt.join sp1) := by
  refine TL.split_join tl_nl (by decide +kernel) (fun e => g.ne (List.map_eq_nil_iff.mp e)) fun p hp => ?_
  obtain ⟨l, hl, rfl⟩ := List.mem_map.mp hp
  intro hc
  rw [TL.join_eq, TL.tl_join] at hc
  rcases mem_joinL hc with hc | ⟨x, hx, hc⟩
  · rw [tl_sp] at hc
    simp at hc
  · obtain ⟨z, hz, rfl⟩ := List.mem_map.mp hx
    exact (gw_no ((g.each l hl).2.2 z hz)).2 hc
theorem line_len {l : List Str} (h : l.length ≤ 100) (hz : ∀ z ∈ l, gw z = true) : (Txt.join sp1 l).length ≤ 10100 := by
  refine Nat.le_trans (join_le _ _) ?_
  have h1 : (l.map (·.length)).sum ≤ (l.map (·.length)).length * 100 := sum_le fun a ha => by
    obtain ⟨z, hz', rfl⟩ := List.mem_map.mp ha
    exact gw_len (hz z hz')
  rw [List.length_map] at h1
  rw [show sp1.length = 1 from by decide +kernel]
  omega
theorem txt_len {ls : List (List Str)} (g : GoodLs ls) : (txtOf ls).length + 2 ≤ sizeLine := by
  have h0 : (txtOf ls).length ≤ _ := join_le _ _
  have h1 : ((ls.map (Txt.join sp1)).map (·.length)).sum ≤ ((ls.map (Txt.join sp1)).map (·.length)).length * 10100 := sum_le fun a ha => by
    obtain ⟨z, hz', rfl⟩ := List.mem_map.mp ha
    obtain ⟨l, hl, rfl⟩ := List.mem_map.mp hz'
    have := g.each l hl
    exact line_len this.2.1 this.2.2
  rw [List.length_map, List.length_map] at h1
  rw [List.length_map, show nl1.length = 1 from by decide +kernel] at h0
  have := g.len
  rw [sizeLine_eq]
  omega
theorem dig_row {r : List Str} (h : digits.filter (fun s => decide (s ∈ r)) = r) : r ∈ ([[], ["1"], ["2"], ["3"], ["1", "2"], ["1", "3"], ["2", "3"], ["1", "2", "3"]] : List (List Str)) := by
  generalize (fun s => decide (s ∈ r)) = p at h
  subst h
  simp only [digits, List.filter]
  cases p "1" <;> cases p "2" <;> cases p "3" <;> decide +kernel
theorem dig_good {r : List Str} (h : digits.filter (fun s => decide (s ∈ r)) = r) : ascB ((r.map digI).map PyData.int) = true ∧ (∀ n ∈ r.map digI, 1 ≤ n ∧ n ≤ 3) ∧ (∀ z ∈ r, PySem.intText? z = some (digI z)) := by
  have q := dig_row h
  have key : ∀ r ∈ ([[], ["1"], ["2"], ["3"], ["1", "2"], ["1", "3"], ["2", "3"], ["1", "2", "3"]] : List (List Str)), ascB ((r.map digI).map PyData.int) = true ∧ (∀ n ∈ r.map digI, 1 ≤ n ∧ n ≤ 3) ∧ (∀ z ∈ r, PySem.intText? z = some (digI z)) := by decide +kernel
  exact key r q
theorem okLine0 {ws : List Str} (h : okLine ws 0 = true) : ∃ b : Str, ws = [("passes" : Str), b] ∧ b ∈ pass2 := by
  match ws, h with
  | [a, b], h =>
    have h' : (decide (a = "passes") && decide (b ∈ pass2)) = true := h
    rw [Bool.and_eq_true, decide_eq_true_iff, decide_eq_true_iff] at h'
    exact ⟨b, by rw [h'.1], h'.2⟩
theorem okLine1 {ws : List Str} (h : okLine ws 1 = true) : ∃ b : Str, ws = [("stuck" : Str), b] ∧ b ∈ fates := by
  match ws, h with
  | [a, b], h =>
    have h' : (decide (a = "stuck") && decide (b ∈ fates)) = true := h
    rw [Bool.and_eq_true, decide_eq_true_iff, decide_eq_true_iff] at h'
    exact ⟨b, by rw [h'.1], h'.2⟩
theorem okLine2 {ws : List Str} {i : Nat} (h : okLine ws (i + 2) = true) : ∃ r, ws = iS i :: r ∧ i ≤ 3 ∧ digits.filter (fun s => decide (s ∈ r)) = r := by
  match ws, h with
  | [], h => cases h
  | w :: r, h =>
    have h' : (decide (i ≤ 3) && (decide (w = iS i) && decide (digits.filter (fun s => decide (s ∈ r)) = r))) = true := h
    rw [Bool.and_eq_true, Bool.and_eq_true, decide_eq_true_iff, decide_eq_true_iff, decide_eq_true_iff] at h'
    exact ⟨r, by rw [h'.2.1], h'.1, h'.2.2⟩
theorem pass_int {b : Str} (h : b ∈ pass2) : PySem.intText? b = some (digI b) ∧ (digI b = 0 ∨ digI b = 1) ∧ b.length ≤ 640 := by
  have key : ∀ b ∈ pass2, PySem.intText? b = some (digI b) ∧ (digI b = 0 ∨ digI b = 1) ∧ b.length ≤ 640 := by decide +kernel
  exact key b h
theorem badLine_none {ls : List (List Str)} (h : badLine ls = none) : ∀ i, i < ls.length → okLine (ls.getD i []) i = true := fun i hi => by
  have q := List.find?_range_eq_none.mp h i hi
  simpa using q
theorem badLine_some {ls : List (List Str)} {i : Nat} (hi : i < ls.length) (h : okLine (ls.getD i []) i = false) (hj : ∀ j, j < i → okLine (ls.getD j []) j = true) : badLine ls = some i := by
  refine List.find?_range_eq_some.mpr ⟨by rw [h]; rfl, List.mem_range.mpr hi, fun j hji => by rw [hj j hji]; rfl⟩
/-- a text without a line at fault gives rows, passes, a word -/
theorem read_tab {ls : List (List Str)} (h : badLine ls = none) (hl : ¬ ls.length < 4) (ht : badTake (takesAll ls) = none) :
    tabOf (rowsD (takesAll ls)) (.int (tabR ls).spare) (.str (tabR ls).fate) = .ok (tabR ls) := by
  have ok := badLine_none h
  have hlen : ls.length ≤ 6 := by
    rcases Nat.lt_or_ge 6 ls.length with h6 | h6
    · obtain ⟨_, _, h3, _⟩ := okLine2 (i := 4) (ok 6 h6)
      omega
    · exact h6
  have htl : (takesAll ls).length = ls.length - 2 := by
    unfold takesAll
    rw [List.length_map, List.length_drop]
  have each : ∀ r ∈ takesAll ls, isRowD (rowD r) (((takesAll ls).length : Int) - 1) = true := by
    intro r hr
    obtain ⟨i, hi⟩ := List.getElem?_of_mem hr
    obtain ⟨hi2, _⟩ := List.getElem?_eq_some_iff.mp hi
    have hi3 := hi
    unfold takesAll at hi3
    rw [List.getElem?_map, List.getElem?_drop] at hi3
    have hw : ls[2 + i]? = some (ls.getD (2 + i) []) := by
      rw [List.getD_eq_getElem?_getD, List.getElem?_eq_getElem (by omega)]
      rfl
    rw [hw] at hi3
    have er : takesOf (ls.getD (2 + i) []) = r := Option.some.inj hi3
    obtain ⟨u, eu, hu1, hu2⟩ := okLine2 (ws := ls.getD (2 + i) []) (i := i) (by have q := ok (2 + i) (by omega); rw [Nat.add_comm 2 i] at q ⊢; exact q)
    have eu' : ls.getD (2 + i) [] = iS i :: u := eu
    rw [eu'] at er
    have er' : u.map digI = r := er
    subst er'
    obtain ⟨g1, g2, _⟩ := dig_good hu2
    have hb := List.find?_range_eq_none.mp ht i hi2
    rw [List.getD_eq_getElem?_getD, hi] at hb
    have hb2 : ((u.map digI).any fun n => decide (((takesAll ls).length : Int) - 1 < n)) = false := by simpa using hb
    show (((u.map digI).map PyData.int).all (fun d => isIntD d 1 (((takesAll ls).length : Int) - 1)) && ascB ((u.map digI).map PyData.int)) = true
    rw [g1, Bool.and_true, List.all_map]
    refine List.all_eq_true.mpr fun n hn => ?_
    have h1 := g2 n hn
    have h2 := List.any_eq_false.mp hb2 n hn
    show (decide (1 ≤ n) && decide (n ≤ ((takesAll ls).length : Int) - 1)) = true
    rw [Bool.and_eq_true, decide_eq_true_iff, decide_eq_true_iff]
    simp at h2
    omega
  have hbad : badRows (rowsD (takesAll ls)) = none := by
    show (if 2 ≤ ((takesAll ls).map rowD).length ∧ ((takesAll ls).map rowD).length ≤ 4 then (((takesAll ls).map rowD).findIdx? (fun d => !isRowD d ((((takesAll ls).map rowD).length : Int) - 1))).map (fun i => V.int (i : Nat)) else some .non) = none
    rw [if_pos (by rw [List.length_map]; omega), Option.map_eq_none_iff, List.findIdx?_eq_none_iff]
    intro d hd
    obtain ⟨r, hr, rfl⟩ := List.mem_map.mp hd
    rw [List.length_map, each r hr]
    rfl
  have ero : rowsOf (rowsD (takesAll ls)) = takesAll ls := by
    have := (badRows_rows hbad).1
    have key : ∀ a b : List (List Int), rowsD a = rowsD b → a = b := fun a b e => by
      have q := eqv_rows a b
      rw [e, eqv_rows b b, decide_eq_true rfl] at q
      exact of_decide_eq_true q.symm
    exact (key _ _ this).symm
  obtain ⟨b, eb, hb⟩ := okLine0 (ok 0 (by omega))
  obtain ⟨c, ec, hc⟩ := okLine1 (ok 1 (by omega))
  have es : (tabR ls).spare = digI b := by
    show digI ((ls.getD 0 []).getD 1 "") = _
    rw [eb]
    rfl
  have ef : (tabR ls).fate = c := by
    show (ls.getD 1 []).getD 1 "" = _
    rw [ec]
    rfl
  have hs : isIntD (.int (tabR ls).spare) 0 1 = true := by
    show (decide (0 ≤ (tabR ls).spare) && decide ((tabR ls).spare ≤ 1)) = true
    rw [es, Bool.and_eq_true, decide_eq_true_iff, decide_eq_true_iff]
    have := (pass_int hb).2.1
    omega
  have hfa : isFateD (.str (tabR ls).fate) = true := by
    show (decide ((tabR ls).fate = "loses") || decide ((tabR ls).fate = "wins")) = true
    rw [ef]
    have key : ∀ c ∈ fates, (decide (c = "loses") || decide (c = "wins")) = true := by decide +kernel
    exact key c hc
  unfold tabOf
  rw [hbad]
  show (if isIntD (.int (tabR ls).spare) 0 1 = true then (if isFateD (.str (tabR ls).fate) = true then TabR.ok ⟨rowsOf (rowsD (takesAll ls)), intD (.int (tabR ls).spare), strD (.str (tabR ls).fate)⟩ else .stuck) else .passes) = _
  rw [if_pos hs, if_pos hfa, ero]
  rfl
theorem small_rows (rs : List (List Int)) (h : ∀ r ∈ rs, r.length < 1000) : smallD (rowsD rs) := fun d hd es e => by
  obtain ⟨r, hr, rfl⟩ := List.mem_map.mp hd
  cases e
  rw [List.length_map]
  exact h r hr
theorem takes_len {ls : List (List Str)} (g : GoodLs ls) {i : Nat} {l : List Int} (h : (takesAll ls)[i]? = some l) : l.length ≤ 100 := by
  obtain ⟨x, hx, rfl⟩ := List.mem_map.mp (List.mem_of_getElem? h)
  have := (g.each x (List.mem_of_mem_drop hx)).2.1
  unfold takesOf
  rw [List.length_map, List.length_drop]
  omega
end Tk

end

section
/-! what the laws draw: the state [number, script, place] -/
namespace Tk
open PySem PySem.Spec L2 RZ
def Drw (H : Hp) (a l : Addr) : Prop := a ≠ l ∧ ∃ (st : Int) (ns : List Int) (ix : Nat), H a = some (.lst [.int st, .ref l, .int ix]) ∧ H l = some (.lst (ns.map V.int)) ∧ ns.length ≤ 63
theorem Drw.fr {Pf : Addr → Str → Prop} {S : List Addr} {H H' : Hp} {a l : Addr} (F : FrG Pf S H H') (na : a ∉ S) (nl : l ∉ S) : Drw H a l → Drw H' a l := fun ⟨h0, st, ns, ix, h1, h2, h3⟩ => ⟨h0, st, ns, ix, F.lst na h1, F.lst nl h2, h3⟩
theorem Drw.fr0 {Pf : Addr → Str → Prop} {H H' : Hp} {a l : Addr} (F : FrG Pf [] H H') (h : Drw H a l) : Drw H' a l := h.fr F List.not_mem_nil List.not_mem_nil
theorem Drw.ne {H : Hp} {a l p : Addr} (h : Drw H a l) (n : H p = none) : p ≠ a ∧ p ≠ l := by
  obtain ⟨_, st, ns, ix, h1, h2, _⟩ := h
  exact ⟨fun e => (by rw [e, h1] at n; cases n), fun e => (by rw [e, h2] at n; cases n)⟩
/-- a comprehension that may write at S (all of it there ahead), keeps I, and makes data -/
theorem lc_st {K : PySem.W.Frag} {J : It} {n : Nat} {G : Hp → Prop} {Y : Nat → Hp → V → Hp → Prop} (w : Walk J n G Y) (hn : n < 16777216) (S : List Addr) (I : Hp → Prop) (Ok : Nat → List PyData → Prop) {g : TG} {tt : TT} {te : TE} {vs : List Nat} {σ : L2.St} {H1 : Hp} {Qd : Addr → Hp → Prop}
    (hS : ∀ b ∈ S, H1 b ≠ none) (hI1 : I H1) (hI : ∀ D H H', H1 D = none → Fr [D] H H' → I H → I H') (h0 : Ok 0 [])
    (hG : ∀ H', Fr S H1 H' → I H' → G H')
    (hs : ∀ i x H H' ds (R : V → Hp → Prop) (Rn : Hp → Prop), i < n → Fr S H1 H → I H → Ok i ds → Y i H x H' → (∀ y H4 d, Tp K H4 y d → Fr S H H4 → I H4 → Ok (i + 1) (ds ++ [d]) → R y H4) → (∀ H3, Fr S H H3 → I H3 → Ok (i + 1) ds → Rn H3) →
      g x (wipe σ vs) H' fun σ2 H2 => wipe σ2 vs = wipe σ vs ∧ tt σ2 H2 fun b H3 => if b = true then te σ2 H3 R else Rn H3)
    (hd : ∀ D H' ds, H1 D = none → Fr S H1 H' → I H' → Ok n ds → ds.length ≤ n → LsD K H' D ds → Qd D H') :
    ∀ D, H1 D = none → ∃ W : Nat → Nat → Hp → Prop, (∃ m, W 0 m (upd H1 D (.lst []))) ∧ ∀ i m H, W i m H →
      (J.stop i H ∧ Qd D H) ∨ (J.go i H ∧ ∃ Nx : Hp → Prop, (∀ H', Nx H' → ∃ m', m' < m ∧ W (i + 1) m' H') ∧ ∀ x H', J.yld i H x H' → g x (wipe σ vs) H' fun σ2 H2 => wipe σ2 vs = wipe σ vs ∧ tt σ2 H2 fun b H3 =>
        if b = true then te σ2 H3 fun y H4 => ∃ acc, H4 D = some (.lst acc) ∧ acc.length < sizeLine ∧ Nx (upd H4 D (.lst (acc ++ [y]))) else Nx H3) := by
  intro D nD
  have nDS : D ∉ S := fun h => hS D h nD
  refine lc_it w (fun i H => Fr S H1 H ∧ I H ∧ ∃ acc ds, H D = some (.lst acc) ∧ acc.length ≤ i ∧ TpL K H acc ds ∧ Ok i ds) ⟨Fr.new nD, hI D H1 _ nD (FrG.nil (Fr.new nD)) hI1, [], [], upd_same, Nat.le_refl _, .nil, h0⟩ (fun i H _ p => hG H p.1 p.2.1) ?_ fun H p => ?_
  · rintro i x H H' hi ⟨F1, i1, acc, ds, hD, hl, ht, ok⟩ y
    refine hs i x H H' ds _ _ hi F1 i1 ok y (fun v H4 d e2 F4 i4 ok4 => ?_) (fun H3 F3 i3 ok3 => ?_)
    · have hD4 := F4.lst nDS hD
      have FD : Fr [D] H4 (upd H4 D (.lst (acc ++ [v]))) := Fr.put hD4 (fun _ z => by cases z) (fun _ _ z => by cases z) (by simp)
      have dl : acc.length < sizeLine := by rw [sizeLine_eq]; omega
      refine ⟨acc, hD4, dl, Fr.over nD (F1.trans F4) (FD.mono fun b hb => ?_), hI D H4 _ nD FD i4, acc ++ [v], ds ++ [d], upd_same, by rw [List.length_append]; simp; omega, ((ht.fr F4).fr FD).snoc (e2.fr FD), ok4⟩
      simp at hb
      rw [hb]
      exact List.mem_cons_self ..
    · exact ⟨F1.trans F3, i3, acc, ds, F3.lst nDS hD, by omega, ht.fr F3, ok3⟩
  · obtain ⟨F1, i1, acc, ds, hD, hl, ht, ok⟩ := p
    exact hd D H ds nD F1 i1 ok (by rw [← ht.length]; exact hl) ⟨acc, hD, ht⟩
/-- what is drawn: a row for each last take, passes, a word -/
def drawOk (rs : List (List Int)) (m : Nat) : Prop := rs.length = m + 1 ∧ ∀ r ∈ rs, r.Sublist (([1, 2, 3] : List Int).take m)
def subs : List Int → List (List Int)
  | [] => [[]]
  | a :: l => subs l ++ (subs l).map (a :: ·)
theorem mem_subs : ∀ {r l : List Int}, r.Sublist l → r ∈ subs l
  | _, _, .slnil => by simp [subs]
  | _, _, .cons a h => List.mem_append_left _ (mem_subs h)
  | _, _, .cons₂ a h => List.mem_append_right _ (List.mem_map.mpr ⟨_, mem_subs h, rfl⟩)
theorem subl_row {m : Nat} (h1 : 1 ≤ m) (h3 : m ≤ 3) {r : List Int} (h : r.Sublist (([1, 2, 3] : List Int).take m)) : isRowD (rowD r) (m : Int) = true := by
  have key : ∀ m ∈ ([1, 2, 3] : List Nat), ∀ r ∈ subs (([1, 2, 3] : List Int).take m), isRowD (rowD r) (m : Int) = true := by decide +kernel
  have hm : m ∈ ([1, 2, 3] : List Nat) := by
    have : m = 1 ∨ m = 2 ∨ m = 3 := by omega
    rcases this with rfl | rfl | rfl <;> simp
  exact key m hm r (mem_subs h)
theorem rowsOf_rowsD {rs : List (List Int)} (h : badRows (rowsD rs) = none) : rowsOf (rowsD rs) = rs := by
  have := (badRows_rows h).1
  have key : ∀ a b : List (List Int), rowsD a = rowsD b → a = b := fun a b e => by
    have q := eqv_rows a b
    rw [e, eqv_rows b b, decide_eq_true rfl] at q
    exact of_decide_eq_true q.symm
  exact (key _ _ this).symm
/-- what is drawn gives a table -/
theorem draw_tab {rs : List (List Int)} {m : Nat} (h1 : 1 ≤ m) (h3 : m ≤ 3) (h : drawOk rs m) {p : Int} (hp : p = 0 ∨ p = 1) {f : Str} (hf : f = "loses" ∨ f = "wins") : tabOf (rowsD rs) (.int p) (.str f) = .ok ⟨rs, p, f⟩ := by
  have hbad : badRows (rowsD rs) = none := by
    show (if 2 ≤ (rs.map rowD).length ∧ (rs.map rowD).length ≤ 4 then ((rs.map rowD).findIdx? (fun d => !isRowD d (((rs.map rowD).length : Int) - 1))).map (fun i => V.int (i : Nat)) else some .non) = none
    rw [if_pos (by rw [List.length_map, h.1]; omega), Option.map_eq_none_iff, List.findIdx?_eq_none_iff]
    intro d hd
    obtain ⟨r, hr, rfl⟩ := List.mem_map.mp hd
    rw [List.length_map, h.1, show (((m + 1 : Nat) : Int) - 1) = (m : Int) by omega, subl_row h1 h3 (h.2 r hr)]
    rfl
  have hs : isIntD (.int p) 0 1 = true := by
    rcases hp with rfl | rfl <;> decide
  have hfa : isFateD (.str f) = true := by
    rcases hf with rfl | rfl <;> decide +kernel
  unfold tabOf
  rw [hbad]
  show (if isIntD (.int p) 0 1 = true then (if isFateD (.str f) = true then TabR.ok ⟨rowsOf (rowsD rs), intD (.int p), strD (.str f)⟩ else .stuck) else .passes) = _
  rw [if_pos hs, if_pos hfa, rowsOf_rowsD hbad]
  rfl
/-- at b: a drawn row [rows, passes, word] -/
def Row3 (K : PySem.W.Frag) (H : Hp) (b : Addr) (t : Tab) : Prop := ∃ v, H b = some (.lst [v, .int t.spare, .str t.fate]) ∧ Tp K H v (rowsD t.rows)
theorem Row3.fr {K : PySem.W.Frag} {Pf : Addr → Str → Prop} {S : List Addr} {H H' : Hp} {b : Addr} {t : Tab} (F : FrG Pf S H H') (n : b ∉ S) : Row3 K H b t → Row3 K H' b t := fun ⟨v, h, r⟩ => ⟨v, F.lst n h, r.fr F⟩
theorem Row3.fr0 {K : PySem.W.Frag} {Pf : Addr → Str → Prop} {H H' : Hp} {b : Addr} {t : Tab} (F : FrG Pf [] H H') (h : Row3 K H b t) : Row3 K H' b t := h.fr F List.not_mem_nil
/-- a drawn table -/
structure Drawn3 (t : Tab) (w : Nat) : Prop where
  ok : ∃ m : Nat, 1 ≤ m ∧ m ≤ w ∧ drawOk t.rows m
  sp : t.spare = 0 ∨ t.spare = 1
  fa : t.fate = "loses" ∨ t.fate = "wins"
theorem Drawn3.tab {t : Tab} {w : Nat} (d : Drawn3 t w) (hw : w ≤ 3) : tabOf (rowsD t.rows) (.int t.spare) (.str t.fate) = .ok t := by
  obtain ⟨m, h1, h2, h3⟩ := d.ok
  exact draw_tab h1 (Nat.le_trans h2 hw) h3 d.sp d.fa
theorem Drawn3.good {t : Tab} {w : Nat} (d : Drawn3 t w) (hw : w ≤ 3) : t.Good := (tabOf_good (d.tab hw)).1
theorem Drawn3.small {t : Tab} {w : Nat} (d : Drawn3 t w) (hw : w ≤ 3) : smallD (rowsD t.rows) := small_rows _ fun r hr => Nat.lt_of_le_of_lt ((d.good hw).rowLen hr) (by decide)
section
variable {K : PySem.W.Frag} {H : Hp} {b : Addr} {t : Tab} {Q : VK}
theorem r_row0 (h : Row3 K H b t) (q : ∀ v, Tp K H v (rowsD t.rows) → Q v H) : rIx K (.ref b) (.int 0) H Q := by
  obtain ⟨v, h1, h2⟩ := h
  exact r_ixL (j := 0) (SqL.of h1) rfl (q v h2)
theorem r_row1 (h : Row3 K H b t) (q : Q (.int t.spare) H) : rIx K (.ref b) (.int 1) H Q := by
  obtain ⟨v, h1, h2⟩ := h
  exact r_ixL (j := 1) (SqL.of h1) rfl q
theorem r_row2 (h : Row3 K H b t) (q : Q (.str t.fate) H) : rIx K (.ref b) (.int 2) H Q := by
  obtain ⟨v, h1, h2⟩ := h
  exact r_ixL (j := 2) (SqL.of h1) rfl q
end
end Tk

end

section
/-! a drawn table's text is read back -/
namespace Tk
open PySem PySem.Spec L2 RZ
def lsOf (t : Tab) : List (List Str) := [("passes" : Str), iS t.spare] :: [("stuck" : Str), t.fate] :: t.rows.zipIdx.map fun p => iS (p.2 : Nat) :: p.1.map iS
theorem join2 (a b : Str) : Txt.join sp1 [a, b] = a ++ sp1 ++ b := by
  rw [TL.join_eq]
  rfl
theorem write_txt (t : Tab) : writeS t = txtOf (lsOf t) := by
  unfold writeS txtOf
  congr 1
  show linesS t = Txt.join sp1 _ :: Txt.join sp1 _ :: _
  rw [join2, join2, List.map_map]
  rw [show ("passes" : Str) ++ sp1 = "passes " from by decide +kernel, show ("stuck" : Str) ++ sp1 = "stuck " from by decide +kernel]
  rfl
theorem gw_iS {i : Int} (h0 : 0 ≤ i) (h : i ≤ 3) : gw (iS i) = true := by
  have : i = 0 ∨ i = 1 ∨ i = 2 ∨ i = 3 := by omega
  rcases this with rfl | rfl | rfl | rfl <;> decide +kernel
theorem ls_at {t : Tab} {i : Nat} {r : List Int} (h : t.rows[i]? = some r) : (lsOf t)[i + 2]? = some (iS (i : Nat) :: r.map iS) := by
  unfold lsOf
  simp [List.getElem?_zipIdx, h]
theorem ls_len {t : Tab} : (lsOf t).length = t.rows.length + 2 := by
  unfold lsOf
  simp
theorem Tab.Good.ls {t : Tab} (g : t.Good) : GoodLs (lsOf t) := by
  have gl := g.len
  refine ⟨fun e => List.cons_ne_nil _ _ e, (by rw [ls_len]; omega), fun l hl => ?_⟩
  obtain ⟨i, hi⟩ := List.getElem?_of_mem hl
  match i, hi with
  | 0, hi =>
    have e : l = [("passes" : Str), iS t.spare] := (Option.some.inj hi).symm
    subst e
    refine ⟨fun e => List.cons_ne_nil _ _ e, by simp, fun z hz => ?_⟩
    simp only [List.mem_cons, List.not_mem_nil, or_false] at hz
    rcases hz with rfl | rfl
    · decide +kernel
    · exact gw_iS g.sp.1 g.sp.2
  | 1, hi =>
    have e : l = [("stuck" : Str), t.fate] := (Option.some.inj hi).symm
    subst e
    refine ⟨fun e => List.cons_ne_nil _ _ e, by simp, fun z hz => ?_⟩
    simp only [List.mem_cons, List.not_mem_nil, or_false] at hz
    rcases hz with rfl | rfl
    · decide +kernel
    · rcases g.fate with h | h <;> rw [h] <;> decide +kernel
  | i + 2, hi =>
    obtain ⟨hl2, _⟩ := List.getElem?_eq_some_iff.mp hi
    rw [ls_len] at hl2
    have hr : t.rows[i]? = some t.rows[i] := List.getElem?_eq_getElem (by omega)
    rw [ls_at hr] at hi
    have e := (Option.some.inj hi).symm
    have hm : t.rows[i] ∈ t.rows := List.getElem_mem _
    subst e
    refine ⟨fun e => List.cons_ne_nil _ _ e, by have := g.rowLen hm; simp; omega, fun z hz => ?_⟩
    rcases List.mem_cons.mp hz with rfl | hz
    · exact gw_iS (by omega) (by omega)
    · obtain ⟨n, hn, rfl⟩ := List.mem_map.mp hz
      have := g.take hm hn
      exact gw_iS (by omega) (by omega)
theorem sub_take {m : Nat} (h3 : m ≤ 3) {r : List Int} (h : r.Sublist (([1, 2, 3] : List Int).take m)) : digits.filter (fun s => decide (s ∈ r.map iS)) = r.map iS ∧ (r.map iS).map digI = r ∧ ∀ n ∈ r, n ≤ (m : Int) := by
  have key : ∀ m ∈ ([0, 1, 2, 3] : List Nat), ∀ r ∈ subs (([1, 2, 3] : List Int).take m), digits.filter (fun s => decide (s ∈ r.map iS)) = r.map iS ∧ (r.map iS).map digI = r ∧ ∀ n ∈ r, n ≤ (m : Int) := by decide +kernel
  have hm : m ∈ ([0, 1, 2, 3] : List Nat) := by
    have : m = 0 ∨ m = 1 ∨ m = 2 ∨ m = 3 := by omega
    rcases this with rfl | rfl | rfl | rfl <;> simp
  exact key m hm r (mem_subs h)
theorem getD_of {α : Type} {l : List α} {i : Nat} {a d : α} (h : l[i]? = some a) : l.getD i d = a := by
  rw [List.getD_eq_getElem?_getD, h]
  rfl
theorem Drawn3.read {t : Tab} (d : Drawn3 t 3) : readR (lsOf t) = .ok t := by
  obtain ⟨m, h1, h2, hlen, hsub⟩ := d.ok
  have g := d.good (by decide)
  have hbl : badLine (lsOf t) = none := by
    refine List.find?_range_eq_none.mpr fun i hi => ?_
    rw [ls_len] at hi
    match i, hi with
    | 0, _ =>
      show (!!okLine [("passes" : Str), iS t.spare] 0) = true
      rcases d.sp with h | h <;> rw [h] <;> decide +kernel
    | 1, _ =>
      show (!!okLine [("stuck" : Str), t.fate] 1) = true
      rcases d.fa with h | h <;> rw [h] <;> decide +kernel
    | i + 2, hi =>
      have hr : t.rows[i]? = some t.rows[i] := List.getElem?_eq_getElem (by omega)
      rw [getD_of (ls_at hr)]
      have hs := sub_take h2 (hsub _ (List.getElem_mem (by omega : i < t.rows.length)))
      have e : okLine (iS (i : Nat) :: t.rows[i].map iS) (i + 2) = true := by
        show (decide (i ≤ 3) && (decide (iS (i : Nat) = iS (i : Nat)) && decide (digits.filter (fun s => decide (s ∈ t.rows[i].map iS)) = t.rows[i].map iS))) = true
        rw [decide_eq_true (by omega), decide_eq_true rfl, decide_eq_true hs.1]
        rfl
      rw [e]
      rfl
  have htk : takesAll (lsOf t) = t.rows := by
    refine List.ext_getElem? fun i => ?_
    unfold takesAll
    rw [List.getElem?_map, List.getElem?_drop, Nat.add_comm]
    cases hr : t.rows[i]? with
    | none =>
      have : t.rows.length ≤ i := List.getElem?_eq_none_iff.mp hr
      rw [List.getElem?_eq_none (by rw [ls_len]; omega)]
      rfl
    | some r =>
      rw [ls_at hr]
      have hs := sub_take h2 (hsub r (List.mem_of_getElem? hr))
      show some ((r.map iS).map digI) = some r
      rw [hs.2.1]
  have hbt : badTake (takesAll (lsOf t)) = none := by
    rw [htk]
    refine List.find?_range_eq_none.mpr fun i hi => ?_
    rw [getD_of (List.getElem?_eq_getElem hi)]
    have hs := sub_take h2 (hsub _ (List.getElem_mem hi))
    have e : (t.rows[i].any fun n => decide ((t.rows.length : Int) - 1 < n)) = false := by
      rw [List.any_eq_false]
      intro n hn
      have := hs.2.2 n hn
      rw [decide_eq_true_iff, hlen]
      omega
    rw [e]
    rfl
  unfold readR
  rw [hbl]
  show (if (lsOf t).length < 4 then _ else _) = _
  rw [if_neg (by rw [ls_len, hlen]; omega), hbt]
  show ReadR.ok ⟨takesAll (lsOf t), digI (iS t.spare), t.fate⟩ = _
  rw [htk, show digI (iS t.spare) = t.spare from by rcases d.sp with h | h <;> rw [h] <;> decide +kernel]
theorem g_par {i j : Nat} {ta : TA} {D : Ends} {σ : L2.St} {H : Hp} (h : ta σ H fun vs H1 => ∃ v w, vs = [v, w] ∧ D.nx ((σ.set i (some v)).set j (some w)) H1) : tPar i j ta D σ H := h
theorem g_par2 {u v : V} {R : V → V → Prop} (h : R u v) : ∃ a b, [u, v] = [a, b] ∧ R a b := ⟨u, v, rfl, h⟩
end Tk

end

section
/-! an entry turned round -/
namespace Tk
open PySem PySem.Spec L2 RZ
def sortI (l : List Int) : List Int := l.mergeSort fun a b => decide (a ≤ b)
theorem sortI_perm (l : List Int) : (sortI l).Perm l := List.mergeSort_perm l _
theorem sortI_pw (l : List Int) : (sortI l).Pairwise (· ≤ ·) := by
  have q := List.pairwise_mergeSort (le := fun a b : Int => decide (a ≤ b)) (fun a b c h1 h2 => by simp at h1 h2 ⊢; omega) (fun a b => by simp; omega) l
  exact q.imp fun h => by simpa using h
theorem sortI_eq {l s : List Int} (hp : s.Perm l) (hs : s.Pairwise (· ≤ ·)) : s = sortI l :=
  List.Perm.eq_of_pairwise (fun a b _ _ h1 h2 => Int.le_antisymm h1 h2) hs (sortI_pw l) (hp.trans (sortI_perm l).symm)
def turnRow (r : List Int) (n : Int) : List Int := if n ∈ r then r.filter (fun x => decide (x ≠ n)) else sortI (r ++ [n])
def turnRows (rs : List (List Int)) (last n : Int) : List (List Int) := rs.zipIdx.map fun p => if ((p.2 : Nat) : Int) = last then turnRow p.1 n else p.1
def turnTab (t : Tab) (last n : Int) : Tab := ⟨turnRows t.rows last n, t.spare, t.fate⟩
section
variable {K : PySem.W.Frag} {H : Hp} {Q : VK}
theorem r_sorted {a : Addr} {ns : List Int} (h : LsD K H a (ns.map PyData.int)) (h64 : ns.length < 64) (q : ∀ p, H p = none → Fr [] H (upd H p (.lst ((sortI ns).map V.int))) → LsD K (upd H p (.lst ((sortI ns).map V.int))) p ((sortI ns).map PyData.int) → Q (.ref p) (upd H p (.lst ((sortI ns).map V.int)))) : rSorted K [.ref a] H Q := by
  obtain ⟨xs, hs, t⟩ := h
  rw [t.of_ints] at hs
  refine ⟨a, ns, rfl, SqL.of hs, h64, fun ns' p hp hw n => ?_⟩
  rw [sortI_eq hp hw]
  exact q p n (Fr.new n) ⟨_, upd_same, TpL.ints _⟩
theorem r_inTi2 {z : Int} {v : V} {r : List Int} (h : Tp K H v (rowD r)) (q : Q (.bl (decide (z ∈ r))) H) : rInA K (.int z) v H Q := r_inTi h q
end
theorem asc_pw : ∀ {ns : List Int}, ascB (ns.map PyData.int) = true ↔ ns.Pairwise (· < ·)
  | [] => by simp [ascB]
  | [a] => by simp [ascB]
  | a :: b :: r => by
    have ih := asc_pw (ns := b :: r)
    have e : ascB ((a :: b :: r).map PyData.int) = (decide (a < b) && ascB ((b :: r).map PyData.int)) := rfl
    rw [e, Bool.and_eq_true, decide_eq_true_iff, ih]
    constructor
    · rintro ⟨h1, h2⟩
      refine List.pairwise_cons.mpr ⟨fun c hc => ?_, h2⟩
      rcases List.mem_cons.mp hc with rfl | hc
      · exact h1
      · exact Int.lt_trans h1 ((List.pairwise_cons.mp h2).1 c hc)
    · intro h
      exact ⟨(List.pairwise_cons.mp h).1 b (by simp), (List.pairwise_cons.mp h).2⟩
theorem turnRow_mem {r : List Int} {n z : Int} (h : z ∈ turnRow r n) : z ∈ r ∨ z = n := by
  unfold turnRow at h
  split at h
  · exact .inl (List.mem_filter.mp h).1
  · have := (sortI_perm _).mem_iff.mp h
    simpa using this
theorem turnRow_pw {r : List Int} {n : Int} (h : r.Pairwise (· < ·)) : (turnRow r n).Pairwise (· < ·) := by
  unfold turnRow
  split
  · exact h.filter _
  · rename_i hn
    have nd : (r ++ [n]).Nodup := by
      rw [List.nodup_append]
      refine ⟨h.imp fun h => Int.ne_of_lt h, by simp, fun a ha b hb => ?_⟩
      simp at hb
      subst hb
      exact fun e => hn (e ▸ ha)
    have nd2 : (sortI (r ++ [n])).Nodup := (sortI_perm _).nodup_iff.mpr nd
    have pw := sortI_pw (r ++ [n])
    exact (pw.and nd2).imp fun ⟨h1, h2⟩ => by omega
theorem turn_len {rs : List (List Int)} {last n : Int} : (turnRows rs last n).length = rs.length := by
  unfold turnRows
  simp
theorem Tab.Good.tabOf {t : Tab} (g : t.Good) : tabOf (rowsD t.rows) (.int t.spare) (.str t.fate) = .ok t := by
  have hbad : badRows (rowsD t.rows) = none := by
    show (if 2 ≤ (t.rows.map rowD).length ∧ (t.rows.map rowD).length ≤ 4 then ((t.rows.map rowD).findIdx? (fun d => !isRowD d (((t.rows.map rowD).length : Int) - 1))).map (fun i => V.int (i : Nat)) else some .non) = none
    rw [if_pos (by rw [List.length_map]; exact g.len), Option.map_eq_none_iff, List.findIdx?_eq_none_iff]
    intro d hd
    obtain ⟨r, hr, rfl⟩ := List.mem_map.mp hd
    obtain ⟨h1, h2⟩ := g.row r hr
    rw [List.length_map]
    show (!((r.map PyData.int).all (fun d => isIntD d 1 ((t.rows.length : Int) - 1)) && ascB (r.map PyData.int))) = false
    rw [h2, Bool.and_true, List.all_map]
    have : (r.all ((fun d => isIntD d 1 ((t.rows.length : Int) - 1)) ∘ PyData.int)) = true := List.all_eq_true.mpr fun n hn => by
      have := h1 n hn
      show (decide (1 ≤ n) && decide (n ≤ (t.rows.length : Int) - 1)) = true
      rw [decide_eq_true this.1, decide_eq_true this.2]
      rfl
    rw [this]
    rfl
  have hs : isIntD (.int t.spare) 0 1 = true := by
    rcases g.spare with h | h <;> rw [h] <;> decide
  have hfa : isFateD (.str t.fate) = true := by
    rcases g.fate with h | h <;> rw [h] <;> decide +kernel
  unfold Tk.tabOf
  rw [hbad]
  show (if isIntD (.int t.spare) 0 1 = true then (if isFateD (.str t.fate) = true then TabR.ok ⟨rowsOf (rowsD t.rows), intD (.int t.spare), strD (.str t.fate)⟩ else .stuck) else .passes) = _
  rw [if_pos hs, if_pos hfa, rowsOf_rowsD hbad]
  rfl
theorem Tab.Good.small {t : Tab} (g : t.Good) : smallD (rowsD t.rows) := small_rows _ fun r hr => Nat.lt_of_le_of_lt (g.rowLen hr) (by decide)
theorem Tab.Good.turn {t : Tab} (g : t.Good) {last n : Int} (h1 : 1 ≤ n) (h2 : n ≤ (t.rows.length : Int) - 1) : (turnTab t last n).Good := by
  refine ⟨by show 2 ≤ (turnRows t.rows last n).length ∧ (turnRows t.rows last n).length ≤ 4; rw [turn_len]; exact g.len, fun ns hns => ?_, g.spare, g.fate⟩
  show (∀ z ∈ ns, 1 ≤ z ∧ z ≤ ((turnRows t.rows last n).length : Int) - 1) ∧ _
  rw [turn_len]
  obtain ⟨p, hp, rfl⟩ := List.mem_map.mp (show ns ∈ t.rows.zipIdx.map (fun p => if ((p.2 : Nat) : Int) = last then turnRow p.1 n else p.1) from hns)
  have hm : p.1 ∈ t.rows := by
    obtain ⟨r, i⟩ := p
    exact (List.mem_zipIdx hp).2.2 ▸ List.getElem_mem _
  obtain ⟨g1, g2⟩ := g.row p.1 hm
  split
  · refine ⟨fun z hz => ?_, asc_pw.mpr (turnRow_pw (asc_pw.mp g2))⟩
    rcases turnRow_mem hz with h | rfl
    · exact g1 z h
    · exact ⟨h1, h2⟩
  · exact ⟨g1, g2⟩
theorem turn_at {rs : List (List Int)} {last n : Int} {i : Nat} {r : List Int} (h : rs[i]? = some r) : (turnRows rs last n)[i]? = some (if ((i : Nat) : Int) = last then turnRow r n else r) := by
  unfold turnRows
  simp [List.getElem?_zipIdx, h]
end Tk

end

section
/-! try -/
namespace Tk
open PySem PySem.Spec L2 RZ
open He (ga)
def tTryO (K : PySem.W.Frag) (x : Str) (tb : WX → TS) (ts : Addr → Value → Option Addr → TS) (Wout : WX) : TS := fun D σ H => tb (wOnly K (.ref (ga K x)) ts Wout D) D σ H
section
variable {X : Cx} {x : Str} {body suite : List Stmt} {b₀ : Stmt} {np pos pos' : Pos} {tb : WX → TS} {ts : Addr → Value → Option Addr → TS} {Wout : WX}
theorem ps_tryO (hs : X.stack = X.env :: X.outer) (hf : X.env.frame = some X.env.locals) (hg : Gl X x) (hm : X.mg x = some (.ref (ga X.K x))) (tk : Takes X Wout)
    (hb : ∀ (W : WX) (pn : List (Addr × Obj)) (xe : Value → Shared → Prop), Takes (X.tr pn xe) W → PassesOwn (model X.prog X.w) X.A X.env xe → PSs (X.tr pn xe) body (tb W))
    (hsu : ∀ (a : Addr) (oe : Obj) (cls : Value) (d : Option Addr) (pn : List (Addr × Obj)), Zc cls d oe → (∃ vs, oe.data = .fields vs) → PSs (X.suite a ((a, oe) :: pn)) (b₀ :: suite) (ts a cls d)) (hdb : (x == ("__debug__" : Str)) = false := by decide) :
    PS X (.Try body [.ExceptHandler (some (.Name x np)) none (b₀ :: suite) pos'] [] [] pos) (tTryO X.K x tb ts Wout) := ps_try_only hs hf ⟨hg, hdb, .inl hm⟩ tk hb hsu
end
section
variable {K : PySem.W.Frag} {x : Str} {tb : WX → TS} {ts : Addr → Value → Option Addr → TS} {Wout : WX} {D : Ends} {σ : L2.St} {H : Hp} {c cls : Value} {d : Option Addr}
theorem g_tryO (h : tb (wOnly K (.ref (ga K x)) ts Wout D) D σ H) : tTryO K x tb ts Wout D σ H := h
theorem w_yes (e : PySem.W.exmOne K cls c = some true) (h : ∀ a, H a = none → ts a cls d D σ H) : wOnly K c ts Wout D cls d σ H := ⟨true, e, fun _ => h, fun z => Bool.noConfusion z⟩
theorem w_no (e : PySem.W.exmOne K cls c = some false) (h : Wout cls d σ H) : wOnly K c ts Wout D cls d σ H := ⟨false, e, (fun z => Bool.noConfusion z), fun _ => h⟩
end
theorem tabFs_no {v : V} {t : Tab} {f : Str} (h1 : (f == fA) = false) (h2 : (f == fS) = false) (h3 : (f == fF) = false) : (tabFs v t).lookup f = none := by
  simp only [tabFs, List.lookup, h1, h2, h3]
theorem g_tabM {K : PySem.W.Frag} {H : Hp} {a : Addr} {t : Tab} {m : Str} (h : AtTab K H a t) (h1 : (m == fA) = false) (h2 : (m == fS) = false) (h3 : (m == fF) = false) : ∃ a' dx fs, V.ref a = .ref a' ∧ H a' = some (.ins (ga K "Table") dx fs) ∧ fs.lookup m = none :=
  let ⟨dx, v, e, _⟩ := h; ⟨a, dx, _, rfl, e, tabFs_no h1 h2 h3⟩
theorem g_tabP {K : PySem.W.Frag} {H : Hp} {a : Addr} {t : Tab} {R : Addr → Prop} (h : AtTab K H a t) (q : R a) : ∃ a' dx fs, V.ref a = .ref a' ∧ H a' = some (.ins (ga K "Table") dx fs) ∧ R a' :=
  let ⟨dx, v, e, _⟩ := h; ⟨a, dx, _, rfl, e, q⟩
end Tk

end

section
/-! entries of a table -/
namespace Tk
open PySem PySem.Spec L2 RZ
def pairD (p : Int × Int) : PyData := .tuple [.int p.1, .int p.2]
def entRow (n l : Nat) : List (Int × Int) := (List.range (n - 1)).map fun (k : Nat) => ((l : Int), 1 + (k : Int))
def entriesN (n m : Nat) : List (Int × Int) := (List.range m).flatMap (entRow n)
theorem entriesN_succ (n m : Nat) : entriesN n (m + 1) = entriesN n m ++ entRow n m := by
  unfold entriesN
  rw [List.range_succ, List.flatMap_append]
  simp
theorem entRow_len (n l : Nat) : (entRow n l).length = n - 1 := by
  unfold entRow
  simp
theorem entries_len (n : Nat) : ∀ m, (entriesN n m).length = m * (n - 1)
  | 0 => by simp [entriesN]
  | m + 1 => by rw [entriesN_succ, List.length_append, entries_len n m, entRow_len, Nat.succ_mul]
theorem entries_mem {n m : Nat} {p : Int × Int} (h : p ∈ entriesN n m) : 0 ≤ p.1 ∧ p.1 < m ∧ 1 ≤ p.2 ∧ p.2 < n := by
  unfold entriesN at h
  obtain ⟨l, hl, h⟩ := List.mem_flatMap.mp h
  obtain ⟨k, hk, rfl⟩ := List.mem_map.mp h
  have h1 := List.mem_range.mp hl
  have h2 := List.mem_range.mp hk
  exact ⟨by show (0 : Int) ≤ (l : Int); omega, by show (l : Int) < m; omega, by show (1 : Int) ≤ 1 + (k : Int); omega, by show 1 + (k : Int) < n; omega⟩
theorem turn_set {rs : List (List Int)} {n : Int} {j : Nat} {r : List Int} (h : rs[j]? = some r) : turnRows rs (j : Int) n = rs.set j (turnRow r n) := by
  refine List.ext_getElem? fun i => ?_
  cases hi : rs[i]? with
  | none =>
    have hl := List.getElem?_eq_none_iff.mp hi
    rw [List.getElem?_eq_none (by rw [turn_len]; exact hl), List.getElem?_eq_none (by rw [List.length_set]; exact hl)]
  | some x =>
    rw [turn_at hi, List.getElem?_set]
    by_cases e : j = i
    · subst e
      rw [h] at hi
      cases hi
      obtain ⟨hl, _⟩ := List.getElem?_eq_some_iff.mp h
      simp [hl]
    · have e2 : ¬ ((i : Nat) : Int) = (j : Int) := by omega
      rw [if_neg e2, if_neg e]
      exact hi.symm
/-- an empty promise -/
theorem ok_none {P : Program} {w : World} {K : PySem.W.Frag} {mg : Str → Option Value} {base : Heap} {x : Str} {st : Stmt} {ps : List Str} {k n : Nat}
    (F : ∃ fd, FunD K x x (defArgs st) (defBody st) (defScope st) [] [] (He.fAd K (x, none)) fd) (hm : mg x = some (.ref (He.ga K x)))
    (hb : ∀ (kV doc pm : Value) (an : Option Addr) (cdv ct : Value) (us : List Value), us.length = ps.length → bindArgs (PySem.W.fnOf x x (defArgs st) (defBody st) (defScope st) .none kV doc pm an cdv ct) ⟨us, []⟩ = pure (ps.zip us)) :
    Ok P w K mg base x k ps (spL n fun _ _ _ _ => False) := by
  obtain ⟨fd, F⟩ := F
  exact ⟨fd, ⟨fun _ _ _ _ h => h.2.elim, fun _ _ _ _ _ _ _ _ _ _ _ _ _ h => h.2.elim⟩, F.kp, FunD.bindsN F hb, hm⟩
def Ty.isSeq : Ty → Bool
  | .tup => true
  | .lst => true
  | _ => false
theorem Ty.isSeq_or (n : Ty) : (n.isTup || n.isLst) = n.isSeq := by cases n <;> rfl
theorem r_isiTL {K : PySem.W.Frag} {H : Hp} {Q : VK} {x : V} {n : Ty} {tp : Addr} (h : AnyV K H x n) (ht : H tp = some (.tup [.ty "tuple", .ty "list"])) (q : Q (.bl n.isSeq) H) : rIsiT K [x, .ref tp] H Q := by
  rw [← Ty.isSeq_or] at q
  refine ⟨x, tp, _, _, [.type "tuple", .type "list"], _, rfl, ht, .cons (.ty _) (.cons (.ty _) .nil), h.ty, ?_, q⟩
  have h1 : PySem.W.kitOne K (.type n.name) (.type "tuple") = some n.isTup := kit_ty (by cases n <;> decide +kernel)
  have h2 : PySem.W.kitOne K (.type n.name) (.type "list") = some n.isLst := kit_ty (by cases n <;> decide +kernel)
  unfold PySem.W.kitAny
  rw [h1]
  cases e : n.isTup with
  | true => rfl
  | false =>
    show PySem.W.kitAny K (.type n.name) [.type "list"] = _
    unfold PySem.W.kitAny
    rw [h2]
    cases n.isLst <;> rfl
/-- data that _law_alike looks at: of a depth, no dicts -/
inductive OkA : Nat → PyData → Prop
  | non {d : Nat} : OkA (d + 1) .none
  | bool {d : Nat} (b : Bool) : OkA (d + 1) (.bool b)
  | int {d : Nat} (i : Int) : OkA (d + 1) (.int i)
  | str {d : Nat} (z : Str) : OkA (d + 1) (.str z)
  | tup {d : Nat} {ds : List PyData} (hl : ds.length < 1000000) (h : ∀ e ∈ ds, OkA d e) : OkA (d + 1) (.tuple ds)
  | lst {d : Nat} {ds : List PyData} (hl : ds.length < 1000000) (h : ∀ e ∈ ds, OkA d e) : OkA (d + 1) (.list ds)
end Tk

end

section
/-! turned round and back -/
namespace Tk
open PySem PySem.Spec L2 RZ
theorem turnRow_iff {r : List Int} {n : Int} : n ∈ turnRow r n ↔ n ∉ r := by
  unfold turnRow
  by_cases h : n ∈ r
  · rw [if_pos h]
    simp [h]
  · rw [if_neg h]
    have := (sortI_perm (r ++ [n])).mem_iff (a := n)
    simp [h, this]
theorem turnRow_ne {r : List Int} {n : Int} : turnRow r n ≠ r := fun e => by
  have h := turnRow_iff (r := r) (n := n)
  rw [e] at h
  exact (iff_not_self h).elim
theorem pw_eq {l s : List Int} (hp : s.Perm l) (hs : s.Pairwise (· < ·)) (hl : l.Pairwise (· < ·)) : s = l :=
  List.Perm.eq_of_pairwise (le := (· ≤ ·)) (fun a b _ _ h1 h2 => Int.le_antisymm h1 h2) (hs.imp Int.le_of_lt) (hl.imp Int.le_of_lt) hp
theorem turnRow_back {r : List Int} {n : Int} (h : r.Pairwise (· < ·)) : turnRow (turnRow r n) n = r := by
  have pw := turnRow_pw (n := n) (turnRow_pw (n := n) h)
  refine pw_eq ?_ pw h
  have nd1 : (turnRow (turnRow r n) n).Nodup := pw.imp fun h => Int.ne_of_lt h
  have nd2 : r.Nodup := h.imp fun h => Int.ne_of_lt h
  refine (List.perm_ext_iff_of_nodup nd1 nd2).mpr fun a => ?_
  by_cases ea : a = n
  · subst ea
    rw [turnRow_iff, turnRow_iff, Classical.not_not]
  · have key : ∀ {s : List Int}, a ∈ turnRow s n ↔ a ∈ s := by
      intro s
      unfold turnRow
      by_cases hs : n ∈ s
      · rw [if_pos hs]
        simp [ea]
      · rw [if_neg hs]
        have := (sortI_perm (s ++ [n])).mem_iff (a := a)
        simp [this, ea]
    rw [key, key]
theorem turnTab_ne {t : Tab} {j : Nat} {n : Int} (hj : j < t.rows.length) : turnTab t (j : Int) n ≠ t := fun e => by
  have h : turnRows t.rows (j : Int) n = t.rows := congrArg Tab.rows e
  have hr : t.rows[j]? = some t.rows[j] := List.getElem?_eq_getElem hj
  have h2 := turn_at (last := (j : Int)) (n := n) hr
  rw [h, hr, if_pos rfl] at h2
  exact turnRow_ne (Option.some.inj h2).symm
theorem turnTab_back {t : Tab} (g : t.Good) {j : Nat} {n : Int} (hj : j < t.rows.length) : turnTab (turnTab t (j : Int) n) (j : Int) n = t := by
  have hr : t.rows[j]? = some t.rows[j] := List.getElem?_eq_getElem hj
  have e1 := turn_set (n := n) hr
  have hr2 : (turnRows t.rows (j : Int) n)[j]? = some (turnRow t.rows[j] n) := by
    rw [turn_at hr, if_pos rfl]
  have e2 : turnRows (turnRows t.rows (j : Int) n) (j : Int) n = t.rows := by
    rw [turn_set hr2, turnRow_back (asc_pw.mp (g.row _ (List.getElem_mem hj)).2), e1, List.set_set]
    refine List.ext_getElem? fun i => ?_
    rw [List.getElem?_set]
    by_cases e : j = i
    · subst e
      rw [if_pos rfl, if_pos hj]
      exact hr.symm
    · rw [if_neg e]
  show Tab.mk (turnRows (turnRows t.rows (j : Int) n) (j : Int) n) t.spare t.fate = t
  rw [e2]
end Tk

end

section
/-! dicts whose keys are nested tuples without texts -/
namespace Tk
open PySem PySem.Spec L2 RZ PyProof.Rows
open He (ga)
mutual
/-- no text in it -/
def nkB : NestedKey → Bool
  | .none => true
  | .num _ => true
  | .text _ => false
  | .tup ks => nkBs ks
def nkBs : List NestedKey → Bool
  | [] => true
  | k :: ks => nkB k && nkBs ks
end
mutual
theorem nk_hash (w w' : World) : ∀ k : NestedKey, nkB k = true → k.hash w = k.hash w'
  | .none, _ => rfl
  | .num _, _ => rfl
  | .text _, h => by simp [nkB] at h
  | .tup ks, h => by
    rw [nkB] at h
    rw [NestedKey.hash, NestedKey.hash, nk_hashes w w' ks h]
theorem nk_hashes (w w' : World) : ∀ ks : List NestedKey, nkBs ks = true → NestedKey.hashes w ks = NestedKey.hashes w' ks
  | [], _ => rfl
  | k :: ks, h => by
    rw [nkBs, Bool.and_eq_true] at h
    rw [NestedKey.hashes, NestedKey.hashes, nk_hash w w' k h.1, nk_hashes w w' ks h.2]
end
mutual
inductive Ky (K : PySem.W.Frag) (H : Hp) : V → NestedKey → Prop
  | non : Ky K H .non .none
  | bl (b : Bool) : Ky K H (.bl b) (.num (if b = true then 1 else 0))
  | int (i : Int) : Ky K H (.int i) (.num i)
  | tup {a : Addr} {xs : List V} {ks : List NestedKey} : SqT K H a xs → KyL K H xs ks → Ky K H (.ref a) (.tup ks)
inductive KyL (K : PySem.W.Frag) (H : Hp) : List V → List NestedKey → Prop
  | nil : KyL K H [] []
  | cons {v : V} {vs : List V} {k : NestedKey} {ks : List NestedKey} : Ky K H v k → KyL K H vs ks → KyL K H (v :: vs) (k :: ks)
end
section
variable {K : PySem.W.Frag} {Pf : Addr → Str → Prop} {S : List Addr} {H H' : Hp}
mutual
theorem Ky.fr (F : FrG Pf S H H') : ∀ {v : V} {k : NestedKey}, Ky K H v k → Ky K H' v k
  | _, _, .non => .non
  | _, _, .bl b => .bl b
  | _, _, .int i => .int i
  | _, _, .tup h t => .tup (F.sqt h) (KyL.fr F t)
theorem KyL.fr (F : FrG Pf S H H') : ∀ {vs : List V} {ks : List NestedKey}, KyL K H vs ks → KyL K H' vs ks
  | _, _, .nil => .nil
  | _, _, .cons h t => .cons (Ky.fr F h) (KyL.fr F t)
end
end
section
variable {X : Cx} {pins : List (Addr × Obj)} {σ : L2.St} {H : Hp} {s : Shared}
mutual
theorem ky_is (I : Inv X pins σ H s) : ∀ (k : NestedKey) (v : V) (u : Value), Ky X.K H v k → RelV v u → NestedIs s.heap k u
  | .none, _, _, .non, r => by cases r; exact .none
  | .num _, _, _, .bl b, r => by cases r; exact .bool rfl
  | .num _, _, _, .int i, r => by obtain ⟨t, rfl⟩ := r; exact .int _ _
  | .tup ks, _, _, .tup h t, r => by
    cases r
    obtain ⟨its, rv, ⟨o, h1, h2, n, h3⟩, _⟩ := I.tuple h
    exact .tup h1 h2 h3 (by simpa using ky_all I ks _ its t rv)
theorem ky_all (I : Inv X pins σ H s) : ∀ (ks : List NestedKey) (vs : List V) (us : List Value), KyL X.K H vs ks → Vals vs us → NestedAll s.heap ks us
  | [], _, _, .nil, r => by cases r; exact .nil
  | k :: ks, _, _, .cons h t, r => by
    cases r with
    | cons r1 r2 => exact .cons (ky_is I k _ _ h r1) (ky_all I ks _ _ t r2)
end
end
/-- at a: a dict of the entries xs -/
def NatO (a : Addr) (xs : List (NestedKey × Addr × Value)) : HO := .ext fun h => ∃ o es ep, h.get? a = some o ∧ o.ExactDict ∧ o.data = .dict es ep ∧ (∀ P w, es.toList = xs.map (entryOfKey (nestedKind P w))) ∧ (xs.map (·.1)).Nodup ∧ (a == sysModules) = false
theorem nat_ne_code {a : Addr} {xs : List (NestedKey × Addr × Value)} (q : Str) : NatO a xs ≠ LamX.CodeO a q := fun z => by
  unfold NatO LamX.CodeO at z
  have e := HO.ext.inj z
  let ob : Obj := { cls := .none, data := .fields #[.none, .str q 0] }
  let h0 : Heap := { objs := Array.replicate (a + 1) ob }
  have h1 : h0.get? a = some ob := by
    unfold Heap.get?
    have : h0.objs[a]? = some ob := by
      show (Array.replicate (a + 1) ob)[a]? = some ob
      simp
    rw [this]
  have h2 : ∃ (oc : Obj) (vs : Array Value) (t : Tok), h0.get? a = some oc ∧ oc.data = .fields vs ∧ vs[1]? = some (.str q t) := ⟨ob, _, 0, h1, rfl, rfl⟩
  rw [← congrFun e h0] at h2
  obtain ⟨o, es, ep, g1, _, g3, _⟩ := h2
  rw [h1] at g1
  cases g1
  cases g3
/-- what is told of the entries -/
inductive NatR (K : PySem.W.Frag) (H : Hp) : List (NestedKey × V) → List (NestedKey × Addr × Value) → Prop
  | nil : NatR K H [] []
  | cons {k : NestedKey} {v : V} {b : Addr} {u : Value} {kvs : List (NestedKey × V)} {xs : List (NestedKey × Addr × Value)} : Ky K H (.ref b) k → nkB k = true → k.depth ≤ 8 → RelV v u → NatR K H kvs xs → NatR K H ((k, v) :: kvs) ((k, b, u) :: xs)
section
variable {K : PySem.W.Frag} {Pf : Addr → Str → Prop} {S : List Addr} {H H' : Hp} {kvs : List (NestedKey × V)} {xs : List (NestedKey × Addr × Value)}
theorem NatR.fr (F : FrG Pf S H H') : ∀ {kvs : List (NestedKey × V)} {xs : List (NestedKey × Addr × Value)}, NatR K H kvs xs → NatR K H' kvs xs
  | _, _, .nil => .nil
  | _, _, .cons h1 h2 h3 h4 t => .cons (h1.fr F) h2 h3 h4 (NatR.fr F t)
theorem NatR.length : ∀ {kvs : List (NestedKey × V)} {xs : List (NestedKey × Addr × Value)}, NatR K H kvs xs → kvs.length = xs.length
  | _, _, .nil => rfl
  | _, _, .cons _ _ _ _ t => congrArg Nat.succ (NatR.length t)
theorem NatR.val (k : NestedKey) : ∀ {kvs : List (NestedKey × V)} {xs : List (NestedKey × Addr × Value)}, NatR K H kvs xs → RelO (valV kvs k) ((atKey xs k).map (·.2))
  | _, _, .nil => True.intro
  | _, _, .cons (k := k') (v := v) (b := b) (u := u) (kvs := kvs) (xs := xs) _ _ _ h4 t => by
    by_cases e : k' = k
    · rw [valV_pos e]
      have : atKey ((k', b, u) :: xs) k = some (b, u) := by simp [atKey, List.find?_cons, e]
      rw [this]
      exact h4
    · rw [valV_neg e]
      have : atKey ((k', b, u) :: xs) k = atKey xs k := by simp [atKey, List.find?_cons, e]
      rw [this]
      exact NatR.val k t
theorem NatR.app : ∀ {kvs kws : List (NestedKey × V)} {xs ys : List (NestedKey × Addr × Value)}, NatR K H kvs xs → NatR K H kws ys → NatR K H (kvs ++ kws) (xs ++ ys)
  | _, _, _, _, .nil, h => h
  | _, _, _, _, .cons h1 h2 h3 h4 t, h => .cons h1 h2 h3 h4 (NatR.app t h)
theorem NatR.mapPut {k : NestedKey} {v : V} {u : Value} (r : RelV v u) : ∀ {kvs : List (NestedKey × V)} {xs : List (NestedKey × Addr × Value)}, NatR K H kvs xs → NatR K H (kvs.map fun kv => if kv.1 = k then (kv.1, v) else kv) (xs.map (putAt k u))
  | _, _, .nil => .nil
  | _, _, .cons (k := k') h1 h2 h3 h4 t => by
    rw [List.map_cons, List.map_cons]
    unfold putAt
    by_cases e : k' = k
    · rw [if_pos e, if_pos e]
      exact .cons h1 h2 h3 r (NatR.mapPut r t)
    · rw [if_neg e, if_neg e]
      exact .cons h1 h2 h3 h4 (NatR.mapPut r t)
theorem NatR.put {k : NestedKey} {v : V} {b : Addr} {u : Value} (t : NatR K H kvs xs) (h1 : Ky K H (.ref b) k) (h2 : nkB k = true) (h3 : k.depth ≤ 8) (h4 : RelV v u) : NatR K H (putK kvs k v) (storedH xs k b u) := by
  have e := (t.val k).isSome_eq
  rw [Option.isSome_map] at e
  unfold putK storedH
  rw [valV_any, e]
  split
  · exact t.mapPut h4
  · exact t.app (.cons h1 h2 h3 h4 .nil)
theorem NatR.plain : ∀ {kvs : List (NestedKey × V)} {xs : List (NestedKey × Addr × Value)}, NatR K H kvs xs → ∀ x ∈ xs, nkB x.1 = true
  | _, _, .nil, _, h => by cases h
  | _, _, .cons _ h2 _ _ t, x, h => by
    rcases List.mem_cons.mp h with rfl | h
    · exact h2
    · exact NatR.plain t x h
theorem entry_eq {P P' : Program} {w w' : World} {xs : List (NestedKey × Addr × Value)} (h : ∀ x ∈ xs, nkB x.1 = true) : xs.map (entryOfKey (nestedKind P w)) = xs.map (entryOfKey (nestedKind P' w')) := by
  refine List.map_congr_left fun x hx => ?_
  show DictEntry.mk (x.1.hash w) _ _ = DictEntry.mk (x.1.hash w') _ _
  rw [nk_hash w w' x.1 (h x hx)]
end
section
variable {X : Cx} {pins : List (Addr × Obj)} {σ : L2.St} {H : Hp} {s : Shared} {a : Addr} {kvs : List (NestedKey × V)} {xs : List (NestedKey × Addr × Value)}
theorem nat_is (I : Inv X pins σ H s) : ∀ {kvs : List (NestedKey × V)} {xs : List (NestedKey × Addr × Value)}, NatR X.K H kvs xs → ∀ x ∈ xs, (nestedKind X.prog X.w).is s.heap x.1 x.2.1
  | _, _, .nil, _, h => by cases h
  | _, _, .cons h1 _ h3 _ t, x, h => by
    rcases List.mem_cons.mp h with rfl | h
    · exact ⟨ky_is I _ _ _ h1 rfl, h3⟩
    · exact nat_is I t x h
theorem nat_of (I : Inv X pins σ H s) (e : H a = some (NatO a xs)) (r : NatR X.K H kvs xs) : s.heap.DictOfH (nestedKind X.prog X.w) a xs ∧ (a == sysModules) = false := by
  obtain ⟨⟨o, es, ep, h1, h2, h3, h4, h5, h6⟩, _⟩ := I.hok a _ e
  exact ⟨⟨o, es, ep, h1, h2, h3, h4 _ _, nat_is I r, h5⟩, h6⟩
theorem nat_ok {P : Program} {w : World} {H : Hp} {h : Heap} (hp : ∀ x ∈ xs, nkB x.1 = true) (hd : (a == sysModules) = false) (dd : h.DictOfH (nestedKind P w) a xs) : ObjOk P w H h a (NatO a xs) := by
  obtain ⟨o, es, ep, h1, h2, h3, h4, _, h5⟩ := dd
  refine ⟨⟨o, es, ep, h1, h2, h3, fun P' w' => h4.trans (entry_eq hp), h5, hd⟩, ⟨o, h1⟩, fun g g' ⟨o, es, ep, g1, r⟩ k => ⟨o, es, ep, k _ g1, r⟩⟩
theorem room_n {A : Around} (hu : A.units + 65 < cLine) : (nestedKind X.prog X.w).room A.in1 := by
  show A.in1.units + 8 < cLine
  rw [Around.in1_units]
  omega
end
/-! ### readings -/
def NGet (K : PySem.W.Frag) (H : Hp) (a : Addr) (y : V) (r : Option V) : Prop := ∃ kvs xs k b, H a = some (NatO a xs) ∧ NatR K H kvs xs ∧ y = .ref b ∧ Ky K H (.ref b) k ∧ k.depth ≤ 8 ∧ r = valV kvs k
def rIxN (K : PySem.W.Frag) : R2 := fun x y H Q => ∃ a v, x = .ref a ∧ NGet K H a y (some v) ∧ Q v H
def rInN (K : PySem.W.Frag) : R2 := fun y x H Q => ∃ a o, x = .ref a ∧ NGet K H a y o ∧ Q (.bl o.isSome) H
def rSetN (K : PySem.W.Frag) : V → V → V → Hp → (Hp → Prop) → Prop := fun x y v H Q => ∃ a kvs xs k b, x = .ref a ∧ H a = some (NatO a xs) ∧ NatR K H kvs xs ∧ y = .ref b ∧ Ky K H (.ref b) k ∧ nkB k = true ∧ k.depth ≤ 8 ∧ kvs.length < sizeLine ∧
  ∀ u, RelV v u → Q (upd H a (NatO a (storedH xs k b u)))
def tDNewN : TE := fun _ H Q => ∀ p, H p = none → Q (.ref p) (upd H p (NatO p []))
section
variable {X : Cx} {pos : Pos}
theorem pe_dnewN : PE X (.Dict [] [] pos) tDNewN := ⟨fun pins s σ H Q I h =>
  wpAny_Dict_empty ⟨.ref s.heap.objs.size, _, I.laid (a := s.heap.objs.size) (o := NatO s.heap.objs.size []) (t' := s.toks) (fun _ _ q => Heap.get?_push_of_some _ q) (Nat.le_refl _)
    (nat_ok (P := X.prog) (w := X.w) (fun _ h => by cases h) (beq_eq_false_iff_ne.mpr (Ne.symm (Nat.ne_of_lt I.big))) (Heap.DictOfH.new s.heap)), rfl, h _ (I.hok.fresh (Nat.le_refl _))⟩⟩
theorem ix_N (hu : X.A.units + 65 < cLine) : IxR X (rIxN X.K) := by
  intro value slice pins s σ H x y v u Q I rx ry h hs
  obtain ⟨a, w, rfl, ⟨kvs, xs, k, b, h1, h2, rfl, h4, h5, h6⟩, q⟩ := h
  cases rx
  cases ry
  obtain ⟨dd, hd⟩ := nat_of I h1 h2
  obtain ⟨w', hw, rw'⟩ := RelO.some_of (v := w) (o := (atKey xs k).map (·.2)) (by rw [h6]; exact h2.val k)
  obtain ⟨p, hp, hp2⟩ := Option.map_eq_some_iff.mp hw
  refine tail_any dd.typeIs PySem.F.slot_dict_getitem.lookup (wpAny_getItem_heap (room_n (X := X) hu) ⟨ky_is I _ _ _ h4 rfl, h5⟩ dd hp ?_) hs
  rw [hp2]
  exact ⟨w, H, I.tok _, rw', q⟩
theorem op_inN (hu : X.A.units + 65 < cLine) : OpR X (compareOp .In) (rInN X.K) := by
  intro pins s σ H x y v u Q I rx ry h
  obtain ⟨a, o, rfl, ⟨kvs, xs, k, b, h1, h2, rfl, h4, h5, h6⟩, q⟩ := h
  cases ry
  cases rx
  obtain ⟨dd, hd⟩ := nat_of I h1 h2
  refine wpAny_in_heap (room_n (X := X) hu) ⟨ky_is I _ _ _ h4 rfl, h5⟩ hd dd ?_
  have z := (h2.val k).isSome_eq
  rw [Option.isSome_map] at z
  rw [← z, ← h6]
  exact ⟨.bl o.isSome, H, I.tok _, rfl, q⟩
theorem set_N (hu : X.A.units + 65 < cLine) : PSet X (rSetN X.K) := by
  intro pins s σ H o i v ov iv u Q I ro ri rv h
  obtain ⟨a, kvs, xs, k, b, rfl, h1, h2, rfl, h4, h5, h6, h7, q⟩ := h
  cases ro
  cases ri
  obtain ⟨dd, hd⟩ := nat_of I h1 h2
  have hz : xs.length ≤ sizeLine := by rw [← h2.length]; omega
  refine wpAny_setItem_heap (hsz := hz) (room_n (X := X) hu) ⟨ky_is I _ _ _ h4 rfl, h6⟩ dd fun h' dd' hs => ?_
  obtain ⟨o', es, ep, g1, gr⟩ := id dd'
  exact ⟨_, d_write I (by rw [h1]; exact True.intro) hs ⟨_, g1⟩ (nat_ok ((h2.put h4 h5 h6 rv).plain) hd dd'), q u rv⟩
end
end Tk

end

section
/-! data with lists, dicts, tables, the draws' handle; how values stand for it -/
namespace Tk
open PySem PySem.Spec L2 RZ
open He (ga)
inductive Dt where
  | non | bl (b : Bool) | int (i : Int) | str (z : Str) | ty (n : String) | cls (x : Str)
  | tup (l : List Dt) | lst (l : List Dt)
  | dK (kvs : List (Key × V)) | dT (kvs : List (List Key × V)) | dN (kvs : List (NestedKey × V))
  | err (a : Addr) (x : Str) (d : Option (Addr × Str × V)) | fn (f c : Addr) (q : Str) (v : V) (d : Dt)
  | two (l m : List Dt) | gam (t f : Dt) (l m : List Dt) | nst (l : List (List (List Dt)))
  | tab (t : Tab) | hnd | scr (ns : List Int) | any
instance : Inhabited Dt := ⟨.non⟩
/-- the draws' handle; the tables of code objects in which lambdas are made -/
structure Hd where
  d : Option (Addr × Addr)
  T : List (Addr × Str)
structure Cn where
  L : List Addr
  S : List Addr
  h : Hd
def Cn.hd (c : Cn) : List Addr := match c.h.d with
  | none => []
  | some (a, l) => [a, l]
def Cn.av (c : Cn) : List Addr := c.L ++ (c.S ++ c.hd)
def Cn.add (c : Cn) (p : Addr) : Cn := ⟨c.L, p :: c.S, c.h⟩
def Cn.addL (c : Cn) (p : Addr) : Cn := ⟨p :: c.L, c.S, c.h⟩
def Cn.addLs (c : Cn) (fp : List Addr) : Cn := ⟨fp ++ c.L, c.S, c.h⟩
theorem Cn.addLs_av {c : Cn} {fp : List Addr} {b : Addr} : b ∈ (c.addLs fp).av ↔ b ∈ fp ∨ b ∈ c.av := by
  show b ∈ (fp ++ c.L) ++ (c.S ++ c.hd) ↔ b ∈ fp ∨ b ∈ c.L ++ (c.S ++ c.hd)
  rw [List.append_assoc, List.mem_append]
theorem hd_some {c : Cn} {a l : Addr} (e : c.h.d = some (a, l)) : c.hd = [a, l] := by unfold Cn.hd; rw [e]
theorem Cn.av_iff {c : Cn} {b : Addr} : b ∈ c.av ↔ b ∈ c.L ∨ b ∈ c.S ∨ b ∈ c.hd := by
  unfold Cn.av
  rw [List.mem_append, List.mem_append]
theorem Cn.hd_av {c : Cn} {b : Addr} (h : b ∈ c.hd) : b ∈ c.av := Cn.av_iff.mpr (.inr (.inr h))
theorem Cn.S_av {c : Cn} {b : Addr} (h : b ∈ c.S) : b ∈ c.av := Cn.av_iff.mpr (.inr (.inl h))
theorem Cn.L_av {c : Cn} {b : Addr} (h : b ∈ c.L) : b ∈ c.av := Cn.av_iff.mpr (.inl h)
theorem Cn.add_av {c : Cn} {p b : Addr} : b ∈ (c.add p).av ↔ b = p ∨ b ∈ c.av := by
  rw [Cn.av_iff, Cn.av_iff]
  show b ∈ c.L ∨ b ∈ p :: c.S ∨ b ∈ c.hd ↔ _
  rw [List.mem_cons]
  exact ⟨fun h => by rcases h with h | (h | h) | h <;> simp [h], fun h => by rcases h with h | h | h | h <;> simp [h]⟩
theorem Cn.addL_av {c : Cn} {p b : Addr} : b ∈ (c.addL p).av ↔ b = p ∨ b ∈ c.av := by
  rw [Cn.av_iff, Cn.av_iff]
  show b ∈ p :: c.L ∨ b ∈ c.S ∨ b ∈ c.hd ↔ _
  rw [List.mem_cons]
  exact ⟨fun h => by rcases h with (h | h) | h | h <;> simp [h], fun h => by rcases h with h | h | h | h <;> simp [h]⟩
/-- nothing in it refers to the heap -/
def scB : V → Bool
  | .non => true
  | .bl _ => true
  | .int _ => true
  | .str _ => true
  | _ => false
def Scr (K : PySem.W.Frag) (c : Cn) (H : Hp) (a : Addr) (xs : List V) : Prop := (H a = some (.lst xs) ∧ a ∉ c.av) ∨ (∃ o, H a = some (.frz o (.lst xs))) ∨
  ∃ (o : Obj) (its : Array Value) (n : Nat), K.lookup a = some o ∧ o.cls = .type "list" ∧ o.dict = none ∧ o.data = .seq its n ∧ its.size ≤ sizeLine ∧ Vals xs its.toList
mutual
inductive Rl (K : PySem.W.Frag) (c : Cn) (H : Hp) : V → Dt → Prop
  | non : Rl K c H .non .non
  | bl (b : Bool) : Rl K c H (.bl b) (.bl b)
  | int (i : Int) : Rl K c H (.int i) (.int i)
  | str (z : Str) : Rl K c H (.str z) (.str z)
  | ty (n : String) : Rl K c H (.ty n) (.ty n)
  | cls (x : Str) : Rl K c H (.ref (ga K x)) (.cls x)
  | tup {a : Addr} {xs : List V} {ds : List Dt} : SqT K H a xs → RlL K c H xs ds → Rl K c H (.ref a) (.tup ds)
  | lst {a : Addr} {xs : List V} {ds : List Dt} : H a = some (.lst xs) → a ∉ c.av → RlL K c H xs ds → Rl K c H (.ref a) (.lst ds)
  | dK {a : Addr} {kvs : List (Key × V)} : H a = some (.dK kvs) → a ∉ c.av → (kvs.all fun p => scB p.2) = true → Rl K c H (.ref a) (.dK kvs)
  | dT {a : Addr} {kvs : List (List Key × V)} : H a = some (.dT kvs) → a ∉ c.av → (kvs.all fun p => scB p.2) = true → Rl K c H (.ref a) (.dT kvs)
  | dN {a : Addr} {kvs : List (NestedKey × V)} {xs : List (NestedKey × Addr × Value)} : H a = some (NatO a xs) → a ∉ c.av → NatR K H kvs xs → (kvs.all fun p => scB p.2) = true → Rl K c H (.ref a) (.dN kvs)
  | two {t p q : Addr} {xs ys : List V} {ds es : List Dt} : SqT K H t [.ref p, .ref q] → H p = some (.lst xs) → p ∉ c.av → RlL K c H xs ds → H q = some (.lst ys) → q ∉ c.av → RlL K c H ys es → Rl K c H (.ref t) (.two ds es)
  | gam {g dx s l : Addr} {vt vf : V} {dt df : Dt} {xs ys : List V} {ds es : List Dt} : H g = some (.ins (ga K "Game") dx [("table", vt), ("found", vf), ("stands", .ref s), ("script", .ref l)]) → g ∉ c.av → Rl K c H vt dt → Rl K c H vf df → H s = some (.lst xs) → s ∉ c.av → RlL K c H xs ds → H l = some (.lst ys) → l ∉ c.av → RlL K c H ys es → Rl K c H (.ref g) (.gam dt df ds es)
  | tab {a : Addr} {t : Tab} : AtTab K H a t → a ∉ c.av → Rl K c H (.ref a) (.tab t)
  | hnd {a l : Addr} : c.h.d = some (a, l) → Drw H a l → Rl K c H (.ref a) .hnd
  | scr {a : Addr} {ns : List Int} : Scr K c H a (ns.map V.int) → Rl K c H (.ref a) (.scr ns)
  | any {v : V} : Rl K c H v .any
  | err0 {a : Addr} {x : Str} : Rl K c H (.ref a) (.err a x none)
  | err1 {a b : Addr} {x n : Str} {v : V} : H b = some (.xd [(n, v)]) → scB v = true → Rl K c H (.ref a) (.err a x (some (b, n, v)))
  | fn {f g : Addr} {q : Str} {v : V} {d : Dt} : H g = some (LamX.CodeO g q) → Rl K c H v d → Rl K c H (.ref f) (.fn f g q v d)
inductive RlL (K : PySem.W.Frag) (c : Cn) (H : Hp) : List V → List Dt → Prop
  | nil : RlL K c H [] []
  | cons {v : V} {vs : List V} {d : Dt} {ds : List Dt} : Rl K c H v d → RlL K c H vs ds → RlL K c H (v :: vs) (d :: ds)
end
/-- the tables that are told of -/
abbrev Cn.P (c : Cn) : Addr → Str → Prop := fun b q => (b, q) ∈ c.h.T
/-- what may have been changed: all in c -/
def Fm (c : Cn) (H H' : Hp) : Prop := FrG c.P c.av H H' ∧ ∀ a l, c.h.d = some (a, l) → Drw H a l → Drw H' a l
/-- .. only what is drawn from -/
def Fh (c : Cn) (H H' : Hp) : Prop := FrG c.P c.hd H H' ∧ ∀ a l, c.h.d = some (a, l) → Drw H a l → Drw H' a l
section
variable {K : PySem.W.Frag} {c c' : Cn} {H H' H1 H2 : Hp} {v : V} {d : Dt} {vs : List V} {ds : List Dt} {a p : Addr}
theorem Fh.fm (F : Fh c H H') : Fm c H H' := ⟨F.1.mono fun _ h => Cn.hd_av h, F.2⟩
theorem Fh.refl : Fh c H H := ⟨FrG.refl, fun _ _ _ h => h⟩
theorem Fh.trans (F : Fh c H H1) (G : Fh c H1 H2) : Fh c H H2 := ⟨F.1.trans G.1, fun a l e h => G.2 a l e (F.2 a l e h)⟩
theorem Fm.trans (F : Fm c H H1) (G : Fm c H1 H2) : Fm c H H2 := ⟨F.1.trans G.1, fun a l e h => G.2 a l e (F.2 a l e h)⟩
theorem Fh.of0 (F : Fr [] H H') : Fh c H H' := ⟨F.weak.nil, fun a l e h => h.fr0 F⟩
theorem Fh.ofG (F : FrG c.P [] H H') : Fh c H H' := ⟨F.nil, fun a l e h => h.fr0 F⟩
theorem Fh.new {o : HO} (n : H p = none) : Fh c H (upd H p o) := Fh.of0 (Fr.new n)
theorem Fh.add (F : Fh c H H') : Fh (c.add p) H H' := F
theorem Fh.ch (F : Fh c H H') (e : c'.h = c.h) : Fh c' H H' := ⟨by
  have : c'.hd = c.hd := by unfold Cn.hd; rw [e]
  have e2 : c'.P = c.P := by unfold Cn.P; rw [e]
  rw [this, e2]; exact F.1, fun a l h => F.2 a l (e ▸ h)⟩
theorem Scr.fm {xs : List V} (F : Fm c H H') : Scr K c H a xs → Scr K c H' a xs
  | .inl ⟨h1, h2⟩ => .inl ⟨F.1.lst h2 h1, h2⟩
  | .inr (.inl ⟨o, h⟩) => .inr (.inl ⟨o, F.1.frz _ _ _ h⟩)
  | .inr (.inr h) => .inr (.inr h)
theorem Scr.sq {xs : List V} : Scr K c H a xs → SqL K H a xs
  | .inl ⟨h1, _⟩ => SqL.of h1
  | .inr (.inl h) => .inl (.inr h)
  | .inr (.inr h) => .inr h
mutual
theorem Rl.fm (F : Fm c H H') : ∀ {v : V} {d : Dt}, Rl K c H v d → Rl K c H' v d
  | _, _, .non => .non
  | _, _, .bl b => .bl b
  | _, _, .int i => .int i
  | _, _, .str z => .str z
  | _, _, .ty n => .ty n
  | _, _, .cls x => .cls x
  | _, _, .tup h t => .tup (F.1.sqt h) (RlL.fm F t)
  | _, _, .lst h n t => .lst (F.1.lst n h) n (RlL.fm F t)
  | _, _, .dK h n t => .dK (F.1.dK n h) n t
  | _, _, .dT h n t => .dT (F.1.keep _ _ n (fun _ z => by cases z) h) n t
  | _, _, .dN h n r t => .dN (F.1.keep _ _ n (fun _ z => by unfold NatO at z; cases z) h) n (r.fr F.1) t
  | _, _, .two h h2 n2 t2 h3 n3 t3 => .two (F.1.sqt h) (F.1.lst n2 h2) n2 (RlL.fm F t2) (F.1.lst n3 h3) n3 (RlL.fm F t3)
  | _, _, .gam h n r1 r2 h2 n2 t2 h3 n3 t3 => .gam (F.1.ins n h) n (Rl.fm F r1) (Rl.fm F r2) (F.1.lst n2 h2) n2 (RlL.fm F t2) (F.1.lst n3 h3) n3 (RlL.fm F t3)
  | _, _, .tab h n => .tab (h.fr F.1 n) n
  | _, _, .hnd e h => .hnd e (F.2 _ _ e h)
  | _, _, .scr h => .scr (h.fm F)
  | _, _, .any => .any
  | _, _, .err0 => .err0
  | _, _, .err1 h e => .err1 (F.1.xd h) e
  | _, _, .fn h r => .fn (F.1.code h) (Rl.fm F r)
theorem RlL.fm (F : Fm c H H') : ∀ {vs : List V} {ds : List Dt}, RlL K c H vs ds → RlL K c H' vs ds
  | _, _, .nil => .nil
  | _, _, .cons h t => .cons (Rl.fm F h) (RlL.fm F t)
end
theorem Rl.fh (F : Fh c H H') (h : Rl K c H v d) : Rl K c H' v d := h.fm F.fm
theorem RlL.fh (F : Fh c H H') (h : RlL K c H vs ds) : RlL K c H' vs ds := h.fm F.fm
/-! another context: less to be kept away from -/
mutual
theorem Rl.to (e : c'.h = c.h) (hs : ∀ b o, H b = some o → b ∉ c.av → b ∉ c'.av) : ∀ {v : V} {d : Dt}, Rl K c H v d → Rl K c' H v d
  | _, _, .non => .non
  | _, _, .bl b => .bl b
  | _, _, .int i => .int i
  | _, _, .str z => .str z
  | _, _, .ty n => .ty n
  | _, _, .cls x => .cls x
  | _, _, .tup h t => .tup h (RlL.to e hs t)
  | _, _, .lst h n t => .lst h (hs _ _ h n) (RlL.to e hs t)
  | _, _, .dK h n t => .dK h (hs _ _ h n) t
  | _, _, .dT h n t => .dT h (hs _ _ h n) t
  | _, _, .dN h n r t => .dN h (hs _ _ h n) r t
  | _, _, .two h h2 n2 t2 h3 n3 t3 => .two h h2 (hs _ _ h2 n2) (RlL.to e hs t2) h3 (hs _ _ h3 n3) (RlL.to e hs t3)
  | _, _, .gam h n r1 r2 h2 n2 t2 h3 n3 t3 => .gam h (hs _ _ h n) (Rl.to e hs r1) (Rl.to e hs r2) h2 (hs _ _ h2 n2) (RlL.to e hs t2) h3 (hs _ _ h3 n3) (RlL.to e hs t3)
  | _, _, .tab h n => .tab h (let ⟨_, _, q, _⟩ := h; hs _ _ q n)
  | _, _, .hnd z h => .hnd ((congrArg Hd.d e).trans z) h
  | _, _, .scr h => .scr (match h with
    | .inl ⟨h1, h2⟩ => .inl ⟨h1, hs _ _ h1 h2⟩
    | .inr h => .inr h)
  | _, _, .any => .any
  | _, _, .err0 => .err0
  | _, _, .err1 h e => .err1 h e
  | _, _, .fn h r => .fn h (Rl.to e hs r)
theorem RlL.to (e : c'.h = c.h) (hs : ∀ b o, H b = some o → b ∉ c.av → b ∉ c'.av) : ∀ {vs : List V} {ds : List Dt}, RlL K c H vs ds → RlL K c' H vs ds
  | _, _, .nil => .nil
  | _, _, .cons h t => .cons (Rl.to e hs h) (RlL.to e hs t)
end
theorem to_add (n : H p = none) : ∀ b o, H b = some o → b ∉ c.av → b ∉ (c.add p).av := fun b o h nb m => by
  rcases Cn.add_av.mp m with e | m
  · rw [e, n] at h; cases h
  · exact nb m
theorem to_sub (hs : ∀ b ∈ c'.av, b ∈ c.av) : ∀ b o, H b = some o → b ∉ c.av → b ∉ c'.av := fun b o _ nb m => nb (hs b m)
theorem Rl.add (n : H p = none) (h : Rl K c H v d) : Rl K (c.add p) H v d := Rl.to (c := c) (c' := c.add p) rfl (to_add n) h
theorem RlL.add (n : H p = none) (h : RlL K c H vs ds) : RlL K (c.add p) H vs ds := RlL.to (c := c) (c' := c.add p) rfl (to_add n) h
theorem to_addL (n : H p = none) : ∀ b o, H b = some o → b ∉ c.av → b ∉ (c.addL p).av := fun b o h nb m => by
  rcases Cn.addL_av.mp m with e | m
  · rw [e, n] at h; cases h
  · exact nb m
theorem Rl.addL (n : H p = none) (h : Rl K c H v d) : Rl K (c.addL p) H v d := Rl.to (c := c) (c' := c.addL p) rfl (to_addL n) h
theorem RlL.addL (n : H p = none) (h : RlL K c H vs ds) : RlL K (c.addL p) H vs ds := RlL.to (c := c) (c' := c.addL p) rfl (to_addL n) h
theorem to_addLs {fp : List Addr} (n : ∀ b ∈ fp, H b = none) : ∀ b o, H b = some o → b ∉ c.av → b ∉ (c.addLs fp).av := fun b o h nb m => by
  rcases Cn.addLs_av.mp m with e | m
  · rw [n b e] at h; cases h
  · exact nb m
theorem Rl.addLs {fp : List Addr} (n : ∀ b ∈ fp, H b = none) (h : Rl K c H v d) : Rl K (c.addLs fp) H v d := Rl.to (c := c) (c' := c.addLs fp) rfl (to_addLs n) h
theorem RlL.addLs {fp : List Addr} (n : ∀ b ∈ fp, H b = none) (h : RlL K c H vs ds) : RlL K (c.addLs fp) H vs ds := RlL.to (c := c) (c' := c.addLs fp) rfl (to_addLs n) h
theorem Rl.drop (h : Rl K (c.add p) H v d) : Rl K c H v d := Rl.to (c := c.add p) (c' := c) rfl (to_sub fun b m => Cn.add_av.mpr (.inr m)) h
theorem RlL.drop (h : RlL K (c.add p) H vs ds) : RlL K c H vs ds := RlL.to (c := c.add p) (c' := c) rfl (to_sub fun b m => Cn.add_av.mpr (.inr m)) h
/-! data that refers to no list, no dict, no table -/
mutual
def Dt.flat : Dt → Bool
  | .non => true
  | .bl _ => true
  | .int _ => true
  | .str _ => true
  | .ty _ => true
  | .cls _ => true
  | .tup l => Dt.flatL l
  | .any => true
  | _ => false
def Dt.flatL : List Dt → Bool
  | [] => true
  | d :: l => d.flat && Dt.flatL l
end
mutual
theorem Rl.flat : ∀ {v : V} {d : Dt}, Rl K c H v d → d.flat = true → Rl K c' H v d
  | _, _, .non, _ => .non
  | _, _, .bl b, _ => .bl b
  | _, _, .int i, _ => .int i
  | _, _, .str z, _ => .str z
  | _, _, .ty n, _ => .ty n
  | _, _, .cls x, _ => .cls x
  | _, _, .tup h t, e => .tup h (RlL.flat t (by rw [Dt.flat] at e; exact e))
  | _, _, .any, _ => .any
  | _, _, .lst _ _ _, e => by simp [Dt.flat] at e
  | _, _, .dK _ _ _, e => by simp [Dt.flat] at e
  | _, _, .dT _ _ _, e => by simp [Dt.flat] at e
  | _, _, .dN _ _ _ _, e => by simp [Dt.flat] at e
  | _, _, .two _ _ _ _ _ _ _, e => by simp [Dt.flat] at e
  | _, _, .gam _ _ _ _ _ _ _ _ _ _, e => by simp [Dt.flat] at e
  | _, _, .tab _ _, e => by simp [Dt.flat] at e
  | _, _, .hnd _ _, e => by simp [Dt.flat] at e
  | _, _, .scr _, e => by simp [Dt.flat] at e
  | _, _, .err0, e => by simp [Dt.flat] at e
  | _, _, .err1 _ _, e => by simp [Dt.flat] at e
  | _, _, .fn _ _, e => by simp [Dt.flat] at e
theorem RlL.flat : ∀ {vs : List V} {ds : List Dt}, RlL K c H vs ds → Dt.flatL ds = true → RlL K c' H vs ds
  | _, _, .nil, _ => .nil
  | _, _, .cons h t, e => by
    rw [Dt.flatL, Bool.and_eq_true] at e
    exact .cons (Rl.flat h e.1) (RlL.flat t e.2)
end
theorem RlL.length : ∀ {vs : List V} {ds : List Dt}, RlL K c H vs ds → vs.length = ds.length
  | _, _, .nil => rfl
  | _, _, .cons _ t => congrArg Nat.succ (RlL.length t)
theorem RlL.get : ∀ {vs : List V} {ds : List Dt} {i : Nat} {d : Dt}, RlL K c H vs ds → ds[i]? = some d → ∃ v, vs[i]? = some v ∧ Rl K c H v d
  | _, _, _, _, .nil, e => by simp at e
  | _, _, 0, _, .cons h _, e => by simp at e; subst e; exact ⟨_, rfl, h⟩
  | _, _, i + 1, d, .cons _ t, e => by
    obtain ⟨v, h1, h2⟩ := RlL.get (i := i) (d := d) t (by simpa using e)
    exact ⟨v, by simpa using h1, h2⟩
theorem RlL.get' : ∀ {vs : List V} {ds : List Dt} {i : Nat} {v : V}, RlL K c H vs ds → vs[i]? = some v → ∃ d, ds[i]? = some d ∧ Rl K c H v d
  | _, _, _, _, .nil, e => by simp at e
  | _, _, 0, _, .cons h _, e => by simp at e; subst e; exact ⟨_, rfl, h⟩
  | _, _, i + 1, d, .cons _ t, e => by
    obtain ⟨v, h1, h2⟩ := RlL.get' (i := i) (v := d) t (by simpa using e)
    exact ⟨v, by simpa using h1, h2⟩
theorem RlL.app : ∀ {vs us : List V} {ds es : List Dt}, RlL K c H vs ds → RlL K c H us es → RlL K c H (vs ++ us) (ds ++ es)
  | _, _, _, _, .nil, h => h
  | _, _, _, _, .cons h t, g => .cons h (RlL.app t g)
theorem RlL.one (h : Rl K c H v d) : RlL K c H [v] [d] := .cons h .nil
theorem RlL.snoc (t : RlL K c H vs ds) (h : Rl K c H v d) : RlL K c H (vs ++ [v]) (ds ++ [d]) := t.app (.one h)
theorem RlL.tl : ∀ {vs : List V} {ds : List Dt} (n : Nat), RlL K c H vs ds → RlL K c H (vs.drop n) (ds.drop n)
  | _, _, 0, h => h
  | _, _, _ + 1, .nil => .nil
  | _, _, n + 1, .cons _ t => RlL.tl n t
theorem RlL.take : ∀ {vs : List V} {ds : List Dt} (n : Nat), RlL K c H vs ds → RlL K c H (vs.take n) (ds.take n)
  | _, _, 0, _ => .nil
  | _, _, _ + 1, .nil => .nil
  | _, _, n + 1, .cons h t => .cons h (RlL.take n t)
theorem RlL.rev : ∀ {vs : List V} {ds : List Dt}, RlL K c H vs ds → RlL K c H vs.reverse ds.reverse
  | _, _, .nil => .nil
  | _, _, .cons h t => by rw [List.reverse_cons, List.reverse_cons]; exact (RlL.rev t).snoc h
theorem RlL.set : ∀ {vs : List V} {ds : List Dt} {v : V} {d : Dt} (n : Nat), RlL K c H vs ds → Rl K c H v d → RlL K c H (vs.set n v) (ds.set n d)
  | _, _, _, _, _, .nil, _ => .nil
  | _, _, _, _, 0, .cons _ t, h => .cons h t
  | _, _, _, _, n + 1, .cons g t, h => .cons g (RlL.set n t h)
theorem RlL.dl : ∀ {vs : List V} {ds : List Dt}, RlL K c H vs ds → RlL K c H vs.dropLast ds.dropLast
  | _, _, .nil => .nil
  | _, _, .cons _ .nil => .nil
  | _, _, .cons h (.cons g t) => by
    rw [List.dropLast_cons₂, List.dropLast_cons₂]
    exact .cons h (RlL.dl (.cons g t))
theorem RlL.rep (h : Rl K c H v d) : ∀ n, RlL K c H (List.replicate n v) (List.replicate n d)
  | 0 => .nil
  | n + 1 => .cons h (RlL.rep h n)
theorem RlL.flatten (t : RlL K c H vs ds) : ∀ n, RlL K c H (List.replicate n vs).flatten (List.replicate n ds).flatten
  | 0 => .nil
  | n + 1 => by rw [List.replicate_succ, List.replicate_succ, List.flatten_cons, List.flatten_cons]; exact t.app (RlL.flatten t n)
/-- lists of scalars -/
theorem RlL.ints : ∀ (ns : List Int), RlL K c H (ns.map V.int) (ns.map Dt.int)
  | [] => .nil
  | n :: ns => .cons (.int n) (RlL.ints ns)
theorem RlL.bls : ∀ (ns : List Bool), RlL K c H (ns.map V.bl) (ns.map Dt.bl)
  | [] => .nil
  | n :: ns => .cons (.bl n) (RlL.bls ns)
theorem RlL.strs : ∀ (ns : List Str), RlL K c H (ns.map V.str) (ns.map Dt.str)
  | [] => .nil
  | n :: ns => .cons (.str n) (RlL.strs ns)
theorem RlL.of_ints : ∀ {ns : List Int} {vs : List V}, RlL K c H vs (ns.map Dt.int) → vs = ns.map V.int
  | [], _, .nil => rfl
  | n :: ns, _, .cons (.int _) t => by rw [RlL.of_ints t]; rfl
theorem RlL.of_bls : ∀ {ns : List Bool} {vs : List V}, RlL K c H vs (ns.map Dt.bl) → vs = ns.map V.bl
  | [], _, .nil => rfl
  | n :: ns, _, .cons (.bl _) t => by rw [RlL.of_bls t]; rfl
theorem RlL.of_strs : ∀ {ns : List Str} {vs : List V}, RlL K c H vs (ns.map Dt.str) → vs = ns.map V.str
  | [], _, .nil => rfl
  | n :: ns, _, .cons (.str _) t => by rw [RlL.of_strs t]; rfl
end
/-! ### what is changed in its place: its addresses, all its own -/
inductive MSh (K : PySem.W.Frag) (c : Cn) (H : Hp) : List Addr → V → Dt → Prop
  | lst {p : Addr} {xs : List V} {ds : List Dt} : H p = some (.lst xs) → RlL K c H xs ds → MSh K c H [p] (.ref p) (.lst ds)
  | dK {p : Addr} {kvs : List (Key × V)} : H p = some (.dK kvs) → (kvs.all fun q => scB q.2) = true → MSh K c H [p] (.ref p) (.dK kvs)
  | dT {p : Addr} {kvs : List (List Key × V)} : H p = some (.dT kvs) → (kvs.all fun q => scB q.2) = true → MSh K c H [p] (.ref p) (.dT kvs)
  | dN {p : Addr} {kvs : List (NestedKey × V)} {xs : List (NestedKey × Addr × Value)} : H p = some (NatO p xs) → NatR K H kvs xs → (kvs.all fun q => scB q.2) = true → MSh K c H [p] (.ref p) (.dN kvs)
  | two {t p q : Addr} {xs ys : List V} {ds es : List Dt} : SqT K H t [.ref p, .ref q] → p ≠ q → H p = some (.lst xs) → RlL K c H xs ds → H q = some (.lst ys) → RlL K c H ys es → MSh K c H [p, q] (.ref t) (.two ds es)
  | gam {g dx s l : Addr} {vt vf : V} {dt df : Dt} {xs ys : List V} {ds es : List Dt} : H g = some (.ins (ga K "Game") dx [("table", vt), ("found", vf), ("stands", .ref s), ("script", .ref l)]) → s ≠ l → Rl K c H vt dt → Rl K c H vf df → H s = some (.lst xs) → RlL K c H xs ds → H l = some (.lst ys) → RlL K c H ys es → MSh K c H [g, s, l] (.ref g) (.gam dt df ds es)
def MutAt (K : PySem.W.Frag) (c : Cn) (H : Hp) (fp : List Addr) (v : V) (d : Dt) : Prop := (∀ b ∈ fp, b ∈ c.L ∧ b ∉ c.S ∧ b ∉ c.hd) ∧ MSh K c H fp v d
/-- .. or data -/
def Rw (K : PySem.W.Frag) (c : Cn) (H : Hp) (v : V) (d : Dt) : Prop := Rl K c H v d ∨ ∃ fp, MutAt K c H fp v d
inductive RwL (K : PySem.W.Frag) (c : Cn) (H : Hp) : List V → List Dt → Prop
  | nil : RwL K c H [] []
  | cons {v : V} {vs : List V} {d : Dt} {ds : List Dt} : Rw K c H v d → RwL K c H vs ds → RwL K c H (v :: vs) (d :: ds)
section
variable {K : PySem.W.Frag} {c c' : Cn} {H H' : Hp} {v : V} {d : Dt} {vs : List V} {ds : List Dt} {a p : Addr} {fp : List Addr}
/-- kept by what changes other things of c -/
theorem MSh.fm {Pf : Addr → Str → Prop} {X : List Addr} (F : FrG Pf X H H') (G : Fm c H H') (n : ∀ b ∈ fp, b ∉ X) : MSh K c H fp v d → MSh K c H' fp v d
  | .lst h r => .lst (F.lst (n _ (by simp)) h) (r.fm G)
  | .dK h r => .dK (F.dK (n _ (by simp)) h) r
  | .dT h r => .dT (F.keep _ _ (n _ (by simp)) (fun _ z => by cases z) h) r
  | .dN h r t => .dN (F.keep _ _ (n _ (by simp)) (fun _ z => by unfold NatO at z; cases z) h) (r.fr F) t
  | .two h e h1 r1 h2 r2 => .two (F.sqt h) e (F.lst (n _ (by simp)) h1) (r1.fm G) (F.lst (n _ (by simp)) h2) (r2.fm G)
  | .gam h e q1 q2 h1 r1 h2 r2 => .gam (F.ins (n _ (by simp)) h) e (q1.fm G) (q2.fm G) (F.lst (n _ (by simp)) h1) (r1.fm G) (F.lst (n _ (by simp)) h2) (r2.fm G)
theorem MSh.to (e : c'.h = c.h) (hs : ∀ b o, H b = some o → b ∉ c.av → b ∉ c'.av) : MSh K c H fp v d → MSh K c' H fp v d
  | .lst h r => .lst h (r.to e hs)
  | .dK h r => .dK h r
  | .dT h r => .dT h r
  | .dN h r t => .dN h r t
  | .two h z h1 r1 h2 r2 => .two h z h1 (r1.to e hs) h2 (r2.to e hs)
  | .gam h z q1 q2 h1 r1 h2 r2 => .gam h z (q1.to e hs) (q2.to e hs) h1 (r1.to e hs) h2 (r2.to e hs)
theorem MSh.ne : MSh K c H fp v d → ∀ b ∈ fp, ∃ o, H b = some o
  | .lst h r, b, m => by simp at m; subst m; exact ⟨_, h⟩
  | .dK h r, b, m => by simp at m; subst m; exact ⟨_, h⟩
  | .dT h r, b, m => by simp at m; subst m; exact ⟨_, h⟩
  | .dN h r t, b, m => by simp at m; subst m; exact ⟨_, h⟩
  | .two h e h1 r1 h2 r2, b, m => by
    simp at m
    rcases m with rfl | rfl
    · exact ⟨_, h1⟩
    · exact ⟨_, h2⟩
  | .gam h e q1 q2 h1 r1 h2 r2, b, m => by
    simp at m
    rcases m with rfl | rfl | rfl
    · exact ⟨_, h⟩
    · exact ⟨_, h1⟩
    · exact ⟨_, h2⟩
theorem MutAt.fm {Pf : Addr → Str → Prop} {X : List Addr} (F : FrG Pf X H H') (G : Fm c H H') (n : ∀ b ∈ fp, b ∉ X) (h : MutAt K c H fp v d) : MutAt K c H' fp v d := ⟨h.1, h.2.fm F G n⟩
theorem MutAt.fh (F : Fh c H H') (h : MutAt K c H fp v d) : MutAt K c H' fp v d := h.fm F.1 F.fm fun b hb => (h.1 b hb).2.2
theorem MutAt.to (e : c'.h = c.h) (hp : ∀ b ∈ fp, b ∈ c'.L) (hq : ∀ b ∈ fp, b ∉ c'.S) (hs : ∀ b o, H b = some o → b ∉ c.av → b ∉ c'.av) (h : MutAt K c H fp v d) : MutAt K c' H fp v d := ⟨fun b hb => ⟨hp b hb, hq b hb, by
  have : c'.hd = c.hd := by unfold Cn.hd; rw [e]
  rw [this]; exact (h.1 b hb).2.2⟩, h.2.to e hs⟩
theorem MutAt.ne (h : MutAt K c H fp v d) : ∀ b ∈ fp, ∃ o, H b = some o := h.2.ne
/-- seen from a context to which it does not belong -/
theorem MutAt.rl (e : c'.h = c.h) (hp : ∀ b ∈ fp, b ∉ c'.av) (hs : ∀ b o, H b = some o → b ∉ c.av → b ∉ c'.av) (h : MutAt K c H fp v d) : Rl K c' H v d := by
  obtain ⟨_, h⟩ := h
  cases h with
  | lst h r => exact .lst h (hp _ (by simp)) (r.to e hs)
  | dK h r => exact .dK h (hp _ (by simp)) r
  | dT h r => exact .dT h (hp _ (by simp)) r
  | dN h r t => exact .dN h (hp _ (by simp)) r t
  | two h z h1 r1 h2 r2 => exact .two h h1 (hp _ (by simp)) (r1.to e hs) h2 (hp _ (by simp)) (r2.to e hs)
  | gam h z q1 q2 h1 r1 h2 r2 => exact .gam h (hp _ (by simp)) (q1.to e hs) (q2.to e hs) h1 (hp _ (by simp)) (r1.to e hs) h2 (hp _ (by simp)) (r2.to e hs)
theorem Rw.fh (F : Fh c H H') : Rw K c H v d → Rw K c H' v d
  | .inl h => .inl (h.fh F)
  | .inr ⟨p, h⟩ => .inr ⟨p, h.fh F⟩
theorem RwL.fh (F : Fh c H H') : ∀ {vs : List V} {ds : List Dt}, RwL K c H vs ds → RwL K c H' vs ds
  | _, _, .nil => .nil
  | _, _, .cons h t => .cons (h.fh F) (RwL.fh F t)
theorem RlL.rw : ∀ {vs : List V} {ds : List Dt}, RlL K c H vs ds → RwL K c H vs ds
  | _, _, .nil => .nil
  | _, _, .cons h t => .cons (.inl h) (RlL.rw t)
theorem RwL.length : ∀ {vs : List V} {ds : List Dt}, RwL K c H vs ds → vs.length = ds.length
  | _, _, .nil => rfl
  | _, _, .cons _ t => congrArg Nat.succ (RwL.length t)
theorem Rw.lst {ds : List Dt} (h : Rw K c H v (.lst ds)) : ∃ a xs, v = .ref a ∧ H a = some (.lst xs) ∧ RlL K c H xs ds := by
  rcases h with h | ⟨p, _, h⟩
  · cases h with
    | lst h n t => exact ⟨_, _, rfl, h, t⟩
  · cases h with
    | lst h r => exact ⟨_, _, rfl, h, r⟩
theorem Rw.tup {ds : List Dt} (h : Rw K c H v (.tup ds)) : ∃ a xs, v = .ref a ∧ SqT K H a xs ∧ RlL K c H xs ds := by
  rcases h with h | ⟨p, _, h⟩
  · cases h with
    | tup h t => exact ⟨_, _, rfl, h, t⟩
  · cases h
theorem Rw.dK {kvs : List (Key × V)} (h : Rw K c H v (.dK kvs)) : ∃ a, v = .ref a ∧ H a = some (.dK kvs) ∧ (kvs.all fun q => scB q.2) = true := by
  rcases h with h | ⟨p, _, h⟩
  · cases h with
    | dK h n t => exact ⟨_, rfl, h, t⟩
  · cases h with
    | dK h t => exact ⟨_, rfl, h, t⟩
theorem Rw.dT {kvs : List (List Key × V)} (h : Rw K c H v (.dT kvs)) : ∃ a, v = .ref a ∧ H a = some (.dT kvs) ∧ (kvs.all fun q => scB q.2) = true := by
  rcases h with h | ⟨p, _, h⟩
  · cases h with
    | dT h n t => exact ⟨_, rfl, h, t⟩
  · cases h with
    | dT h t => exact ⟨_, rfl, h, t⟩
theorem Rw.dN {kvs : List (NestedKey × V)} (h : Rw K c H v (.dN kvs)) : ∃ a xs, v = .ref a ∧ H a = some (NatO a xs) ∧ NatR K H kvs xs ∧ (kvs.all fun q => scB q.2) = true := by
  rcases h with h | ⟨p, _, h⟩
  · cases h with
    | dN h n r t => exact ⟨_, _, rfl, h, r, t⟩
  · cases h with
    | dN h r t => exact ⟨_, _, rfl, h, r, t⟩
/-- a game -/
theorem Rw.gam {dt df : Dt} {ds es : List Dt} (h : Rw K c H v (.gam dt df ds es)) : ∃ g dx s l vt vf xs ys, v = .ref g ∧ H g = some (.ins (ga K "Game") dx [("table", vt), ("found", vf), ("stands", .ref s), ("script", .ref l)]) ∧ Rl K c H vt dt ∧ Rl K c H vf df ∧ H s = some (.lst xs) ∧ RlL K c H xs ds ∧ H l = some (.lst ys) ∧ RlL K c H ys es := by
  rcases h with h | ⟨p, _, h⟩
  · cases h with
    | gam h n q1 q2 h1 n1 r1 h2 n2 r2 => exact ⟨_, _, _, _, _, _, _, _, rfl, h, q1, q2, h1, r1, h2, r2⟩
  · cases h with
    | gam h e q1 q2 h1 r1 h2 r2 => exact ⟨_, _, _, _, _, _, _, _, rfl, h, q1, q2, h1, r1, h2, r2⟩
def Dt.isMut : Dt → Bool
  | .lst _ => true
  | .dK _ => true
  | .dT _ => true
  | .dN _ => true
  | .two _ _ => true
  | .gam _ _ _ _ => true
  | _ => false
/-- anything that is never changed -/
theorem Rw.rl (h : Rw K c H v d) (n : d.isMut = false) : Rl K c H v d := by
  rcases h with h | ⟨p, _, h⟩
  · exact h
  · cases h <;> cases n
theorem Rw.int {i : Int} (h : Rw K c H v (.int i)) : v = .int i := by
  cases h.rl rfl
  rfl
theorem Rw.str {i : Str} (h : Rw K c H v (.str i)) : v = .str i := by
  cases h.rl rfl
  rfl
theorem Rw.bl {i : Bool} (h : Rw K c H v (.bl i)) : v = .bl i := by
  cases h.rl rfl
  rfl
theorem Rw.non (h : Rw K c H v .non) : v = .non := by
  cases h.rl rfl
  rfl
theorem Rw.tab {t : Tab} (h : Rw K c H v (.tab t)) : ∃ a, v = .ref a ∧ AtTab K H a t ∧ a ∉ c.av := by
  have r := h.rl rfl
  cases r with
  | tab h n => exact ⟨_, rfl, h, n⟩
end
/-! ### outcomes: a value, an exception, a draw -/
inductive Pm (α : Type) where
  | ret (a : α) | exc (x : Str) (f : Option (Str × Dt)) | bad | draw (n : Nat) (k : Nat → Pm α) | drawT (w : Nat) (k : Tab → Pm α) | all (k : Nat → Pm α)
def Pm.bind {α β : Type} : Pm α → (α → Pm β) → Pm β
  | .ret a, k => k a
  | .exc x f, _ => .exc x f
  | .bad, _ => .bad
  | .draw n g, k => .draw n fun i => (g i).bind k
  | .drawT w g, k => .drawT w fun i => (g i).bind k
  | .all g, k => .all fun i => (g i).bind k
instance : Monad Pm where
  pure := .ret
  bind := Pm.bind
def wp0 {α : Type} : Pm α → (α → Prop) → (Str → Option (Str × Dt) → Prop) → Prop
  | .ret a, Q, _ => Q a
  | .exc x f, _, E => E x f
  | .bad, _, _ => False
  | .draw n k, Q, E => ∀ i, i < n → wp0 (k i) Q E
  | .drawT w k, Q, E => ∀ t, Drawn3 t w → wp0 (k t) Q E
  | .all k, Q, E => ∀ i, wp0 (k i) Q E
section
variable {α β : Type} {Q Q' : α → Prop} {E E' : Str → Option (Str × Dt) → Prop}
theorem wp0_mono : ∀ {m : Pm α}, wp0 m Q E → (∀ a, Q a → Q' a) → (∀ x f, E x f → E' x f) → wp0 m Q' E'
  | .ret _, h, q, _ => q _ h
  | .exc _ _, h, _, e => e _ _ h
  | .bad, h, _, _ => h.elim
  | .draw n k, h, q, e => fun i hi => wp0_mono (h i hi) q e
  | .drawT w k, h, q, e => fun i hi => wp0_mono (h i hi) q e
  | .all k, h, q, e => fun i => wp0_mono (h i) q e
theorem wp0_bind {Q : β → Prop} {k : α → Pm β} : ∀ {m : Pm α}, wp0 (m >>= k) Q E ↔ wp0 m (fun a => wp0 (k a) Q E) E
  | .ret _ => Iff.rfl
  | .exc _ _ => Iff.rfl
  | .bad => Iff.rfl
  | .draw n g => forall_congr' fun i => forall_congr' fun hi => wp0_bind (m := g i)
  | .drawT w g => forall_congr' fun i => forall_congr' fun hi => wp0_bind (m := g i)
  | .all g => forall_congr' fun i => wp0_bind (m := g i)
/-- exceptions as values -/
def Pm.att {α : Type} : Pm α → Pm (Except (Str × Option (Str × Dt)) α)
  | .ret a => .ret (.ok a)
  | .exc x f => .ret (.error (x, f))
  | .bad => .bad
  | .draw n g => .draw n fun i => (g i).att
  | .drawT w g => .drawT w fun i => (g i).att
  | .all g => .all fun i => (g i).att
theorem wp0_att {Q : Except (Str × Option (Str × Dt)) α → Prop} : ∀ {m : Pm α}, wp0 m.att Q E ↔ wp0 m (fun a => Q (.ok a)) fun x f => Q (.error (x, f))
  | .ret _ => Iff.rfl
  | .exc _ _ => Iff.rfl
  | .bad => Iff.rfl
  | .draw n g => forall_congr' fun i => forall_congr' fun hi => wp0_att (m := g i)
  | .drawT w g => forall_congr' fun i => forall_congr' fun hi => wp0_att (m := g i)
  | .all g => forall_congr' fun i => wp0_att (m := g i)
def NoX : Str → Option (Str × Dt) → Prop := fun _ _ => False
/-- no exception -/
def Pm.nox {α : Type} : Pm α → Pm α
  | .ret a => .ret a
  | .exc _ _ => .bad
  | .bad => .bad
  | .draw n g => .draw n fun i => (g i).nox
  | .drawT w g => .drawT w fun i => (g i).nox
  | .all g => .all fun i => (g i).nox
theorem wp0_nox : ∀ {m : Pm α}, wp0 m.nox Q E ↔ wp0 m Q NoX
  | .ret _ => Iff.rfl
  | .exc _ _ => Iff.rfl
  | .bad => Iff.rfl
  | .draw n g => forall_congr' fun i => forall_congr' fun hi => wp0_nox (m := g i)
  | .drawT w g => forall_congr' fun i => forall_congr' fun hi => wp0_nox (m := g i)
  | .all g => forall_congr' fun i => wp0_nox (m := g i)
@[simp] theorem ret_bind {a : α} {k : α → Pm β} : (Pm.ret a >>= k) = k a := rfl
@[simp] theorem pure_ret {a : α} : (pure a : Pm α) = .ret a := rfl
@[simp] theorem exc_bind {x : Str} {f : Option (Str × Dt)} {k : α → Pm β} : (Pm.exc x f >>= k) = Pm.exc x f := rfl
@[simp] theorem bad_bind {k : α → Pm β} : (Pm.bad >>= k) = Pm.bad := rfl
@[simp] theorem ret_att {a : α} : (Pm.ret a).att = .ret (.ok a) := rfl
@[simp] theorem exc_att {x : Str} {f : Option (Str × Dt)} : (Pm.exc x f : Pm α).att = .ret (.error (x, f)) := rfl
@[simp] theorem ret_nox {a : α} : (Pm.ret a).nox = .ret a := rfl
end
end Tk

end

section
/-! slots, judgements of readings by mirrors; operators by data -/
namespace Tk
open PySem PySem.Spec L2 RZ
open He (ga)
abbrev Ev : Type := List (Option Dt)
/-- the written part; the tables of code objects in which lambdas are made -/
structure Kt where
  K : PySem.W.Frag
  T : List (Addr × Str)
/-- the slots stand for the mirror's; those of mu hold what is changed in its place, at M -/
structure Sl (κ : Kt) (mu : List Nat) (c : Cn) (M : Nat → List Addr) (H : Hp) (σ : L2.St) (ρ : Ev) : Prop where
  len : σ.length = ρ.length
  ok : ∀ b ∈ c.av, H b ≠ none
  at_ : ∀ i d, ρ[i]? = some (some d) → ∃ v, σ[i]? = some (some v) ∧ (i ∈ mu → MutAt κ.K c H (M i) v d) ∧ (i ∉ mu → Rl κ.K c H v d)
  dist : ∀ i j d e, i ∈ mu → j ∈ mu → ρ[i]? = some (some d) → ρ[j]? = some (some e) → i ≠ j → ∀ b ∈ M i, b ∉ M j
  tb : ∀ p ∈ κ.T, LamX.TabS H p.1 p.2
  hT : c.h.T = κ.T
def ExIs (K : PySem.W.Frag) (H : Hp) (e : Option Addr) : Option (Str × Dt) → Prop
  | none => e = none
  | some (n, d) => ∃ b v, e = some b ∧ H b = some (.xd [(n, v)]) ∧ Rl K ⟨[], [], ⟨none, []⟩⟩ H v d
/-- what is wished of an exception, by the mirror's -/
def Xw (K : PySem.W.Frag) (c : Cn) (W : WX) (σ : L2.St) (H : Hp) : Str → Option (Str × Dt) → Prop := fun x f => ∀ e H', Fh c H H' → ExIs K H' e f → W (.ref (ga K x)) e σ H'
abbrev ME : Type := Ev → Pm Dt
abbrev MA : Type := Ev → Pm (List Dt)
abbrev MB : Type := Ev → Pm Bool
def RE (κ : Kt) (mu : List Nat) (W : WX) (te : TE) (me : ME) : Prop := ∀ c M σ ρ H (Q : VK), Sl κ mu c M H σ ρ → wp0 (me ρ) (fun d => ∀ v H', Fh c H H' → Rl κ.K c H' v d → Q v H') (Xw κ.K c W σ H) → te σ H Q
def RO (κ : Kt) (mu : List Nat) (W : WX) (te : TE) (me : ME) : Prop := ∀ c M σ ρ H (Q : VK), Sl κ mu c M H σ ρ → wp0 (me ρ) (fun d => ∀ v H', Fh c H H' → Rw κ.K c H' v d → Q v H') (Xw κ.K c W σ H) → te σ H Q
def RA (κ : Kt) (mu : List Nat) (W : WX) (ta : TA) (ma : MA) : Prop := ∀ c M σ ρ H (Q : List V → Hp → Prop), Sl κ mu c M H σ ρ → wp0 (ma ρ) (fun d => ∀ v H', Fh c H H' → RlL κ.K c H' v d → Q v H') (Xw κ.K c W σ H) → ta σ H Q
def RAw (κ : Kt) (mu : List Nat) (W : WX) (ta : TA) (ma : MA) : Prop := ∀ c M σ ρ H (Q : List V → Hp → Prop), Sl κ mu c M H σ ρ → wp0 (ma ρ) (fun d => ∀ v H', Fh c H H' → RwL κ.K c H' v d → Q v H') (Xw κ.K c W σ H) → ta σ H Q
def RT (κ : Kt) (mu : List Nat) (W : WX) (tt : TT) (mb : MB) : Prop := ∀ c M σ ρ H (Q : Bool → Hp → Prop), Sl κ mu c M H σ ρ → wp0 (mb ρ) (fun b => ∀ H', Fh c H H' → Q b H') (Xw κ.K c W σ H) → tt σ H Q
def ofO {α : Type} : Option α → Pm α
  | none => .bad
  | some a => .ret a
@[simp] theorem ofO_some {α : Type} {a : α} : ofO (some a) = .ret a := rfl
@[simp] theorem ofO_none {α : Type} : ofO (none : Option α) = .bad := rfl
theorem wp0_ofO {α : Type} {o : Option α} {Q : α → Prop} {E : Str → Option (Str × Dt) → Prop} (h : wp0 (ofO o) Q E) : ∃ a, o = some a ∧ Q a := by
  cases o with
  | none => exact h.elim
  | some a => exact ⟨a, rfl, h⟩
section
variable {K : PySem.W.Frag} {κ : Kt} {mu : List Nat} {W : WX} {c : Cn} {M : Nat → List Addr} {σ : L2.St} {ρ : Ev} {H H' : Hp} {te ta tb : TE} {me ma mb : ME}
theorem Sl.fh (F : Fh c H H') (S : Sl κ mu c M H σ ρ) : Sl κ mu c M H' σ ρ :=
  ⟨S.len, fun b hb => F.1.dom b (S.ok b hb), fun i d h => let ⟨v, h1, h2, h3⟩ := S.at_ i d h; ⟨v, h1, fun m => (h2 m).fh F, fun m => (h3 m).fh F⟩, S.dist, fun p hp => F.1.tbs _ _ (show (p.1, p.2) ∈ c.h.T by rw [S.hT]; exact hp) (S.tb p hp), S.hT⟩
theorem Xw.fh (F : Fh c H H') {x : Str} {f : Option (Str × Dt)} (h : Xw K c W σ H x f) : Xw K c W σ H' x f := fun e H2 G q => h e H2 (F.trans G) q
theorem RE.ro (h : RE κ mu W te me) : RO κ mu W te me := fun c M σ ρ H Q S w => h c M σ ρ H Q S (wp0_mono w (fun d q v H' F r => q v H' F (.inl r)) fun _ _ e => e)
theorem RA.w {t : TA} {m : MA} (h : RA κ mu W t m) : RAw κ mu W t m := fun c M σ ρ H Q S w => h c M σ ρ H Q S (wp0_mono w (fun d q v H' F r => q v H' F r.rw) fun _ _ e => e)
/-! names, constants -/
def mVar (i : Nat) : ME := fun ρ => match ρ[i]? with
  | some (some d) => .ret d
  | _ => .bad
def mC (d : Dt) : ME := fun _ => .ret d
theorem re_var {i : Nat} (h : i ∉ mu := by decide) : RE κ mu W (tVar i) (mVar i) := by
  intro c M σ ρ H Q S w
  unfold mVar at w
  cases e : ρ[i]? with
  | none => rw [e] at w; exact w.elim
  | some o =>
    cases o with
    | none => rw [e] at w; exact w.elim
    | some d =>
      rw [e] at w
      obtain ⟨v, h1, _, h3⟩ := S.at_ i d e
      exact ⟨v, h1, w v H Fh.refl (h3 h)⟩
theorem ro_var {i : Nat} : RO κ mu W (tVar i) (mVar i) := by
  intro c M σ ρ H Q S w
  unfold mVar at w
  cases e : ρ[i]? with
  | none => rw [e] at w; exact w.elim
  | some o =>
    cases o with
    | none => rw [e] at w; exact w.elim
    | some d =>
      rw [e] at w
      obtain ⟨v, h1, h2, h3⟩ := S.at_ i d e
      refine ⟨v, h1, w v H Fh.refl ?_⟩
      by_cases m : i ∈ mu
      · exact .inr ⟨_, h2 m⟩
      · exact .inl (h3 m)
theorem re_c {v : V} {d : Dt} (h : ∀ c H, Rl κ.K c H v d) : RE κ mu W (tC v) (mC d) := fun c M σ ρ H Q S w => w v H Fh.refl (h c H)
theorem re_non : RE κ mu W (tC .non) (mC .non) := re_c fun _ _ => .non
theorem re_bl {b : Bool} : RE κ mu W (tC (.bl b)) (mC (.bl b)) := re_c fun _ _ => .bl b
theorem re_int {i : Int} : RE κ mu W (tC (.int i)) (mC (.int i)) := re_c fun _ _ => .int i
theorem re_str {z : Str} : RE κ mu W (tC (.str z)) (mC (.str z)) := re_c fun _ _ => .str z
theorem re_ty {n : String} : RE κ mu W (tC (.ty n)) (mC (.ty n)) := re_c fun _ _ => .ty n
theorem re_cls {x : Str} : RE κ mu W (tC (.ref (ga κ.K x))) (mC (.cls x)) := re_c fun _ _ => .cls x
/-! written data -/
mutual
def dtOf : PyData → Dt
  | .none => .non
  | .bool b => .bl b
  | .int i => .int i
  | .str z => .str z
  | .tuple l => .tup (dtOfL l)
  | .list l => .lst (dtOfL l)
  | .dict _ => .any
def dtOfL : List PyData → List Dt
  | [] => []
  | d :: l => dtOf d :: dtOfL l
end
mutual
theorem Tp.rl : ∀ {v : V} {d : PyData}, Tp K H v d → Rl K c H v (dtOf d)
  | _, _, .non => by rw [dtOf]; exact .non
  | _, _, .bl b => by rw [dtOf]; exact .bl b
  | _, _, .int b => by rw [dtOf]; exact .int b
  | _, _, .str b => by rw [dtOf]; exact .str b
  | _, _, .tup h t => by rw [dtOf]; exact .tup h (TpL.rl t)
theorem TpL.rl : ∀ {vs : List V} {ds : List PyData}, TpL K H vs ds → RlL K c H vs (dtOfL ds)
  | _, _, .nil => by rw [dtOfL]; exact .nil
  | _, _, .cons h t => by rw [dtOfL]; exact .cons (Tp.rl h) (TpL.rl t)
end
theorem re_con {v : V} {d : PyData} (h : ∀ H, Tp κ.K H v d) : RE κ mu W (tC v) (mC (dtOf d)) := re_c fun _ H => (h H).rl
/-! ### operators by data -/
def OpM (K : PySem.W.Frag) (r : R2) (g : Dt → Dt → Option Dt) : Prop := ∀ c H x y d e z (Q : VK), (∀ b ∈ c.av, H b ≠ none) → Rw K c H x d → Rw K c H y e → g d e = some z → (∀ v H', Fh c H H' → Rl K c H' v z → Q v H') → r x y H Q
def mOp (g : Dt → Dt → Option Dt) (ma mb : ME) : ME := fun ρ => ma ρ >>= fun x => mb ρ >>= fun y => ofO (g x y)
theorem re_op {r : R2} {g : Dt → Dt → Option Dt} (o : OpM κ.K r g) (ha : RO κ mu W ta ma) (hb : RO κ mu W tb mb) : RE κ mu W (tOp r ta tb) (mOp g ma mb) := by
  intro c M σ ρ H Q S h
  refine ha c M σ ρ H _ S (wp0_mono (wp0_bind.mp h) (fun d h v H1 F r => ?_) fun _ _ h => h)
  refine hb c M σ ρ H1 _ (S.fh F) (wp0_mono (wp0_bind.mp h) (fun e h u H2 G q => ?_) fun x f h => h.fh F)
  obtain ⟨z, hz, w⟩ := wp0_ofO h
  exact o c H2 v u d e z Q (S.fh (F.trans G)).ok (r.fh G) q hz fun v H' F3 r3 => w v H' (F.trans (G.trans F3)) r3
theorem new_av {c : Cn} {H : Hp} {p : Addr} (ok : ∀ b ∈ c.av, H b ≠ none) (n : H p = none) : p ∉ c.av := fun h => ok p h n
/-- a new list, tuple of data -/
theorem Rl.newL {c : Cn} {H H' : Hp} {p : Addr} {xs : List V} {ds : List Dt} (ok : ∀ b ∈ c.av, H b ≠ none) (n : H p = none) (e : H' p = some (.lst xs)) (F : Fh c H H') (t : RlL K c H xs ds) : Rl K c H' (.ref p) (.lst ds) := .lst e (new_av ok n) (t.fh F)
def addD : Dt → Dt → Option Dt
  | .int i, .int j => some (.int (i + j))
  | .str a, .str b => if a.length + b.length ≤ 16777216 then some (.str (a ++ b)) else none
  | .lst a, .lst b => if a.length + b.length ≤ 16777216 then some (.lst (a ++ b)) else none
  | .tup a, .tup b => if a.length + b.length ≤ 16777216 then some (.tup (a ++ b)) else none
  | _, _ => none
theorem om_add : OpM K (rAddA K) addD := by
  intro c H x y d e z Q ok hx hy hz q
  unfold addD at hz
  split at hz
  · cases hx.int; cases hy.int; cases hz
    exact r_addI (q _ _ Fh.refl (.int _))
  · cases hx.str; cases hy.str
    split at hz
    · rename_i hl
      cases hz
      exact r_addS (by rw [sizeLine_eq]; exact hl) (q _ _ Fh.refl (.str _))
    · cases hz
  · split at hz
    · rename_i hl
      cases hz
      obtain ⟨a, xs, rfl, ha, tx⟩ := hx.lst
      obtain ⟨b, ys, rfl, hb, ty⟩ := hy.lst
      refine r_addL ha hb (by rw [tx.length, ty.length, sizeLine_eq]; exact hl) fun p n F e => ?_
      exact q _ _ (Fh.of0 F) (Rl.newL ok n e (Fh.of0 F) (tx.app ty))
    · cases hz
  · split at hz
    · rename_i hl
      cases hz
      obtain ⟨a, xs, rfl, ha, tx⟩ := hx.tup
      obtain ⟨b, ys, rfl, hb, ty⟩ := hy.tup
      refine r_addT ha hb (by rw [tx.length, ty.length, sizeLine_eq]; exact hl) fun p H' F e => ?_
      exact q _ _ (Fh.of0 F) (.tup e ((tx.app ty).fh (Fh.of0 F)))
    · cases hz
  · cases hz
def intD2 (g : Int → Int → Option Dt) : Dt → Dt → Option Dt
  | .int i, .int j => g i j
  | _, _ => none
theorem om_int {r : R2} {g : Int → Int → Option Dt} (h : ∀ c H i j z (Q : VK), g i j = some z → (∀ v, Rl K c H v z → Q v H) → r (.int i) (.int j) H Q) : OpM K r (intD2 g) := by
  intro c H x y d e z Q ok hx hy hz q
  unfold intD2 at hz
  split at hz
  · cases hx.int; cases hy.int
    exact h c H _ _ z Q hz fun v r => q v H Fh.refl r
  · cases hz
abbrev subD := intD2 fun i j => some (.int (i - j))
abbrev ltD' := intD2 fun i j => some (.bl (decide (i < j)))
abbrev leD := intD2 fun i j => some (.bl (decide (i ≤ j)))
abbrev gtD := intD2 fun i j => some (.bl (decide (j < i)))
abbrev geD := intD2 fun i j => some (.bl (decide (j ≤ i)))
abbrev xorD := intD2 fun i j => some (.int (Builtin.bitXor i j))
def modD := intD2 fun i j => if 0 < j then some (.int (i % j)) else none
def fdivD := intD2 fun i j => if 0 < j ∧ j.toNat < 1073741824 then some (.int (i / j)) else none
def powD := intD2 fun i j => if 0 ≤ j ∧ j.toNat ≤ 1000000 ∧ i.natAbs < 2 ^ 64 then some (.int (i ^ j.toNat)) else none
theorem om_i0 {g : Int → Int → V} {g' : Int → Int → Dt} (h : ∀ c H i j, Rl K c H (g i j) (g' i j)) : OpM K (rI0 g) (intD2 fun i j => some (g' i j)) := om_int fun c H i j z Q e q => by
  cases e
  exact r_I0 (q _ (h c H i j))
theorem om_sub : OpM K (rI0 fun i j => .int (i - j)) subD := om_i0 fun _ _ _ _ => .int _
theorem om_lt : OpM K (rI0 fun i j => .bl (decide (i < j))) ltD' := om_i0 fun _ _ _ _ => .bl _
theorem om_le : OpM K (rI0 fun i j => .bl (decide (i ≤ j))) leD := om_i0 fun _ _ _ _ => .bl _
theorem om_gt : OpM K (rI0 fun i j => .bl (decide (j < i))) gtD := om_i0 fun _ _ _ _ => .bl _
theorem om_ge : OpM K (rI0 fun i j => .bl (decide (j ≤ i))) geD := om_i0 fun _ _ _ _ => .bl _
theorem om_xor : OpM K (rI0 fun i j => .int (Builtin.bitXor i j)) xorD := om_i0 fun _ _ _ _ => .int _
theorem om_mod : OpM K (rI (fun _ j => 0 < j) fun i j => .int (i % j)) modD := om_int fun c H i j z Q e q => by
  split at e
  · rename_i h; cases e; exact r_mod h (q _ (.int _))
  · cases e
theorem om_fdiv : OpM K (rI CDiv fun i j => .int (i / j)) fdivD := om_int fun c H i j z Q e q => by
  split at e
  · rename_i h; cases e; exact r_div ⟨h.1, by omega⟩ (q _ (.int _))
  · cases e
theorem om_pow : OpM K (rI CPow fun i j => .int (i ^ j.toNat)) powD := om_int fun c H i j z Q e q => by
  split at e
  · rename_i h; cases e; exact r_pow ⟨h.1, by omega, h.2.2⟩ (q _ (.int _))
  · cases e
theorem mod_pos {i j : Int} (h : 0 < j) : modD (.int i) (.int j) = some (.int (i % j)) := if_pos h
theorem fdiv_pos {i j : Int} (h : 0 < j ∧ j.toNat < 1073741824) : fdivD (.int i) (.int j) = some (.int (i / j)) := if_pos h
theorem pow_pos' {i j : Int} (h : 0 ≤ j ∧ j.toNat ≤ 1000000 ∧ i.natAbs < 2 ^ 64) : powD (.int i) (.int j) = some (.int (i ^ j.toNat)) := if_pos h
def mulD : Dt → Dt → Option Dt
  | .int i, .int j => if j.natAbs < 18446744073709551616 ∨ i.natAbs < 18446744073709551616 then some (.int (i * j)) else none
  | .lst l, .int k => if 0 ≤ k ∧ k.toNat < 1000000 ∧ l.length * k.toNat ≤ 16777216 then some (.lst (List.replicate k.toNat l).flatten) else none
  | .tup l, .int k => if 2 ≤ k ∧ k.toNat ≤ 1000 ∧ l.length ≤ 1000 ∧ l ≠ [] then some (.tup (List.replicate k.toNat l).flatten) else none
  | _, _ => none
theorem mul_int {i j : Int} (h : j.natAbs < 18446744073709551616) : mulD (.int i) (.int j) = some (.int (i * j)) := if_pos (.inl h)
theorem mul_intL {i j : Int} (h : i.natAbs < 18446744073709551616) : mulD (.int i) (.int j) = some (.int (i * j)) := if_pos (.inr h)
/-! membership, equality -/
def Dt.v? : Dt → Option V
  | .non => some .non
  | .bl b => some (.bl b)
  | .int i => some (.int i)
  | .str z => some (.str z)
  | _ => none
def ofV : V → Dt
  | .bl b => .bl b
  | .int i => .int i
  | .str z => .str z
  | _ => .non
theorem Rl.ofV {v : V} (h : scB v = true) : Rl K c H v (ofV v) := by
  cases v with
  | non => exact .non
  | bl b => exact .bl b
  | int i => exact .int i
  | str z => exact .str z
  | _ => cases h
theorem Rw.v {x : V} {d : Dt} {v : V} (h : Rw K c H x d) (e : d.v? = some v) : x = v ∧ flatV v = true := by
  cases d with
  | non => cases e; exact ⟨h.non, rfl⟩
  | bl b => cases e; exact ⟨h.bl, rfl⟩
  | int b => cases e; exact ⟨h.int, rfl⟩
  | str b => cases e; exact ⟨h.str, rfl⟩
  | _ => cases e
def vAll : List Dt → Option (List V)
  | [] => some []
  | d :: l => match d.v?, vAll l with
    | some v, some vs => some (v :: vs)
    | _, _ => none
theorem RlL.v : ∀ {xs : List V} {ds : List Dt} {vs : List V}, RlL K c H xs ds → vAll ds = some vs → xs = vs ∧ vs.all flatV = true
  | _, _, _, .nil, e => by cases e; exact ⟨rfl, rfl⟩
  | _, d :: ds, _, .cons (v := v) h t, e => by
    rw [vAll] at e
    split at e
    · rename_i v' vs' e1 e2
      cases e
      obtain ⟨rfl, f1⟩ := Rw.v (.inl h) e1
      obtain ⟨rfl, f2⟩ := RlL.v t e2
      exact ⟨rfl, by rw [List.all_cons, f1, f2]; rfl⟩
    · cases e
mutual
def Dt.py : Dt → PyData
  | .bl b => .bool b
  | .int i => .int i
  | .str z => .str z
  | .tup l => .tuple (Dt.pyL l)
  | .lst l => .list (Dt.pyL l)
  | _ => .none
def Dt.pyL : List Dt → List PyData
  | [] => []
  | d :: l => d.py :: Dt.pyL l
end
mutual
/-- it can be compared; n bounds its depth -/
def Dt.cmp : Nat → Dt → Bool
  | _, .non => true
  | _, .bl _ => true
  | _, .int _ => true
  | _, .str z => PyData.strOk z
  | n + 1, .tup l => Dt.cmpL n l
  | n + 1, .lst l => Dt.cmpL n l
  | _, _ => false
def Dt.cmpL : Nat → List Dt → Bool
  | _, [] => true
  | n, d :: l => d.cmp n && Dt.cmpL n l
end
mutual
theorem Rl.dp : ∀ {v : V} {d : Dt} {n : Nat}, Rl K c H v d → d.cmp n = true → Dp K H v d.py ∧ Shp n d.py
  | _, _, _, .non, _ => by rw [Dt.py]; exact ⟨.non, .non⟩; all_goals exact fun _ z => by cases z
  | _, _, _, .bl b, _ => by rw [Dt.py]; exact ⟨.bl b, .bool⟩
  | _, _, _, .int b, _ => by rw [Dt.py]; exact ⟨.int b, .int⟩
  | _, _, n, .str b, e => by rw [Dt.py]; exact ⟨.str b, .str (by cases n <;> simpa [Dt.cmp] using e)⟩
  | _, _, 0, .tup h t, e => by simp [Dt.cmp] at e
  | _, _, 0, .lst h n t, e => by simp [Dt.cmp] at e
  | _, _, n + 1, .tup h t, e => by
    rw [Dt.cmp] at e
    obtain ⟨h1, h2⟩ := RlL.dp t e
    rw [Dt.py]
    exact ⟨.tup h h1, .tup h2⟩
  | _, _, n + 1, .lst h _ t, e => by
    rw [Dt.cmp] at e
    obtain ⟨h1, h2⟩ := RlL.dp t e
    rw [Dt.py]
    exact ⟨.lst (SqL.of h) h1, .lst h2⟩
  | _, _, n, .ty _, e => by cases n <;> simp [Dt.cmp] at e
  | _, _, n, .cls _, e => by cases n <;> simp [Dt.cmp] at e
  | _, _, n, .dK _ _ _, e => by cases n <;> simp [Dt.cmp] at e
  | _, _, n, .dT _ _ _, e => by cases n <;> simp [Dt.cmp] at e
  | _, _, n, .dN _ _ _ _, e => by cases n <;> simp [Dt.cmp] at e
  | _, _, n, .two _ _ _ _ _ _ _, e => by cases n <;> simp [Dt.cmp] at e
  | _, _, n, .gam _ _ _ _ _ _ _ _ _ _, e => by cases n <;> simp [Dt.cmp] at e
  | _, _, n, .tab _ _, e => by cases n <;> simp [Dt.cmp] at e
  | _, _, n, .hnd _ _, e => by cases n <;> simp [Dt.cmp] at e
  | _, _, n, .scr _, e => by cases n <;> simp [Dt.cmp] at e
  | _, _, n, .any, e => by cases n <;> simp [Dt.cmp] at e
  | _, _, n, .err0, e => by cases n <;> simp [Dt.cmp] at e
  | _, _, n, .err1 _ _, e => by cases n <;> simp [Dt.cmp] at e
  | _, _, n, .fn _ _, e => by cases n <;> simp [Dt.cmp] at e
theorem RlL.dp : ∀ {vs : List V} {ds : List Dt} {n : Nat}, RlL K c H vs ds → Dt.cmpL n ds = true → DpAll K H vs (Dt.pyL ds) ∧ ∀ d ∈ Dt.pyL ds, Shp n d
  | _, _, _, .nil, _ => by rw [Dt.pyL]; exact ⟨.nil, fun _ h => by cases h⟩
  | _, _, n, .cons h t, e => by
    rw [Dt.cmpL, Bool.and_eq_true] at e
    obtain ⟨h1, h2⟩ := Rl.dp h e.1
    obtain ⟨h3, h4⟩ := RlL.dp t e.2
    rw [Dt.pyL]
    exact ⟨.cons h1 h3, fun d hd => by
      rcases List.mem_cons.mp hd with rfl | hd
      · exact h2
      · exact h4 d hd⟩
end
theorem Rw.dp {v : V} {d : Dt} {n : Nat} (h : Rw K c H v d) (e : d.cmp n = true) : Dp K H v d.py ∧ Shp n d.py := by
  rcases h with h | ⟨p, _, h⟩
  · exact h.dp e
  · cases h with
    | lst h r =>
      cases n with
      | zero => simp [Dt.cmp] at e
      | succ n =>
        rw [Dt.cmp] at e
        obtain ⟨h1, h2⟩ := r.dp e
        rw [Dt.py]
        exact ⟨.lst (SqL.of h) h1, .lst h2⟩
    | _ => cases n <;> simp [Dt.cmp] at e
/-! ==, of what can be compared -/
mutual
def Dt.eqv : Dt → Dt → Bool
  | .non, .non => true
  | .bl a, .bl b => a == b
  | .bl a, .int j => decide ((if a then 1 else 0) = j)
  | .int i, .bl b => decide (i = (if b then 1 else 0))
  | .int i, .int j => decide (i = j)
  | .str x, .str y => decide (x = y)
  | .tup l, .tup m => Dt.eqvL l m
  | .lst l, .lst m => Dt.eqvL l m
  | _, _ => false
def Dt.eqvL : List Dt → List Dt → Bool
  | [], [] => true
  | x :: l, y :: m => x.eqv y && Dt.eqvL l m
  | _, _ => false
end
mutual
theorem eqv_py : ∀ (d e : Dt) (n m : Nat), d.cmp n = true → e.cmp m = true → d.eqv e = PyData.eqv d.py e.py := by
  intro d e n m hd he
  cases d with
  | non => cases e <;> first | (cases m <;> simp [Dt.cmp] at he; done) | simp [Dt.eqv, Dt.py, PyData.eqv]
  | bl a => cases e <;> first | (cases m <;> simp [Dt.cmp] at he; done) | simp [Dt.eqv, Dt.py, PyData.eqv, Bool.beq_eq_decide_eq]
  | int a => cases e <;> first | (cases m <;> simp [Dt.cmp] at he; done) | simp [Dt.eqv, Dt.py, PyData.eqv, Bool.beq_eq_decide_eq]
  | str a => cases e <;> first | (cases m <;> simp [Dt.cmp] at he; done) | simp [Dt.eqv, Dt.py, PyData.eqv, Bool.beq_eq_decide_eq]
  | tup l =>
    cases n with
    | zero => simp [Dt.cmp] at hd
    | succ n =>
      rw [Dt.cmp] at hd
      cases e with
      | tup k =>
        cases m with
        | zero => simp [Dt.cmp] at he
        | succ m =>
          rw [Dt.cmp] at he
          rw [Dt.eqv, Dt.py, Dt.py, PyData.eqv, eqvL_py l k n m hd he]
      | _ => first | (cases m <;> simp [Dt.cmp] at he; done) | simp [Dt.eqv, Dt.py, PyData.eqv]
  | lst l =>
    cases n with
    | zero => simp [Dt.cmp] at hd
    | succ n =>
      rw [Dt.cmp] at hd
      cases e with
      | lst k =>
        cases m with
        | zero => simp [Dt.cmp] at he
        | succ m =>
          rw [Dt.cmp] at he
          rw [Dt.eqv, Dt.py, Dt.py, PyData.eqv, eqvL_py l k n m hd he]
      | _ => first | (cases m <;> simp [Dt.cmp] at he; done) | simp [Dt.eqv, Dt.py, PyData.eqv]
  | _ => cases n <;> simp [Dt.cmp] at hd
theorem eqvL_py : ∀ (l m : List Dt) (i j : Nat), Dt.cmpL i l = true → Dt.cmpL j m = true → Dt.eqvL l m = PyData.eqvAll (Dt.pyL l) (Dt.pyL m)
  | [], [], _, _, _, _ => by simp [Dt.eqvL, Dt.pyL, PyData.eqvAll]
  | [], _ :: _, _, _, _, _ => by simp [Dt.eqvL, Dt.pyL, PyData.eqvAll]
  | _ :: _, [], _, _, _, _ => by simp [Dt.eqvL, Dt.pyL, PyData.eqvAll]
  | d :: l, e :: m, i, j, h1, h2 => by
    rw [Dt.cmpL, Bool.and_eq_true] at h1 h2
    rw [Dt.eqvL, Dt.pyL, Dt.pyL, PyData.eqvAll, eqv_py d e i j h1.1 h2.1, eqvL_py l m i j h1.2 h2.2]
end
def eqD (d e : Dt) : Option Dt := if d.cmp 12 && e.cmp 12 then some (.bl (d.eqv e)) else none
def neD (d e : Dt) : Option Dt := if d.cmp 12 && e.cmp 12 then some (.bl (!d.eqv e)) else none
theorem om_eq : OpM K (rEqA K) eqD := by
  intro c H x y d e z Q ok hx hy hz q
  unfold eqD at hz
  split at hz
  · rename_i h
    rw [Bool.and_eq_true] at h
    cases hz
    obtain ⟨h1, s1⟩ := hx.dp h.1
    obtain ⟨h2, s2⟩ := hy.dp h.2
    exact .inr ⟨_, _, h1, h2, s1.ok, s2.ok, by rw [← eqv_py d e 12 12 h.1 h.2]; exact q _ _ Fh.refl (.bl _)⟩
  · cases hz
theorem om_ne : OpM K (rNeA K) neD := by
  intro c H x y d e z Q ok hx hy hz q
  unfold neD at hz
  split at hz
  · rename_i h
    rw [Bool.and_eq_true] at h
    cases hz
    obtain ⟨h1, s1⟩ := hx.dp h.1
    obtain ⟨h2, s2⟩ := hy.dp h.2
    exact .inr ⟨_, _, h1, h2, s1.ok, s2.ok, by rw [← eqv_py d e 12 12 h.1 h.2]; exact q _ _ Fh.refl (.bl _)⟩
  · cases hz
end
end Tk

end

section
/-! dicts by values, any tuple as a key; further operators by data -/
namespace Tk
open PySem PySem.Spec L2 RZ PyProof.Rows
open He (ga)
def DGq (K : PySem.W.Frag) (H : Hp) (a : Addr) (y : V) (r : Option V) : Prop :=
  (∃ kvs k, H a = some (.dK kvs) ∧ y = kV k ∧ r = valV kvs k) ∨ ∃ kvs k b, L2.Rd H a (.dT kvs) ∧ y = .ref b ∧ SqT K H b (k.map kV) ∧ r = valV kvs k
section
variable {X : Cx} {pins : List (Addr × Obj)} {σ : L2.St} {H : Hp} {s : Shared} {a : Addr} {y v : V} {u r : Value} {o : Option V} {A : Around} {E : Value → Shared → Prop}
theorem key_q {b : Addr} {ks : List Key} (I : Inv X pins σ H s) (e : SqT X.K H b (ks.map kV)) : (tupleKind (mixKind X.prog X.w)).is s.heap ks b := by
  obtain ⟨its, r, ⟨o, h1, h2, n, h3⟩, _⟩ := I.tuple e
  exact ⟨o, its.toArray, n, h1, h2, h3, by simpa using items_are r⟩
theorem dq_typeIs (I : Inv X pins σ H s) (g : DGq X.K H a y o) : s.TypeIs (.ref a) "dict" := by
  rcases g with ⟨kvs, k, e, _, _⟩ | ⟨kvs, k, b, e, _, _, _⟩
  · obtain ⟨_, _, vs, _, dd⟩ := dk_of I.hok e
    exact dd.typeIs
  · obtain ⟨_, _, xs, _, dd⟩ := dt_rd I.hok e
    exact dd.typeIs
theorem dq_getItem {Q : Value → Shared → Prop} (hu : A.units + 1 < cLine) (I : Inv X pins σ H s) (g : DGq X.K H a y (some v)) (ry : RelV y u) (h : ∀ w' s', Inv X pins σ H s' → RelV v w' → Q w' s') :
    wpAny (model X.prog X.w) A (getItem (.ref a) u) Q E s := by
  rcases g with ⟨kvs, k, e, ey, l⟩ | ⟨kvs, k, b, e, ey, eb, l⟩
  · exact d_getItem hu I (.inl ⟨kvs, k, .inl e, ey, l⟩) ry h
  · subst ey
    cases (show u = Value.ref b from ry)
    obtain ⟨z, hd, xs, rel, dd⟩ := dt_rd I.hok e
    obtain ⟨w', hw, rw'⟩ := RelO.some_of (v := v) (o := (atKey xs k).map (·.2)) (by rw [l]; exact rel.val k)
    obtain ⟨p, hp, hp2⟩ := Option.map_eq_some_iff.mp hw
    refine wpAny_getItem_heap (tupleKind_room_in1 hu) (key_q I eb) dd hp ?_
    rw [hp2]
    exact h w' _ (I.tok _) rw'
theorem dq_in {Q : Value → Shared → Prop} (hu : A.units + 1 < cLine) (I : Inv X pins σ H s) (g : DGq X.K H a y o) (ry : RelV y u) (h : ∀ s', Inv X pins σ H s' → Q (.bool o.isSome) s') :
    wpAny (model X.prog X.w) A (compareOp .In u (.ref a)) Q E s := by
  rcases g with ⟨kvs, k, e, ey, l⟩ | ⟨kvs, k, b, e, ey, eb, l⟩
  · exact d_in hu I (.inl ⟨kvs, k, .inl e, ey, l⟩) ry h
  · subst ey
    cases (show u = Value.ref b from ry)
    obtain ⟨z, hd, xs, rel, dd⟩ := dt_rd I.hok e
    refine wpAny_in_heap (tupleKind_room_in1 hu) (key_q I eb) hd dd ?_
    have q := (rel.val k).isSome_eq
    rw [Option.isSome_map] at q
    rw [← q, ← l]
    exact h _ (I.tok _)
theorem dq_notIn {Q : Value → Shared → Prop} (hu : A.units + 1 < cLine) (I : Inv X pins σ H s) (g : DGq X.K H a y o) (ry : RelV y u) (h : ∀ s', Inv X pins σ H s' → Q (.bool (!o.isSome)) s') :
    wpAny (model X.prog X.w) A (compareOp .NotIn u (.ref a)) Q E s := by
  rcases g with ⟨kvs, k, e, ey, l⟩ | ⟨kvs, k, b, e, ey, eb, l⟩
  · exact d_notIn hu I (.inl ⟨kvs, k, .inl e, ey, l⟩) ry h
  · subst ey
    cases (show u = Value.ref b from ry)
    obtain ⟨z, hd, xs, rel, dd⟩ := dt_rd I.hok e
    refine wpAny_notIn_heap (tupleKind_room_in1 hu) (key_q I eb) hd dd ?_
    have q := (rel.val k).isSome_eq
    rw [Option.isSome_map] at q
    rw [← q, ← l]
    exact h _ (I.tok _)
end
def rIxDct (K : PySem.W.Frag) : R2 := fun x y H Q => ∃ a v, x = .ref a ∧ DGq K H a y (some v) ∧ Q v H
def rInDct (K : PySem.W.Frag) : R2 := fun y x H Q => ∃ a o, x = .ref a ∧ DGq K H a y o ∧ Q (.bl o.isSome) H
def rNotInDct (K : PySem.W.Frag) : R2 := fun y x H Q => ∃ a o, x = .ref a ∧ DGq K H a y o ∧ Q (.bl (!o.isSome)) H
def rSetDct : V → V → V → Hp → (Hp → Prop) → Prop := fun x y v H Q => ∃ a H', x = .ref a ∧ DPut H a y v H' ∧ Q H'
section
variable {X : Cx}
theorem ix_dct (hu : X.A.units + 1 < cLine) : IxR X (rIxDct X.K) := by
  intro value slice pins s σ H x y v u Q I rx ry h hs
  obtain ⟨a, w, rfl, g, q⟩ := h
  cases rx
  exact tail_any (dq_typeIs I g) PySem.F.slot_dict_getitem.lookup (dq_getItem hu I g ry fun w' s3 I3 rw' => ⟨w, H, I3, rw', q⟩) hs
theorem op_inDct (hu : X.A.units + 1 < cLine) : OpR X (compareOp .In) (rInDct X.K) := by
  intro pins s σ H x y v u Q I rx ry h
  obtain ⟨a, o, rfl, g, q⟩ := h
  cases ry
  exact dq_in hu I g rx fun s3 I3 => ⟨.bl o.isSome, H, I3, rfl, q⟩
theorem op_notInDct (hu : X.A.units + 1 < cLine) : OpR X (compareOp .NotIn) (rNotInDct X.K) := by
  intro pins s σ H x y v u Q I rx ry h
  obtain ⟨a, o, rfl, g, q⟩ := h
  cases ry
  exact dq_notIn hu I g rx fun s3 I3 => ⟨.bl (!o.isSome), H, I3, rfl, q⟩
theorem set_dct (hu : X.A.units + 1 < cLine) : PSet X rSetDct := by
  intro pins s σ H o i v ov iv u Q I ro ri rv h
  obtain ⟨a, H', rfl, g, q⟩ := h
  cases ro
  exact d_setItem hu I g ri rv fun s4 I4 => ⟨H', I4, q⟩
theorem PSet.or {t t' : V → V → V → Hp → (Hp → Prop) → Prop} (h : PSet X t) (h' : PSet X t') : PSet X (fun o i v H Q => t o i v H Q ∨ t' o i v H Q) := by
  intro pins s σ H o i v ov iv u Q I ro ri rv q
  rcases q with q | q
  · exact h pins s σ H o i v ov iv u Q I ro ri rv q
  · exact h' pins s σ H o i v ov iv u Q I ro ri rv q
end
def rIxV (K : PySem.W.Frag) : R2 := fun x y H Q => rIx K x y H Q ∨ rIxDct K x y H Q
theorem ix_V {X : Cx} (hu : X.A.units + 65 < cLine) : IxR X (rIxV X.K) := IxR.or ix_seq (ix_dct (by omega))
def rInV (K : PySem.W.Frag) : R2 := fun x y H Q => rInA K x y H Q ∨ rInDct K x y H Q
theorem op_inV {X : Cx} (hu : X.A.units + 65 < cLine) : OpR X (compareOp .In) (rInV X.K) := OpR.orr (op_inA hu) (op_inDct (by omega))
def rNotInV (K : PySem.W.Frag) : R2 := fun x y H Q => rNotInA K x y H Q ∨ rNotInDct K x y H Q
theorem op_notInV {X : Cx} (hu : X.A.units + 65 < cLine) : OpR X (compareOp .NotIn) (rNotInV X.K) := OpR.orr (op_notInA hu) (op_notInDct (by omega))
def rSetV : V → V → V → Hp → (Hp → Prop) → Prop := fun o i v H Q => rSetL o i v H Q ∨ rSetDct o i v H Q
theorem set_V {X : Cx} (hu : X.A.units + 65 < cLine) : PSet X rSetV := PSet.or set_list (set_dct (by omega))
/-! ### keys by data -/
def keyD : Dt → Option Key
  | .int i => some (.inl i)
  | .str z => some (.inr z)
  | _ => none
def keysD : List Dt → Option (List Key)
  | [] => some []
  | d :: l => match keyD d, keysD l with
    | some k, some ks => some (k :: ks)
    | _, _ => none
def getK (d k : Dt) : Option (Option V) := match d, k with
  | .dK kvs, k => (keyD k).map fun k => valV kvs k
  | .dT kvs, .tup l => (keysD l).map fun k => valV kvs k
  | _, _ => none
section
variable {K : PySem.W.Frag} {c : Cn} {H : Hp}
theorem Rw.key {x : V} {d : Dt} {k : Key} (h : Rw K c H x d) (e : keyD d = some k) : x = kV k := by
  cases d with
  | int i => cases e; exact h.int
  | str i => cases e; exact h.str
  | _ => cases e
theorem RlL.keys : ∀ {xs : List V} {ds : List Dt} {ks : List Key}, RlL K c H xs ds → keysD ds = some ks → xs = ks.map kV
  | _, _, _, .nil, e => by cases e; rfl
  | _, d :: ds, _, .cons (v := v) h t, e => by
    rw [keysD] at e
    split at e
    · rename_i k ks e1 e2
      cases e
      rw [Rw.key (.inl h) e1, RlL.keys t e2]
      rfl
    · cases e
theorem Rw.getK {x y : V} {d e : Dt} {o : Option V} (hx : Rw K c H x d) (hy : Rw K c H y e) (h : getK d e = some o) : ∃ a, x = .ref a ∧ DGq K H a y o ∧ ∀ v, o = some v → scB v = true := by
  unfold Tk.getK at h
  split at h
  · rename_i kvs
    obtain ⟨k, hk, rfl⟩ := Option.map_eq_some_iff.mp h
    obtain ⟨a, rfl, ha, hs⟩ := hx.dK
    refine ⟨a, rfl, .inl ⟨kvs, k, ha, hy.key hk, rfl⟩, fun v hv => ?_⟩
    unfold valV at hv
    obtain ⟨p, hp, rfl⟩ := Option.map_eq_some_iff.mp hv
    exact List.all_eq_true.mp hs p (List.mem_of_find?_eq_some hp)
  · rename_i kvs l
    obtain ⟨k, hk, rfl⟩ := Option.map_eq_some_iff.mp h
    obtain ⟨a, rfl, ha, hs⟩ := hx.dT
    obtain ⟨b, xs, rfl, hb, tb⟩ := hy.tup
    rw [tb.keys hk] at hb
    refine ⟨a, rfl, .inr ⟨kvs, k, b, .inl ha, rfl, hb, rfl⟩, fun v hv => ?_⟩
    unfold valV at hv
    obtain ⟨p, hp, rfl⟩ := Option.map_eq_some_iff.mp hv
    exact List.all_eq_true.mp hs p (List.mem_of_find?_eq_some hp)
  · cases h
end
/-! ### subscripts, membership -/
def ixD (d i : Dt) : Option Dt := match d, i with
  | .lst l, .int i => atI l i
  | .tup l, .int i => atI l i
  | d, k => match getK d k with
    | some (some v) => some (ofV v)
    | _ => none
section
variable {K : PySem.W.Frag}
theorem RlL.atI {c : Cn} {H : Hp} {xs : List V} {ds : List Dt} {i : Int} {d : Dt} (t : RlL K c H xs ds) (h : L2.atI ds i = some d) : ∃ v, L2.atI xs i = some v ∧ Rl K c H v d := by
  unfold L2.atI at h ⊢
  rw [t.length]
  cases e : ixN ds.length i with
  | none => rw [e] at h; cases h
  | some j =>
    rw [e] at h
    exact t.get h
theorem om_ix : OpM K (rIxV K) ixD := by
  intro c H x y d e z Q ok hx hy hz q
  unfold ixD at hz
  split at hz
  · obtain ⟨a, xs, rfl, ha, t⟩ := hx.lst
    cases hy.int
    obtain ⟨v, h1, h2⟩ := t.atI hz
    exact .inl (.inl ⟨a, xs, _, v, rfl, rfl, SqL.of ha, h1, q v H Fh.refl h2⟩)
  · obtain ⟨a, xs, rfl, ha, t⟩ := hx.tup
    cases hy.int
    obtain ⟨v, h1, h2⟩ := t.atI hz
    exact .inl (.inr (.inl ⟨a, xs, _, v, rfl, rfl, ha, h1, q v H Fh.refl h2⟩))
  · split at hz
    · rename_i v e
      cases hz
      obtain ⟨a, rfl, g, hs⟩ := hx.getK hy e
      exact .inr ⟨a, v, rfl, g, q v H Fh.refl (.ofV (hs v rfl))⟩
    · cases hz
def seqD : Dt → Option (List Dt)
  | .lst l => some l
  | .tup l => some l
  | _ => none
theorem Rw.seq {c : Cn} {H : Hp} {x : V} {d : Dt} {l : List Dt} (h : Rw K c H x d) (e : seqD d = some l) : ∃ a xs, x = .ref a ∧ (SqL K H a xs ∨ SqT K H a xs) ∧ RlL K c H xs l := by
  cases d with
  | lst m =>
    cases e
    obtain ⟨a, xs, rfl, ha, t⟩ := h.lst
    exact ⟨a, xs, rfl, .inl (SqL.of ha), t⟩
  | tup m =>
    cases e
    obtain ⟨a, xs, rfl, ha, t⟩ := h.tup
    exact ⟨a, xs, rfl, .inr ha, t⟩
  | _ => cases e
/-- x in d -/
def inB (x d : Dt) : Option Bool := match getK d x with
  | some o => some o.isSome
  | none => match x.v?, (seqD d).bind vAll with
    | some v, some vs => some (inV v vs)
    | _, _ => match d with
      | .lst l => if x.cmp 12 && Dt.cmp 12 (.lst l) then some (l.any fun z => z.eqv x) else none
      | _ => none
def inD (x d : Dt) : Option Dt := (inB x d).map .bl
def notInD (x d : Dt) : Option Dt := (inB x d).map fun b => .bl (!b)
theorem any_py {x : Dt} (hx : x.cmp 12 = true) : ∀ {l : List Dt} {n : Nat}, Dt.cmpL n l = true → (Dt.pyL l).any (fun z => PyData.eqv z x.py) = l.any fun z => z.eqv x
  | [], _, _ => by simp [Dt.pyL]
  | d :: l, n, h => by
    rw [Dt.cmpL, Bool.and_eq_true] at h
    rw [Dt.pyL, List.any_cons, List.any_cons, any_py hx h.2, eqv_py d x n 12 h.1 hx]
theorem om_in : OpM K (rInV K) inD := by
  intro c H x y d e z Q ok hx hy hz q
  obtain ⟨b, hb, rfl⟩ := Option.map_eq_some_iff.mp hz
  unfold inB at hb
  split at hb
  · rename_i o e1
    cases hb
    obtain ⟨a, rfl, g, _⟩ := hy.getK hx e1
    exact .inr ⟨a, o, rfl, g, q _ _ Fh.refl (.bl _)⟩
  · split at hb
    · rename_i v vs e1 e2
      cases hb
      obtain ⟨rfl, f1⟩ := hx.v e1
      obtain ⟨l, e3, e4⟩ := Option.bind_eq_some_iff.mp e2
      obtain ⟨a, xs, rfl, ha, t⟩ := hy.seq e3
      obtain ⟨rfl, f2⟩ := t.v e4
      exact .inl (.inl ⟨a, xs, rfl, ha, f1, f2, q _ _ Fh.refl (.bl _)⟩)
    · split at hb
      · split at hb
        · rename_i hc
          rw [Bool.and_eq_true] at hc
          cases hb
          obtain ⟨h1, s1⟩ := hx.dp hc.1
          obtain ⟨h2, s2⟩ := hy.dp hc.2
          have hl := hc.2
          rw [Dt.cmp] at hl
          rw [Dt.py] at h2 s2
          exact .inl (.inr ⟨_, _, h1, h2, s1.ok, s2.ok, by rw [any_py hc.1 hl]; exact q _ _ Fh.refl (.bl _)⟩)
        · cases hb
      · cases hb
theorem om_notIn : OpM K (rNotInV K) notInD := by
  intro c H x y d e z Q ok hx hy hz q
  obtain ⟨b, hb, rfl⟩ := Option.map_eq_some_iff.mp hz
  unfold inB at hb
  split at hb
  · rename_i o e1
    cases hb
    obtain ⟨a, rfl, g, _⟩ := hy.getK hx e1
    exact .inr ⟨a, o, rfl, g, q _ _ Fh.refl (.bl _)⟩
  · split at hb
    · rename_i v vs e1 e2
      cases hb
      obtain ⟨rfl, f1⟩ := hx.v e1
      obtain ⟨l, e3, e4⟩ := Option.bind_eq_some_iff.mp e2
      obtain ⟨a, xs, rfl, ha, t⟩ := hy.seq e3
      obtain ⟨rfl, f2⟩ := t.v e4
      exact .inl (.inl ⟨a, xs, rfl, ha, f1, f2, q _ _ Fh.refl (.bl _)⟩)
    · split at hb
      · split at hb
        · rename_i hc
          rw [Bool.and_eq_true] at hc
          cases hb
          obtain ⟨h1, s1⟩ := hx.dp hc.1
          obtain ⟨h2, s2⟩ := hy.dp hc.2
          have hl := hc.2
          rw [Dt.cmp] at hl
          rw [Dt.py] at h2 s2
          exact .inl (.inr ⟨_, _, h1, h2, s1.ok, s2.ok, by rw [any_py hc.1 hl]; exact q _ _ Fh.refl (.bl _)⟩)
        · cases hb
      · cases hb
def isD : Dt → Dt → Option Dt
  | .any, _ => none
  | .non, .non => some (.bl true)
  | _, .non => some (.bl false)
  | _, _ => none
def isNotD : Dt → Dt → Option Dt
  | .any, _ => none
  | .non, .non => some (.bl false)
  | _, .non => some (.bl true)
  | _, _ => none
theorem Rw.nn {c : Cn} {H : Hp} {x : V} {d : Dt} (h : Rw K c H x d) (h1 : d ≠ .any) (h2 : d ≠ .non) : decide (x = V.non) = false := by
  refine decide_eq_false fun e => ?_
  subst e
  rcases h with h | ⟨p, _, e⟩
  · cases h with
    | non => exact h2 rfl
    | any => exact h1 rfl
  · cases e
theorem om_is : OpM K (fun x y H Q => y = V.non ∧ Q (.bl (decide (x = .non))) H) isD := by
  intro c H x y d e z Q ok hx hy hz q
  unfold isD at hz
  split at hz
  · cases hz
  · cases hx.non; cases hy.non; cases hz
    exact ⟨rfl, q _ _ Fh.refl (.bl _)⟩
  · rename_i h1 h2
    cases hy.non; cases hz
    exact ⟨rfl, by rw [hx.nn h1 h2]; exact q _ _ Fh.refl (.bl _)⟩
  · cases hz
theorem om_isNot : OpM K (fun x y H Q => y = V.non ∧ Q (.bl (!decide (x = .non))) H) isNotD := by
  intro c H x y d e z Q ok hx hy hz q
  unfold isNotD at hz
  split at hz
  · cases hz
  · cases hx.non; cases hy.non; cases hz
    exact ⟨rfl, q _ _ Fh.refl (.bl _)⟩
  · rename_i h1 h2
    cases hy.non; cases hz
    exact ⟨rfl, by rw [hx.nn h1 h2]; exact q _ _ Fh.refl (.bl _)⟩
  · cases hz
theorem om_mul : OpM K (rMulA K) mulD := by
  intro c H x y d e z Q ok hx hy hz q
  unfold mulD at hz
  split at hz
  · cases hx.int; cases hy.int
    split at hz
    · rename_i h; cases hz; exact r_mulI (by unfold L2.CMul; omega) (q _ _ Fh.refl (.int _))
    · cases hz
  · rename_i l k
    split at hz
    · rename_i h; cases hz
      obtain ⟨a, xs, rfl, ha, t⟩ := hx.lst
      cases hy.int
      refine .inr (.inl ⟨a, _, xs, rfl, rfl, ha, by omega, by omega, by rw [t.length, sizeLine_eq]; exact h.2.2, fun p n => ?_⟩)
      refine q _ _ (Fh.new n) (Rl.newL ok n upd_same (Fh.new n) ?_)
      exact t.flatten _
    · cases hz
  · rename_i l k
    split at hz
    · rename_i h; cases hz
      obtain ⟨a, xs, rfl, ha, t⟩ := hx.tup
      cases hy.int
      have tl := t.length
      refine .inr (.inr ⟨a, _, xs, rfl, rfl, ha, fun e => h.2.2.2 (List.length_eq_zero_iff.mp (by rw [← tl, e]; rfl)), h.1, by omega, by rw [tl]; exact h.2.2.1, fun p n => ?_⟩)
      exact q _ _ (Fh.new n) (.tup (SqT.of upd_same) ((t.flatten _).fh (Fh.new n)))
    · cases hz
  · cases hz
end
end Tk

end

section
/-! readings of expressions by mirrors -/
namespace Tk
open PySem PySem.Spec L2 RZ StX
open He (ga)
section
variable {K : PySem.W.Frag} {κ : Kt} {mu : List Nat} {W : WX} {te ta tb tc : TE} {me ma mb mc : ME} {tt uu : TT} {mt mu' : MB} {t u : TA} {mL mR : MA}
/-! tests -/
def boolD : Dt → Option Bool
  | .bl b => some b
  | _ => none
def mTest (me : ME) : MB := fun ρ => me ρ >>= fun d => ofO (boolD d)
theorem boolD_rw {c : Cn} {H : Hp} {v : V} {d : Dt} {b : Bool} (h : Rw K c H v d) (e : boolD d = some b) : v = .bl b := by
  cases d with
  | bl k => cases e; exact h.bl
  | _ => cases e
theorem rt_test (h : RO κ mu W te me) : RT κ mu W (tTest te) (mTest me) := by
  intro c M σ ρ H Q S w
  refine h c M σ ρ H _ S (wp0_mono (wp0_bind.mp w) (fun d w v H1 F r => ?_) fun _ _ h => h)
  obtain ⟨b, e, q⟩ := wp0_ofO w
  exact ⟨b, boolD_rw r e, q H1 F⟩
theorem rt_b (h : RO κ mu W te me) : RT κ mu W (tB te) (mTest me) := rt_test h
theorem rt_yes : RT κ mu W tYes (fun _ => .ret true) := fun c M σ ρ H Q S w => w H Fh.refl
def mAnd (a b : MB) : MB := fun ρ => a ρ >>= fun k => if k = true then b ρ else .ret false
def mOr (a b : MB) : MB := fun ρ => a ρ >>= fun k => if k = true then .ret true else b ρ
def mNot (a : MB) : MB := fun ρ => a ρ >>= fun k => .ret (!k)
theorem rt_and (h : RT κ mu W tt mt) (h' : RT κ mu W uu mu') : RT κ mu W (tAnd tt uu) (mAnd mt mu') := by
  intro c M σ ρ H Q S w
  refine h c M σ ρ H _ S (wp0_mono (wp0_bind.mp w) (fun k w H1 F => ?_) fun _ _ h => h)
  cases k with
  | true => exact h' c M σ ρ H1 _ (S.fh F) (wp0_mono w (fun b q H2 G => q H2 (F.trans G)) fun _ _ h => h.fh F)
  | false => exact w H1 F
theorem rt_or (h : RT κ mu W tt mt) (h' : RT κ mu W uu mu') : RT κ mu W (tOr tt uu) (mOr mt mu') := by
  intro c M σ ρ H Q S w
  refine h c M σ ρ H _ S (wp0_mono (wp0_bind.mp w) (fun k w H1 F => ?_) fun _ _ h => h)
  cases k with
  | false => exact h' c M σ ρ H1 _ (S.fh F) (wp0_mono w (fun b q H2 G => q H2 (F.trans G)) fun _ _ h => h.fh F)
  | true => exact w H1 F
theorem rt_not (h : RT κ mu W tt mt) : RT κ mu W (tNot tt) (mNot mt) := by
  intro c M σ ρ H Q S w
  exact h c M σ ρ H _ S (wp0_mono (wp0_bind.mp w) (fun k w H1 F => w H1 F) fun _ _ h => h)
def mIf (t : MB) (a b : ME) : ME := fun ρ => t ρ >>= fun k => if k = true then a ρ else b ρ
theorem re_if (h : RT κ mu W tt mt) (ha : RE κ mu W ta ma) (hb : RE κ mu W tb mb) : RE κ mu W (tIf tt ta tb) (mIf mt ma mb) := by
  intro c M σ ρ H Q S w
  refine h c M σ ρ H _ S (wp0_mono (wp0_bind.mp w) (fun k w H1 F => ?_) fun _ _ h => h)
  cases k with
  | true => exact ha c M σ ρ H1 _ (S.fh F) (wp0_mono w (fun b q v H2 G => q v H2 (F.trans G)) fun _ _ h => h.fh F)
  | false => exact hb c M σ ρ H1 _ (S.fh F) (wp0_mono w (fun b q v H2 G => q v H2 (F.trans G)) fun _ _ h => h.fh F)
theorem ro_if (h : RT κ mu W tt mt) (ha : RO κ mu W ta ma) (hb : RO κ mu W tb mb) : RO κ mu W (tIf tt ta tb) (mIf mt ma mb) := by
  intro c M σ ρ H Q S w
  refine h c M σ ρ H _ S (wp0_mono (wp0_bind.mp w) (fun k w H1 F => ?_) fun _ _ h => h)
  cases k with
  | true => exact ha c M σ ρ H1 _ (S.fh F) (wp0_mono w (fun b q v H2 G => q v H2 (F.trans G)) fun _ _ h => h.fh F)
  | false => exact hb c M σ ρ H1 _ (S.fh F) (wp0_mono w (fun b q v H2 G => q v H2 (F.trans G)) fun _ _ h => h.fh F)
def mAndV (a b : ME) : ME := fun ρ => a ρ >>= fun d => ofO (boolD d) >>= fun k => if k = true then b ρ else .ret (.bl false)
def mOrV (a b : ME) : ME := fun ρ => a ρ >>= fun d => ofO (boolD d) >>= fun k => if k = true then .ret (.bl true) else b ρ
def mNotV (a : ME) : ME := fun ρ => a ρ >>= fun d => ofO (boolD d) >>= fun k => .ret (.bl (!k))
theorem re_and (ha : RO κ mu W ta ma) (hb : RE κ mu W tb mb) : RE κ mu W (tAndV ta tb) (mAndV ma mb) := by
  intro c M σ ρ H Q S w
  refine ha c M σ ρ H _ S (wp0_mono (wp0_bind.mp w) (fun d w v H1 F r => ?_) fun _ _ h => h)
  obtain ⟨k, e, w⟩ := wp0_ofO (wp0_bind.mp w)
  refine ⟨k, boolD_rw r e, ?_⟩
  cases k with
  | true => exact hb c M σ ρ H1 _ (S.fh F) (wp0_mono w (fun b q v H2 G => q v H2 (F.trans G)) fun _ _ h => h.fh F)
  | false => exact w _ H1 F (.bl false)
theorem re_or (ha : RO κ mu W ta ma) (hb : RE κ mu W tb mb) : RE κ mu W (tOrV ta tb) (mOrV ma mb) := by
  intro c M σ ρ H Q S w
  refine ha c M σ ρ H _ S (wp0_mono (wp0_bind.mp w) (fun d w v H1 F r => ?_) fun _ _ h => h)
  obtain ⟨k, e, w⟩ := wp0_ofO (wp0_bind.mp w)
  refine ⟨k, boolD_rw r e, ?_⟩
  cases k with
  | false => exact hb c M σ ρ H1 _ (S.fh F) (wp0_mono w (fun b q v H2 G => q v H2 (F.trans G)) fun _ _ h => h.fh F)
  | true => exact w _ H1 F (.bl true)
theorem re_not (ha : RO κ mu W ta ma) : RE κ mu W (tNotV ta) (mNotV ma) := by
  intro c M σ ρ H Q S w
  refine ha c M σ ρ H _ S (wp0_mono (wp0_bind.mp w) (fun d w v H1 F r => ?_) fun _ _ h => h)
  obtain ⟨k, e, w⟩ := wp0_ofO (wp0_bind.mp w)
  exact ⟨k, boolD_rw r e, w _ H1 F (.bl _)⟩
def mNeg (a : ME) : ME := fun ρ => a ρ >>= fun d => match d with
  | .int i => .ret (.int (-i))
  | _ => .bad
theorem re_neg (ha : RO κ mu W ta ma) : RE κ mu W (tUn (rU fun i => .int (-i)) ta) (mNeg ma) := by
  intro c M σ ρ H Q S w
  refine ha c M σ ρ H _ S (wp0_mono (wp0_bind.mp w) (fun d w v H1 F r => ?_) fun _ _ h => h)
  cases d with
  | int i => exact ⟨i, r.int, w _ H1 F (.int _)⟩
  | _ => exact w.elim
def mChain (g g' : Dt → Dt → Option Dt) (a b c : ME) : ME := fun ρ => a ρ >>= fun x => b ρ >>= fun y => ofO (g x y) >>= fun z => ofO (boolD z) >>= fun k => if k = true then c ρ >>= fun w => ofO (g' y w) else .ret (.bl false)
theorem re_chain {r r' : R2} {g g' : Dt → Dt → Option Dt} (o : OpM κ.K r g) (o' : OpM κ.K r' g') (ha : RO κ mu W ta ma) (hb : RO κ mu W tb mb) (hc : RO κ mu W tc mc) : RE κ mu W (tChain r r' ta tb tc) (mChain g g' ma mb mc) := by
  intro c M σ ρ H Q S w
  refine ha c M σ ρ H _ S (wp0_mono (wp0_bind.mp w) (fun d w v H1 F r => ?_) fun _ _ h => h)
  refine hb c M σ ρ H1 _ (S.fh F) (wp0_mono (wp0_bind.mp w) (fun e w u H2 G q => ?_) fun _ _ h => h.fh F)
  obtain ⟨z, ez, w⟩ := wp0_ofO (wp0_bind.mp w)
  obtain ⟨k, ek, w⟩ := wp0_ofO (wp0_bind.mp w)
  have FG := F.trans G
  refine o c H2 v u d e z _ (S.fh FG).ok (r.fh G) q ez fun x H3 F3 r3 => ⟨k, boolD_rw (.inl r3) ek, ?_⟩
  have F13 := FG.trans F3
  cases k with
  | true =>
    refine hc c M σ ρ H3 _ (S.fh F13) (wp0_mono (wp0_bind.mp w) (fun e' w u' H4 G4 q4 => ?_) fun _ _ h => h.fh F13)
    obtain ⟨z', ez', w⟩ := wp0_ofO w
    exact o' c H4 u u' e e' z' Q (S.fh (F13.trans G4)).ok ((q.fh F3).fh G4) q4 ez' fun x H5 F5 r5 => w x H5 (F13.trans (G4.trans F5)) r5
  | false => exact w _ H3 F13 (.bl false)
/-! arguments, displays -/
def mNil : MA := fun _ => .ret []
def mCons (a : ME) (l : MA) : MA := fun ρ => a ρ >>= fun d => l ρ >>= fun ds => .ret (d :: ds)
def mStar (a : ME) (l : MA) : MA := fun ρ => a ρ >>= fun d => ofO (seqD d) >>= fun xs => l ρ >>= fun ds => .ret (xs ++ ds)
theorem ra_nil : RA κ mu W tNil mNil := fun c M σ ρ H Q S w => w [] H Fh.refl .nil
theorem ra_cons (ha : RE κ mu W ta ma) (hl : RA κ mu W t mL) : RA κ mu W (tCons ta t) (mCons ma mL) := by
  intro c M σ ρ H Q S w
  refine ha c M σ ρ H _ S (wp0_mono (wp0_bind.mp w) (fun d w v H1 F r => ?_) fun _ _ h => h)
  refine hl c M σ ρ H1 _ (S.fh F) (wp0_mono (wp0_bind.mp w) (fun e w u H2 G q => ?_) fun _ _ h => h.fh F)
  exact w _ H2 (F.trans G) (.cons (r.fh G) q)
theorem ra_consW (ha : RO κ mu W ta ma) (hl : RAw κ mu W t mL) : RAw κ mu W (tCons ta t) (mCons ma mL) := by
  intro c M σ ρ H Q S w
  refine ha c M σ ρ H _ S (wp0_mono (wp0_bind.mp w) (fun d w v H1 F r => ?_) fun _ _ h => h)
  refine hl c M σ ρ H1 _ (S.fh F) (wp0_mono (wp0_bind.mp w) (fun e w u H2 G q => ?_) fun _ _ h => h.fh F)
  exact w _ H2 (F.trans G) (.cons (r.fh G) q)
theorem ra_nilW : RAw κ mu W tNil mNil := ra_nil.w
theorem ra_star (ha : RO κ mu W ta ma) (hl : RA κ mu W t mL) : RA κ mu W (tStar κ.K ta t) (mStar ma mL) := by
  intro c M σ ρ H Q S w
  refine ha c M σ ρ H _ S (wp0_mono (wp0_bind.mp w) (fun d w v H1 F r => ?_) fun _ _ h => h)
  obtain ⟨l, e, w⟩ := wp0_ofO (wp0_bind.mp w)
  obtain ⟨a, xs, rfl, ha', tx⟩ := r.seq e
  refine ⟨a, xs, rfl, ha'.elim .inr .inl, ?_⟩
  refine hl c M σ ρ H1 _ (S.fh F) (wp0_mono (wp0_bind.mp w) (fun e w u H2 G q => ?_) fun _ _ h => h.fh F)
  exact w _ H2 (F.trans G) ((tx.fh G).app q)
def mTup (l : MA) : ME := fun ρ => l ρ >>= fun ds => if ds.length ≤ 16777216 then .ret (.tup ds) else .bad
def mLst (l : MA) : ME := fun ρ => l ρ >>= fun ds => if ds.length ≤ 16777216 then .ret (.lst ds) else .bad
theorem re_tup (hl : RA κ mu W t mL) : RE κ mu W (tTup t) (mTup mL) := by
  intro c M σ ρ H Q S w
  refine hl c M σ ρ H _ S (wp0_mono (wp0_bind.mp w) (fun ds w vs H1 F r => ?_) fun _ _ h => h)
  split at w
  · rename_i hz
    exact ⟨by rw [r.length, sizeLine_eq]; exact hz, fun p n => w _ _ (F.trans (Fh.new n)) (.tup (SqT.of upd_same) (r.fh (Fh.new n)))⟩
  · exact w.elim
theorem re_lst (hl : RA κ mu W t mL) : RE κ mu W (tLst t) (mLst mL) := by
  intro c M σ ρ H Q S w
  refine hl c M σ ρ H _ S (wp0_mono (wp0_bind.mp w) (fun ds w vs H1 F r => ?_) fun _ _ h => h)
  split at w
  · rename_i hz
    exact ⟨by rw [r.length, sizeLine_eq]; exact hz, fun p n => w _ _ (F.trans (Fh.new n)) (Rl.newL (S.fh F).ok n upd_same (Fh.new n) r)⟩
  · exact w.elim
/-! slices -/
def RP (κ : Kt) (mu : List Nat) (W : WX) (to : TO) (mo : Ev → Pm (Option Int)) : Prop := ∀ c M σ ρ H (Q : Option Int → Hp → Prop), Sl κ mu c M H σ ρ → wp0 (mo ρ) (fun o => ∀ H', Fh c H H' → Q o H') (Xw κ.K c W σ H) → to σ H Q
def mNo : Ev → Pm (Option Int) := fun _ => .ret none
def mPart (a : ME) : Ev → Pm (Option Int) := fun ρ => a ρ >>= fun d => match d with
  | .int i => .ret (some i)
  | _ => .bad
theorem rp_none : RP κ mu W tNoPart mNo := fun c M σ ρ H Q S w => w H Fh.refl
theorem rp_some (ha : RO κ mu W ta ma) : RP κ mu W (tPart ta) (mPart ma) := by
  intro c M σ ρ H Q S w
  refine ha c M σ ρ H _ S (wp0_mono (wp0_bind.mp w) (fun d w v H1 F r => ?_) fun _ _ h => h)
  cases d with
  | int i => exact ⟨i, r.int, w H1 F⟩
  | _ => exact w.elim
def cutD (xs : List Dt) (lo hi : Option Int) : List Dt := (xs.drop (HT.sIx xs.length 0 lo)).take (HT.sIx xs.length xs.length hi - HT.sIx xs.length 0 lo)
theorem RlL.cut {c : Cn} {H : Hp} {xs : List V} {ds : List Dt} {lo hi : Option Int} (h : RlL K c H xs ds) : RlL K c H (cutV xs lo hi) (cutD ds lo hi) := by
  unfold cutV cutD
  rw [h.length]
  exact (h.tl _).take _
def slD (d : Dt) (lo hi : Option Int) : Option Dt := match d with
  | .lst l => some (.lst (cutD l lo hi))
  | .tup l => some (.tup (cutD l lo hi))
  | _ => none
def mSl (a : ME) (l h : Ev → Pm (Option Int)) : ME := fun ρ => a ρ >>= fun d => l ρ >>= fun lo => h ρ >>= fun hi => ofO (slD d lo hi)
theorem re_sl {tl th : TO} {ml mh : Ev → Pm (Option Int)} (ha : RO κ mu W ta ma) (hl : RP κ mu W tl ml) (hh : RP κ mu W th mh) : RE κ mu W (tSl (rSl κ.K) ta tl th) (mSl ma ml mh) := by
  intro c M σ ρ H Q S w
  refine ha c M σ ρ H _ S (wp0_mono (wp0_bind.mp w) (fun d w v H1 F r => ?_) fun _ _ h => h)
  refine hl c M σ ρ H1 _ (S.fh F) (wp0_mono (wp0_bind.mp w) (fun lo w H2 G => ?_) fun _ _ h => h.fh F)
  have F2 := F.trans G
  refine hh c M σ ρ H2 _ (S.fh F2) (wp0_mono (wp0_bind.mp w) (fun hi w H3 G3 => ?_) fun _ _ h => h.fh F2)
  have F3 := F2.trans G3
  obtain ⟨z, hz, w⟩ := wp0_ofO w
  unfold slD at hz
  split at hz
  · cases hz
    obtain ⟨a, xs, rfl, ha', tx⟩ := ((r.fh G).fh G3).lst
    exact r_slL (SqL.of ha') fun p n F4 e => w _ _ (F3.trans (Fh.of0 F4)) (Rl.newL (S.fh F3).ok n e (Fh.of0 F4) tx.cut)
  · cases hz
    obtain ⟨a, xs, rfl, ha', tx⟩ := ((r.fh G).fh G3).tup
    exact r_slT ha' fun p H' F4 e => w _ _ (F3.trans (Fh.of0 F4)) (.tup e (tx.cut.fh (Fh.of0 F4)))
  · cases hz
def mRev (a : ME) : ME := fun ρ => a ρ >>= fun d => match d with
  | .lst l => .ret (.lst l.reverse)
  | _ => .bad
theorem re_rev (ha : RO κ mu W ta ma) : RE κ mu W (tRevL κ.K ta) (mRev ma) := by
  intro c M σ ρ H Q S w
  refine ha c M σ ρ H _ S (wp0_mono (wp0_bind.mp w) (fun d w v H1 F r => ?_) fun _ _ h => h)
  cases d with
  | lst l =>
    obtain ⟨a, xs, rfl, ha', tx⟩ := r.lst
    exact ⟨a, xs, rfl, SqL.of ha', fun p n => w _ _ (F.trans (Fh.new n)) (Rl.newL (S.fh F).ok n upd_same (Fh.new n) tx.rev)⟩
  | _ => exact w.elim
/-! fields of a table -/
def rowT (r : List Int) : Dt := .tup (r.map Dt.int)
def rowsT (rs : List (List Int)) : Dt := .tup (rs.map rowT)
theorem dtOf_ints (r : List Int) : dtOfL (r.map PyData.int) = r.map Dt.int := by
  induction r with
  | nil => rfl
  | cons a r ih => rw [List.map_cons, dtOfL, ih, dtOf]; rfl
theorem dtOf_row (r : List Int) : dtOf (rowD r) = rowT r := by unfold rowD; rw [dtOf, dtOf_ints]; rfl
theorem dtOf_rows (rs : List (List Int)) : dtOf (rowsD rs) = rowsT rs := by
  unfold rowsD rowsT
  rw [dtOf]
  congr 1
  induction rs with
  | nil => rfl
  | cons a r ih => rw [List.map_cons, dtOfL, ih, dtOf_row]; rfl
def fldD (f : Str) : Dt → Option Dt
  | .tab t => if f = "allowed" then some (rowsT t.rows) else if f = "spare" then some (.int t.spare) else if f = "fate" then some (.str t.fate) else none
  | _ => none
def mFld (a : ME) (f : Str) : ME := fun ρ => a ρ >>= fun d => ofO (fldD f d)
theorem re_fld {f : Str} (ha : RO κ mu W ta ma) : RE κ mu W (tFldO κ.K "Table" ta f) (mFld ma f) := by
  intro c M σ ρ H Q S w
  refine ha c M σ ρ H _ S (wp0_mono (wp0_bind.mp w) (fun d w v H1 F r => ?_) fun _ _ h => h)
  obtain ⟨z, hz, w⟩ := wp0_ofO w
  cases d with
  | tab t =>
    obtain ⟨a, rfl, ht, _⟩ := r.tab
    unfold fldD at hz
    simp only at hz
    split at hz
    · rename_i h; subst h; cases hz
      exact g_tabA ht fun v tv => w v H1 F (by rw [← dtOf_rows]; exact tv.rl)
    · split at hz
      · rename_i h; subst h; cases hz
        exact g_tabS ht (w _ H1 F (.int _))
      · split at hz
        · rename_i h; subst h; cases hz
          exact g_tabF ht (w _ H1 F (.str _))
        · cases hz
  | _ => cases hz
/-! ### calls of built-ins -/
def CaM (K : PySem.W.Frag) (r : List V → Hp → VK → Prop) (g : List Dt → Option Dt) : Prop := ∀ c H xs ds z (Q : VK), (∀ b ∈ c.av, H b ≠ none) → RwL K c H xs ds → g ds = some z → (∀ v H', Fh c H H' → Rl K c H' v z → Q v H') → r xs H Q
def mCB (g : List Dt → Option Dt) (l : MA) : ME := fun ρ => l ρ >>= fun ds => ofO (g ds)
theorem re_cb {r : List V → Hp → VK → Prop} {g : List Dt → Option Dt} (o : CaM κ.K r g) (hl : RAw κ mu W t mL) : RE κ mu W (tCB r t) (mCB g mL) := by
  intro c M σ ρ H Q S w
  refine hl c M σ ρ H _ S (wp0_mono (wp0_bind.mp w) (fun ds w vs H1 F r => ?_) fun _ _ h => h)
  obtain ⟨z, hz, w⟩ := wp0_ofO w
  exact o c H1 vs ds z Q (S.fh F).ok r hz fun v H' G q => w v H' (F.trans G) q
theorem RwL.one {c : Cn} {H : Hp} {xs : List V} {d : Dt} (h : RwL K c H xs [d]) : ∃ v, xs = [v] ∧ Rw K c H v d := by
  cases h with
  | cons h t => cases t; exact ⟨_, rfl, h⟩
theorem RwL.two {c : Cn} {H : Hp} {xs : List V} {d e : Dt} (h : RwL K c H xs [d, e]) : ∃ v u, xs = [v, u] ∧ Rw K c H v d ∧ Rw K c H u e := by
  cases h with
  | cons h t => obtain ⟨u, rfl, q⟩ := t.one; exact ⟨_, u, rfl, h, q⟩
def lenD : List Dt → Option Dt
  | [.lst l] => some (.int (l.length : Nat))
  | [.tup l] => some (.int (l.length : Nat))
  | _ => none
theorem cm_len : CaM K (rLenA K) lenD := by
  intro c H xs ds z Q ok h hz q
  unfold lenD at hz
  split at hz
  · cases hz
    obtain ⟨v, rfl, r⟩ := h.one
    obtain ⟨a, ys, rfl, ha, t⟩ := r.lst
    exact r_lenL (SqL.of ha) (by rw [t.length]; exact q _ _ Fh.refl (.int _))
  · cases hz
    obtain ⟨v, rfl, r⟩ := h.one
    obtain ⟨a, ys, rfl, ha, t⟩ := r.tup
    exact r_lenT ha (by rw [t.length]; exact q _ _ Fh.refl (.int _))
  · cases hz
def bools : List Dt → Option (List Bool)
  | [] => some []
  | .bl b :: l => (bools l).map (b :: ·)
  | _ :: _ => none
theorem bools_eq : ∀ {l : List Dt} {bs : List Bool}, bools l = some bs → l = bs.map Dt.bl
  | [], _, e => by cases e; rfl
  | d :: l, bs, e => by
    cases d with
    | bl b =>
      rw [bools] at e
      obtain ⟨cs, h, rfl⟩ := Option.map_eq_some_iff.mp e
      rw [bools_eq h]; rfl
    | _ => cases e
@[simp] theorem bools_map (bs : List Bool) : bools (bs.map Dt.bl) = some bs := by
  induction bs with
  | nil => rfl
  | cons b bs ih => rw [List.map_cons, bools, ih]; rfl
def allD : List Dt → Option Dt
  | [.lst l] => (bools l).map fun bs => .bl (bs.all id)
  | _ => none
def anyD : List Dt → Option Dt
  | [.lst l] => (bools l).map fun bs => .bl (bs.any id)
  | _ => none
theorem cm_all : CaM K (rAll K) allD := by
  intro c H xs ds z Q ok h hz q
  unfold allD at hz
  split at hz
  · obtain ⟨bs, hb, rfl⟩ := Option.map_eq_some_iff.mp hz
    obtain ⟨v, rfl, r⟩ := h.one
    obtain ⟨a, ys, rfl, ha, t⟩ := r.lst
    rw [bools_eq hb] at t
    rw [t.of_bls] at ha
    exact ⟨a, bs, rfl, SqL.of ha, q _ _ Fh.refl (.bl _)⟩
  · cases hz
theorem cm_any : CaM K (rAny K) anyD := by
  intro c H xs ds z Q ok h hz q
  unfold anyD at hz
  split at hz
  · obtain ⟨bs, hb, rfl⟩ := Option.map_eq_some_iff.mp hz
    obtain ⟨v, rfl, r⟩ := h.one
    obtain ⟨a, ys, rfl, ha, t⟩ := r.lst
    rw [bools_eq hb] at t
    rw [t.of_bls] at ha
    exact ⟨a, bs, rfl, SqL.of ha, q _ _ Fh.refl (.bl _)⟩
  · cases hz
def kd : Dt → Option Ty
  | .non => some .non
  | .bl _ => some .bl
  | .int _ => some .int
  | .str _ => some .str
  | .tup _ => some .tup
  | .lst _ => some .lst
  | .dK _ => some .dct
  | _ => none
theorem Rw.any {c : Cn} {H : Hp} {v : V} {d : Dt} {n : Ty} (h : Rw K c H v d) (e : kd d = some n) : AnyV K H v n := by
  cases d with
  | non => cases e; cases h.non; exact .non
  | bl b => cases e; cases h.bl; exact .bl _
  | int b => cases e; cases h.int; exact .int _
  | str b => cases e; cases h.str; exact .str _
  | tup l => cases e; obtain ⟨a, xs, rfl, h, _⟩ := h.tup; exact .tup h
  | lst l => cases e; obtain ⟨a, xs, rfl, h, _⟩ := h.lst; exact .lst (SqL.of h)
  | dK l => cases e; obtain ⟨a, rfl, h, _⟩ := h.dK; exact .dK h
  | _ => cases e
def tyB (n : Ty) (s : String) : Option Bool := if s = "int" then some n.isInt else if s = "bool" then some n.isBool else if s = "str" then some n.isStr else if s = "tuple" then some n.isTup else if s = "list" then some n.isLst else if s = "dict" then some n.isDct else none
def isiD : List Dt → Option Dt
  | [d, .ty s] => (kd d).bind fun n => (tyB n s).map .bl
  | _ => none
theorem cm_isi : CaM K (rIsi K) isiD := by
  intro c H xs ds z Q ok h hz q
  unfold isiD at hz
  split at hz
  · obtain ⟨n, e1, hz⟩ := Option.bind_eq_some_iff.mp hz
    obtain ⟨b, e2, rfl⟩ := Option.map_eq_some_iff.mp hz
    obtain ⟨v, u, rfl, r1, r2⟩ := h.two
    have r2 := r2.rl rfl
    cases r2
    have a := r1.any e1
    have q := q _ _ Fh.refl (.bl b)
    unfold tyB at e2
    split at e2
    · rename_i e; subst e; cases e2; exact r_isi_int a q
    · split at e2
      · rename_i e; subst e; cases e2; exact r_isi_bool a q
      · split at e2
        · rename_i e; subst e; cases e2; exact r_isi_str a q
        · split at e2
          · rename_i e; subst e; cases e2; exact r_isi_tup a q
          · split at e2
            · rename_i e; subst e; cases e2; exact r_isi_lst a q
            · split at e2
              · rename_i e; subst e; cases e2; exact r_isi_dct a q
              · cases e2
  · cases hz
/-- isinstance of an own class of tables -/
def isiTabD : List Dt → Option Dt
  | [.tab _, .cls _] => some (.bl true)
  | [d, .cls _] => (kd d).map fun _ => .bl false
  | _ => none
def listD : List Dt → Option Dt
  | [.lst l] => some (.lst l)
  | [.tup l] => some (.lst l)
  | _ => none
theorem cm_list : CaM K (rListOf K) listD := by
  intro c H xs ds z Q ok h hz q
  unfold listD at hz
  split at hz
  · cases hz
    obtain ⟨v, rfl, r⟩ := h.one
    obtain ⟨a, ys, rfl, ha, t⟩ := r.lst
    exact r_listOfL (SqL.of ha) fun p n F e => q _ _ (Fh.of0 F) (Rl.newL ok n e (Fh.of0 F) t)
  · cases hz
    obtain ⟨v, rfl, r⟩ := h.one
    obtain ⟨a, ys, rfl, ha, t⟩ := r.tup
    exact r_listOfT ha fun p n F e => q _ _ (Fh.of0 F) (Rl.newL ok n e (Fh.of0 F) t)
  · cases hz
def tupleD : List Dt → Option Dt
  | [.lst l] => some (.tup l)
  | [.tup l] => some (.tup l)
  | _ => none
theorem cm_tuple : CaM K (rTupleOf K) tupleD := by
  intro c H xs ds z Q ok h hz q
  unfold tupleD at hz
  split at hz
  · cases hz
    obtain ⟨v, rfl, r⟩ := h.one
    obtain ⟨a, ys, rfl, ha, t⟩ := r.lst
    exact ⟨a, ys, rfl, .inl ⟨SqL.of ha, fun p n => q _ _ (Fh.new n) (.tup (SqT.of upd_same) (t.fh (Fh.new n)))⟩⟩
  · cases hz
    obtain ⟨v, rfl, r⟩ := h.one
    obtain ⟨a, ys, rfl, ha, t⟩ := r.tup
    exact ⟨a, ys, rfl, .inr ⟨ha, q _ _ Fh.refl (.tup ha t)⟩⟩
  · cases hz
def intOfD : List Dt → Option Dt
  | [.int i] => some (.int i)
  | [.bl k] => some (.int (if k then 1 else 0))
  | [.str z] => if z.length ≤ 640 then (PySem.intText? z).map .int else none
  | _ => none
theorem cm_int : CaM K rIntA intOfD := by
  intro c H xs ds z Q ok h hz q
  unfold intOfD at hz
  split at hz
  · cases hz
    obtain ⟨v, rfl, r⟩ := h.one
    cases r.int
    exact r_intI (q _ _ Fh.refl (.int _))
  · cases hz
    obtain ⟨v, rfl, r⟩ := h.one
    cases r.bl
    exact .inl (.inr ⟨_, rfl, q _ _ Fh.refl (.int _)⟩)
  · split at hz
    · rename_i hl
      obtain ⟨i, e, rfl⟩ := Option.map_eq_some_iff.mp hz
      obtain ⟨v, rfl, r⟩ := h.one
      cases r.str
      exact r_intS e hl (q _ _ Fh.refl (.int _))
    · cases hz
  · cases hz
def strOfD : List Dt → Option Dt
  | [.int i] => if i.natAbs.log2 < 1920 then some (.str (toString i)) else none
  | _ => none
theorem cm_str : CaM K rStrI strOfD := by
  intro c H xs ds z Q ok h hz q
  unfold strOfD at hz
  split at hz
  · split at hz
    · rename_i hl; cases hz
      obtain ⟨v, rfl, r⟩ := h.one
      cases r.int
      exact r_strI hl (q _ _ Fh.refl (.str _))
    · cases hz
  · cases hz
def maxD : List Dt → Option Dt
  | [.int i, .int j] => some (.int (if j > i then j else i))
  | _ => none
def minD : List Dt → Option Dt
  | [.int i, .int j] => some (.int (if j < i then j else i))
  | _ => none
theorem cm_max : CaM K rMax2 maxD := by
  intro c H xs ds z Q ok h hz q
  unfold maxD at hz
  split at hz
  · cases hz
    obtain ⟨v, u, rfl, r1, r2⟩ := h.two
    cases r1.int; cases r2.int
    exact r_max2 (q _ _ Fh.refl (.int _))
  · cases hz
theorem cm_min : CaM K rMin2 minD := by
  intro c H xs ds z Q ok h hz q
  unfold minD at hz
  split at hz
  · cases hz
    obtain ⟨v, u, rfl, r1, r2⟩ := h.two
    cases r1.int; cases r2.int
    exact r_min2 (q _ _ Fh.refl (.int _))
  · cases hz
def intsD : List Dt → Option (List Int)
  | [] => some []
  | .int b :: l => (intsD l).map (b :: ·)
  | _ :: _ => none
theorem ints_eq : ∀ {l : List Dt} {bs : List Int}, intsD l = some bs → l = bs.map Dt.int
  | [], _, e => by cases e; rfl
  | d :: l, bs, e => by
    cases d with
    | int b =>
      rw [intsD] at e
      obtain ⟨cs, h, rfl⟩ := Option.map_eq_some_iff.mp e
      rw [ints_eq h]; rfl
    | _ => cases e
@[simp] theorem intsD_map (bs : List Int) : intsD (bs.map Dt.int) = some bs := by
  induction bs with
  | nil => rfl
  | cons b bs ih => rw [List.map_cons, intsD, ih]; rfl
def sortedD : List Dt → Option Dt
  | [.lst l] => (intsD l).bind fun ns => if ns.length < 64 then some (.lst ((sortI ns).map Dt.int)) else none
  | _ => none
theorem cm_sorted : CaM K (rSorted K) sortedD := by
  intro c H xs ds z Q ok h hz q
  unfold sortedD at hz
  split at hz
  · obtain ⟨ns, e, hz⟩ := Option.bind_eq_some_iff.mp hz
    split at hz
    · rename_i hl; cases hz
      obtain ⟨v, rfl, r⟩ := h.one
      obtain ⟨a, ys, rfl, ha, t⟩ := r.lst
      rw [ints_eq e] at t
      rw [t.of_ints] at ha
      refine ⟨a, ns, rfl, SqL.of ha, hl, fun ns' p hp hw n => ?_⟩
      rw [sortI_eq hp hw]
      exact q _ _ (Fh.new n) (.lst upd_same (new_av ok n) (RlL.ints _))
    · cases hz
  · cases hz
/-! ### texts -/
def strsD : List Dt → Option (List Str)
  | [] => some []
  | .str b :: l => (strsD l).map (b :: ·)
  | _ :: _ => none
theorem strs_eq : ∀ {l : List Dt} {bs : List Str}, strsD l = some bs → l = bs.map Dt.str
  | [], _, e => by cases e; rfl
  | d :: l, bs, e => by
    cases d with
    | str b =>
      rw [strsD] at e
      obtain ⟨cs, h, rfl⟩ := Option.map_eq_some_iff.mp e
      rw [strs_eq h]; rfl
    | _ => cases e
@[simp] theorem strsD_map (bs : List Str) : strsD (bs.map Dt.str) = some bs := by
  induction bs with
  | nil => rfl
  | cons b bs ih => rw [List.map_cons, strsD, ih]; rfl
def strQ : Dt → Option Str
  | .str z => some z
  | _ => none
theorem strQ_rw {c : Cn} {H : Hp} {v : V} {d : Dt} {z : Str} (h : Rw K c H v d) (e : strQ d = some z) : v = .str z := by
  cases d with
  | str k => cases e; exact h.str
  | _ => cases e
def joinD (a : Str) (d : Dt) : Option Dt := match d with
  | .lst l => (strsD l).bind fun ys => if (ys.map (·.length)).sum + ys.length * a.length ≤ 16777216 then some (.str (Txt.join a ys)) else none
  | _ => none
def splitD (a : Str) (d : Dt) : Option Dt := match d with
  | .str b => if (b.length == 0) = false ∧ a.length ≤ 16777000 then some (.lst ((Txt.split a b).map Dt.str)) else none
  | _ => none
def mM1 (g : Str → Dt → Option Dt) (a b : ME) : ME := fun ρ => a ρ >>= fun x => ofO (strQ x) >>= fun z => b ρ >>= fun y => ofO (g z y)
theorem re_m1 {r : V → List V → Hp → VK → Prop} {g : Str → Dt → Option Dt} (o : ∀ c H a y e z (Q : VK), (∀ b ∈ c.av, H b ≠ none) → Rw κ.K c H y e → g a e = some z → (∀ v H', Fh c H H' → Rl κ.K c H' v z → Q v H') → r (.str a) [y] H Q)
    (ha : RO κ mu W ta ma) (hb : RO κ mu W tb mb) : RE κ mu W (tM1 r ta tb) (mM1 g ma mb) := by
  intro c M σ ρ H Q S w
  refine ha c M σ ρ H _ S (wp0_mono (wp0_bind.mp w) (fun d w v H1 F r => ?_) fun _ _ h => h)
  obtain ⟨a, e, w⟩ := wp0_ofO (wp0_bind.mp w)
  cases strQ_rw r e
  refine ⟨⟨_, rfl⟩, ?_⟩
  refine hb c M σ ρ H1 _ (S.fh F) (wp0_mono (wp0_bind.mp w) (fun e w u H2 G q => ?_) fun _ _ h => h.fh F)
  obtain ⟨z, hz, w⟩ := wp0_ofO w
  exact o c H2 a u e z Q (S.fh (F.trans G)).ok q hz fun v H' F3 r3 => w v H' (F.trans (G.trans F3)) r3
theorem re_join (ha : RO κ mu W ta ma) (hb : RO κ mu W tb mb) : RE κ mu W (tM1 (rJoin κ.K) ta tb) (mM1 joinD ma mb) := re_m1 (fun c H a y e z Q ok q hz w => by
  unfold joinD at hz
  split at hz
  · rename_i l
    obtain ⟨ys, e, hz⟩ := Option.bind_eq_some_iff.mp hz
    split at hz
    · rename_i hl; cases hz
      obtain ⟨p, xs, rfl, hp, t⟩ := q.lst
      rw [strs_eq e] at t
      rw [t.of_strs] at hp
      exact ⟨a, p, ys, rfl, rfl, .inl (SqL.of hp), hl, w _ _ Fh.refl (.str _)⟩
    · cases hz
  · cases hz) ha hb
theorem re_split (ha : RO κ mu W ta ma) (hb : RO κ mu W tb mb) : RE κ mu W (tM1 rSplit ta tb) (mM1 splitD ma mb) := re_m1 (fun c H a y e z Q ok q hz w => by
  unfold splitD at hz
  split at hz
  · split at hz
    · rename_i hl; cases hz
      cases q.str
      exact ⟨a, _, rfl, rfl, hl.1, by rw [sizeLine_eq]; omega, fun p n => w _ _ (Fh.new n) (.lst upd_same (new_av ok n) (RlL.strs _))⟩
    · cases hz
  · cases hz) ha hb
end
end Tk

end

section
/-! calls of defs by mirrors; targets, what is walked, comprehensions -/
namespace Tk
open PySem PySem.Spec L2 RZ StX
open He (ga)
/-! ### promises by mirrors -/
abbrev MF : Type := List Dt → Pm Dt
def spM (κ : Kt) (m : MF) : Sp := fun vs H Q E => ∃ S h ds, h.T = κ.T ∧ RlL κ.K ⟨[], S, h⟩ H vs ds ∧ (∀ b ∈ (⟨[], S, h⟩ : Cn).av, H b ≠ none) ∧ (∀ p ∈ κ.T, LamX.TabS H p.1 p.2) ∧
  wp0 (m ds) (fun d => ∀ v H', Fh ⟨[], S, h⟩ H H' → Rl κ.K ⟨[], S, h⟩ H' v d → Q v H') (fun x f => ∀ e H', Fh ⟨[], S, h⟩ H H' → ExIs κ.K H' e f → E (.ref (ga κ.K x)) e H')
/-- the promise sp follows from the mirror's -/
def Bf (κ : Kt) (n : Nat) (m : MF) (sp : Sp) : Prop := ∀ vs H Q E, vs.length = n → spM κ m vs H Q E → sp vs H Q E
theorem bf_M {κ : Kt} {n : Nat} {m : MF} : Bf κ n m (spM κ m) := fun _ _ _ _ _ h => h
section
variable {K : PySem.W.Frag} {κ : Kt} {mu : List Nat} {W : WX} {te ta tb tc : TE} {me ma mb mc : ME} {tt uu : TT} {mt mu' : MB} {t u : TA} {mL mR : MA} {sp : Sp} {m : MF} {n : Nat}
theorem av_base {c : Cn} {b : Addr} : b ∈ (⟨[], c.L ++ c.S, c.h⟩ : Cn).av ↔ b ∈ c.av := by
  rw [Cn.av_iff, Cn.av_iff]
  show b ∈ ([] : List Addr) ∨ b ∈ c.L ++ c.S ∨ b ∈ c.hd ↔ _
  simp [or_assoc]
theorem rl_base {c : Cn} {H : Hp} {v : V} {d : Dt} (h : Rl K c H v d) : Rl K ⟨[], c.L ++ c.S, c.h⟩ H v d := Rl.to (c := c) (c' := ⟨[], c.L ++ c.S, c.h⟩) rfl (fun b o _ nb m => nb (av_base.mp m)) h
theorem rll_base {c : Cn} {H : Hp} {v : List V} {d : List Dt} (h : RlL K c H v d) : RlL K ⟨[], c.L ++ c.S, c.h⟩ H v d := RlL.to (c := c) (c' := ⟨[], c.L ++ c.S, c.h⟩) rfl (fun b o _ nb m => nb (av_base.mp m)) h
theorem rl_unbase {c : Cn} {H : Hp} {v : V} {d : Dt} (h : Rl K ⟨[], c.L ++ c.S, c.h⟩ H v d) : Rl K c H v d := Rl.to (c' := c) (c := ⟨[], c.L ++ c.S, c.h⟩) rfl (fun b o _ nb m => nb (av_base.mpr m)) h
/-- a promise used: strong arguments -/
theorem use_sp {c : Cn} {σ : L2.St} {H : Hp} {vs : List V} {ds : List Dt} {Q : VK} (hB : Bf κ n m sp) (hT : c.h.T = κ.T) (ok : ∀ b ∈ c.av, H b ≠ none) (tb : ∀ p ∈ κ.T, LamX.TabS H p.1 p.2) (r : RlL κ.K c H vs ds) (hl : vs.length = n) {E : XK}
    (w : wp0 (m ds) (fun d => ∀ v H', Fh c H H' → Rl κ.K c H' v d → Q v H') fun x f => ∀ e H', Fh c H H' → ExIs κ.K H' e f → E (.ref (ga κ.K x)) e H') : spL n sp vs H Q E :=
  ⟨hl, hB _ _ _ _ hl ⟨c.L ++ c.S, c.h, ds, hT, rll_base r, fun b hb => ok b (av_base.mp hb), tb, wp0_mono w (fun d q v H' F r => q v H' F (rl_unbase r)) fun x f q e H' F i => q e H' F i⟩⟩
theorem rw_none {c : Cn} {H : Hp} {v : V} {d : Dt} (h : Rw K c H v d) : Rl K ⟨[], [], c.h⟩ H v d := by
  have sub : ∀ b, b ∈ (⟨[], [], c.h⟩ : Cn).av → b ∈ c.hd := fun b hb => by
    rw [Cn.av_iff] at hb
    rcases hb with hb | hb | hb
    · cases hb
    · cases hb
    · exact hb
  rcases h with h | ⟨p, h⟩
  · exact Rl.to (c := c) (c' := ⟨[], [], c.h⟩) rfl (fun b o _ nb m => nb (Cn.hd_av (sub b m))) h
  · exact MutAt.rl (c := c) (c' := ⟨[], [], c.h⟩) rfl (fun b hb z => (h.1 b hb).2.2 (sub _ z)) (fun b o _ nb m => nb (Cn.hd_av (sub b m))) h
theorem rwl_none {c : Cn} {H : Hp} : ∀ {v : List V} {d : List Dt}, RwL K c H v d → RlL K ⟨[], [], c.h⟩ H v d
  | _, _, .nil => .nil
  | _, _, .cons h t => .cons (rw_none h) (rwl_none t)
theorem use_spW {c : Cn} {σ : L2.St} {H : Hp} {vs : List V} {ds : List Dt} {Q : VK} (hB : Bf κ n m sp) (hT : c.h.T = κ.T) (ok : ∀ b ∈ c.av, H b ≠ none) (tb : ∀ p ∈ κ.T, LamX.TabS H p.1 p.2) (r : RwL κ.K c H vs ds) (hl : vs.length = n) {E : XK}
    (w : wp0 (m ds) (fun d => d.flat = true ∧ ∀ v H', Fh c H H' → Rl κ.K c H' v d → Q v H') fun x f => ∀ e H', Fh c H H' → ExIs κ.K H' e f → E (.ref (ga κ.K x)) e H') : spL n sp vs H Q E :=
  ⟨hl, hB _ _ _ _ hl ⟨[], c.h, ds, hT, rwl_none r, fun b hb => ok b (by
    rw [Cn.av_iff] at hb
    rcases hb with hb | hb | hb
    · cases hb
    · cases hb
    · exact Cn.hd_av hb), tb, wp0_mono w (fun d q v H' F r => q.2 v H' F (r.flat q.1)) fun x f q e H' F i => q e H' F i⟩⟩
def mCall (n : Nat) (m : MF) (l : MA) : ME := fun ρ => l ρ >>= fun ds => if ds.length = n then m ds else .bad
def flatQ (d : Dt) : Pm Dt := if d.flat then .ret d else .bad
def mCallW (n : Nat) (m : MF) (l : MA) : ME := fun ρ => l ρ >>= fun ds => if ds.length = n then m ds >>= flatQ else .bad
theorem re_call (hB : Bf κ n m sp) (hl : RA κ mu W t mL) : RE κ mu W (tCallS (spL n sp) (WE W) t) (mCall n m mL) := by
  intro c M σ ρ H Q S w
  refine hl c M σ ρ H _ S (wp0_mono (wp0_bind.mp w) (fun ds w vs H1 F r => ?_) fun _ _ h => h)
  split at w
  · rename_i hn
    exact use_sp (σ := σ) hB (S.fh F).hT (S.fh F).ok (S.fh F).tb r (r.length.trans hn) (wp0_mono w (fun d q v H' G r => q v H' (F.trans G) r) fun x f q e H' G i => q e H' (F.trans G) i)
  · exact w.elim
theorem re_callW (hB : Bf κ n m sp) (hl : RAw κ mu W t mL) : RE κ mu W (tCallS (spL n sp) (WE W) t) (mCallW n m mL) := by
  intro c M σ ρ H Q S w
  refine hl c M σ ρ H _ S (wp0_mono (wp0_bind.mp w) (fun ds w vs H1 F r => ?_) fun _ _ h => h)
  split at w
  · rename_i hn
    refine use_spW (σ := σ) hB (S.fh F).hT (S.fh F).ok (S.fh F).tb r (r.length.trans hn) (wp0_mono (wp0_bind.mp w) (fun d q => ?_) fun x f q e H' G i => q e H' (F.trans G) i)
    unfold flatQ at q
    split at q
    · rename_i hf
      exact ⟨hf, fun v H' G r => q v H' (F.trans G) r⟩
    · exact q.elim
  · exact w.elim
def tabQ : Dt → Option Tab
  | .tab t => some t
  | _ => none
theorem tabQ_rw {c : Cn} {H : Hp} {v : V} {d : Dt} {z : Tab} (h : Rw K c H v d) (e : tabQ d = some z) : d = .tab z ∧ ∃ a, v = .ref a ∧ AtTab K H a z ∧ a ∉ c.av := by
  cases d with
  | tab k => cases e; exact ⟨rfl, h.tab⟩
  | _ => cases e
/-- a property of a table -/
def mProp (m : MF) (a : ME) : ME := fun ρ => a ρ >>= fun d => ofO (tabQ d) >>= fun _ => (m [d]).nox
theorem re_prop (hB : Bf κ 1 m sp) (ha : RE κ mu W ta ma) : RE κ mu W (tPropO κ.K "Table" (spL 1 sp) ta) (mProp m ma) := by
  intro c M σ ρ H Q S w
  refine ha c M σ ρ H _ S (wp0_mono (wp0_bind.mp w) (fun d w v H1 F r => ?_) fun _ _ h => h)
  obtain ⟨t, e, w⟩ := wp0_ofO (wp0_bind.mp w)
  obtain ⟨rfl, a, rfl, ht, _⟩ := tabQ_rw (.inl r) e
  refine g_tabP (R := fun a => spL 1 sp [.ref a] H1 Q fun _ _ _ => False) ht ?_
  exact use_sp (σ := σ) hB (S.fh F).hT (S.fh F).ok (S.fh F).tb (.one r) rfl (wp0_mono (wp0_nox.mp w) (fun d q v H' G r => q v H' (F.trans G) r) fun x f q => q.elim)
/-- a method of a table -/
def mMeth (n : Nat) (m : MF) (a : ME) (l : MA) : ME := fun ρ => a ρ >>= fun d => ofO (tabQ d) >>= fun _ => l ρ >>= fun ds => if (d :: ds).length = n then m (d :: ds) else .bad
theorem re_meth {f : Str} (h1 : (f == fA) = false) (h2 : (f == fS) = false) (h3 : (f == fF) = false) (hB : Bf κ n m sp) (ha : RE κ mu W ta ma) (hl : RA κ mu W t mL) : RE κ mu W (tMethO κ.K "Table" f (spL n sp) (WE W) ta t) (mMeth n m ma mL) := by
  intro c M σ ρ H Q S w
  refine ha c M σ ρ H _ S (wp0_mono (wp0_bind.mp w) (fun d w v H1 F r => ?_) fun _ _ h => h)
  obtain ⟨z, e, w⟩ := wp0_ofO (wp0_bind.mp w)
  obtain ⟨rfl, a, rfl, ht, _⟩ := tabQ_rw (.inl r) e
  refine ⟨g_tabM ht h1 h2 h3, ?_⟩
  refine hl c M σ ρ H1 _ (S.fh F) (wp0_mono (wp0_bind.mp w) (fun ds w vs H2 G q => ?_) fun _ _ h => h.fh F)
  split at w
  · rename_i hn
    have F2 := F.trans G
    exact use_sp (σ := σ) hB (S.fh F2).hT (S.fh F2).ok (S.fh F2).tb (.cons (r.fh G) q) ((congrArg Nat.succ q.length).trans hn) (wp0_mono w (fun d q v H' G r => q v H' (F2.trans G) r) fun x f q e H' G i => q e H' (F2.trans G) i)
  · exact w.elim
/-! ### a table is made -/
def spInit (K : PySem.W.Frag) : Sp := fun vs H Q E => ∃ (a dx : Addr) (x y z : V) (r p s : PyData), vs = [.ref a, x, y, z] ∧ H a = some (.ins (ga K "Table") dx []) ∧ Da K H x r ∧ Da K H y p ∧ Da K H z s ∧ smallD r ∧
  (match tabOf r p s with
  | .ok t => ∀ H', Fr [a] H H' → AtTab K H' a t → Q .non H'
  | .rows v => ∀ e H', Fr [] H H' → H' e = some (.xd [("index", v)]) → E (.ref (ga K "InvalidRows")) (some e) H'
  | .passes => ∀ H', Fr [] H H' → E (.ref (ga K "InvalidPasses")) none H'
  | .stuck => ∀ H', Fr [] H H' → E (.ref (ga K "InvalidStuck")) none H')
mutual
def Dt.da : Dt → Option PyData
  | .non => some .none
  | .bl b => some (.bool b)
  | .int i => some (.int i)
  | .str z => some (.str z)
  | .tup l => (Dt.daL l).map .tuple
  | .lst l => (Dt.daL l).map .list
  | .dK _ => some (.dict [])
  | _ => none
def Dt.daL : List Dt → Option (List PyData)
  | [] => some []
  | d :: l => d.da.bind fun e => (Dt.daL l).map (e :: ·)
end
mutual
theorem Rl.da {c : Cn} {H : Hp} : ∀ {v : V} {d : Dt} {e : PyData}, Rl K c H v d → d.da = some e → Da K H v e
  | _, _, _, .non, e => by rw [Dt.da] at e; cases e; exact .non
  | _, _, _, .bl b, e => by rw [Dt.da] at e; cases e; exact .bl b
  | _, _, _, .int b, e => by rw [Dt.da] at e; cases e; exact .int b
  | _, _, _, .str b, e => by rw [Dt.da] at e; cases e; exact .str b
  | _, _, _, .tup h t, e => by
    rw [Dt.da] at e
    obtain ⟨ds, h1, rfl⟩ := Option.map_eq_some_iff.mp e
    exact .tup h (RlL.da t h1)
  | _, _, _, .lst h _ t, e => by
    rw [Dt.da] at e
    obtain ⟨ds, h1, rfl⟩ := Option.map_eq_some_iff.mp e
    exact .lst (SqL.of h) (RlL.da t h1)
  | _, _, _, .dK h _ _, e => by rw [Dt.da] at e; cases e; exact .dct h
  | _, _, _, .ty _, e => by simp [Dt.da] at e
  | _, _, _, .cls _, e => by simp [Dt.da] at e
  | _, _, _, .dT _ _ _, e => by simp [Dt.da] at e
  | _, _, _, .dN _ _ _ _, e => by simp [Dt.da] at e
  | _, _, _, .two _ _ _ _ _ _ _, e => by simp [Dt.da] at e
  | _, _, _, .gam _ _ _ _ _ _ _ _ _ _, e => by simp [Dt.da] at e
  | _, _, _, .tab _ _, e => by simp [Dt.da] at e
  | _, _, _, .hnd _ _, e => by simp [Dt.da] at e
  | _, _, _, .scr _, e => by simp [Dt.da] at e
  | _, _, _, .any, e => by simp [Dt.da] at e
  | _, _, _, .err0, e => by simp [Dt.da] at e
  | _, _, _, .err1 _ _, e => by simp [Dt.da] at e
  | _, _, _, .fn _ _, e => by simp [Dt.da] at e
theorem RlL.da {c : Cn} {H : Hp} : ∀ {vs : List V} {ds : List Dt} {es : List PyData}, RlL K c H vs ds → Dt.daL ds = some es → DaL K H vs es
  | _, _, _, .nil, e => by rw [Dt.daL] at e; cases e; exact .nil
  | _, _, _, .cons h t, e => by
    rw [Dt.daL] at e
    obtain ⟨d, h1, e⟩ := Option.bind_eq_some_iff.mp e
    obtain ⟨ds, h2, rfl⟩ := Option.map_eq_some_iff.mp e
    exact .cons (Rl.da h h1) (RlL.da t h2)
end
def smallB : PyData → Bool
  | .tuple ds => ds.all fun d => match d with
    | .tuple es => decide (es.length < 1000)
    | _ => true
  | _ => true
theorem smallB_ok {d : PyData} (h : smallB d = true) : smallD d := by
  cases d with
  | tuple ds =>
    intro d hd es e
    subst e
    have q := List.all_eq_true.mp h _ hd
    exact of_decide_eq_true q
  | _ => trivial
def mkTab (r p s : Dt) : Pm Dt := match r.da, p.da, s.da with
  | some r, some p, some s => if smallB r then (match tabOf r p s with
    | .ok t => .ret (.tab t)
    | .rows v => .exc "InvalidRows" (some ("index", ofV v))
    | .passes => .exc "InvalidPasses" none
    | .stuck => .exc "InvalidStuck" none) else .bad
  | _, _, _ => .bad
def mMake (l : MA) : ME := fun ρ => l ρ >>= fun ds => match ds with
  | [r, p, s] => mkTab r p s
  | _ => .bad
theorem badRows_sc {r : PyData} {v : V} (h : badRows r = some v) : scB v = true := by
  cases r with
  | tuple ds =>
    have h' : (if 2 ≤ ds.length ∧ ds.length ≤ 4 then (ds.findIdx? (fun d => !isRowD d ((ds.length : Int) - 1))).map (fun i => V.int (i : Nat)) else some .non) = some v := h
    split at h'
    · obtain ⟨i, _, rfl⟩ := Option.map_eq_some_iff.mp h'; rfl
    · cases h'; rfl
  | _ => cases h; rfl
theorem tabOf_rows {r p s : PyData} {v : V} (h : tabOf r p s = .rows v) : badRows r = some v := by
  unfold tabOf at h
  cases e : badRows r with
  | some u => rw [e] at h; cases h; rfl
  | none =>
    rw [e] at h
    exfalso
    revert h
    show (if isIntD p 0 1 = true then (if isFateD s = true then TabR.ok ⟨rowsOf r, intD p, strD s⟩ else .stuck) else .passes) = _ → False
    split
    · split <;> exact fun h => by cases h
    · exact fun h => by cases h
theorem re_make (hl : RA κ mu W t mL) : RE κ mu W (tMakeO κ.K "Table" (spL 4 (spInit κ.K)) (WE W) t) (mMake mL) := by
  intro c M σ ρ H Q S w
  refine hl c M σ ρ H _ S (wp0_mono (wp0_bind.mp w) (fun ds w vs H1 F r => ?_) fun _ _ h => h)
  split at w
  · rename_i r' p s
    cases r with
    | cons r1 t1 => cases t1 with
      | cons r2 t2 => cases t2 with
        | cons r3 t3 =>
          cases t3
          rename_i x y z
          intro a dx na nd nad
          have G : Fr [] H1 (upd (upd H1 dx (.own a)) a (.ins (ga κ.K "Table") dx [])) := (Fr.new nd).trans (Fr.new (by rw [upd_ne (Ne.symm nad)]; exact na))
          have Gh : Fh c H1 _ := Fh.of0 G
          unfold mkTab at w
          split at w
          · rename_i r p s e1 e2 e3
            split at w
            · rename_i hs
              refine ⟨rfl, a, dx, x, y, z, r, p, s, rfl, upd_same, (r1.fh Gh).da e1, (r2.fh Gh).da e2, (r3.fh Gh).da e3, smallB_ok hs, ?_⟩
              cases e : tabOf r p s with
              | ok t =>
                rw [e] at w
                intro H' F' ht
                refine ⟨rfl, w _ H' (F.trans (Fh.of0 (Fr.over0 na G F'))) (.tab ht (new_av (S.fh F).ok na))⟩
              | rows v =>
                rw [e] at w
                intro e' H' F' he
                have sc := badRows_sc (tabOf_rows e)
                exact w (some e') H' (F.trans (Gh.trans (Fh.of0 F'))) ⟨e', v, rfl, he, Rl.ofV sc⟩
              | passes =>
                rw [e] at w
                intro H' F'
                exact w none H' (F.trans (Gh.trans (Fh.of0 F'))) rfl
              | stuck =>
                rw [e] at w
                intro H' F'
                exact w none H' (F.trans (Gh.trans (Fh.of0 F'))) rfl
            · exact w.elim
          · exact w.elim
  · exact w.elim
/-! ### targets -/
abbrev MG : Type := Dt → Ev → Pm Ev
abbrev MGs : Type := List Dt → Ev → Pm Ev
def RG (κ : Kt) (mu vs : List Nat) (g : TG) (mg : MG) : Prop := ∀ c M σ ρ H x d (R : L2.St → Hp → Prop), Sl κ mu c M H σ ρ → Rl κ.K c H x d →
  wp0 (mg d ρ) (fun ρ' => ∀ σ', Sl κ mu c M H σ' ρ' → (∀ us, (∀ i ∈ vs, i ∈ us) → wipe σ' us = wipe σ us) → R σ' H) NoX → g x σ H R
def RGs (κ : Kt) (mu vs : List Nat) (g : TGs) (mg : MGs) : Prop := ∀ c M σ ρ H x d (R : L2.St → Hp → Prop), Sl κ mu c M H σ ρ → RlL κ.K c H x d →
  wp0 (mg d ρ) (fun ρ' => ∀ σ', Sl κ mu c M H σ' ρ' → (∀ us, (∀ i ∈ vs, i ∈ us) → wipe σ' us = wipe σ us) → R σ' H) NoX → g x σ H R
def mgName (i : Nat) : MG := fun d ρ => .ret (ρ.set i (some d))
def mgNil : MGs := fun l ρ => match l with
  | [] => .ret ρ
  | _ => .bad
def mgCons (g : MG) (gs : MGs) : MGs := fun l ρ => match l with
  | d :: l => g d ρ >>= gs l
  | [] => .bad
def mgTup (n : Nat) (gs : MGs) : MG := fun d ρ => match d with
  | .tup l => if l.length = n then gs l ρ else .bad
  | _ => .bad
theorem wipe_set {σ : L2.St} {i : Nat} {x : Option V} : ∀ {us : List Nat}, i ∈ us → wipe (σ.set i x) us = wipe σ us
  | v :: vs, h => by
    unfold wipe
    by_cases e : i = v
    · subst e
      by_cases m : i ∈ vs
      · rw [wipe_set m]
      · have : ∀ us : List Nat, i ∉ us → (wipe (σ.set i x) us).set i none = (wipe σ us).set i none := by
          intro us
          induction us with
          | nil => intro _; unfold wipe; rw [List.set_set]
          | cons u us ih =>
            intro hm
            have hu : i ≠ u := fun e => hm (by rw [e]; exact List.mem_cons_self ..)
            unfold wipe
            rw [List.set_comm _ _ (Ne.symm hu), ih (fun e => hm (List.mem_cons_of_mem _ e)), List.set_comm _ _ hu]
        exact this vs m
    · rw [wipe_set (by rcases List.mem_cons.mp h with z | z; exact (e z).elim; exact z)]
theorem Sl.set {c : Cn} {M : Nat → List Addr} {H : Hp} {σ : L2.St} {ρ : Ev} {i : Nat} {v : V} {d : Dt} (S : Sl κ mu c M H σ ρ) (hi : i ∉ mu) (r : Rl κ.K c H v d) : Sl κ mu c M H (σ.set i (some v)) (ρ.set i (some d)) := by
  refine ⟨by rw [List.length_set, List.length_set]; exact S.len, S.ok, fun j e h => ?_, fun j k d' e' hj hk h1 h2 n => ?_, S.tb, S.hT⟩
  · by_cases e' : i = j
    · subst e'
      rw [List.getElem?_set] at h
      simp only [if_pos] at h
      split at h
      · cases h
        refine ⟨v, ?_, fun m => (hi m).elim, fun _ => r⟩
        rw [List.getElem?_set, if_pos rfl, if_pos (by rw [S.len]; assumption)]
      · cases h
    · rw [List.getElem?_set_ne e'] at h ⊢
      exact S.at_ j e h
  · have hj' : i ≠ j := fun e => hi (e ▸ hj)
    have hk' : i ≠ k := fun e => hi (e ▸ hk)
    rw [List.getElem?_set_ne hj'] at h1
    rw [List.getElem?_set_ne hk'] at h2
    exact S.dist j k _ _ hj hk h1 h2 n
theorem rg_name {i : Nat} {vs : List Nat} (h : i ∉ mu := by decide) (hv : i ∈ vs := by decide) : RG κ mu vs (gName i) (mgName i) := fun c M σ ρ H x d R S r w => w _ (S.set h r) fun us hu => wipe_set (hu i hv)
theorem rg_nil {vs : List Nat} : RGs κ mu vs gNil mgNil := by
  intro c M σ ρ H x d R S r w
  cases r with
  | nil => exact ⟨rfl, w _ S fun _ _ => rfl⟩
  | cons _ _ => exact w.elim
theorem rg_cons {vs : List Nat} {g : TG} {gs : TGs} {mg : MG} {mgs : MGs} (h : RG κ mu vs g mg) (hs : RGs κ mu vs gs mgs) : RGs κ mu vs (gCons g gs) (mgCons mg mgs) := by
  intro c M σ ρ H x d R S r w
  cases r with
  | nil => exact w.elim
  | cons r t =>
    refine ⟨_, _, rfl, h c M σ ρ H _ _ _ S r (wp0_mono (wp0_bind.mp w) (fun ρ' w σ' S' e => ?_) fun _ _ h => h)⟩
    exact hs c M σ' ρ' H _ _ R S' t (wp0_mono w (fun ρ2 q σ2 S2 e2 => q σ2 S2 fun us hu => (e2 us hu).trans (e us hu)) fun _ _ h => h)
theorem rg_tup {vs : List Nat} {n : Nat} {gs : TGs} {mgs : MGs} (hs : RGs κ mu vs gs mgs) : RG κ mu vs (gTup κ.K n gs) (mgTup n mgs) := by
  intro c M σ ρ H x d R S r w
  unfold mgTup at w
  split at w
  · split at w
    · rename_i hl
      cases r with
      | tup h t => exact ⟨_, _, rfl, h, t.length.trans hl, hs c M σ ρ H _ _ R S t w⟩
    · exact w.elim
  · exact w.elim
/-! ### what is walked -/
/-- while only what is in A is changed: n turns, the items of l -/
def WkD (K : PySem.W.Frag) (c : Cn) (A : List Addr) (J : It) (l : List Dt) (H1 : Hp) : Prop := ∀ (Pf : Addr → Str → Prop) H, FrG Pf A H1 H → Fm c H1 H →
  (∀ i, i < l.length → J.go i H) ∧ J.stop l.length H ∧ ∀ i x H', i < l.length → J.yld i H x H' → Fr [] H H' ∧ ∃ d, l[i]? = some d ∧ Rl K c H' x d
/-- c' is c with further addresses that are new at H -/
def Nw (c c' : Cn) (H : Hp) : Prop := c'.h = c.h ∧ ∀ b o, H b = some o → b ∉ c.av → b ∉ c'.av
abbrev MI : Type := Ev → Pm (List Dt)
def RI (κ : Kt) (mu : List Nat) (W : WX) (st : Bool) (wi : TI) (mi : MI) : Prop := ∀ c M σ ρ H (R : It → Hp → Prop), Sl κ mu c M H σ ρ →
  wp0 (mi ρ) (fun l => ∀ J H', Fh c H H' → (∀ c', Nw c c' H' → WkD κ.K c' ((if st then c.L else []) ++ c.hd) J l H') → R J H') (Xw κ.K c W σ H) → wi σ H R
def mSeq (a : ME) : MI := fun ρ => a ρ >>= fun d => ofO (seqD d)
theorem Nw.hd {c c' : Cn} {H : Hp} (h : Nw c c' H) : c'.hd = c.hd := by unfold Cn.hd; rw [h.1]
theorem RlL.nw {c c' : Cn} {H : Hp} {xs : List V} {ds : List Dt} (h : Nw c c' H) (t : RlL K c H xs ds) : RlL K c' H xs ds := t.to h.1 h.2
/-- a list or tuple that is kept -/
theorem wk_list {c : Cn} {A : List Addr} {H1 : Hp} {a : Addr} {xs : List V} {l : List Dt} (h : H1 a = some (.lst xs)) (n : a ∉ A) (t : RlL K c H1 xs l) : WkD K c A (Itl K a) l H1 := by
  intro Pf H F G
  have h' := SqL.of (K := K) (F.lst n h)
  have tl := t.length
  rw [← tl]
  exact ⟨fun i hi => walk_list.goes i H hi h', walk_list.stops H h', fun i x H' hi y => by
    obtain ⟨rfl, e⟩ := walk_list.yields i H x H' hi h' y
    exact ⟨Fr.refl, (t.fm G).get' e⟩⟩
theorem wk_tup {c : Cn} {A : List Addr} {H1 : Hp} {a : Addr} {xs : List V} {l : List Dt} (h : SqT K H1 a xs) (t : RlL K c H1 xs l) : WkD K c A (Itt K a) l H1 := by
  intro Pf H F G
  have h' := F.sqt h
  have tl := t.length
  rw [← tl]
  exact ⟨fun i hi => walk_tup.goes i H hi h', walk_tup.stops H h', fun i x H' hi y => by
    obtain ⟨rfl, e⟩ := walk_tup.yields i H x H' hi h' y
    exact ⟨Fr.refl, (t.fm G).get' e⟩⟩
theorem av_A {c : Cn} {st : Bool} {b : Addr} (h : b ∈ (if st then c.L else []) ++ c.hd) : b ∈ c.av := by
  rcases List.mem_append.mp h with h | h
  · cases st with
    | true => exact Cn.L_av h
    | false => cases h
  · exact Cn.hd_av h
theorem ri_seq {st : Bool} (ha : RE κ mu W ta ma) : RI κ mu W st (iSeq κ.K ta) (mSeq ma) := by
  intro c M σ ρ H R S w
  refine ha c M σ ρ H _ S (wp0_mono (wp0_bind.mp w) (fun d w v H1 F r => ?_) fun _ _ h => h)
  obtain ⟨l, e, w⟩ := wp0_ofO w
  cases r with
  | lst h n t => cases e; exact ⟨_, rfl, .inl ⟨⟨_, SqL.of h⟩, w _ H1 F fun c' q => wk_list h (fun m => n (av_A m)) (t.nw q)⟩⟩
  | tup h t => cases e; exact ⟨_, rfl, .inr ⟨⟨_, h⟩, w _ H1 F fun c' q => wk_tup h (t.nw q)⟩⟩
  | _ => cases e
/-- .. of a list that is changed elsewhere -/
theorem ri_seqW (ha : RO κ mu W ta ma) : RI κ mu W false (iSeq κ.K ta) (mSeq ma) := by
  intro c M σ ρ H R S w
  refine ha c M σ ρ H _ S (wp0_mono (wp0_bind.mp w) (fun d w v H1 F r => ?_) fun _ _ h => h)
  obtain ⟨l, e, w⟩ := wp0_ofO w
  rcases r with r | ⟨p, h2, r⟩
  · cases r with
    | lst h n t => cases e; exact ⟨_, rfl, .inl ⟨⟨_, SqL.of h⟩, w _ H1 F fun c' q => wk_list h (fun m => n (av_A m)) (t.nw q)⟩⟩
    | tup h t => cases e; exact ⟨_, rfl, .inr ⟨⟨_, h⟩, w _ H1 F fun c' q => wk_tup h (t.nw q)⟩⟩
    | _ => cases e
  · cases r with
    | lst h t => cases e; exact ⟨_, rfl, .inl ⟨⟨_, SqL.of h⟩, w _ H1 F fun c' q => wk_list h (fun m => (h2 _ (List.mem_singleton.mpr rfl)).2.2 (by simpa using m)) (t.nw q)⟩⟩
    | _ => cases e
def rngD (i : Int) (n : Nat) : List Dt := (List.range n).map fun (k : Nat) => .int (i + k)
theorem wk_rng {c : Cn} {A : List Addr} {H1 : Hp} {i : Int} {n : Nat} : WkD K c A (Itr i n) (rngD i n) H1 := by
  intro Pf H F G
  have e : (rngD i n).length = n := by unfold rngD; simp
  rw [e]
  exact ⟨fun j hj => walk_range.goes j H hj trivial, walk_range.stops H trivial, fun j x H' hj y => by
    obtain ⟨rfl, rfl⟩ := walk_range.yields j H x H' hj trivial y
    exact ⟨Fr.refl, _, by unfold rngD; simp [hj], .int _⟩⟩
def rngA : List Dt → Option (List Dt)
  | [.int j] => if j.toNat < 1000000 ∧ (-j).toNat < 1000000 then some (rngD 0 j.toNat) else none
  | [.int i, .int j] => if i.natAbs < 1000000 ∧ j.natAbs < 1000000 then some (rngD i (j - i).toNat) else none
  | _ => none
theorem rng_nat {n : Nat} (h : n < 1000000) : rngA [.int (n : Int)] = some (rngD 0 n) := by
  unfold rngA
  simp only
  rw [if_pos (by omega), Int.toNat_natCast]
theorem rng_int {n : Int} (h0 : -1000000 < n) (h : n < 1000000) : rngA [.int n] = some (rngD 0 n.toNat) := by
  unfold rngA
  simp only
  rw [if_pos (by omega)]
theorem rng_two {i n : Int} (h : -1000000 < i ∧ i < 1000000 ∧ -1000000 < n ∧ n < 1000000) : rngA [.int i, .int n] = some (rngD i (n - i).toNat) := by
  unfold rngA
  simp only
  rw [if_pos (by omega)]
def mRng1 (l : MA) : MI := fun ρ => l ρ >>= fun ds => if ds.length = 1 then ofO (rngA ds) else .bad
def mRng2 (l : MA) : MI := fun ρ => l ρ >>= fun ds => if ds.length = 2 then ofO (rngA ds) else .bad
theorem ri_rng1 {st : Bool} (hl : RAw κ mu W t mL) : RI κ mu W st (iRng1 t) (mRng1 mL) := by
  intro c M σ ρ H R S w
  refine hl c M σ ρ H _ S (wp0_mono (wp0_bind.mp w) (fun ds w vs H1 F r => ?_) fun _ _ h => h)
  split at w
  · rename_i hl
    obtain ⟨z, hz, w⟩ := wp0_ofO w
    unfold rngA at hz
    split at hz
    · split at hz
      · rename_i h
        cases hz
        obtain ⟨v, rfl, q⟩ := r.one
        cases q.int
        exact ⟨_, rfl, by omega, by omega, w _ H1 F fun c' q => wk_rng⟩
      · cases hz
    · simp at hl
    · cases hz
  · exact w.elim
theorem ri_rng2 {st : Bool} (hl : RAw κ mu W t mL) : RI κ mu W st (iRng2 t) (mRng2 mL) := by
  intro c M σ ρ H R S w
  refine hl c M σ ρ H _ S (wp0_mono (wp0_bind.mp w) (fun ds w vs H1 F r => ?_) fun _ _ h => h)
  split at w
  · rename_i hl
    obtain ⟨z, hz, w⟩ := wp0_ofO w
    unfold rngA at hz
    split at hz
    · simp at hl
    · split at hz
      · rename_i h
        cases hz
        obtain ⟨v, u, rfl, q1, q2⟩ := r.two
        cases q1.int; cases q2.int
        exact ⟨_, _, rfl, ⟨by omega, by omega, by omega, by omega⟩, w _ H1 F fun c' q => wk_rng⟩
      · cases hz
    · cases hz
  · exact w.elim
def enumD (l : List Dt) : List Dt := l.zipIdx.map fun p => .tup [.int (p.2 : Nat), p.1]
theorem enumD_len (l : List Dt) : (enumD l).length = l.length := by unfold enumD; simp
theorem enumD_get {l : List Dt} {i : Nat} {d : Dt} (h : l[i]? = some d) : (enumD l)[i]? = some (.tup [.int (i : Nat), d]) := by
  unfold enumD
  simp [List.getElem?_zipIdx, h]
def mEnum (l : MA) : MI := fun ρ => l ρ >>= fun ds => match ds with
  | [d] => ofO (seqD d) >>= fun l => .ret (enumD l)
  | _ => .bad
theorem wk_enumL {c : Cn} {A : List Addr} {H1 : Hp} {a : Addr} {xs : List V} {l : List Dt} (h : H1 a = some (.lst xs)) (n : a ∉ A) (t : RlL K c H1 xs l) : WkD K c A (Ite K a) (enumD l) H1 := by
  intro Pf H F G
  have h' := SqL.of (K := K) (F.lst n h)
  have tl := t.length
  rw [enumD_len, ← tl]
  exact ⟨fun i hi => walk_enum.goes i H hi h', walk_enum.stops H h', fun i x H' hi y => by
    obtain ⟨T, u, z, rfl, hT, rfl, e1, e2⟩ := walk_enum.yields i H x H' hi h' y
    cases e1
    obtain ⟨d, hd, r⟩ := (t.fm G).get' e2
    exact ⟨Fr.new hT, _, enumD_get hd, .tup (SqT.of upd_same) (.cons (.int _) (.cons (r.fh (Fh.new hT)) .nil))⟩⟩
theorem wk_enumT {c : Cn} {A : List Addr} {H1 : Hp} {a : Addr} {xs : List V} {l : List Dt} (h : SqT K H1 a xs) (t : RlL K c H1 xs l) : WkD K c A (IteT K a) (enumD l) H1 := by
  intro Pf H F G
  have h' := F.sqt h
  have tl := t.length
  rw [enumD_len, ← tl]
  exact ⟨fun i hi => walk_enumT.goes i H hi h', walk_enumT.stops H h', fun i x H' hi y => by
    obtain ⟨T, u, z, rfl, hT, rfl, e1, e2⟩ := walk_enumT.yields i H x H' hi h' y
    cases e1
    obtain ⟨d, hd, r⟩ := (t.fm G).get' e2
    exact ⟨Fr.new hT, _, enumD_get hd, .tup (SqT.of upd_same) (.cons (.int _) (.cons (r.fh (Fh.new hT)) .nil))⟩⟩
theorem ri_enum {st : Bool} (hl : RA κ mu W t mL) : RI κ mu W st (iEnumA κ.K t) (mEnum mL) := by
  intro c M σ ρ H R S w
  refine hl c M σ ρ H _ S (wp0_mono (wp0_bind.mp w) (fun ds w vs H1 F r => ?_) fun _ _ h => h)
  split at w
  · obtain ⟨l, e, w⟩ := wp0_ofO (wp0_bind.mp w)
    cases r with
    | cons r t =>
      cases t
      cases r with
      | lst h n t => cases e; exact ⟨_, rfl, .inl ⟨⟨_, SqL.of h⟩, w _ H1 F fun c' q => wk_enumL h (fun m => n (av_A m)) (t.nw q)⟩⟩
      | tup h t => cases e; exact ⟨_, rfl, .inr ⟨⟨_, h⟩, w _ H1 F fun c' q => wk_enumT h (t.nw q)⟩⟩
      | _ => cases e
  · exact w.elim
def zipD (l m : List Dt) : List Dt := (l.zip m).map fun p => .tup [p.1, p.2]
def mZip (l : MA) : MI := fun ρ => l ρ >>= fun ds => match ds with
  | [.tup l, .tup m] => .ret (zipD l m)
  | [.lst l, .lst m] => .ret (zipD l m)
  | _ => .bad
theorem zipD_len (l m : List Dt) : (zipD l m).length = min l.length m.length := by unfold zipD; simp
theorem zipD_get {l m : List Dt} {i : Nat} {d e : Dt} (h : l[i]? = some d) (h' : m[i]? = some e) : (zipD l m)[i]? = some (.tup [d, e]) := by
  unfold zipD
  rw [List.getElem?_map, show (l.zip m)[i]? = some (d, e) from List.getElem?_zip_eq_some.mpr ⟨h, h'⟩]
  rfl
theorem wk_zipT {c : Cn} {A : List Addr} {H1 : Hp} {a b : Addr} {xs ys : List V} {l m : List Dt} (h : SqT K H1 a xs) (h2 : SqT K H1 b ys) (t : RlL K c H1 xs l) (t2 : RlL K c H1 ys m) : WkD K c A (ItzT K a b) (zipD l m) H1 := by
  intro Pf H F G
  have h' := F.sqt h
  have h2' := F.sqt h2
  have wk := walk_zipT (K := K) (a := a) (b := b) (xs := xs) (ys := ys) (n := (zipD l m).length) (by rw [zipD_len, t.length, t2.length])
  exact ⟨fun i hi => wk.goes i H hi ⟨h', h2'⟩, wk.stops H ⟨h', h2'⟩, fun i x H' hi y => by
    obtain ⟨T, u, z, rfl, hT, rfl, e1, e2⟩ := wk.yields i H x H' hi ⟨h', h2'⟩ y
    obtain ⟨d, hd, r⟩ := (t.fm G).get' e1
    obtain ⟨e, he, r2⟩ := (t2.fm G).get' e2
    exact ⟨Fr.new hT, _, zipD_get hd he, .tup (SqT.of upd_same) (.cons (r.fh (Fh.new hT)) (.cons (r2.fh (Fh.new hT)) .nil))⟩⟩
theorem wk_zipL {c : Cn} {A : List Addr} {H1 : Hp} {a b : Addr} {xs ys : List V} {l m : List Dt} (h : H1 a = some (.lst xs)) (h2 : H1 b = some (.lst ys)) (n : a ∉ A) (n2 : b ∉ A) (t : RlL K c H1 xs l) (t2 : RlL K c H1 ys m) : WkD K c A (Itz K a b) (zipD l m) H1 := by
  intro Pf H F G
  have h' := SqL.of (K := K) (F.lst n h)
  have h2' := SqL.of (K := K) (F.lst n2 h2)
  have wk := walk_zip (K := K) (a := a) (b := b) (xs := xs) (ys := ys) (n := (zipD l m).length) (by rw [zipD_len, t.length, t2.length])
  exact ⟨fun i hi => wk.goes i H hi ⟨h', h2'⟩, wk.stops H ⟨h', h2'⟩, fun i x H' hi y => by
    obtain ⟨T, u, z, rfl, hT, rfl, e1, e2⟩ := wk.yields i H x H' hi ⟨h', h2'⟩ y
    obtain ⟨d, hd, r⟩ := (t.fm G).get' e1
    obtain ⟨e, he, r2⟩ := (t2.fm G).get' e2
    exact ⟨Fr.new hT, _, zipD_get hd he, .tup (SqT.of upd_same) (.cons (r.fh (Fh.new hT)) (.cons (r2.fh (Fh.new hT)) .nil))⟩⟩
theorem ri_zip {st : Bool} (hl : RA κ mu W t mL) : RI κ mu W st (iZipA κ.K t) (mZip mL) := by
  intro c M σ ρ H R S w
  refine hl c M σ ρ H _ S (wp0_mono (wp0_bind.mp w) (fun ds w vs H1 F r => ?_) fun _ _ h => h)
  split at w
  · cases r with
    | cons r t => cases t with
      | cons q t =>
        cases t
        cases r with
        | tup h t => cases q with
          | tup h2 t2 => exact ⟨_, _, _, _, rfl, .inr ⟨h, h2, w _ H1 F fun c' q => wk_zipT h h2 (t.nw q) (t2.nw q)⟩⟩
  · cases r with
    | cons r t => cases t with
      | cons q t =>
        cases t
        cases r with
        | lst h n t => cases q with
          | lst h2 n2 t2 => exact ⟨_, _, _, _, rfl, .inl ⟨SqL.of h, SqL.of h2, w _ H1 F fun c' q => wk_zipL h h2 (fun m => n (av_A m)) (fun m => n2 (av_A m)) (t.nw q) (t2.nw q)⟩⟩
  · exact w.elim
/-! ### comprehensions -/
def wipeD (ρ : Ev) : List Nat → Ev
  | [] => ρ
  | v :: vs => (wipeD ρ vs).set v none
theorem Sl.unset {c : Cn} {M : Nat → List Addr} {H : Hp} {σ : L2.St} {ρ : Ev} {i : Nat} (S : Sl κ mu c M H σ ρ) : Sl κ mu c M H (σ.set i none) (ρ.set i none) := by
  have sub : ∀ {j : Nat} {d : Dt}, (ρ.set i none)[j]? = some (some d) → i ≠ j ∧ ρ[j]? = some (some d) := fun {j d} h => by
    by_cases e : i = j
    · subst e
      rw [List.getElem?_set] at h
      simp only [if_pos] at h
      split at h <;> cases h
    · rw [List.getElem?_set_ne e] at h
      exact ⟨e, h⟩
  refine ⟨by rw [List.length_set, List.length_set]; exact S.len, S.ok, fun j e h => ?_, fun j k d' e' hj hk h1 h2 n => S.dist j k _ _ hj hk (sub h1).2 (sub h2).2 n, S.tb, S.hT⟩
  obtain ⟨n, h⟩ := sub h
  rw [List.getElem?_set_ne n]
  exact S.at_ j e h
theorem Sl.wipe {c : Cn} {M : Nat → List Addr} {H : Hp} {σ : L2.St} {ρ : Ev} (S : Sl κ mu c M H σ ρ) : ∀ vs : List Nat, Sl κ mu c M H (L2.wipe σ vs) (wipeD ρ vs)
  | [] => S
  | v :: vs => (Sl.wipe S vs).unset
theorem Sl.to {c c' : Cn} {M : Nat → List Addr} {H : Hp} {σ : L2.St} {ρ : Ev} (S : Sl κ mu c M H σ ρ) (e : c'.h = c.h) (eL : ∀ b ∈ c.L, b ∈ c'.L) (eS : ∀ b o, H b = some o → b ∉ c.S → b ∉ c'.S) (hs : ∀ b o, H b = some o → b ∉ c.av → b ∉ c'.av) (ok : ∀ b ∈ c'.av, H b ≠ none) : Sl κ mu c' M H σ ρ := by
  refine ⟨S.len, ok, fun j d h => ?_, S.dist, S.tb, (congrArg Hd.T e).trans S.hT⟩
  obtain ⟨v, h1, h2, h3⟩ := S.at_ j d h
  refine ⟨v, h1, fun m => ?_, fun m => (h3 m).to e hs⟩
  have q := h2 m
  exact q.to e (fun b hb => eL _ (q.1 b hb).1) (fun b hb => let ⟨o, ho⟩ := q.ne b hb; eS _ o ho (q.1 b hb).2.1) hs
theorem wipe_wipe (σ : L2.St) (vs : List Nat) : L2.wipe (L2.wipe σ vs) vs = L2.wipe σ vs := by
  have key : ∀ (us : List Nat) (τ : L2.St), (∀ i ∈ us, ∀ x, τ[i]? = some x → x = Option.none) → L2.wipe τ us = τ := by
    intro us
    induction us with
    | nil => intro τ _; rfl
    | cons u us ih =>
      intro τ h
      unfold L2.wipe
      rw [ih τ fun i hi => h i (List.mem_cons_of_mem _ hi)]
      refine List.ext_getElem? fun j => ?_
      by_cases e : u = j
      · subst e
        rw [List.getElem?_set, if_pos rfl]
        cases q : τ[u]? with
        | none => rw [if_neg (by have := List.getElem?_eq_none_iff.mp q; omega)]
        | some x => rw [if_pos (List.getElem?_eq_some_iff.mp q).1, h u (List.mem_cons_self ..) x q]
      · rw [List.getElem?_set_ne e]
  refine key vs _ fun i hi x h => ?_
  cases x with
  | none => rfl
  | some x => exact ((wipe_some h).2 hi).elim
def lcGo (mg : MG) (mt : MB) (me : ME) (ρ : Ev) : List Dt → Pm (List Dt)
  | [] => .ret []
  | d :: l => mg d ρ >>= fun ρ1 => mt ρ1 >>= fun b => if b = true then me ρ1 >>= fun y => lcGo mg mt me ρ l >>= fun ys => .ret (y :: ys) else lcGo mg mt me ρ l
def mLc (mi : MI) (mg : MG) (mt : MB) (me : ME) (vs : List Nat) : ME := fun ρ => mi ρ >>= fun l => if l.length ≤ 16777216 then (lcGo mg mt me (wipeD ρ vs) l).nox >>= fun ds => .ret (.lst ds) else .bad
theorem wp0_nx {α : Type} {m : Pm α} {Q : α → Prop} {c : Cn} {σ : L2.St} {H : Hp} (h : wp0 m Q NoX) : wp0 m Q (Xw K c (fun _ _ _ _ => False) σ H) := wp0_mono h (fun _ q => q) fun _ _ z => z.elim
/-- the new list of a comprehension, on its way -/
theorem re_lc {wi : TI} {mi : MI} {g : TG} {mg : MG} {vs ws : List Nat} (hi : RI κ mu W false wi mi) (hg : RG κ mu ws g mg) (hw : ∀ i ∈ ws, i ∈ vs) (ht : RT κ mu (fun _ _ _ _ => False) tt mt) (he : RE κ mu (fun _ _ _ _ => False) te me) :
    RE κ mu W (tLc wi g tt te vs) (mLc mi mg mt me vs) := by
  intro c M σ ρ H Q S w
  refine hi c M σ ρ H _ S (wp0_mono (wp0_bind.mp w) (fun l w J H1 F wk => ?_) fun _ _ h => h)
  split at w
  rotate_left
  · exact w.elim
  rename_i hlen
  intro D nD
  have w := wp0_nox.mp (wp0_bind.mp w)
  have S1 := S.fh F
  have nw : Nw c (c.add D) H1 := ⟨rfl, to_add nD⟩
  have okD : ∀ {H' : Hp}, Fh c H1 H' → H' D ≠ none → ∀ b ∈ (c.add D).av, H' b ≠ none := fun {H'} F' hD b hb => by
    rcases Cn.add_av.mp hb with rfl | hb
    · exact hD
    · exact F'.1.dom b (S1.ok b hb)
  have wkD := wk (c.add D) nw
  have hfr : ∀ {H' : Hp}, Fh c H1 H' → FrG c.P ((if false = true then c.L else []) ++ c.hd) H1 H' := fun F' => F'.1.mono fun b hb => by simpa using hb
  -- the slots, seen with D
  have SD : ∀ {H' : Hp}, Fh c H1 H' → H' D ≠ none → Sl κ mu (c.add D) M H' σ ρ := fun {H'} F' hD => by
    refine ⟨S.len, okD F' hD, fun j d h => ?_, S.dist, fun p hp => F'.1.tbs _ _ (show (p.1, p.2) ∈ c.h.T by rw [S.hT]; exact hp) (S1.tb p hp), S.hT⟩
    obtain ⟨v, h1, h2, h3⟩ := S1.at_ j d h
    refine ⟨v, h1, fun m => ?_, fun m => (Rl.add nD (h3 m)).fh (c := c.add D) F'⟩
    have q := h2 m
    exact MutAt.fh (c := c.add D) F' (MutAt.to (c := c) (c' := c.add D) rfl (fun b hb => (q.1 b hb).1) (fun b hb z => by
      rcases List.mem_cons.mp z with z | z
      · obtain ⟨o, ho⟩ := q.ne b hb
        rw [z, nD] at ho; cases ho
      · exact (q.1 b hb).2.1 z) (to_add nD) q)
  let P : Nat → Hp → Prop := fun i H' => Fh c H1 H' ∧ ∃ acc done, H' D = some (.lst acc) ∧ acc.length ≤ i ∧ RlL κ.K (c.add D) H' acc done ∧
    wp0 (lcGo mg mt me (wipeD ρ vs) (l.drop i)) (fun ys => wp0 (Pm.ret (Dt.lst (done ++ ys)) : Pm Dt) (fun d => ∀ v H', Fh c H H' → Rl κ.K c H' v d → Q v H') (Xw κ.K c W σ H)) NoX
  refine ⟨fun i m H' => m = l.length - i ∧ i ≤ l.length ∧ P i H', ⟨l.length, by simp, Nat.zero_le _, Fh.new nD, [], [], upd_same, Nat.le_refl _, .nil, by simpa using w⟩, ?_⟩
  rintro i m H' ⟨rfl, hile, F', acc, done, hD, hacc, racc, w⟩
  have G' : Fm (c.add D) H1 H' := Fh.fm (c := c.add D) F'
  obtain ⟨go, stop, yld⟩ := wkD _ H' (hfr F') G'
  by_cases hlt : i < l.length
  · refine .inr ⟨go i hlt, P (i + 1), fun H2 p => ⟨l.length - (i + 1), by omega, rfl, hlt, p⟩, fun x H2 y => ?_⟩
    obtain ⟨F2, d, hd, rx⟩ := yld i x H2 hlt y
    have F12 : Fh c H1 H2 := F'.trans (Fh.of0 F2)
    have hD2 := F2.lst0 hD
    have S2 := (SD F12 (by rw [hD2]; exact fun z => by cases z)).wipe vs
    have hdrop : l.drop i = d :: l.drop (i + 1) := by
      rw [List.drop_eq_getElem_cons hlt]
      congr 1
      rw [List.getElem?_eq_getElem hlt] at hd
      exact Option.some.inj hd
    rw [hdrop] at w
    have w := wp0_bind.mp w
    refine hg (c.add D) M _ _ H2 x d _ S2 rx (wp0_mono w (fun ρ2 w σ2 Sg ew => ?_) fun _ _ h => h)
    refine ⟨by rw [ew vs hw, wipe_wipe], ?_⟩
    refine ht (c.add D) M σ2 ρ2 H2 _ Sg (wp0_nx (wp0_mono (wp0_bind.mp w) (fun b w H3 F3 => ?_) fun _ _ h => h))
    have F13 : Fh c H1 H3 := F12.trans F3
    have nDh : D ∉ c.hd := fun z => S1.ok D (Cn.hd_av z) nD
    have hD3 := F3.1.lst nDh hD2
    cases b with
    | true =>
      refine he (c.add D) M σ2 ρ2 H3 _ (Sg.fh F3) (wp0_nx (wp0_mono (wp0_bind.mp w) (fun e w v H4 F4 re => ?_) fun _ _ h => h))
      have F14 : Fh c H1 H4 := F13.trans F4
      have hD4 := F4.1.lst nDh hD3
      have rac4 : RlL κ.K (c.add D) H4 acc done := ((racc.fh (Fh.of0 F2)).fh F3).fh F4
      have FD : Fr [D] H4 (upd H4 D (.lst (acc ++ [v]))) := Fr.put hD4 (fun _ z => by cases z) (fun _ _ z => by cases z) (by simp)
      have F15 : Fh c H1 (upd H4 D (.lst (acc ++ [v]))) := ⟨FrG.over nD F14.1 (FD.weak.mono fun b hb => by rw [List.mem_singleton.mp hb]; exact List.mem_cons_self ..), fun a l' e h => (F14.2 a l' e h).fr FD (fun z => nDh (by
        have := List.mem_singleton.mp z
        rw [← this]; unfold Cn.hd; rw [e]; simp)) fun z => nDh (by
        have := List.mem_singleton.mp z
        rw [← this]; unfold Cn.hd; rw [e]; simp)⟩
      have Gm : Fm (c.add D) H4 (upd H4 D (.lst (acc ++ [v]))) := ⟨FD.weak.mono fun b hb => by rw [List.mem_singleton.mp hb]; exact Cn.add_av.mpr (.inl rfl), fun a l' e h => h.fr FD (fun z => nDh (by
        have := List.mem_singleton.mp z
        rw [← this]; unfold Cn.hd; rw [show c.h.d = some (a, l') from e]; simp)) fun z => nDh (by
        have := List.mem_singleton.mp z
        rw [← this]; unfold Cn.hd; rw [show c.h.d = some (a, l') from e]; simp)⟩
      refine ⟨acc, hD4, by rw [sizeLine_eq]; omega, F15, acc ++ [v], done ++ [e], upd_same, by rw [List.length_append]; simp; omega, (rac4.snoc re).fm Gm, ?_⟩
      have w := wp0_bind.mp w
      exact wp0_mono w (fun ys q => by rw [List.append_assoc]; exact q) fun _ _ h => h
    | false =>
      exact ⟨F13, acc, done, hD3, by omega, (racc.fh (Fh.of0 F2)).fh F3, w⟩
  · have e : i = l.length := by omega
    subst e
    refine .inl ⟨stop, ?_⟩
    rw [List.drop_length] at w
    have q : ∀ v H'', Fh c H H'' → Rl κ.K c H'' v (.lst (done ++ [])) → Q v H'' := w
    rw [List.append_nil] at q
    exact q _ H' (F.trans F') (.lst hD (fun z => S1.ok D z nD) racc.drop)
end
end Tk

end

section
/-! statements by mirrors -/
namespace Tk
open PySem PySem.Spec L2 RZ StX
open He (ga)
inductive Out where
  | nx (ρ : Ev) | bk (ρ : Ev) | ct (ρ : Ev) | rt (d : Dt) | ex (x : Str) (f : Option (Str × Dt)) (ρ : Ev)
/-- what a statement may change -/
def Fs (c : Cn) (H H' : Hp) : Prop := FrG c.P (c.L ++ c.hd) H H' ∧ ∀ a l, c.h.d = some (a, l) → Drw H a l → Drw H' a l
/-- the context behind it -/
def Lk (c c' : Cn) (H : Hp) : Prop := c'.S = c.S ∧ c'.h = c.h ∧ (∀ p ∈ c'.L, p ∈ c.L ∨ H p = none) ∧ ∀ p ∈ c.L, p ∈ c'.L
section
variable {c c' c2 : Cn} {H H' H2 : Hp}
theorem Fs.refl : Fs c H H := ⟨FrG.refl, fun _ _ _ h => h⟩
theorem Fh.fs (F : Fh c H H') : Fs c H H' := ⟨F.1.mono fun b h => List.mem_append_right _ h, F.2⟩
theorem Fs.fm (F : Fs c H H') : Fm c H H' := ⟨F.1.mono fun b h => by
  rcases List.mem_append.mp h with h | h
  · exact Cn.L_av h
  · exact Cn.hd_av h, F.2⟩
theorem Lk.refl : Lk c c H := ⟨rfl, rfl, fun _ h => .inl h, fun _ h => h⟩
theorem Lk.hd (k : Lk c c' H) : c'.hd = c.hd := by unfold Cn.hd; rw [k.2.1]
theorem Lk.P (k : Lk c c' H) : c'.P = c.P := by unfold Cn.P; rw [k.2.1]
theorem FrG.more {P : Addr → Str → Prop} {A B : List Addr} (F : FrG P A H H') (G : FrG P B H' H2) (h : ∀ b ∈ B, b ∈ A ∨ H b = none) : FrG P A H H2 :=
  ⟨fun b o nb t e => G.keep b o (fun z => (h b z).elim nb fun n => by rw [n] at e; cases e) t (F.keep b o nb t e), fun b xs e => G.tup b xs (F.tup b xs e), fun b o u e => G.frz b o u (F.frz b o u e), fun b e => G.dom b (F.dom b e), fun b q p e => G.tbs b q p (F.tbs b q p e), fun b o t e => G.pm b o t (F.pm b o t e)⟩
theorem Fs.trans (k : Lk c c' H) (F : Fs c H H') (G : Fs c' H' H2) : Fs c H H2 := ⟨F.1.more (by have g := G.1; rw [k.P] at g; exact g) fun b hb => by
  rcases List.mem_append.mp hb with h | h
  · exact (k.2.2.1 b h).elim (fun z => .inl (List.mem_append_left _ z)) .inr
  · rw [k.hd] at h
    exact .inl (List.mem_append_right _ h), fun a l e h => G.2 a l ((congrArg Hd.d k.2.1).trans e) (F.2 a l e h)⟩
theorem Lk.trans (F : Fs c H H') (k : Lk c c' H) (k' : Lk c' c2 H') : Lk c c2 H := ⟨k'.1.trans k.1, k'.2.1.trans k.2.1, fun p hp => by
  rcases k'.2.2.1 p hp with h | h
  · exact k.2.2.1 p h
  · exact .inr (F.1.free h), fun p h => k'.2.2.2 p (k.2.2.2 p h)⟩
end
def Cn.out (c : Cn) : Cn := ⟨[], c.S, c.h⟩
def Post (κ : Kt) (mu : List Nat) (c : Cn) (H : Hp) (W : WX) (D : Ends) : Out → Prop
  | .nx ρ => ∀ c' M σ H', Fs c H H' → Lk c c' H → Sl κ mu c' M H' σ ρ → D.nx σ H'
  | .bk ρ => ∀ c' M σ H', Fs c H H' → Lk c c' H → Sl κ mu c' M H' σ ρ → D.bk σ H'
  | .ct ρ => ∀ c' M σ H', Fs c H H' → Lk c c' H → Sl κ mu c' M H' σ ρ → D.ct σ H'
  | .rt d => ∀ v H', Fs c H H' → Rl κ.K c.out H' v d → D.rt v H'
  | .ex x f ρ => ∀ c' M σ H' e, Fs c H H' → Lk c c' H → Sl κ mu c' M H' σ ρ → ExIs κ.K H' e f → W (.ref (ga κ.K x)) e σ H'
abbrev MS : Type := Ev → Pm Out
def RS (κ : Kt) (mu : List Nat) (W : WX) (ts : TS) (ms : MS) : Prop := ∀ c M σ ρ H (D : Ends), Sl κ mu c M H σ ρ → wp0 (ms ρ) (Post κ mu c H W D) NoX → ts D σ H
def mAtt {α : Type} (m : Pm α) (ρ : Ev) (k : α → Pm Out) : Pm Out := m.att >>= fun r => match r with
  | .ok a => k a
  | .error (x, f) => .ret (.ex x f ρ)
@[simp] theorem mAtt_ret {α : Type} {a : α} {ρ : Ev} {k : α → Pm Out} : mAtt (.ret a) ρ k = k a := rfl
@[simp] theorem mAtt_exc {α : Type} {x : Str} {f : Option (Str × Dt)} {ρ : Ev} {k : α → Pm Out} : mAtt (.exc x f : Pm α) ρ k = .ret (.ex x f ρ) := rfl
section
variable {K : PySem.W.Frag} {κ : Kt} {mu : List Nat} {W : WX} {te ta tb tc : TE} {me ma mb mc : ME} {tt uu : TT} {mt mu' : MB} {t u : TA} {mL mR : MA} {ts us : TS} {ms ms' : MS}
theorem Post.step {c c' : Cn} {H H' : Hp} {D : Ends} (F : Fs c H H') (k : Lk c c' H) : ∀ {o : Out}, Post κ mu c H W D o → Post κ mu c' H' W D o
  | .nx ρ, q => fun c2 M σ H2 G k2 S => q c2 M σ H2 (F.trans k G) (k.trans F k2) S
  | .bk ρ, q => fun c2 M σ H2 G k2 S => q c2 M σ H2 (F.trans k G) (k.trans F k2) S
  | .ct ρ, q => fun c2 M σ H2 G k2 S => q c2 M σ H2 (F.trans k G) (k.trans F k2) S
  | .rt d, q => fun v H2 G r => q v H2 (F.trans k G) (by
    have e : c'.out = c.out := by unfold Cn.out; rw [k.1, k.2.1]
    rw [e] at r; exact r)
  | .ex x f ρ, q => fun c2 M σ H2 e G k2 S => q c2 M σ H2 e (F.trans k G) (k.trans F k2) S
theorem wp0_mAtt {α : Type} {m : Pm α} {ρ : Ev} {k : α → Pm Out} {Q : Out → Prop} (w : wp0 (mAtt m ρ k) Q NoX) : wp0 m (fun a => wp0 (k a) Q NoX) fun x f => Q (.ex x f ρ) := by
  unfold mAtt at w
  have w := wp0_att.mp (wp0_bind.mp w)
  exact wp0_mono w (fun _ q => q) fun _ _ q => q
/-- an expression ahead -/
theorem Post.xw {c : Cn} {M : Nat → List Addr} {σ : L2.St} {ρ : Ev} {H : Hp} {D : Ends} (S : Sl κ mu c M H σ ρ) {x : Str} {f : Option (Str × Dt)} (q : Post κ mu c H W D (.ex x f ρ)) : Xw κ.K c W σ H x f := fun e H' F i => q c M σ H' e F.fs Lk.refl (S.fh F) i
def mNext : MS := fun ρ => .ret (.nx ρ)
def mBrk : MS := fun ρ => .ret (.bk ρ)
def mCont : MS := fun ρ => .ret (.ct ρ)
def mThen (a b : MS) : MS := fun ρ => a ρ >>= fun o => match o with
  | .nx ρ' => b ρ'
  | o => .ret o
theorem rs_next : RS κ mu W tNext mNext := fun c M σ ρ H D S w => w c M σ H Fs.refl Lk.refl S
theorem rs_brk : RS κ mu W tBreak mBrk := fun c M σ ρ H D S w => w c M σ H Fs.refl Lk.refl S
theorem rs_cont : RS κ mu W tCont mCont := fun c M σ ρ H D S w => w c M σ H Fs.refl Lk.refl S
theorem rs_seq (h : RS κ mu W ts ms) (h' : RS κ mu W us ms') : RS κ mu W (tSeq ts us) (mThen ms ms') := by
  intro c M σ ρ H D S w
  refine h c M σ ρ H _ S (wp0_mono (wp0_bind.mp w) (fun o w => ?_) fun _ _ h => h)
  cases o with
  | nx ρ' => exact fun c' M' σ' H' F k S' => h' c' M' σ' ρ' H' D S' (wp0_mono w (fun o q => q.step F k) fun _ _ h => h)
  | bk ρ' => exact w
  | ct ρ' => exact w
  | rt d => exact w
  | ex x f ρ' => exact w
def mDrop (a : ME) : MS := fun ρ => mAtt (a ρ) ρ fun _ => .ret (.nx ρ)
theorem rs_drop (h : RO κ mu W te me) : RS κ mu W (tDrop te) (mDrop me) := by
  intro c M σ ρ H D S w
  exact h c M σ ρ H _ S (wp0_mono (wp0_mAtt w) (fun d w v H1 F r => w c M σ H1 F.fs Lk.refl (S.fh F)) fun x f q => Post.xw S q)
def mRet (a : ME) : MS := fun ρ => mAtt (a ρ) ρ fun d => .ret (.rt d)
theorem rw_out {c : Cn} {H : Hp} {v : V} {d : Dt} (h : Rw K c H v d) : Rl K c.out H v d := by
  have sub : ∀ b, b ∈ c.out.av → b ∈ c.S ∨ b ∈ c.hd := fun b hb => by
    rw [Cn.av_iff] at hb
    rcases hb with hb | hb | hb
    · cases hb
    · exact .inl hb
    · exact .inr hb
  have sub2 : ∀ b, b ∈ c.out.av → b ∈ c.av := fun b hb => (sub b hb).elim Cn.S_av Cn.hd_av
  rcases h with h | ⟨p, h⟩
  · exact Rl.to (c := c) (c' := c.out) rfl (fun b o _ nb m => nb (sub2 b m)) h
  · exact MutAt.rl (c := c) (c' := c.out) rfl (fun b hb z => (sub _ z).elim (h.1 b hb).2.1 (h.1 b hb).2.2) (fun b o _ nb m => nb (sub2 b m)) h
theorem rs_ret (h : RO κ mu W te me) : RS κ mu W (tRet te) (mRet me) := by
  intro c M σ ρ H D S w
  exact h c M σ ρ H _ S (wp0_mono (wp0_mAtt w) (fun d w v H1 F r => w v H1 F.fs (rw_out r)) fun x f q => Post.xw S q)
def mRetN : MS := fun _ => .ret (.rt .non)
theorem rs_retN : RS κ mu W tRetN mRetN := fun c M σ ρ H D S w => w _ H Fs.refl .non
def mIfS (t : MB) (a b : MS) : MS := fun ρ => mAtt (t ρ) ρ fun k => if k = true then a ρ else b ρ
theorem rs_if (ht : RT κ mu W tt mt) (h : RS κ mu W ts ms) (h' : RS κ mu W us ms') : RS κ mu W (tIfS tt ts us) (mIfS mt ms ms') := by
  intro c M σ ρ H D S w
  refine ht c M σ ρ H _ S (wp0_mono (wp0_mAtt w) (fun k w H1 F => ?_) fun x f q => Post.xw S q)
  cases k with
  | true => exact h c M σ ρ H1 D (S.fh F) (wp0_mono w (fun o q => q.step F.fs Lk.refl) fun _ _ h => h)
  | false => exact h' c M σ ρ H1 D (S.fh F) (wp0_mono w (fun o q => q.step F.fs Lk.refl) fun _ _ h => h)
/-! ### assignments -/
/-- a value for slot i: data, or a new list or dict if the slot is changed in its place -/
def Val1 (K : PySem.W.Frag) (mu : List Nat) (i : Nat) (c c' : Cn) (H H' : Hp) (v : V) (d : Dt) : Prop :=
  (i ∉ mu ∧ c' = c ∧ Rl K c H' v d) ∨ (i ∈ mu ∧ ∃ fp, (∀ b ∈ fp, H b = none) ∧ c' = c.addLs fp ∧ MutAt K c' H' fp v d)
def RC (κ : Kt) (mu : List Nat) (W : WX) (i : Nat) (te : TE) (me : ME) : Prop := ∀ c M σ ρ H (Q : VK), Sl κ mu c M H σ ρ → wp0 (me ρ) (fun d => ∀ c' v H', Fh c H H' → Val1 κ.K mu i c c' H H' v d → Q v H') (Xw κ.K c W σ H) → te σ H Q
theorem rc_of {i : Nat} (hi : i ∉ mu) (h : RE κ mu W te me) : RC κ mu W i te me := fun c M σ ρ H Q S w => h c M σ ρ H Q S (wp0_mono w (fun d q v H' F r => q c v H' F (.inl ⟨hi, rfl, r⟩)) fun _ _ h => h)
/-- new lists, dicts -/
theorem own1 {c : Cn} {p : Addr} (np : p ∉ c.av) : ∀ b ∈ [p], b ∈ (c.addLs [p]).L ∧ b ∉ (c.addLs [p]).S ∧ b ∉ (c.addLs [p]).hd := fun b hb => by
  rw [List.mem_singleton.mp hb]
  exact ⟨List.mem_cons_self .., fun h => np (Cn.S_av h), fun h => np (Cn.hd_av h)⟩
theorem new1 {H : Hp} {p : Addr} (n : H p = none) : ∀ b ∈ [p], H b = none := fun b hb => by
  rw [List.mem_singleton.mp hb]
  exact n
theorem mut_new {c : Cn} {H : Hp} {p : Addr} {xs : List V} {ds : List Dt} (ok : ∀ b ∈ c.av, H b ≠ none) (n : H p = none) (t : RlL K c H xs ds) : MutAt K (c.addLs [p]) (upd H p (.lst xs)) [p] (.ref p) (.lst ds) := by
  have np := new_av ok n
  have F : Fh (c.addL p) H (upd H p (.lst xs)) := Fh.new n
  exact ⟨own1 np, .lst upd_same ((t.addL n).fh F)⟩
theorem rc_lst {i : Nat} (hi : i ∈ mu) (hl : RA κ mu W t mL) : RC κ mu W i (tLst t) (mLst mL) := by
  intro c M σ ρ H Q S w
  refine hl c M σ ρ H _ S (wp0_mono (wp0_bind.mp w) (fun ds w vs H1 F r => ?_) fun _ _ h => h)
  split at w
  · rename_i hz
    exact ⟨by rw [r.length, sizeLine_eq]; exact hz, fun p n => w _ _ _ (F.trans (Fh.new n)) (.inr ⟨hi, [p], new1 (F.1.free n), rfl, mut_new (S.fh F).ok n r⟩)⟩
  · exact w.elim
theorem rc_dK {i : Nat} (hi : i ∈ mu) : RC κ mu W i tDNewK (mC (.dK [])) := by
  intro c M σ ρ H Q S w p n
  have np := new_av S.ok n
  exact w _ _ _ (Fh.new n) (.inr ⟨hi, [p], new1 n, rfl, own1 np, .dK upd_same rfl⟩)
theorem rc_dT {i : Nat} (hi : i ∈ mu) : RC κ mu W i tDNewT (mC (.dT [])) := by
  intro c M σ ρ H Q S w p n
  have np := new_av S.ok n
  exact w _ _ _ (Fh.new n) (.inr ⟨hi, [p], new1 n, rfl, own1 np, .dT upd_same rfl⟩)
theorem re_dK : RE κ mu W tDNewK (mC (.dK [])) := by
  intro c M σ ρ H Q S w p n
  exact w _ _ (Fh.new n) (.dK upd_same (new_av S.ok n) rfl)
theorem rc_list {i : Nat} (hi : i ∈ mu) (hl : RAw κ mu W t mL) : RC κ mu W i (tCB (rListOf κ.K) t) (mCB listD mL) := by
  intro c M σ ρ H Q S w
  refine hl c M σ ρ H _ S (wp0_mono (wp0_bind.mp w) (fun ds w vs H1 F r => ?_) fun _ _ h => h)
  obtain ⟨z, hz, w⟩ := wp0_ofO w
  unfold listD at hz
  split at hz
  · cases hz
    obtain ⟨v, rfl, q⟩ := r.one
    obtain ⟨a, ys, rfl, ha, t⟩ := q.lst
    exact ⟨a, ys, rfl, .inl (SqL.of ha), fun p n => w _ _ _ (F.trans (Fh.new n)) (.inr ⟨hi, [p], new1 (F.1.free n), rfl, mut_new (S.fh F).ok n t⟩)⟩
  · cases hz
    obtain ⟨v, rfl, q⟩ := r.one
    obtain ⟨a, ys, rfl, ha, t⟩ := q.tup
    exact ⟨a, ys, rfl, .inr ha, fun p n => w _ _ _ (F.trans (Fh.new n)) (.inr ⟨hi, [p], new1 (F.1.free n), rfl, mut_new (S.fh F).ok n t⟩)⟩
  · cases hz
/-- a sum of lists is a new list -/
def addLD : Dt → Dt → Option Dt
  | .lst a, .lst b => if a.length + b.length ≤ 16777216 then some (.lst (a ++ b)) else none
  | _, _ => none
theorem rc_add {i : Nat} (hi : i ∈ mu) (ha : RO κ mu W ta ma) (hb : RO κ mu W tb mb) : RC κ mu W i (tOp (rAddA κ.K) ta tb) (mOp addLD ma mb) := by
  intro c M σ ρ H Q S w
  refine ha c M σ ρ H _ S (wp0_mono (wp0_bind.mp w) (fun d w v H1 F r => ?_) fun _ _ h => h)
  refine hb c M σ ρ H1 _ (S.fh F) (wp0_mono (wp0_bind.mp w) (fun e w u H2 G q => ?_) fun x f h => h.fh F)
  obtain ⟨z, hz, w⟩ := wp0_ofO w
  have FG := F.trans G
  have rv := r.fh G
  unfold addLD at hz
  split at hz
  · split at hz
    · rename_i hl
      cases hz
      obtain ⟨a, xs, rfl, ha, tx⟩ := rv.lst
      obtain ⟨b, ys, rfl, hb, ty⟩ := q.lst
      refine r_addL ha hb (by rw [tx.length, ty.length, sizeLine_eq]; exact hl) fun p n _ _ => ?_
      exact w _ _ _ (FG.trans (Fh.new n)) (.inr ⟨hi, [p], new1 (FG.1.free n), rfl, mut_new (S.fh FG).ok n (tx.app ty)⟩)
    · cases hz
  · cases hz
theorem rc_if {i : Nat} {mt : MB} {tt : TT} (ht : RT κ mu W tt mt) (ha : RC κ mu W i ta ma) (hb : RC κ mu W i tb mb) : RC κ mu W i (tIf tt ta tb) (mIf mt ma mb) := by
  intro c M σ ρ H Q S w
  refine ht c M σ ρ H _ S (wp0_mono (wp0_bind.mp w) (fun k w H1 F => ?_) fun _ _ h => h)
  have back : ∀ {c' : Cn} {v : V} {d : Dt} {H' : Hp}, Val1 κ.K mu i c c' H1 H' v d → Val1 κ.K mu i c c' H H' v d := fun r => by
    rcases r with r | ⟨h1, p, n, h3⟩
    · exact .inl r
    · exact .inr ⟨h1, p, fun b hb => F.1.free (n b hb), h3⟩
  cases k with
  | true => exact ha c M σ ρ H1 Q (S.fh F) (wp0_mono w (fun d w c' v H' G r => w c' v H' (F.trans G) (back r)) fun _ _ h => h.fh F)
  | false => exact hb c M σ ρ H1 Q (S.fh F) (wp0_mono w (fun d w c' v H' G r => w c' v H' (F.trans G) (back r)) fun _ _ h => h.fh F)
/-- a slot is set -/
theorem Sl.setV {c c' : Cn} {M : Nat → List Addr} {H H' : Hp} {σ : L2.St} {ρ : Ev} {i : Nat} {v : V} {d : Dt} (S : Sl κ mu c M H σ ρ) (F : Fh c H H') (r : Val1 κ.K mu i c c' H H' v d) :
    Lk c c' H ∧ ∃ M', Sl κ mu c' M' H' (σ.set i (some v)) (ρ.set i (some d)) := by
  rcases r with ⟨hi, rfl, r⟩ | ⟨hi, fp, n, rfl, r⟩
  · exact ⟨Lk.refl, M, (S.fh F).set hi r⟩
  · refine ⟨⟨rfl, rfl, fun q hq => ?_, fun q hq => List.mem_append_right _ hq⟩, fun j => if j = i then fp else M j, ?_⟩
    · rcases List.mem_append.mp hq with hq | hq
      · exact .inr (n q hq)
      · exact .inl hq
    · have ok' : ∀ b ∈ (c.addLs fp).av, H' b ≠ none := fun b hb => by
        rcases Cn.addLs_av.mp hb with hb | hb
        · obtain ⟨o, ho⟩ := r.ne b hb
          rw [ho]; exact fun z => by cases z
        · exact F.1.dom b (S.ok b hb)
      have F' : Fh (c.addLs fp) H H' := F
      refine ⟨by rw [List.length_set, List.length_set]; exact S.len, ok', fun j e h => ?_, fun j k d' e' hj hk h1 h2 nn => ?_, fun p hp => F.1.tbs _ _ (show (p.1, p.2) ∈ c.h.T by rw [S.hT]; exact hp) (S.tb p hp), S.hT⟩
      · by_cases e' : i = j
        · subst e'
          rw [List.getElem?_set] at h
          simp only [if_pos] at h
          split at h
          · cases h
            refine ⟨v, ?_, fun m => by rw [if_pos rfl]; exact r, fun m => (m hi).elim⟩
            rw [List.getElem?_set, if_pos rfl, if_pos (by rw [S.len]; assumption)]
          · cases h
        · rw [List.getElem?_set_ne e'] at h ⊢
          obtain ⟨v, h1, h2, h3⟩ := S.at_ j e h
          refine ⟨v, h1, fun m => ?_, fun m => (Rl.addLs n (h3 m)).fh F'⟩
          rw [if_neg (Ne.symm e')]
          have q := h2 m
          exact MutAt.fh F' (MutAt.to (c := c) (c' := c.addLs fp) rfl (fun b hb => List.mem_append_right _ (q.1 b hb).1) (fun b hb => (q.1 b hb).2.1) (to_addLs n) q)
      · have nM : ∀ j e, j ∈ mu → ρ[j]? = some (some e) → ∀ b ∈ M j, b ∉ fp := fun j e hj h b hb z => by
          obtain ⟨v, _, h2, _⟩ := S.at_ j e h
          obtain ⟨o, ho⟩ := (h2 hj).ne b hb
          rw [n b z] at ho; cases ho
        show ∀ b ∈ (if j = i then fp else M j), b ∉ (if k = i then fp else M k)
        by_cases ej : j = i
        · rw [if_pos ej]
          by_cases ek : k = i
          · exact (nn (ej.trans ek.symm)).elim
          · rw [if_neg ek]
            rw [List.getElem?_set_ne (Ne.symm ek)] at h2
            exact fun b hb z => nM k _ hk h2 b z hb
        · rw [if_neg ej]
          rw [List.getElem?_set_ne (Ne.symm ej)] at h1
          by_cases ek : k = i
          · rw [if_pos ek]
            exact nM j _ hj h1
          · rw [if_neg ek]
            rw [List.getElem?_set_ne (Ne.symm ek)] at h2
            exact S.dist j k _ _ hj hk h1 h2 nn
def mAsg (a : ME) (i : Nat) : MS := fun ρ => mAtt (a ρ) ρ fun d => .ret (.nx (ρ.set i (some d)))
theorem rs_asg {i : Nat} (h : RC κ mu W i te me) : RS κ mu W (tAsg te (gName i)) (mAsg me i) := by
  intro c M σ ρ H D S w
  refine h c M σ ρ H _ S (wp0_mono (wp0_mAtt w) (fun d w c' v H1 F r => ?_) fun x f q => Post.xw S q)
  obtain ⟨k, M', S'⟩ := S.setV F r
  exact w c' M' _ H1 F.fs k S'
def mAsgG (a : ME) (g : MG) : MS := fun ρ => mAtt (a ρ) ρ fun d => g d ρ >>= fun ρ' => .ret (.nx ρ')
theorem rs_asgG {g : TG} {mg : MG} {vs : List Nat} (h : RE κ mu W te me) (hg : RG κ mu vs g mg) : RS κ mu W (tAsg te g) (mAsgG me mg) := by
  intro c M σ ρ H D S w
  refine h c M σ ρ H _ S (wp0_mono (wp0_mAtt w) (fun d w v H1 F r => ?_) fun x f q => Post.xw S q)
  exact hg c M σ ρ H1 v d _ (S.fh F) r (wp0_mono (wp0_bind.mp w) (fun ρ' w σ' S' _ => w c M σ' H1 F.fs Lk.refl S') fun _ _ h => h)
/-- x, y = a, b -/
def mPar (i j : Nat) (a b : ME) : MS := fun ρ => mAtt (a ρ) ρ fun d => mAtt (b ρ) ρ fun e => .ret (.nx ((ρ.set i (some d)).set j (some e)))
theorem Val1.fh {i : Nat} {c c' : Cn} {H H1 H2 : Hp} {v : V} {d : Dt} (F : Fh c H1 H2) (r : Val1 K mu i c c' H H1 v d) : Val1 K mu i c c' H H2 v d := by
  rcases r with ⟨hi, rfl, r⟩ | ⟨hi, p, n, rfl, r⟩
  · exact .inl ⟨hi, rfl, r.fh F⟩
  · exact .inr ⟨hi, p, n, rfl, MutAt.fh (c := c.addLs p) F r⟩
theorem rs_par {i j : Nat} (h : RC κ mu W i ta ma) (h' : RC κ mu W j tb mb) (hj : i ∉ mu ∨ j ∉ mu ∨ i ≠ j) : RS κ mu W (tPar i j (tCons ta (tCons tb tNil))) (mPar i j ma mb) := by
  intro c M σ ρ H D S w
  refine h c M σ ρ H _ S (wp0_mono (wp0_mAtt w) (fun d w c1 v H1 F r => ?_) fun x f q => Post.xw S q)
  -- the second one, with the first one's new address seen
  have S1 : Sl κ mu c1 M H1 σ ρ := by
    rcases r with ⟨hi, rfl, r⟩ | ⟨hi, p, n, rfl, r⟩
    · exact S.fh F
    · have ok' : ∀ b ∈ (c.addLs p).av, H1 b ≠ none := fun b hb => by
        rcases Cn.addLs_av.mp hb with hb | hb
        · obtain ⟨o, ho⟩ := r.ne b hb
          rw [ho]; exact fun z => by cases z
        · exact F.1.dom b (S.ok b hb)
      refine ⟨S.len, ok', fun j e h => ?_, S.dist, fun p hp => F.1.tbs _ _ (show (p.1, p.2) ∈ c.h.T by rw [S.hT]; exact hp) (S.tb p hp), S.hT⟩
      obtain ⟨v, h1, h2, h3⟩ := S.at_ j e h
      refine ⟨v, h1, fun m => ?_, fun m => (Rl.addLs n (h3 m)).fh (c := c.addLs p) F⟩
      have q := h2 m
      exact MutAt.fh (c := c.addLs p) F (MutAt.to (c := c) (c' := c.addLs p) rfl (fun b hb => List.mem_append_right _ (q.1 b hb).1) (fun b hb => (q.1 b hb).2.1) (to_addLs n) q)
  have k1 : Lk c c1 H := by
    rcases r with ⟨hi, rfl, r⟩ | ⟨hi, p, n, rfl, r⟩
    · exact Lk.refl
    · exact ⟨rfl, rfl, fun q hq => (List.mem_append.mp hq).elim (fun e => .inr (n q e)) .inl, fun q hq => List.mem_append_right _ hq⟩
  refine h' c1 M σ ρ H1 _ S1 (wp0_mono (wp0_mAtt w) (fun e w c2 u H2 G q => ?_) fun x f q => ?_)
  · have Gc : Fh c H1 H2 := G.ch k1.2.1.symm
    have FG := F.trans Gc
    obtain ⟨kA, MA, SA⟩ := S.setV FG (r.fh Gc)
    -- now the second, from the state with the first set, at the heap H1
    obtain ⟨kA1, MA1, SA1⟩ := S.setV F r
    obtain ⟨kB, MB, SB⟩ := SA1.setV G q
    refine ⟨v, u, rfl, w c2 MB _ H2 FG.fs (Lk.trans F.fs kA1 kB) SB⟩
  · intro e H' G i
    exact q c1 M σ H' e (Fs.trans k1 F.fs G.fs) k1 (S1.fh G) i
theorem rs_parT {i j : Nat} (h : RC κ mu W i ta ma) (h' : RC κ mu W j tb mb) (hj : i ∉ mu ∨ j ∉ mu ∨ i ≠ j) : RS κ mu W (tAsg (tTup (tCons ta (tCons tb tNil))) (gTup κ.K 2 (gCons (gName i) (gCons (gName j) gNil)))) (mPar i j ma mb) := by
  intro c M σ ρ H D S w
  refine h c M σ ρ H _ S (wp0_mono (wp0_mAtt w) (fun d w c1 v H1 F r => ?_) fun x f q => Post.xw S q)
  -- the second one, with the first one's new address seen
  have S1 : Sl κ mu c1 M H1 σ ρ := by
    rcases r with ⟨hi, rfl, r⟩ | ⟨hi, p, n, rfl, r⟩
    · exact S.fh F
    · have ok' : ∀ b ∈ (c.addLs p).av, H1 b ≠ none := fun b hb => by
        rcases Cn.addLs_av.mp hb with hb | hb
        · obtain ⟨o, ho⟩ := r.ne b hb
          rw [ho]; exact fun z => by cases z
        · exact F.1.dom b (S.ok b hb)
      refine ⟨S.len, ok', fun j e h => ?_, S.dist, fun p hp => F.1.tbs _ _ (show (p.1, p.2) ∈ c.h.T by rw [S.hT]; exact hp) (S.tb p hp), S.hT⟩
      obtain ⟨v, h1, h2, h3⟩ := S.at_ j e h
      refine ⟨v, h1, fun m => ?_, fun m => (Rl.addLs n (h3 m)).fh (c := c.addLs p) F⟩
      have q := h2 m
      exact MutAt.fh (c := c.addLs p) F (MutAt.to (c := c) (c' := c.addLs p) rfl (fun b hb => List.mem_append_right _ (q.1 b hb).1) (fun b hb => (q.1 b hb).2.1) (to_addLs n) q)
  have k1 : Lk c c1 H := by
    rcases r with ⟨hi, rfl, r⟩ | ⟨hi, p, n, rfl, r⟩
    · exact Lk.refl
    · exact ⟨rfl, rfl, fun q hq => (List.mem_append.mp hq).elim (fun e => .inr (n q e)) .inl, fun q hq => List.mem_append_right _ hq⟩
  refine h' c1 M σ ρ H1 _ S1 (wp0_mono (wp0_mAtt w) (fun e w c2 u H2 G q => ?_) fun x f q => ?_)
  · refine ⟨by rw [sizeLine_eq]; show 2 ≤ _; decide, fun p np => ?_⟩
    have G := G.trans (Fh.new (c := c1) (o := .tup [v, u]) np)
    have q := q.fh (Fh.new (c := c1) (o := .tup [v, u]) np)
    have Gc : Fh c H1 (upd H2 p (.tup [v, u])) := G.ch k1.2.1.symm
    have FG := F.trans Gc
    obtain ⟨kA1, MA1, SA1⟩ := S.setV F r
    obtain ⟨kB, MB, SB⟩ := SA1.setV G q
    exact ⟨p, [v, u], rfl, SqT.of upd_same, rfl, v, [u], rfl, u, [], rfl, rfl, w c2 MB _ _ FG.fs (Lk.trans F.fs kA1 kB) SB⟩
  · intro e H' G i
    exact q c1 M σ H' e (Fs.trans k1 F.fs G.fs) k1 (S1.fh G) i
/-- x += e -/
def mAug (i : Nat) (a : ME) (f : Int → Int → Int) : MS := fun ρ => match ρ[i]? with
  | some (some (.int x)) => mAtt (a ρ) ρ fun y => match y with
    | .int j => .ret (.nx (ρ.set i (some (.int (f x j)))))
    | _ => .bad
  | _ => .bad
theorem rs_aug {i : Nat} {f : Int → Int → Int} (hi : i ∉ mu) (h : RO κ mu W te me) : RS κ mu W (tAug i te (ipI f)) (mAug i me f) := by
  intro c M σ ρ H D S w
  unfold mAug at w
  split at w
  · rename_i x e
    obtain ⟨v, h1, _, h3⟩ := S.at_ i _ e
    refine ⟨v, h1, ?_⟩
    have r0 := h3 hi
    cases r0
    refine h c M σ ρ H _ S (wp0_mono (wp0_mAtt w) (fun d w v H1 F r => ?_) fun x f q => Post.xw S q)
    cases d with
    | int j => exact ⟨x, j, rfl, r.int, w c M _ H1 F.fs Lk.refl ((S.fh F).set hi (.int _))⟩
    | _ => exact w.elim
  · exact w.elim
/-! ### what is changed in its place -/
/-- what slot i holds is changed -/
theorem Sl.put {c : Cn} {M : Nat → List Addr} {H H' : Hp} {σ : L2.St} {ρ : Ev} {i : Nat} {d e : Dt} {v : V} (S : Sl κ mu c M H σ ρ) (hi : i ∈ mu) (he : ρ[i]? = some (some d)) (hv : σ[i]? = some (some v)) (hm : MutAt κ.K c H' (M i) v e) (F : Fr (M i) H H') :
    Fs c H H' ∧ Sl κ mu c M H' σ (ρ.set i (some e)) := by
  have hd : ∀ a l, c.h.d = some (a, l) → Drw H a l → Drw H' a l := fun a l e h => h.fr F (fun z => (hm.1 a z).2.2 (by unfold Cn.hd; rw [e]; simp)) fun z => (hm.1 l z).2.2 (by unfold Cn.hd; rw [e]; simp)
  have Gs : Fs c H H' := ⟨F.weak.mono fun b hb => List.mem_append_left _ (hm.1 b hb).1, hd⟩
  refine ⟨Gs, by rw [List.length_set]; exact S.len, fun b hb => F.dom b (S.ok b hb), fun j d' h => ?_, fun j k d' e' hj hk h1 h2 nn => ?_, fun p hp => F.tbs _ _ trivial (S.tb p hp), S.hT⟩
  · by_cases e' : i = j
    · subst e'
      rw [List.getElem?_set] at h
      simp only [if_pos] at h
      split at h
      · cases h
        exact ⟨v, hv, fun m => hm, fun m => (m hi).elim⟩
      · cases h
    · rw [List.getElem?_set_ne e'] at h
      obtain ⟨v, h1, h2, h3⟩ := S.at_ j d' h
      exact ⟨v, h1, fun m => (h2 m).fm F Gs.fm (S.dist j i _ _ m hi h he (Ne.symm e')), fun m => (h3 m).fm Gs.fm⟩
  · have key : ∀ j d', j ∈ mu → (ρ.set i (some e))[j]? = some (some d') → ∃ d'', ρ[j]? = some (some d'') := fun j d' _ h => by
      by_cases e' : i = j
      · subst e'; exact ⟨d, he⟩
      · rw [List.getElem?_set_ne e'] at h; exact ⟨d', h⟩
    obtain ⟨_, q1⟩ := key j _ hj h1
    obtain ⟨_, q2⟩ := key k _ hk h2
    exact S.dist j k _ _ hj hk q1 q2 nn
theorem Sl.mut {c : Cn} {M : Nat → List Addr} {H : Hp} {σ : L2.St} {ρ : Ev} {i : Nat} {d : Dt} (S : Sl κ mu c M H σ ρ) (hi : i ∈ mu) (he : ρ[i]? = some (some d)) : ∃ v, σ[i]? = some (some v) ∧ MutAt κ.K c H (M i) v d := by
  obtain ⟨v, h1, h2, _⟩ := S.at_ i d he
  exact ⟨v, h1, h2 hi⟩
theorem MutAt.lst {c : Cn} {H : Hp} {fp : List Addr} {v : V} {ds : List Dt} (h : MutAt K c H fp v (.lst ds)) : ∃ p xs, fp = [p] ∧ v = .ref p ∧ H p = some (.lst xs) ∧ RlL K c H xs ds := by
  obtain ⟨_, h⟩ := h
  cases h with
  | lst h r => exact ⟨_, _, rfl, rfl, h, r⟩
/-- what is kept while the addresses fp alone are changed -/
theorem own_fm {c : Cn} {H H' : Hp} {fp : List Addr} (F : Fr fp H H') (h : ∀ b ∈ fp, b ∈ c.L ∧ b ∉ c.S ∧ b ∉ c.hd) : Fm c H H' :=
  ⟨F.weak.mono fun b hb => Cn.L_av (h b hb).1, fun a l e h' => h'.fr F (fun z => (h a z).2.2 (by unfold Cn.hd; rw [e]; simp)) fun z => (h l z).2.2 (by unfold Cn.hd; rw [e]; simp)⟩
/-- the list's new state -/
theorem MutAt.putL {c : Cn} {H : Hp} {p : Addr} {ds es : List Dt} {xs ys : List V} (h : MutAt K c H [p] (.ref p) (.lst ds)) (e : H p = some (.lst xs)) (t : RlL K c H ys es) : MutAt K c (upd H p (.lst ys)) [p] (.ref p) (.lst es) ∧ Fr [p] H (upd H p (.lst ys)) := by
  have F : Fr [p] H (upd H p (.lst ys)) := Fr.put e (fun _ z => by cases z) (fun _ _ z => by cases z) (by simp)
  exact ⟨⟨h.1, .lst upd_same (t.fm (own_fm F h.1))⟩, F⟩
def mAppend (i : Nat) (a : ME) : MS := fun ρ => match ρ[i]? with
  | some (some (.lst ds)) => mAtt (a ρ) ρ fun d => if ds.length < 16777216 then .ret (.nx (ρ.set i (some (.lst (ds ++ [d]))))) else .bad
  | _ => .bad
theorem rs_append {i : Nat} (hi : i ∈ mu) (h : RE κ mu W te me) : RS κ mu W (tDrop (tBM κ.K "list" rAppend (tVar i) (tCons te tNil))) (mAppend i me) := by
  intro c M σ ρ H D S w
  unfold mAppend at w
  split at w
  · rename_i ds e
    obtain ⟨v0, h1, q⟩ := S.mut hi e
    obtain ⟨p, xs, hfp, rfl, hx, _⟩ := q.lst
    rw [hfp] at q
    refine ⟨_, h1, r_tyL (SqL.of hx), ?_⟩
    refine h c M σ ρ H _ S (wp0_mono (wp0_mAtt w) (fun d w v H1 F r => ?_) fun x f q => Post.xw S q)
    split at w
    · rename_i hl
      have q1 := q.fh F
      obtain ⟨_, ys, e1, _, hy, t⟩ := q1.lst
      cases e1
      obtain ⟨m, G⟩ := q1.putL hy (t.snoc r)
      obtain ⟨Gs, S2⟩ := (S.fh F).put hi e h1 (by rw [hfp]; exact m) (by rw [hfp]; exact G)
      exact ⟨p, ys, v, rfl, rfl, hy, by rw [t.length, sizeLine_eq]; exact hl, w c M σ _ (Fs.trans Lk.refl F.fs Gs) Lk.refl S2⟩
    · exact w.elim
  · exact w.elim
def mExtend (i : Nat) (a : ME) : MS := fun ρ => match ρ[i]? with
  | some (some (.lst ds)) => mAtt (a ρ) ρ fun d => match d with
    | .lst es => if ds.length + es.length ≤ 16777216 then .ret (.nx (ρ.set i (some (.lst (ds ++ es))))) else .bad
    | _ => .bad
  | _ => .bad
theorem rs_extend {i : Nat} (hi : i ∈ mu) (h : RE κ mu W te me) : RS κ mu W (tDrop (tBM κ.K "list" rExtend (tVar i) (tCons te tNil))) (mExtend i me) := by
  intro c M σ ρ H D S w
  unfold mExtend at w
  split at w
  · rename_i ds e
    obtain ⟨v0, h1, q⟩ := S.mut hi e
    obtain ⟨p, xs, hfp, rfl, hx, _⟩ := q.lst
    rw [hfp] at q
    refine ⟨_, h1, r_tyL (SqL.of hx), ?_⟩
    refine h c M σ ρ H _ S (wp0_mono (wp0_mAtt w) (fun d w v H1 F r => ?_) fun x f q => Post.xw S q)
    split at w
    · split at w
      · rename_i hl
        have q1 := q.fh F
        obtain ⟨_, ys, e1, _, hy, t⟩ := q1.lst
        cases e1
        cases r with
        | lst hz nz tz =>
          obtain ⟨m, G⟩ := q1.putL hy (t.app tz)
          obtain ⟨Gs, S2⟩ := (S.fh F).put hi e h1 (by rw [hfp]; exact m) (by rw [hfp]; exact G)
          exact ⟨p, _, ys, _, rfl, rfl, hy, hz, by rw [t.length, tz.length, sizeLine_eq]; exact hl, w c M σ _ (Fs.trans Lk.refl F.fs Gs) Lk.refl S2⟩
      · exact w.elim
    · exact w.elim
  · exact w.elim
def mPopS (i : Nat) : MS := fun ρ => match ρ[i]? with
  | some (some (.lst ds)) => if ds = [] then .bad else .ret (.nx (ρ.set i (some (.lst ds.dropLast))))
  | _ => .bad
/-- x[k] = v -/
def mSet (i : Nat) (k v : ME) : MS := fun ρ => mAtt (v ρ) ρ fun d => match ρ[i]? with
  | some (some (.lst ds)) => mAtt (k ρ) ρ fun e => match e with
    | .int n => ofO (ixN ds.length n) >>= fun j => .ret (.nx (ρ.set i (some (.lst (ds.set j d)))))
    | _ => .bad
  | some (some (.dK kvs)) => mAtt (k ρ) ρ fun e => ofO (keyD e) >>= fun n => ofO d.v? >>= fun v => if kvs.length < 16777216 then .ret (.nx (ρ.set i (some (.dK (putK kvs n v))))) else .bad
  | _ => .bad
theorem v_sc {d : Dt} {v : V} (h : d.v? = some v) : scB v = true := by
  cases d <;> cases h <;> rfl
theorem putK_sc {κ : Type} [DecidableEq κ] {kvs : List (κ × V)} {n : κ} {v : V} (h : (kvs.all fun q => scB q.2) = true) (hv : scB v = true) : ((putK kvs n v).all fun q => scB q.2) = true := by
  unfold putK
  split
  · rw [List.all_map]
    refine List.all_eq_true.mpr fun q hq => ?_
    show scB (if q.1 = n then (q.1, v) else q).2 = true
    split
    · exact hv
    · exact List.all_eq_true.mp h q hq
  · rw [List.all_append, h]
    simp [hv]
theorem MutAt.dK {c : Cn} {H : Hp} {fp : List Addr} {v : V} {kvs : List (Key × V)} (h : MutAt K c H fp v (.dK kvs)) : ∃ p, fp = [p] ∧ v = .ref p ∧ H p = some (.dK kvs) ∧ (kvs.all fun q => scB q.2) = true := by
  obtain ⟨_, h⟩ := h
  cases h with
  | dK h r => exact ⟨_, rfl, rfl, h, r⟩
theorem MutAt.dT {c : Cn} {H : Hp} {fp : List Addr} {v : V} {kvs : List (List Key × V)} (h : MutAt K c H fp v (.dT kvs)) : ∃ p, fp = [p] ∧ v = .ref p ∧ H p = some (.dT kvs) ∧ (kvs.all fun q => scB q.2) = true := by
  obtain ⟨_, h⟩ := h
  cases h with
  | dT h r => exact ⟨_, rfl, rfl, h, r⟩
theorem rs_set {i : Nat} {tk : TE} {mk : ME} (hi : i ∈ mu) (hk : RO κ mu W tk mk) (h : RE κ mu W te me) : RS κ mu W (tAsg te (gSub (tVar i) tk rSetV)) (mSet i mk me) := by
  intro c M σ ρ H D S w
  refine h c M σ ρ H _ S (wp0_mono (wp0_mAtt w) (fun d w v H1 F r => ?_) fun x f q => Post.xw S q)
  have S1 := S.fh F
  split at w
  · rename_i ds e
    obtain ⟨v0, h1, q⟩ := S1.mut hi e
    refine ⟨_, h1, ?_⟩
    refine hk c M σ ρ H1 _ S1 (wp0_mono (wp0_mAtt w) (fun d2 w v2 H2 G r2 => ?_) fun x f q e' H' F2 i => Post.xw S q e' H' (F.trans F2) i)
    split at w
    · rename_i n
      obtain ⟨j, hj, w⟩ := wp0_ofO (wp0_bind.mp w)
      have q2 := q.fh G
      obtain ⟨p, ys, hfp, rfl, hy, t⟩ := q2.lst
      rw [hfp] at q2
      obtain ⟨m, G2⟩ := q2.putL hy (t.set j (r.fh G))
      obtain ⟨Gs, S2⟩ := (S1.fh G).put hi e h1 (by rw [hfp]; exact m) (by rw [hfp]; exact G2)
      cases r2.int
      exact .inl ⟨p, ys, n, j, rfl, rfl, hy, by rw [t.length]; exact hj, w c M σ _ (Fs.trans Lk.refl (F.trans G).fs Gs) Lk.refl S2⟩
    · exact w.elim
  · rename_i kvs e
    obtain ⟨v0, h1, q⟩ := S1.mut hi e
    refine ⟨_, h1, ?_⟩
    refine hk c M σ ρ H1 _ S1 (wp0_mono (wp0_mAtt w) (fun d2 w v2 H2 G r2 => ?_) fun x f q e' H' F2 i => Post.xw S q e' H' (F.trans F2) i)
    obtain ⟨n, hn, w⟩ := wp0_ofO (wp0_bind.mp w)
    obtain ⟨u, hu, w⟩ := wp0_ofO (wp0_bind.mp w)
    split at w
    · rename_i hl
      have q2 := q.fh G
      obtain ⟨p, hfp, rfl, hy, hs⟩ := q2.dK
      have F3 : Fr [p] H2 (upd H2 p (.dK (putK kvs n u))) := Fr.put hy (fun _ z => by cases z) (fun _ _ z => by cases z) (by simp)
      obtain ⟨Gs, S2⟩ := (S1.fh G).put (H' := upd H2 p (.dK (putK kvs n u))) hi e h1 (e := .dK (putK kvs n u)) ⟨q2.1, by rw [hfp]; exact .dK upd_same (putK_sc hs (v_sc hu))⟩ (by rw [hfp]; exact F3)
      obtain ⟨rfl, _⟩ := Rw.v (.inl r) hu
      rw [r2.key hn]
      exact .inr ⟨p, _, rfl, .inl ⟨kvs, n, hy, rfl, by rw [sizeLine_eq]; exact hl, rfl⟩, w c M σ _ (Fs.trans Lk.refl (F.trans G).fs Gs) Lk.refl S2⟩
    · exact w.elim
  · exact w.elim
/-- x[(a, b, ..)] = v, x a dict with such keys -/
def mSetT (i : Nat) (k : MA) (v : ME) : MS := fun ρ => mAtt (v ρ) ρ fun d => match ρ[i]? with
  | some (some (.dT kvs)) => mAtt (k ρ) ρ fun e => ofO (keysD e) >>= fun n => ofO d.v? >>= fun v => if kvs.length < 16777216 ∧ e.length < 1000 then .ret (.nx (ρ.set i (some (.dT (putK kvs n v))))) else .bad
  | _ => .bad
theorem rs_setT {i : Nat} {tk : TA} {mk : MA} (hi : i ∈ mu) (hk : RA κ mu W tk mk) (h : RE κ mu W te me) : RS κ mu W (tAsg te (gSub (tVar i) (tTup tk) rSetV)) (mSetT i mk me) := by
  intro c M σ ρ H D S w
  refine h c M σ ρ H _ S (wp0_mono (wp0_mAtt w) (fun d w v H1 F r => ?_) fun x f q => Post.xw S q)
  have S1 := S.fh F
  split at w
  · rename_i kvs e
    obtain ⟨v0, h1, q⟩ := S1.mut hi e
    refine ⟨_, h1, ?_⟩
    refine hk c M σ ρ H1 _ S1 (wp0_mono (wp0_mAtt w) (fun d2 w v2 H2 G r2 => ?_) fun x f q e' H' F2 i => Post.xw S q e' H' (F.trans F2) i)
    obtain ⟨n, hn, w⟩ := wp0_ofO (wp0_bind.mp w)
    obtain ⟨u, hu, w⟩ := wp0_ofO (wp0_bind.mp w)
    split at w
    · rename_i hl
      refine ⟨by rw [r2.length, sizeLine_eq]; omega, fun p np => ?_⟩
      have G' := G.trans (Fh.new (o := .tup v2) np)
      have q2 := q.fh G'
      obtain ⟨pd, hfp, rfl, hy, hs⟩ := q2.dT
      have F3 : Fr [pd] (upd H2 p (.tup v2)) (upd (upd H2 p (.tup v2)) pd (.dT (putK kvs n u))) := Fr.put hy (fun _ z => by cases z) (fun _ _ z => by cases z) (by simp)
      obtain ⟨Gs, S2⟩ := (S1.fh G').put (H' := upd (upd H2 p (.tup v2)) pd (.dT (putK kvs n u))) hi e h1 (e := .dT (putK kvs n u)) ⟨q2.1, by rw [hfp]; exact .dT upd_same (putK_sc hs (v_sc hu))⟩ (by rw [hfp]; exact F3)
      obtain ⟨rfl, _⟩ := Rw.v (.inl r) hu
      exact .inr ⟨pd, _, rfl, .inr ⟨kvs, n, p, hy, rfl, by rw [upd_same, r2.keys hn], by rw [sizeLine_eq]; exact hl.1, rfl⟩, w c M σ _ (Fs.trans Lk.refl (F.trans G').fs Gs) Lk.refl S2⟩
    · exact w.elim
  · exact w.elim
/-! ### loops -/
def forGo (mg : MG) (mb : MS) : List Dt → MS
  | [], ρ => .ret (.nx ρ)
  | d :: l, ρ => mg d ρ >>= fun ρ1 => mb ρ1 >>= fun o => match o with
    | .nx ρ2 => forGo mg mb l ρ2
    | .ct ρ2 => forGo mg mb l ρ2
    | .bk ρ2 => .ret (.nx ρ2)
    | o => .ret o
def mFor (mi : MI) (mg : MG) (mb : MS) : MS := fun ρ => mAtt (mi ρ) ρ fun l => forGo mg mb l ρ
theorem rs_for {wi : TI} {mi : MI} {g : TG} {mg : MG} {vs : List Nat} (hi : RI κ mu W true wi mi) (hg : RG κ mu vs g mg) (hb : RS κ mu W ts ms) : RS κ mu W (tFor wi g ts) (mFor mi mg ms) := by
  intro c M σ ρ H D S w
  refine hi c M σ ρ H _ S (wp0_mono (wp0_mAtt w) (fun l w J H1 F wk => ?_) fun x f q => Post.xw S q)
  have S1 := S.fh F
  have wkc := wk c ⟨rfl, fun _ _ _ n => n⟩
  refine ⟨fun i m σ' H' => m = l.length - i ∧ i ≤ l.length ∧ ∃ c' M' ρ', Fs c H1 H' ∧ Lk c c' H1 ∧ Sl κ mu c' M' H' σ' ρ' ∧ wp0 (forGo mg ms (l.drop i) ρ') (Post κ mu c' H' W D) NoX,
    ⟨l.length, by simp, Nat.zero_le _, c, M, ρ, Fs.refl, Lk.refl, S1, wp0_mono w (fun o q => q.step F.fs Lk.refl) fun _ _ h => h⟩, ?_⟩
  rintro i m σ' H' ⟨rfl, hile, c', M', ρ', F', k', S', w⟩
  obtain ⟨go, stop, yld⟩ := wkc _ H' F'.1 F'.fm
  by_cases hlt : i < l.length
  · refine .inr ⟨go i hlt, fun σ2 H2 => ∃ c2 M2 ρ2, Fs c H1 H2 ∧ Lk c c2 H1 ∧ Sl κ mu c2 M2 H2 σ2 ρ2 ∧ wp0 (forGo mg ms (l.drop (i + 1)) ρ2) (Post κ mu c2 H2 W D) NoX,
      fun σ2 H2 p => ⟨l.length - (i + 1), by omega, rfl, hlt, p⟩, fun x H2 y => ?_⟩
    obtain ⟨F2, d, hd, rx⟩ := yld i x H2 hlt y
    have hdrop : l.drop i = d :: l.drop (i + 1) := by
      rw [List.drop_eq_getElem_cons hlt]
      congr 1
      rw [List.getElem?_eq_getElem hlt] at hd
      exact Option.some.inj hd
    rw [hdrop] at w
    have w := wp0_bind.mp w
    have F2' : Fh c' H' H2 := Fh.of0 F2
    -- the item, kept away from what is new in c'
    obtain ⟨d2, hd2, rx'⟩ : ∃ d2, l[i]? = some d2 ∧ Rl κ.K c' H2 x d2 := by
      have nw : Nw c c' H1 := ⟨k'.2.1, fun b o hb nb m => by
        rw [Cn.av_iff] at m
        rcases m with m | m | m
        · rcases k'.2.2.1 b m with z | z
          · exact nb (Cn.L_av z)
          · rw [z] at hb; cases hb
        · rw [k'.1] at m; exact nb (Cn.S_av m)
        · rw [k'.hd] at m; exact nb (Cn.hd_av m)⟩
      have Fm' : Fm c' H1 H' := ⟨(k'.P ▸ F'.1 : FrG c'.P _ H1 H').mono fun b hb => by
        rcases List.mem_append.mp hb with z | z
        · exact Cn.L_av (k'.2.2.2 _ z)
        · rw [← k'.hd] at z; exact Cn.hd_av z, fun a l e h => F'.2 a l ((congrArg Hd.d k'.2.1).symm.trans e) h⟩
      obtain ⟨_, _, yld'⟩ := wk c' nw _ H' F'.1 Fm'
      exact (yld' i x H2 hlt y).2
    rw [hd] at hd2
    cases hd2
    refine hg c' M' σ' ρ' H2 x d _ (S'.fh F2') rx' (wp0_mono w (fun ρ3 w σ3 S3 _ => ?_) fun _ _ h => h)
    refine hb c' M' σ3 ρ3 H2 _ S3 (wp0_mono (wp0_bind.mp w) (fun o w => ?_) fun _ _ h => h)
    have Fc : Fs c H1 H2 := Fs.trans Lk.refl F' (Fh.of0 (c := c) F2).fs
    have kc : Lk c c' H1 := k'
    cases o with
    | nx ρ4 => exact fun c4 M4 σ4 H4 F4 k4 S4 => ⟨c4, M4, ρ4, Fs.trans kc Fc F4, Lk.trans Fc kc k4, S4, wp0_mono w (fun o q => q.step (Fs.trans Lk.refl F2'.fs F4) (Lk.trans F2'.fs Lk.refl k4)) fun _ _ h => h⟩
    | ct ρ4 => exact fun c4 M4 σ4 H4 F4 k4 S4 => ⟨c4, M4, ρ4, Fs.trans kc Fc F4, Lk.trans Fc kc k4, S4, wp0_mono w (fun o q => q.step (Fs.trans Lk.refl F2'.fs F4) (Lk.trans F2'.fs Lk.refl k4)) fun _ _ h => h⟩
    | bk ρ4 =>
      have q : Post κ mu c' H2 W D (.nx ρ4) := Post.step F2'.fs Lk.refl w
      exact q
    | rt d => 
      have q : Post κ mu c' H2 W D (.rt d) := Post.step F2'.fs Lk.refl w
      exact q
    | ex x f ρ4 =>
      have q : Post κ mu c' H2 W D (.ex x f ρ4) := Post.step F2'.fs Lk.refl w
      exact q
  · have e : i = l.length := by omega
    subst e
    refine .inl ⟨stop, ?_⟩
    rw [List.drop_length] at w
    have q : Post κ mu c' H' W D (.nx ρ') := w
    exact q c' M' σ' H' Fs.refl Lk.refl S'
def whGo (mt : MB) (mb : MS) : Nat → MS
  | 0, _ => .bad
  | n + 1, ρ => mAtt (mt ρ) ρ fun k => if k = true then mb ρ >>= fun o => match o with
    | .nx ρ2 => whGo mt mb n ρ2
    | .ct ρ2 => whGo mt mb n ρ2
    | .bk ρ2 => .ret (.nx ρ2)
    | o => .ret o
    else .ret (.nx ρ)
def mWhile (n : Nat) (mt : MB) (mb : MS) : MS := whGo mt mb n
theorem rs_while {n : Nat} (ht : RT κ mu W tt mt) (hb : RS κ mu W ts ms) : RS κ mu W (tWhile tt ts) (mWhile n mt ms) := by
  intro c M σ ρ H D S w
  refine ⟨fun m σ' H' => ∃ c' M' ρ', Sl κ mu c' M' H' σ' ρ' ∧ wp0 (whGo mt ms m ρ') (Post κ mu c' H' W D) NoX, ⟨n, c, M, ρ, S, w⟩, ?_⟩
  rintro m σ' H' ⟨c', M', ρ', S', w⟩
  cases m with
  | zero => exact w.elim
  | succ m =>
    refine ht c' M' σ' ρ' H' _ S' (wp0_mono (wp0_mAtt w) (fun k w H1 F => ?_) fun x f q => Post.xw S' q)
    cases k with
    | true =>
      refine ⟨fun σ2 H2 => ∃ c2 M2 ρ2, Sl κ mu c2 M2 H2 σ2 ρ2 ∧ wp0 (whGo mt ms m ρ2) (Post κ mu c2 H2 W D) NoX, fun σ2 H2 p => ⟨m, Nat.lt_succ_self m, p⟩, ?_⟩
      refine hb c' M' σ' ρ' H1 _ (S'.fh F) (wp0_mono (wp0_bind.mp w) (fun o w => ?_) fun _ _ h => h)
      cases o with
      | nx ρ4 => exact fun c4 M4 σ4 H4 F4 k4 S4 => ⟨c4, M4, ρ4, S4, wp0_mono w (fun o q => q.step (Fs.trans Lk.refl F.fs F4) (Lk.trans F.fs Lk.refl k4)) fun _ _ h => h⟩
      | ct ρ4 => exact fun c4 M4 σ4 H4 F4 k4 S4 => ⟨c4, M4, ρ4, S4, wp0_mono w (fun o q => q.step (Fs.trans Lk.refl F.fs F4) (Lk.trans F.fs Lk.refl k4)) fun _ _ h => h⟩
      | bk ρ4 =>
        have q : Post κ mu c' H1 W D (.nx ρ4) := Post.step F.fs Lk.refl w
        exact q
      | rt d =>
        have q : Post κ mu c' H1 W D (.rt d) := Post.step F.fs Lk.refl w
        exact q
      | ex x f ρ4 =>
        have q : Post κ mu c' H1 W D (.ex x f ρ4) := Post.step F.fs Lk.refl w
        exact q
    | false =>
      have q : Post κ mu c' H1 W D (.nx ρ') := Post.step F.fs Lk.refl w
      exact q c' M' σ' H1 Fs.refl Lk.refl (S'.fh F)
/-! ### exceptions -/
def mRaise0 (x : Str) : MS := fun ρ => .ret (.ex x none ρ)
theorem rs_raise0 {x : Str} : RS κ mu W (tRaise0 (ga κ.K x) W) (mRaise0 x) := fun c M σ ρ H D S w => w c M σ H none Fs.refl Lk.refl S rfl
def scD : Dt → Bool
  | .non => true
  | .bl _ => true
  | .int _ => true
  | .str _ => true
  | _ => false
theorem Rw.sc {c c' : Cn} {H : Hp} {v : V} {d : Dt} (h : Rw K c H v d) (e : scD d = true) : Rl K c' H v d := by
  cases d with
  | non => cases h.non; exact .non
  | bl b => cases h.bl; exact .bl _
  | int b => cases h.int; exact .int _
  | str b => cases h.str; exact .str _
  | _ => cases e
def mRaise1 (x f : Str) (l : MA) : MS := fun ρ => mAtt (l ρ) ρ fun ds => match ds with
  | [d] => if scD d then .ret (.ex x (some (f, d)) ρ) else .bad
  | _ => .bad
theorem rs_raise1 {x f : Str} (hl : RA κ mu W t mL) : RS κ mu W (tRaise1 (ga κ.K x) f W t) (mRaise1 x f mL) := by
  intro c M σ ρ H D S w
  refine hl c M σ ρ H _ S (wp0_mono (wp0_mAtt w) (fun ds w vs H1 F r => ?_) fun x f q => Post.xw S q)
  split at w
  · split at w
    · rename_i hs
      cases r with
      | cons r t =>
        cases t
        refine ⟨_, rfl, fun e n => ?_⟩
        exact w c M σ _ (some e) (F.trans (Fh.new n)).fs Lk.refl (S.fh (F.trans (Fh.new n))) ⟨e, _, rfl, upd_same, Rw.sc (.inl (r.fh (Fh.new n))) hs⟩
    · exact w.elim
  · exact w.elim
theorem rs_never : RS κ mu W tNever (fun _ => .bad) := fun c M σ ρ H D S w => w.elim
/-- try, one clause that does not read the exception -/
def mTry (sub : Str → Option Bool) (b h : MS) : MS := fun ρ => b ρ >>= fun o => match o with
  | .ex x f ρ' => match sub x with
    | some true => h ρ'
    | some false => .ret (.ex x f ρ')
    | none => .bad
  | o => .ret o
theorem rs_try {x : Str} {tb : WX → TS} {th : TS} {mb mh : MS} {sub : Str → Option Bool} (hs : ∀ y b, sub y = some b → PySem.W.exmOne κ.K (.ref (ga κ.K y)) (.ref (ga κ.K x)) = some b)
    (hb : ∀ W', RS κ mu W' (tb W') mb) (hh : RS κ mu W th mh) : RS κ mu W (tTryO κ.K x tb (fun _ _ _ => th) W) (mTry sub mb mh) := by
  intro c M σ ρ H D S w
  refine hb _ c M σ ρ H D S (wp0_mono (wp0_bind.mp w) (fun o w => ?_) fun _ _ h => h)
  cases o with
  | nx ρ' => exact w
  | bk ρ' => exact w
  | ct ρ' => exact w
  | rt d => exact w
  | ex y f ρ' =>
    intro c' M' σ' H' e F k S' i
    cases q : sub y with
    | none => simp only [q] at w; exact w.elim
    | some b =>
      cases b with
      | true =>
        simp only [q] at w
        exact w_yes (hs y true q) fun a na => hh c' M' σ' ρ' H' D S' (wp0_mono w (fun o q => q.step F k) fun _ _ h => h)
      | false =>
        simp only [q] at w
        exact w_no (hs y false q) (w c' M' σ' H' e F k S' i)
end
/-! ### a whole def -/
def startD (n : Nat) (ds : List Dt) : Ev := ds.map some ++ List.replicate (n - ds.length) none
/-- the def of a body: n slots -/
def mFun (n : Nat) (b : MS) : MF := fun ds => (b (startD n ds)).nox >>= fun o => match o with
  | .nx _ => .ret .non
  | .rt d => .ret d
  | .ex x f _ => .exc x f
  | _ => .bad
theorem pure_M {κ : Kt} {mu : List Nat} {N : List Str} {ts : TS} {ms : MS} {E : XK} {n : Nat} (h : RS κ mu (fun cls d _ H => E cls d H) ts ms) (hm : ∀ i ∈ mu, n ≤ i) (hN : N.length = k) {vs : List V} {H : Hp} {Q : VK} (hl : vs.length = n) (hn : n ≤ k) (hw : spM κ (mFun k ms) vs H Q E) :
    ts { nx := fun _ H' => Q .non H', rt := Q } (L2.start N vs) H := by
  obtain ⟨S, hd, ds, hT, r, ok, tb, w⟩ := hw
  have rl := r.length
  have Sl0 : Sl κ mu ⟨[], S, hd⟩ (fun _ => []) H (L2.start N vs) (startD k ds) := by
    have e1 : (L2.start N vs) = vs.map some ++ List.replicate (N.length - vs.length) none := rfl
    have key : ∀ i d, (startD k ds)[i]? = some (some d) → ds[i]? = some d := fun i d e => by
      unfold startD at e
      rcases Nat.lt_or_ge i ds.length with h | h
      · rw [List.getElem?_append_left (by simpa using h), List.getElem?_map] at e
        cases q : ds[i]? with
        | none => rw [q] at e; cases e
        | some z => rw [q] at e; exact Option.some.inj e
      · rw [List.getElem?_append_right (by simpa using h), List.getElem?_replicate] at e
        split at e <;> cases e
    have small : ∀ i d, (startD k ds)[i]? = some (some d) → i < n := fun i d e => by
      have := (List.getElem?_eq_some_iff.mp (key i d e)).1
      omega
    refine ⟨?_, ok, fun i d e => ?_, fun i j d e hi hj h1 h2 => ?_, tb, hT⟩
    · rw [e1]; unfold startD; simp; omega
    · obtain ⟨v, h1, h2⟩ := r.get (key i d e)
      refine ⟨v, ?_, fun m => ?_, fun _ => h2⟩
      · rw [e1, List.getElem?_append_left (by simpa using (List.getElem?_eq_some_iff.mp h1).1), List.getElem?_map, h1]
        rfl
      · have := hm i m
        have := small i d e
        omega
    · have := hm i hi
      have := small i d h1
      omega
  have base : ∀ {H'}, Fs (⟨[], S, hd⟩ : Cn) H H' → Fh ⟨[], S, hd⟩ H H' := fun F => ⟨F.1.mono fun b hb => by simpa using hb, F.2⟩
  refine h _ _ _ _ _ _ Sl0 ?_
  unfold mFun at w
  have w := wp0_bind.mp w
  refine wp0_mono (wp0_nox.mp w) (fun o w => ?_) fun _ _ h => h
  cases o with
  | nx ρ => exact fun c' M σ H' F k S' => w _ H' (base F) .non
  | bk ρ => exact w.elim
  | ct ρ => exact w.elim
  | rt d => exact fun v H' F r => w v H' (base F) r
  | ex x f ρ => exact fun c' M σ H' e F k S' i => w e H' (base F) i
end Tk

end

section
/-! how mirrors are evaluated; the law's start; likeness -/
namespace Tk
open PySem PySem.Spec L2 RZ StX
open He (ga)
section
variable {ρ : Ev} {a b c : ME} {t u : MB} {l : MA} {i j : Nat} {d : Dt}
@[simp] theorem x_var : mVar i ρ = (match ρ[i]? with
  | some (some d) => .ret d
  | _ => .bad) := rfl
@[simp] theorem x_c : mC d ρ = .ret d := rfl
@[simp] theorem x_op {g : Dt → Dt → Option Dt} : mOp g a b ρ = (a ρ >>= fun x => b ρ >>= fun y => ofO (g x y)) := rfl
@[simp] theorem x_test : mTest a ρ = (a ρ >>= fun d => ofO (boolD d)) := rfl
@[simp] theorem x_and : mAnd t u ρ = (t ρ >>= fun k => if k = true then u ρ else .ret false) := rfl
@[simp] theorem x_or : mOr t u ρ = (t ρ >>= fun k => if k = true then .ret true else u ρ) := rfl
@[simp] theorem x_not : mNot t ρ = (t ρ >>= fun k => .ret (!k)) := rfl
@[simp] theorem x_if : mIf t a b ρ = (t ρ >>= fun k => if k = true then a ρ else b ρ) := rfl
@[simp] theorem x_andV : mAndV a b ρ = (a ρ >>= fun d => ofO (boolD d) >>= fun k => if k = true then b ρ else .ret (.bl false)) := rfl
@[simp] theorem x_orV : mOrV a b ρ = (a ρ >>= fun d => ofO (boolD d) >>= fun k => if k = true then .ret (.bl true) else b ρ) := rfl
@[simp] theorem x_notV : mNotV a ρ = (a ρ >>= fun d => ofO (boolD d) >>= fun k => .ret (.bl (!k))) := rfl
@[simp] theorem x_neg : mNeg a ρ = (a ρ >>= fun d => match d with
  | .int i => .ret (.int (-i))
  | _ => .bad) := rfl
@[simp] theorem x_chain {g g' : Dt → Dt → Option Dt} : mChain g g' a b c ρ = (a ρ >>= fun x => b ρ >>= fun y => ofO (g x y) >>= fun z => ofO (boolD z) >>= fun k => if k = true then c ρ >>= fun w => ofO (g' y w) else .ret (.bl false)) := rfl
@[simp] theorem x_nil : mNil ρ = .ret [] := rfl
@[simp] theorem x_cons : mCons a l ρ = (a ρ >>= fun d => l ρ >>= fun ds => .ret (d :: ds)) := rfl
@[simp] theorem x_star : mStar a l ρ = (a ρ >>= fun d => ofO (seqD d) >>= fun xs => l ρ >>= fun ds => .ret (xs ++ ds)) := rfl
@[simp] theorem x_tup : mTup l ρ = (l ρ >>= fun ds => if ds.length ≤ 16777216 then .ret (.tup ds) else .bad) := rfl
@[simp] theorem x_lst : mLst l ρ = (l ρ >>= fun ds => if ds.length ≤ 16777216 then .ret (.lst ds) else .bad) := rfl
@[simp] theorem x_no : mNo ρ = .ret none := rfl
@[simp] theorem x_part : mPart a ρ = (a ρ >>= fun d => match d with
  | .int i => .ret (some i)
  | _ => .bad) := rfl
@[simp] theorem x_sl {p q : Ev → Pm (Option Int)} : mSl a p q ρ = (a ρ >>= fun d => p ρ >>= fun lo => q ρ >>= fun hi => ofO (slD d lo hi)) := rfl
@[simp] theorem x_rev : mRev a ρ = (a ρ >>= fun d => match d with
  | .lst l => .ret (.lst l.reverse)
  | _ => .bad) := rfl
@[simp] theorem x_fld {f : Str} : mFld a f ρ = (a ρ >>= fun d => ofO (fldD f d)) := rfl
@[simp] theorem x_cb {g : List Dt → Option Dt} : mCB g l ρ = (l ρ >>= fun ds => ofO (g ds)) := rfl
@[simp] theorem x_m1 {g : Str → Dt → Option Dt} : mM1 g a b ρ = (a ρ >>= fun x => ofO (strQ x) >>= fun z => b ρ >>= fun y => ofO (g z y)) := rfl
@[simp] theorem x_call {n : Nat} {m : MF} : mCall n m l ρ = (l ρ >>= fun ds => if ds.length = n then m ds else .bad) := rfl
@[simp] theorem x_callW {n : Nat} {m : MF} : mCallW n m l ρ = (l ρ >>= fun ds => if ds.length = n then m ds >>= flatQ else .bad) := rfl
@[simp] theorem x_prop {m : MF} : mProp m a ρ = (a ρ >>= fun d => ofO (tabQ d) >>= fun _ => (m [d]).nox) := rfl
@[simp] theorem x_meth {n : Nat} {m : MF} : mMeth n m a l ρ = (a ρ >>= fun d => ofO (tabQ d) >>= fun _ => l ρ >>= fun ds => if (d :: ds).length = n then m (d :: ds) else .bad) := rfl
@[simp] theorem x_make : mMake l ρ = (l ρ >>= fun ds => match ds with
  | [r, p, s] => mkTab r p s
  | _ => .bad) := rfl
@[simp] theorem x_gName : mgName i d ρ = .ret (ρ.set i (some d)) := rfl
@[simp] theorem x_gNil : mgNil [] ρ = .ret ρ := rfl
@[simp] theorem x_gCons {g : MG} {gs : MGs} {ds : List Dt} : mgCons g gs (d :: ds) ρ = (g d ρ >>= gs ds) := rfl
@[simp] theorem x_gTup {n : Nat} {gs : MGs} {ds : List Dt} : mgTup n gs (.tup ds) ρ = (if ds.length = n then gs ds ρ else .bad) := rfl
@[simp] theorem x_seq : mSeq a ρ = (a ρ >>= fun d => ofO (seqD d)) := rfl
@[simp] theorem x_rng1 : mRng1 l ρ = (l ρ >>= fun ds => if ds.length = 1 then ofO (rngA ds) else .bad) := rfl
@[simp] theorem x_rng2 : mRng2 l ρ = (l ρ >>= fun ds => if ds.length = 2 then ofO (rngA ds) else .bad) := rfl
@[simp] theorem x_enum : mEnum l ρ = (l ρ >>= fun ds => match ds with
  | [d] => ofO (seqD d) >>= fun l => .ret (enumD l)
  | _ => .bad) := rfl
@[simp] theorem x_zip : mZip l ρ = (l ρ >>= fun ds => match ds with
  | [.tup l, .tup m] => .ret (zipD l m)
  | [.lst l, .lst m] => .ret (zipD l m)
  | _ => .bad) := rfl
@[simp] theorem x_lc {mi : MI} {mg : MG} {vs : List Nat} : mLc mi mg t a vs ρ = (mi ρ >>= fun l => if l.length ≤ 16777216 then (lcGo mg t a (wipeD ρ vs) l).nox >>= fun ds => .ret (.lst ds) else .bad) := rfl
variable {s s' : MS}
@[simp] theorem x_next : mNext ρ = .ret (.nx ρ) := rfl
@[simp] theorem x_brk : mBrk ρ = .ret (.bk ρ) := rfl
@[simp] theorem x_then : mThen s s' ρ = (s ρ >>= fun o => match o with
  | .nx ρ' => s' ρ'
  | o => .ret o) := rfl
@[simp] theorem x_drop : mDrop a ρ = mAtt (a ρ) ρ fun _ => .ret (.nx ρ) := rfl
@[simp] theorem x_ret : mRet a ρ = mAtt (a ρ) ρ fun d => .ret (.rt d) := rfl
@[simp] theorem x_retN : mRetN ρ = .ret (.rt .non) := rfl
@[simp] theorem x_ifS : mIfS t s s' ρ = mAtt (t ρ) ρ fun k => if k = true then s ρ else s' ρ := rfl
@[simp] theorem x_asg : mAsg a i ρ = mAtt (a ρ) ρ fun d => .ret (.nx (ρ.set i (some d))) := rfl
@[simp] theorem x_asgG {g : MG} : mAsgG a g ρ = mAtt (a ρ) ρ fun d => g d ρ >>= fun ρ' => .ret (.nx ρ') := rfl
@[simp] theorem x_par : mPar i j a b ρ = mAtt (a ρ) ρ fun d => mAtt (b ρ) ρ fun e => .ret (.nx ((ρ.set i (some d)).set j (some e))) := rfl
@[simp] theorem x_aug {f : Int → Int → Int} : mAug i a f ρ = (match ρ[i]? with
  | some (some (.int x)) => mAtt (a ρ) ρ fun y => match y with
    | .int j => .ret (.nx (ρ.set i (some (.int (f x j)))))
    | _ => .bad
  | _ => .bad) := rfl
@[simp] theorem x_append : mAppend i a ρ = (match ρ[i]? with
  | some (some (.lst ds)) => mAtt (a ρ) ρ fun d => if ds.length < 16777216 then .ret (.nx (ρ.set i (some (.lst (ds ++ [d]))))) else .bad
  | _ => .bad) := rfl
@[simp] theorem x_for {mi : MI} {mg : MG} : mFor mi mg s ρ = mAtt (mi ρ) ρ fun l => forGo mg s l ρ := rfl
@[simp] theorem x_while {n : Nat} : mWhile n t s ρ = whGo t s n ρ := rfl
@[simp] theorem x_raise0 {x : Str} : mRaise0 x ρ = .ret (.ex x none ρ) := rfl
@[simp] theorem x_raise1 {x f : Str} : mRaise1 x f l ρ = mAtt (l ρ) ρ fun ds => match ds with
  | [d] => if scD d then .ret (.ex x (some (f, d)) ρ) else .bad
  | _ => .bad := rfl
@[simp] theorem x_try {sub : Str → Option Bool} : mTry sub s s' ρ = (s ρ >>= fun o => match o with
  | .ex x f ρ' => match sub x with
    | some true => s' ρ'
    | some false => .ret (.ex x f ρ')
    | none => .bad
  | o => .ret o) := rfl
@[simp] theorem x_boolD {k : Bool} : boolD (.bl k) = some k := rfl
@[simp] theorem x_strQ {z : Str} : strQ (.str z) = some z := rfl
@[simp] theorem x_seqL {z : List Dt} : seqD (.lst z) = some z := rfl
@[simp] theorem x_seqT {z : List Dt} : seqD (.tup z) = some z := rfl
@[simp] theorem x_tabQ {z : Tab} : tabQ (.tab z) = some z := rfl
@[simp] theorem x_subD {i j : Int} : subD (.int i) (.int j) = some (.int (i - j)) := rfl
@[simp] theorem x_addD {i j : Int} : addD (.int i) (.int j) = some (.int (i + j)) := rfl
@[simp] theorem x_intD2 {g : Int → Int → Option Dt} {i j : Int} : intD2 g (.int i) (.int j) = g i j := rfl
@[simp] theorem x_lenL {z : List Dt} : lenD [.lst z] = some (.int (z.length : Nat)) := rfl
@[simp] theorem x_lenT {z : List Dt} : lenD [.tup z] = some (.int (z.length : Nat)) := rfl
@[simp] theorem x_tupleL {z : List Dt} : tupleD [.lst z] = some (.tup z) := rfl
@[simp] theorem x_tupleT {z : List Dt} : tupleD [.tup z] = some (.tup z) := rfl
@[simp] theorem x_listL {z : List Dt} : listD [.lst z] = some (.lst z) := rfl
@[simp] theorem x_listT {z : List Dt} : listD [.tup z] = some (.lst z) := rfl
@[simp] theorem x_sA {z : Tab} : fldD "allowed" (.tab z) = some (rowsT z.rows) := rfl
@[simp] theorem x_sS {z : Tab} : fldD "spare" (.tab z) = some (.int z.spare) := rfl
@[simp] theorem x_sF {z : Tab} : fldD "fate" (.tab z) = some (.str z.fate) := rfl
@[simp] theorem x_flatQ (h : d.flat = true) : flatQ d = .ret d := by unfold flatQ; rw [if_pos h]
@[simp] theorem x_lc0 {mg : MG} : lcGo mg t a ρ [] = .ret [] := rfl
@[simp] theorem x_lc1 {mg : MG} {ds : List Dt} : lcGo mg t a ρ (d :: ds) = (mg d ρ >>= fun ρ1 => t ρ1 >>= fun b => if b = true then a ρ1 >>= fun y => lcGo mg t a ρ ds >>= fun ys => .ret (y :: ys) else lcGo mg t a ρ ds) := rfl
@[simp] theorem x_for0 {mg : MG} : forGo mg s [] ρ = .ret (.nx ρ) := rfl
@[simp] theorem x_for1 {mg : MG} {ds : List Dt} : forGo mg s (d :: ds) ρ = (mg d ρ >>= fun ρ1 => s ρ1 >>= fun o => match o with
    | .nx ρ2 => forGo mg s ds ρ2
    | .ct ρ2 => forGo mg s ds ρ2
    | .bk ρ2 => .ret (.nx ρ2)
    | o => .ret o) := rfl
theorem x_fun {n : Nat} {ds : List Dt} : mFun n s ds = ((s (startD n ds)).nox >>= fun o => match o with
  | .nx _ => .ret .non
  | .rt d => .ret d
  | .ex x f _ => .exc x f
  | _ => .bad) := rfl
@[simp] theorem exc_nox {α : Type} {x : Str} {f : Option (Str × Dt)} : (Pm.exc x f : Pm α).nox = .bad := rfl
@[simp] theorem atI0 {α : Type} {x : α} {xs : List α} : L2.atI (x :: xs) 0 = some x := atI_nat (j := 0) rfl
@[simp] theorem atI1 {α : Type} {x y : α} {xs : List α} : L2.atI (x :: y :: xs) 1 = some y := atI_nat (j := 1) rfl
@[simp] theorem atI2 {α : Type} {x y z : α} {xs : List α} : L2.atI (x :: y :: z :: xs) 2 = some z := atI_nat (j := 2) rfl
@[simp] theorem ixT {z : List Dt} {i : Int} : ixD (.tup z) (.int i) = L2.atI z i := rfl
@[simp] theorem ixL {z : List Dt} {i : Int} : ixD (.lst z) (.int i) = L2.atI z i := rfl
@[simp] theorem x_set {v : ME} : mSet i a v ρ = (mAtt (v ρ) ρ fun d => match ρ[i]? with
  | some (some (.lst ds)) => mAtt (a ρ) ρ fun e => match e with
    | .int n => ofO (ixN ds.length n) >>= fun j => .ret (.nx (ρ.set i (some (.lst (ds.set j d)))))
    | _ => .bad
  | some (some (.dK kvs)) => mAtt (a ρ) ρ fun e => ofO (keyD e) >>= fun n => ofO d.v? >>= fun v => if kvs.length < 16777216 then .ret (.nx (ρ.set i (some (.dK (putK kvs n v))))) else .bad
  | _ => .bad) := rfl
@[simp] theorem x_setT {v : ME} : mSetT i l v ρ = (mAtt (v ρ) ρ fun d => match ρ[i]? with
  | some (some (.dT kvs)) => mAtt (l ρ) ρ fun e => ofO (keysD e) >>= fun n => ofO d.v? >>= fun v => if kvs.length < 16777216 ∧ e.length < 1000 then .ret (.nx (ρ.set i (some (.dT (putK kvs n v))))) else .bad
  | _ => .bad) := rfl
@[simp] theorem x_extend : mExtend i a ρ = (match ρ[i]? with
  | some (some (.lst ds)) => mAtt (a ρ) ρ fun d => match d with
    | .lst es => if ds.length + es.length ≤ 16777216 then .ret (.nx (ρ.set i (some (.lst (ds ++ es))))) else .bad
    | _ => .bad
  | _ => .bad) := rfl
/-! comprehensions -/
def lcOne (mg : MG) (t : MB) (a : ME) (ρ : Ev) (d : Dt) : Pm (Option Dt) := mg d ρ >>= fun ρ1 => t ρ1 >>= fun b => if b = true then a ρ1 >>= fun y => .ret (some y) else .ret none
theorem bind_assoc' {α β γ : Type} {f : α → Pm β} {g : β → Pm γ} : ∀ {m : Pm α}, ((m >>= f) >>= g) = (m >>= fun x => f x >>= g)
  | .ret _ => rfl
  | .exc _ _ => rfl
  | .bad => rfl
  | .draw n k => congrArg (Pm.draw n) (funext fun i => bind_assoc' (m := k i))
  | .drawT n k => congrArg (Pm.drawT n) (funext fun i => bind_assoc' (m := k i))
  | .all k => congrArg Pm.all (funext fun i => bind_assoc' (m := k i))
theorem lc_step {mg : MG} {ds : List Dt} : lcGo mg t a ρ (d :: ds) = (lcOne mg t a ρ d >>= fun o => match o with
  | some y => lcGo mg t a ρ ds >>= fun ys => .ret (y :: ys)
  | none => lcGo mg t a ρ ds) := by
  unfold lcOne
  rw [x_lc1, bind_assoc']
  congr 1; funext ρ1
  rw [bind_assoc']
  congr 1; funext b
  cases b with
  | true => rw [if_pos rfl, if_pos rfl, bind_assoc']; rfl
  | false => rw [if_neg (by simp), if_neg (by simp)]; rfl
theorem lc_all {mg : MG} (g : Dt → Option Dt) : ∀ {l : List Dt}, (∀ d ∈ l, lcOne mg t a ρ d = .ret (g d)) → lcGo mg t a ρ l = .ret (l.filterMap g)
  | [], _ => rfl
  | d :: l, h => by
    rw [lc_step, h d (List.mem_cons_self ..), lc_all g fun e he => h e (List.mem_cons_of_mem _ he), ret_bind, List.filterMap_cons]
    cases g d <;> rfl
/-- .. over the data of a plain list -/
theorem lc_fmap {α : Type} {mg : MG} {f : α → Dt} (g : α → Option Dt) {xs : List α} (h : ∀ x ∈ xs, lcOne mg t a ρ (f x) = .ret (g x)) : lcGo mg t a ρ (xs.map f) = .ret (xs.filterMap g) := by
  induction xs with
  | nil => rfl
  | cons x xs ih =>
    rw [List.map_cons, lc_step, h x (List.mem_cons_self ..), ih fun e he => h e (List.mem_cons_of_mem _ he), ret_bind, List.filterMap_cons]
    cases g x <;> rfl
theorem lc_map {α : Type} {mg : MG} {f : α → Dt} (g : α → Dt) {xs : List α} (h : ∀ x ∈ xs, lcOne mg t a ρ (f x) = .ret (some (g x))) : lcGo mg t a ρ (xs.map f) = .ret (xs.map g) := by
  rw [lc_fmap (fun x => some (g x)) h, List.filterMap_eq_map']
/-! loops -/
/-- one turn -/
def forOne (mg : MG) (s : MS) (d : Dt) : MS := fun ρ => mg d ρ >>= fun ρ1 => s ρ1
/-- a loop whose turns all go on: the slots by the items done -/
theorem for_all {α : Type} {mg : MG} {f : α → Dt} (P : List α → Ev) : ∀ {xs : List α} (done : List α), (∀ (ys : List α) (x : α) (zs : List α), done ++ xs = ys ++ x :: zs → done.length ≤ ys.length → forOne mg s (f x) (P ys) = .ret (.nx (P (ys ++ [x])))) → forGo mg s (xs.map f) (P done) = .ret (.nx (P (done ++ xs)))
  | [], done, _ => by rw [List.append_nil]; rfl
  | x :: xs, done, h => by
    have h1 := h done x xs rfl (Nat.le_refl _)
    unfold forOne at h1
    rw [List.map_cons, x_for1, ← bind_assoc', h1, ret_bind]
    show forGo mg s (xs.map f) (P (done ++ [x])) = _
    have e : done ++ x :: xs = (done ++ [x]) ++ xs := by rw [List.append_assoc]; rfl
    rw [for_all P (xs := xs) (done ++ [x]) fun ys y zs e' hl => h ys y zs (e.trans e') (by rw [List.length_append] at hl; exact Nat.le_trans (Nat.le_add_right ..) hl), e]
end
/-! ### likeness -/
mutual
def Dt.same : Nat → Dt → Dt → Bool
  | _ + 1, .non, .non => true
  | _ + 1, .bl a, .bl b => a == b
  | _ + 1, .int i, .int j => decide (i = j)
  | _ + 1, .str x, .str y => decide (x = y)
  | n + 1, .tup l, .tup m => decide (l.length < 1000000) && Dt.sameL n l m
  | n + 1, .lst l, .lst m => decide (l.length < 1000000) && Dt.sameL n l m
  | _, _, _ => false
def Dt.sameL : Nat → List Dt → List Dt → Bool
  | _, [], [] => true
  | n, x :: l, y :: m => Dt.same n x y && Dt.sameL n l m
  | _, _, _ => false
end
mutual
theorem same_ok : ∀ (d e : Dt) (n : Nat), Dt.same n d e = true → ∃ D, d.da = some D ∧ e.da = some D ∧ OkA n D := by
  intro d e n h
  cases n with
  | zero => simp [Dt.same] at h
  | succ n =>
    cases d with
    | non => cases e <;> simp [Dt.same] at h; exact ⟨_, by rw [Dt.da], by rw [Dt.da], .non⟩
    | bl a => cases e <;> simp [Dt.same] at h; subst h; exact ⟨_, by rw [Dt.da], by rw [Dt.da], .bool _⟩
    | int a => cases e <;> simp [Dt.same] at h; subst h; exact ⟨_, by rw [Dt.da], by rw [Dt.da], .int _⟩
    | str a => cases e <;> simp [Dt.same] at h; subst h; exact ⟨_, by rw [Dt.da], by rw [Dt.da], .str _⟩
    | tup l =>
      cases e with
      | tup m =>
        rw [Dt.same, Bool.and_eq_true, decide_eq_true_iff] at h
        obtain ⟨D, h1, h2, h3, h4⟩ := sameL_ok l m n h.2
        exact ⟨.tuple D, by rw [Dt.da, h1]; rfl, by rw [Dt.da, h2]; rfl, .tup (by rw [h4]; exact h.1) h3⟩
      | _ => simp [Dt.same] at h
    | lst l =>
      cases e with
      | lst m =>
        rw [Dt.same, Bool.and_eq_true, decide_eq_true_iff] at h
        obtain ⟨D, h1, h2, h3, h4⟩ := sameL_ok l m n h.2
        exact ⟨.list D, by rw [Dt.da, h1]; rfl, by rw [Dt.da, h2]; rfl, .lst (by rw [h4]; exact h.1) h3⟩
      | _ => simp [Dt.same] at h
    | _ => cases e <;> simp [Dt.same] at h
theorem sameL_ok : ∀ (l m : List Dt) (n : Nat), Dt.sameL n l m = true → ∃ D, Dt.daL l = some D ∧ Dt.daL m = some D ∧ (∀ e ∈ D, OkA n e) ∧ D.length = l.length
  | [], [], _, _ => ⟨[], by rw [Dt.daL], by rw [Dt.daL], (fun _ h => by cases h), rfl⟩
  | [], _ :: _, _, h => by simp [Dt.sameL] at h
  | _ :: _, [], _, h => by simp [Dt.sameL] at h
  | x :: l, y :: m, n, h => by
    rw [Dt.sameL, Bool.and_eq_true] at h
    obtain ⟨D, h1, h2, h3⟩ := same_ok x y n h.1
    obtain ⟨Ds, h4, h5, h6, h7⟩ := sameL_ok l m n h.2
    exact ⟨D :: Ds, by rw [Dt.daL, h1, h4]; rfl, by rw [Dt.daL, h2, h5]; rfl, fun e he => by
      rcases List.mem_cons.mp he with rfl | he
      · exact h3
      · exact h6 e he, by simp [h7]⟩
end
/-! ### a law's start -/
def lawEv (n i : Nat) : Ev := (List.replicate n none).set i (some .hnd)
@[irreducible] def wp {α : Type} (m : Pm α) (Q : α → Prop) (E : Str → Option (Str × Dt) → Prop) : Prop := wp0 m Q E
theorem wp_iff {α : Type} {m : Pm α} {Q : α → Prop} {E : Str → Option (Str × Dt) → Prop} : wp m Q E ↔ wp0 m Q E := by unfold wp; exact Iff.rfl
structure LawOk (ms : MS) (ρ : Ev) : Prop where
  h : wp (ms ρ) (fun o => o = .rt (.bl true)) NoX
theorem law_M {κ : Kt} {N : List Str} {ts : TS} {ms : MS} {E : XK} {k i : Nat} {mu : List Nat} {sp : Sp} {W : WX} {s0 : Int} (h : RS κ mu (fun cls d _ H => E cls d H) ts ms) (hi : i ∉ mu) (hN : N.length = k) (hk : 1 < k) (h0 : 0 < i) (hik : i < k)
    (hm : ∀ (a : Addr) (ns : List Int) (s0 : Int) (H : Hp) (Q : VK) (E : XK), SqL κ.K H a (ns.map V.int) → ns.length ≤ 63 → (∀ b l H', H b = none → H l = none → Fr [] H H' → Drw H' b l → Q (.ref b) H') → sp [.ref a, .int s0] H Q E)
    (ht : LawOk ms (lawEv k i)) {a : Addr} {ns : List Int} {H : Hp} {Q : VK} (ha : SqL κ.K H a (ns.map V.int)) (hn : ns.length ≤ 63) (tb : ∀ p ∈ κ.T, LamX.TabS H p.1 p.2) (q : ∀ H', Q (.bl true) H') :
    tSeq (tAsg (tCallS (spL 2 sp) (WE W) (tCons (tVar 0) (tCons (tC (.int s0)) tNil))) (gName i)) ts { nx := fun _ H' => Q .non H', rt := Q } (L2.start N [.ref a]) H := by
  have e1 : (L2.start N [V.ref a]) = some (.ref a) :: List.replicate (k - 1) none := by
    show [some (V.ref a)] ++ List.replicate (N.length - 1) none = _
    rw [hN]; rfl
  refine ⟨.ref a, by rw [e1]; rfl, rfl, hm a ns s0 H _ _ ha hn fun b l H' hb hl F d => ?_⟩
  show ts { nx := fun _ H' => Q .non H', rt := Q } ((L2.start N [.ref a]).set i (some (.ref b))) H'
  have hdr : ∀ x, x ∈ (⟨[], [], ⟨some (b, l), κ.T⟩⟩ : Cn).av → H' x ≠ none := fun x hx => by
    obtain ⟨_, st, ms, ix, h1, h2, _⟩ := d
    have : x = b ∨ x = l := by simpa [Cn.av, Cn.hd] using hx
    rcases this with rfl | rfl
    · rw [h1]; exact fun z => by cases z
    · rw [h2]; exact fun z => by cases z
  refine h ⟨[], [], ⟨some (b, l), κ.T⟩⟩ (fun _ => []) _ (lawEv k i) H' _ ?_ (wp0_mono (wp_iff.mp ht.h) (fun o e => ?_) fun _ _ z => z)
  · have key : ∀ j d, (lawEv k i)[j]? = some (some d) → j = i ∧ d = .hnd := fun j d e => by
      unfold lawEv at e
      by_cases e' : i = j
      · subst e'
        rw [List.getElem?_set, if_pos rfl] at e
        split at e
        · cases e; exact ⟨rfl, rfl⟩
        · cases e
      · rw [List.getElem?_set_ne e', List.getElem?_replicate] at e
        split at e <;> cases e
    refine ⟨?_, hdr, fun j d' e => ?_, fun j j' d' e' hj _ h1 _ _ => (hi ((key j _ h1).1 ▸ hj)).elim, fun p hp => F.tbs _ _ trivial (tb p hp), rfl⟩
    · rw [e1]; unfold lawEv; simp; omega
    · obtain ⟨rfl, rfl⟩ := key j d' e
      refine ⟨.ref b, ?_, fun m => (hi m).elim, fun _ => .hnd rfl d⟩
      rw [List.getElem?_set, if_pos rfl, if_pos (by rw [e1]; simp; omega)]
  · subst e
    intro v H2 F2 r
    cases r
    exact q H2
end Tk
namespace Tk
open PySem PySem.Spec L2 RZ StX
open He (ga)
def goodB (t : Tab) : Bool := decide (2 ≤ t.rows.length) && decide (t.rows.length ≤ 4) && t.rows.all (fun ns => ns.all (fun n => decide (1 ≤ n) && decide (n ≤ (t.rows.length : Int) - 1)) && ascB (ns.map PyData.int)) && (decide (t.spare = 0) || decide (t.spare = 1)) && (decide (t.fate = "loses") || decide (t.fate = "wins"))
theorem goodB_iff {t : Tab} : goodB t = true ↔ t.Good := by
  unfold goodB
  simp only [Bool.and_eq_true, Bool.or_eq_true, decide_eq_true_iff, List.all_eq_true]
  exact ⟨fun ⟨⟨⟨⟨h1, h2⟩, h3⟩, h4⟩, h5⟩ => ⟨⟨h1, h2⟩, h3, h4, h5⟩, fun g => ⟨⟨⟨⟨g.len.1, g.len.2⟩, g.row⟩, g.spare⟩, g.fate⟩⟩
/-- == of a table -/
def eqTabD (d e : Dt) : Option Dt := match d with
  | .tab t => if goodB t then (match e with
    | .tab u => if goodB u then some (.bl (decide (t = u))) else none
    | .lst _ => some (.bl false)
    | _ => none) else none
  | _ => none
theorem om_eqTab_of {K : PySem.W.Frag} {sp : Sp} (h1 : ∀ a b t u H Q E, AtTab K H a t → t.Good → AtTab K H b u → u.Good → (∀ H', Fr [] H H' → Q (.bl (decide (t = u))) H') → sp [.ref a, .ref b] H Q E)
    (h2 : ∀ a t x n H Q E, AtTab K H a t → t.Good → AnyV K H x n → Q (.bl false) H → sp [.ref a, x] H Q E) : OpM K (rEqOwn K "Table" (spL 2 sp)) eqTabD := by
  intro c H x y d e z Q ok hx hy hz q
  unfold eqTabD at hz
  split at hz
  · rename_i t
    obtain ⟨a, rfl, ha, _⟩ := hx.tab
    obtain ⟨dx, v, ea, _⟩ := id ha
    split at hz
    · rename_i g
      split at hz
      · rename_i u
        split at hz
        · rename_i g2
          cases hz
          obtain ⟨b, rfl, hb, _⟩ := hy.tab
          obtain ⟨dy, w, eb, _⟩ := id hb
          exact r_eqOwn ea (.inl ⟨b, _, _, rfl, eb⟩) ⟨rfl, h1 a b t u H _ _ ha (goodB_iff.mp g) hb (goodB_iff.mp g2) fun H' F => ⟨_, rfl, q _ _ (Fh.of0 F) (.bl _)⟩⟩
        · cases hz
      · cases hz
        obtain ⟨b, xs, rfl, hb, _⟩ := hy.lst
        exact r_eqOwn ea (.inr ⟨b, xs, rfl, SqL.of hb⟩) ⟨rfl, h2 a t _ .lst H _ _ ha (goodB_iff.mp g) (.lst (SqL.of hb)) ⟨_, rfl, q _ _ Fh.refl (.bl _)⟩⟩
      · cases hz
    · cases hz
  · cases hz
@[simp] theorem x_eqTab {t u : Tab} (h : t.Good) (h' : u.Good) : eqTabD (.tab t) (.tab u) = some (.bl (decide (t = u))) := by
  show (if goodB t then (if goodB u then some (Dt.bl (decide (t = u))) else none) else none) = _
  rw [if_pos (goodB_iff.mpr h), if_pos (goodB_iff.mpr h')]
@[simp] theorem x_eqTabL {t : Tab} {l : List Dt} (h : t.Good) : eqTabD (.tab t) (.lst l) = some (.bl false) := by
  show (if goodB t then some (Dt.bl false) else none) = _
  rw [if_pos (goodB_iff.mpr h)]
theorem da_ints (r : List Int) : Dt.daL (r.map Dt.int) = some (r.map PyData.int) := by
  induction r with
  | nil => rw [List.map_nil, Dt.daL]; rfl
  | cons a r ih => rw [List.map_cons, Dt.daL, Dt.da, ih]; rfl
theorem da_row (r : List Int) : (rowT r).da = some (rowD r) := by unfold rowT; rw [Dt.da, da_ints]; rfl
theorem da_rows (rs : List (List Int)) : (rowsT rs).da = some (rowsD rs) := by
  unfold rowsT
  rw [Dt.da]
  have : Dt.daL (rs.map rowT) = some (rs.map rowD) := by
    induction rs with
    | nil => rw [List.map_nil, Dt.daL]; rfl
    | cons a r ih => rw [List.map_cons, Dt.daL, da_row, ih]; rfl
  rw [this]; rfl
theorem smallB_of {t : Tab} (g : t.Good) : smallB (rowsD t.rows) = true := by
  show (t.rows.map rowD).all _ = true
  refine List.all_eq_true.mpr fun d hd => ?_
  obtain ⟨r, hr, rfl⟩ := List.mem_map.mp hd
  show decide ((r.map PyData.int).length < 1000) = true
  rw [List.length_map]
  exact decide_eq_true (Nat.lt_of_le_of_lt (g.rowLen hr) (by decide))
@[simp] theorem x_mkTab {t : Tab} (g : t.Good) : mkTab (rowsT t.rows) (.int t.spare) (.str t.fate) = .ret (.tab t) := by
  unfold mkTab
  rw [da_rows, show (Dt.int t.spare).da = some (.int t.spare) by rw [Dt.da], show (Dt.str t.fate).da = some (.str t.fate) by rw [Dt.da]]
  show (if smallB (rowsD t.rows) then _ else _) = _
  rw [if_pos (smallB_of g)]
  simp only [g.tabOf]
end Tk

end

section
/-! try with clauses that may name the exception; what a suite asks of it -/
namespace Tk
open PySem PySem.Spec L2 RZ
open He (ga)
/-- a clause: its class, the slot of its name, what its suite does -/
structure Cls1 where
  k : Value
  i : Option Nat
  t : Addr → Value → Option Addr → TS
def offS : Option Nat → L2.St → L2.St
  | none, σ => σ
  | some i, σ => σ.set i none
def onS : Option Nat → Addr → L2.St → L2.St
  | none, _, σ => σ
  | some i, a, σ => σ.set i (some (.ref a))
def offE (i : Option Nat) (D : Ends) : Ends := { nx := fun σ h => D.nx (offS i σ) h, rt := D.rt, bk := fun σ h => D.bk (offS i σ) h, ct := fun σ h => D.ct (offS i σ) h }
/-- what is wished of an exception, clause by clause -/
def wCls (K : PySem.W.Frag) (Wo : WX) (D : Ends) : List Cls1 → WX
  | [] => Wo
  | q :: r => fun c e σ h => ∃ b, PySem.W.exmOne K c q.k = some b ∧ (b = true → ∀ a, h a = none → q.t a c e (offE q.i D) (onS q.i a σ) h) ∧ (b = false → wCls K Wo D r c e σ h)
inductive ClsOk (X : Cx) : List ExceptHandler → List Cls1 → Prop
  | nil : ClsOk X [] []
  | bare {x : Str} {k : Value} {t : Addr → Value → Option Addr → TS} {y : Stmt} {ys : List Stmt} {p1 p2 : Pos} {hs : List ExceptHandler} {l : List Cls1} (nm : Names X x k)
      (su : ∀ (a : Addr) (o : Obj) (c : Value) (e : Option Addr) (pn : List (Addr × Obj)), Zc c e o → (∃ fs, o.data = .fields fs) → PSs (X.suite a ((a, o) :: pn)) (y :: ys) (t a c e)) (r : ClsOk X hs l) :
      ClsOk X (.ExceptHandler (some (.Name x p1)) none (y :: ys) p2 :: hs) (⟨k, none, t⟩ :: l)
  | named {x n : Str} {i : Nat} {k : Value} {t : Addr → Value → Option Addr → TS} {y : Stmt} {ys : List Stmt} {p1 p2 : Pos} {hs : List ExceptHandler} {l : List Cls1} (nm : Names X x k) (nd : X.N.Nodup) (at_ : X.N[i]? = some n) (lc : X.env.kindOf n = some .local)
      (su : ∀ (a : Addr) (o : Obj) (c : Value) (e : Option Addr) (pn : List (Addr × Obj)), Zc c e o → (∃ fs, o.data = .fields fs) → PSs (X.suite a ((a, o) :: pn)) (y :: ys) (t a c e)) (r : ClsOk X hs l) :
      ClsOk X (.ExceptHandler (some (.Name x p1)) (some n) (y :: ys) p2 :: hs) (⟨k, some i, t⟩ :: l)
def tTryC (K : PySem.W.Frag) (Wo : WX) (l : List Cls1) (tb : WX → TS) : TS := fun D σ h => tb (wCls K Wo D l) D σ h
section
variable {X : Cx} {bd : List Stmt} {q0 : ExceptHandler} {qs : List ExceptHandler} {l : List Cls1} {pz : Pos} {tb : WX → TS} {Wo : WX}
theorem ps_tryC (hst : X.stack = X.env :: X.outer) (hfr0 : X.env.frame = some X.env.locals) (tk : Takes X Wo)
    (bod : ∀ (Z : WX) (pn : List (Addr × Obj)) (xe : Value → Shared → Prop), Takes (X.tr pn xe) Z → PassesOwn (model X.prog X.w) X.A X.env xe → PSs (X.tr pn xe) bd (tb Z))
    (cl : ClsOk X (q0 :: qs) l) : PS X (.Try bd (q0 :: qs) [] [] pz) (tTryC X.K Wo l tb) := by
  refine ⟨fun pins s0 σ0 h0 D I0 ww => ?_⟩
  have okI := I0.ok
  have frE : X.A.frames = some (X.env :: X.outer) := by rw [okI.frames, hst]
  refine wpAny_Try_except ?_
  refine wpAny_mono ((bod (wCls X.K Wo D l) (X.pn ++ pins) (fun z t1 => wpAny (model X.prog X.w) X.A (noteFrame z X.env) (fun _ t2 => wpAny (model X.prog X.w) X.A (setFlight z none) (fun _ t3 =>
    wpAny (model X.prog X.w) X.A (handleBy z X.env (q0 :: qs)) (SP X pins D) X.xe t3) X.xe t2) X.xe t1) (fun z t' zz => ?_) PassesOwn.looking).run [] s0 σ0 h0 D (I0.toTry _) ww) (fun fl t1 sp1 => ?_) (fun z t1 hz => hz)
  · obtain ⟨a, B, sJ, pinz, σ2, h2, c, e, rfl, Jt, nb, up0, sk0, na, os, ag, w⟩ := zz
    have J0 : Inv X pins σ2 h2 sJ := Jt.ofTry okI
    have sk : Sky B (X.env :: X.outer) a (Zc c e) X.env.locals t'.heap := by rw [← hst]; exact sk0
    show wpAny (model X.prog X.w) X.A (noteFrame (.ref a) X.env) _ _ _
    refine Sky.land Zc.steady frE hfr0 sk fun g3 F3 u3 => ?_
    have J3 : Inv X pins σ2 h2 { t' with heap := g3 } := J0.landed nb F3.1 (up0.trans u3) os ag
    obtain ⟨o3, fs3, get3, z3, d3⟩ := F3.there
    have noF : ∀ {g : Heap} {o : Obj} {fs : Array Value}, g.FunFrames B (X.env :: X.outer) → g.get? a = some o → o.data = .fields fs → a ∉ frs (X.env :: X.outer) := fun {g o fs} ff ge dd hm => by
      obtain ⟨_, o', ge', hn⟩ := ff.mem hm
      rw [ge] at ge'; cases ge'
      exact hn _ dd
    have noA := noF F3.2.2.1 get3 d3
    have noL : a ≠ X.env.locals := fun z => noA (List.mem_filterMap.mpr ⟨X.env, List.mem_cons_self, by rw [hfr0, z]⟩)
    have noS : a ∉ X.fs := fun hm => by
      obtain ⟨ev, hev, q⟩ := List.mem_filterMap.mp hm
      exact noA (List.mem_filterMap.mpr ⟨ev, List.mem_cons_of_mem _ hev, q⟩)
    have SU := J3.suite get3 d3 na noL noS
    have go : ∀ {hs' : List ExceptHandler} {l' : List Cls1}, ClsOk X hs' l' → wCls X.K Wo D l' c e σ2 h2 →
        wpAny (model X.prog X.w) X.A (handleBy (.ref a) X.env hs') (SP X pins D) X.xe { t' with heap := g3 } := by
      have tst : ∀ {x : Str} {k : Value} {p1 : Pos}, Names X x k → ∀ {Q : Value → Shared → Prop} {E : Value → Shared → Prop}, Q k { t' with heap := g3 } → wpAny (model X.prog X.w) (X.A.mark (some (.ref a))) (eval (.Name x p1) X.env) Q E { t' with heap := g3 } := fun {x k p1} nm {Q E} q => by
        obtain ⟨n1, n2, n3 | ⟨n3, n4, n5⟩⟩ := nm
        · exact ld_glob (X := X.suite a ((a, o3) :: (X.pn ++ pins))) SU n1 n3 q n2
        · exact ld_blt (X := X.suite a ((a, o3) :: (X.pn ++ pins))) SU n1 n3 n4 q n5 n2
      have LT0 : PySem.W.Looks (model X.prog X.w) g3 (typeOf (.ref a)) c := fun A Q E s k q => wpAny_typeOf_ref (k _ _ get3) (by rw [z3.1]; exact q)
      intro hs' l' hk
      induction hk with
      | nil =>
        intro w
        refine wpAny_handleBy_nil ?_
        obtain ⟨k1, k2, k3, oe, vs, T, oT, ts', ho, hz, hd, hv1, hr⟩ := id F3
        unfold PySem.passOn
        refine wpAny_bind (wpAny_field ho hd hv1 ?_)
        rw [if_neg (show ¬ ((Value.ref T == Value.none) = true) by simp)]
        have fin : wpAny (model X.prog X.w) X.A (setFlight (.ref a) X.env.frame) (fun _ t4 => wpAny (model X.prog X.w) X.A (throw (.ref a) : Sem Flow) (SP X pins D) X.xe t4) X.xe { t' with heap := g3 } := by
          rw [hfr0]
          refine HandSPX.setFlight_upZ F3 fun g4 H4 u4 => wpAny_throw (tk _ _ ?_)
          exact ⟨a, B, sJ, pins, σ2, h2, c, e, rfl, J0, nb, (up0.trans u3).trans u4, .inr (.inr (by rw [hst]; exact H4)), na, os, ag, w⟩
        first
          | exact wpAny_bind (wpAny_pure (wpAny_bind fin))
          | exact wpAny_bind fin
      | @bare x k t y ys p1 p2 hs2 l2 nm su r ih =>
        intro w
        obtain ⟨b, eb, yes, no⟩ := w
        refine wpAny_handleBy_cons (codeAny_handlers_test ?_) (by intro q; cases q)
        have LM := PySem.W.exm_one (M := model X.prog X.w) (J3.kIn) LT0 eb
        refine tst nm (LM.here ?_)
        cases b with
        | false =>
          show wpAny _ X.A (handleBy (.ref a) X.env hs2) _ _ _
          exact ih (no rfl)
        | true =>
          refine codeAny_handlers_suite ?_
          refine HandSPX.lands_againZ F3 fun g4 F4 u4 => ?_
          have J4 : Inv X pins σ2 h2 { t' with heap := g4 } := J0.landed nb F4.1 ((up0.trans u3).trans u4) os ag
          obtain ⟨o4, fs4, get4, z4, d4⟩ := F4.there
          have SU4 := J4.suite get4 d4 na noL noS
          refine wpAny_mono ((su a o4 c e (X.pn ++ pins) z4 ⟨_, d4⟩).run [] _ _ h2 _ SU4 (yes rfl a na)) (fun fl t6 sp => ?_) (fun _ _ z => False.elim z)
          cases fl with
          | ret u =>
            obtain ⟨v6, σ6, h6, I6, r6, q6⟩ := sp
            exact ⟨_, _, _, I6.unsuite okI, r6, q6⟩
          | next => let ⟨σ6, h6, I6, q6⟩ := sp; exact ⟨_, _, I6.unsuite okI, q6⟩
          | brk => let ⟨σ6, h6, I6, q6⟩ := sp; exact ⟨_, _, I6.unsuite okI, q6⟩
          | cont => let ⟨σ6, h6, I6, q6⟩ := sp; exact ⟨_, _, I6.unsuite okI, q6⟩
      | @named x n i k t y ys p1 p2 hs2 l2 nm nd at_ lc su r ih =>
        intro w
        obtain ⟨b, eb, yes, no⟩ := w
        refine wpAny_handleBy_cons (codeAny_handlers_test ?_) (by intro q; cases q)
        have LM := PySem.W.exm_one (M := model X.prog X.w) (J3.kIn) LT0 eb
        refine tst nm (LM.here ?_)
        cases b with
        | false =>
          show wpAny _ X.A (handleBy (.ref a) X.env hs2) _ _ _
          exact ih (no rfl)
        | true =>
          refine codeAny_handlers_suite_as ?_
          refine HandSPX.lands_againZ F3 fun g4 F4 u4 => ?_
          have J4 : Inv X pins σ2 h2 { t' with heap := g4 } := J0.landed nb F4.1 ((up0.trans u3).trans u4) os ag
          obtain ⟨o4, fs4, get4, z4, d4⟩ := F4.there
          have SU4 := J4.suite get4 d4 na noL noS
          refine store_ok (X := X.suite a ((a, o4) :: (X.pn ++ pins))) (v := .ref a) SU4 nd at_ (.inl lc) rfl (fun t5 SU5 => ?_) (.inr lc)
          refine wpAny_mono ((su a o4 c e (X.pn ++ pins) z4 ⟨_, d4⟩).run [] t5 _ h2 _ SU5 (yes rfl a na)) (fun fl t6 sp => ?_) (fun _ _ z => False.elim z)
          have off : ∀ {σ6 : L2.St} {h6 : Hp} {Q : Shared → Prop}, Inv (X.suite a ((a, o4) :: (X.pn ++ pins))) [] σ6 h6 t6 → (∀ t7, Inv X pins (σ6.set i none) h6 t7 → Q t7) →
              wpAny (model X.prog X.w) X.A (do bindName X.env n .none; unbindBehindTheSuite X.env n p2) (fun _ t7 => Q t7) X.xe t6 := fun {σ6 h6 Q} I6 hq => gone_ok (I6.unsuite okI) nd at_ lc hq
          cases fl with
          | ret u =>
            obtain ⟨v6, σ6, h6, I6, r6, q6⟩ := sp
            exact off I6 fun t7 J7 => ⟨_, _, _, J7, r6, q6⟩
          | next => let ⟨σ6, h6, I6, q6⟩ := sp; exact off I6 fun t7 J7 => ⟨_, _, J7, q6⟩
          | brk => let ⟨σ6, h6, I6, q6⟩ := sp; exact off I6 fun t7 J7 => ⟨_, _, J7, q6⟩
          | cont => let ⟨σ6, h6, I6, q6⟩ := sp; exact off I6 fun t7 J7 => ⟨_, _, J7, q6⟩
    exact go cl w
  · cases fl with
    | ret u => let ⟨v, σ2, h2, J, r, q⟩ := sp1; exact ⟨v, σ2, h2, J.ofTry okI, r, q⟩
    | next => let ⟨σ2, h2, J, q⟩ := sp1; exact wpAny_execs_nil ⟨σ2, h2, J.ofTry okI, q⟩
    | brk => let ⟨σ2, h2, J, q⟩ := sp1; exact ⟨σ2, h2, J.ofTry okI, q⟩
    | cont => let ⟨σ2, h2, J, q⟩ := sp1; exact ⟨σ2, h2, J.ofTry okI, q⟩
end
/-! what a suite asks of the exception that it holds -/
/-- isinstance(e, c) for the exception at a -/
def rIsG (K : PySem.W.Frag) (a : Addr) (cls : Value) (d : Option Addr) : List V → Hp → VK → Prop := fun xs H Q => ∃ (D : Addr) (c : V) (cv : Value) (b : Bool), cls = .ref D ∧ ExcC K D ∧ (d = none ∨ ∃ dd fs, d = some dd ∧ H dd = some (.xd fs)) ∧ xs = [.ref a, c] ∧ (∀ u, RelV c u → u = cv) ∧
  PySem.W.kitOne K (.ref D) cv = some b ∧ Q (.bl b) H
theorem isSome_dict {K : PySem.W.Frag} {D : Addr} (h : PySem.W.hasDictIn K D = true) : (PySem.W.clsIn K D).isSome = true := by
  obtain ⟨cd, hc, _⟩ := PySem.W.any_some h
  rw [hc]; rfl
theorem call_isG {X : Cx} {a : Addr} {o : Obj} {cls : Value} {d : Option Addr} {pn : List (Addr × Obj)} (hz : Zc cls d o) (hf : ∃ fs, o.data = .fields fs) : CallR (X.suite a ((a, o) :: pn)) (.builtin "isinstance") (rIsG X.K a cls d) := by
  intro pins s σ H xs us Q I r h
  obtain ⟨D, c, cv, b, rfl, C, hd, rfl, hcv, e, q⟩ := h
  cases r with
  | cons rx rr =>
    cases rr with
    | cons rt rr =>
      cases rr
      cases rx
      cases hcv _ rt
      obtain ⟨hget, _⟩ := I.pin (a, o) (List.mem_append.mpr (.inl List.mem_cons_self))
      obtain ⟨fs, hv⟩ := hf
      suffices hh : ∃ od, PySem.W.InstAt s.heap a o D od by
        obtain ⟨od, J⟩ := hh
        exact PySem.W.kia_one (PySem.W.kitx_exc (od := od) (isSome_dict C.hd) C.hg C.hk C.hs C.ha C.hn C.ht C.hm) I.kIn J e (fun z => nomatch z) fun tk => ⟨.bl b, H, I.kept (t' := tk) fun _ _ z => z, rfl, q⟩
      have nc : PySem.W.notCls o = true := by unfold PySem.W.notCls; rw [hv]
      rcases hd with hd | ⟨dd, xs, hd, ha⟩
      · exact ⟨none, hget, hz.1, nc, by rw [hz.2, hd]; trivial⟩
      · obtain ⟨mA, hns, hr⟩ : ObjOk X.prog X.w H s.heap dd (.xd xs) := I.hok dd _ ha
        obtain ⟨od, ho, hl⟩ := lookIn_ns hns
        exact ⟨some od, hget, hz.1, nc, by rw [hz.2, hd]; exact ho⟩
/-- e.f for the exception at a -/
def tXg (K : PySem.W.Frag) (a : Addr) (cls : Value) (d : Option Addr) (f : Str) (te : TE) : TE := fun σ H Q => te σ H fun x H1 => x = .ref a ∧ ∃ C, cls = .ref C ∧ XfC K C ∧ PySem.W.findIn K (.ref C) f = some none ∧ ∃ (dd : Addr) (fs : List (Str × V)) (v : V), d = some dd ∧ H1 dd = some (.xd fs) ∧ fs.lookup f = some v ∧ Q v H1
theorem pe_xg {X : Cx} {a : Addr} {o : Obj} {cls : Value} {d : Option Addr} {pn : List (Addr × Obj)} {e : Expr} {te : TE} {pz : Pos} {n : Str}
    (hz : Zc cls d o) (hf : ∃ fs, o.data = .fields fs) (he : PE (X.suite a ((a, o) :: pn)) e te) (hb : attributeBase e n X.env (eval e X.env) = eval e X.env := by rfl) :
    PE (X.suite a ((a, o) :: pn)) (.Attribute e n pz) (tXg X.K a cls d n te) := by
  refine ⟨fun pins s σ H Q I h => ?_⟩
  refine attr_of hb (thn (he.run pins s σ H _ I h) fun u s1 hh => ?_)
  obtain ⟨x, H1, I1, rx, rfl, C, rfl, T, hno, dd, fs, v, rfl, ea, l, q⟩ := hh
  obtain rfl : u = Value.ref a := rx
  obtain ⟨ga', _⟩ := I1.pin (a, o) (List.mem_append_left _ List.mem_cons_self)
  obtain ⟨vs, dv⟩ := hf
  obtain ⟨mA, hns, hr⟩ : ObjOk X.prog X.w H1 s1.heap dd (.xd fs) := I1.hok dd _ ea
  obtain ⟨od, ho, hl⟩ := lookIn_ns hns
  obtain ⟨z, hz', rz⟩ := RelO.some_of (v := v) (o := mA n) (by rw [← l]; exact hr n)
  have J : PySem.W.InstAt s1.heap a o C (some od) := ⟨ga', hz.1, by unfold PySem.W.notCls; rw [dv], by rw [hz.2]; exact ho⟩
  exact HandSPX.exc_get I1.kIn J T.ga T.gg T.exC (PySem.W.findObj_own T.hdC hno rfl (by rw [hl, hz'])) (handed_of rz) ⟨v, H1, I1.tok _, rz, q⟩
/-! ### mirrors -/
section
variable {K : PySem.W.Frag} {κ : Kt} {mu : List Nat} {W : WX}
abbrev XD : Type := Option (Addr × Str × V)
def XD.adr (dd : XD) : Option Addr := dd.map (·.1)
def isED (ok : Str → Str → Option Bool) (a : Addr) (x : Str) (dd : XD) : List Dt → Option Dt
  | [.err a' _ d', .cls y] => if a' = a ∧ XD.adr d' = XD.adr dd then (ok x y).map .bl else none
  | _ => none
theorem Rw.err {c : Cn} {H : Hp} {v : V} {a : Addr} {x : Str} {d : XD} (h : Rw K c H v (.err a x d)) : v = .ref a ∧ (d = none ∨ ∃ b n u, d = some (b, n, u) ∧ H b = some (.xd [(n, u)]) ∧ scB u = true) := by
  have r := h.rl rfl
  cases r with
  | err0 => exact ⟨rfl, .inl rfl⟩
  | err1 h1 h2 => exact ⟨rfl, .inr ⟨_, _, _, rfl, h1, h2⟩⟩
theorem cm_isE {ok : Str → Str → Option Bool} (hok : ∀ x y b, ok x y = some b → ExcC K (ga K x) ∧ PySem.W.kitOne K (.ref (ga K x)) (.ref (ga K y)) = some b) {a : Addr} {x : Str} {dd : XD} : CaM K (rIsG K a (.ref (ga K x)) (XD.adr dd)) (isED ok a x dd) := by
  intro c H xs ds z Q okc hr hz q
  unfold isED at hz
  split at hz
  · rename_i a' x' d' y
    split at hz
    · rename_i hh
      obtain ⟨b, eb, ez⟩ := Option.map_eq_some_iff.mp hz
      subst ez
      obtain ⟨v, u, rfl, r1, r2⟩ := hr.two
      obtain ⟨rfl, h2⟩ := r1.err
      have r3 := r2.rl rfl
      cases r3
      obtain ⟨C, k⟩ := hok x y b eb
      refine ⟨_, _, _, b, rfl, C, ?_, by rw [hh.1], fun w hw => by cases hw; rfl, k, q _ H Fh.refl (.bl b)⟩
      rw [← hh.2]
      rcases h2 with h2 | ⟨bb, n, u, h2, h3, _⟩
      · exact .inl (by rw [h2]; rfl)
      · exact .inr ⟨bb, _, by rw [h2]; rfl, h3⟩
    · cases hz
  · cases hz
def mErrF (ok : Str → Bool) (a : Addr) (x : Str) (dd : XD) (n : Str) (m : ME) : ME := fun ρ => m ρ >>= fun d => match d with
  | .err a' _ (some (b, n', v)) => if a' = a ∧ XD.adr dd = some b ∧ n' = n ∧ ok x = true then .ret (ofV v) else .bad
  | _ => .bad
theorem re_errF {ok : Str → Bool} {n : Str} (hok : ∀ x, ok x = true → XfC κ.K (ga κ.K x) ∧ PySem.W.findIn κ.K (.ref (ga κ.K x)) n = some none) {a : Addr} {x : Str} {dd : XD} {te : TE} {me : ME} (he : RO κ mu W te me) :
    RE κ mu W (tXg κ.K a (.ref (ga κ.K x)) (XD.adr dd) n te) (mErrF ok a x dd n me) := by
  intro c M σ ρ H Q S w
  refine he c M σ ρ H _ S (wp0_mono (wp0_bind.mp w) (fun d w v H1 F r => ?_) fun _ _ h => h)
  split at w
  · rename_i a' x' b n' u
    split at w
    · rename_i hh
      obtain ⟨rfl, h2⟩ := r.err
      rcases h2 with h2 | ⟨bb, n2, u2, h2, h3, h4⟩
      · cases h2
      · cases h2
        obtain ⟨T, hno⟩ := hok x hh.2.2.2
        refine ⟨by rw [hh.1], _, rfl, T, hno, b, _, u, hh.2.1, h3, ?_, w _ H1 F (Rl.ofV h4)⟩
        rw [hh.2.2.1]
        simp [List.lookup]
    · exact w.elim
  · exact w.elim
def offR : Option Nat → Ev → Ev
  | none, ρ => ρ
  | some i, ρ => ρ.set i none
def onR : Option Nat → Dt → Ev → Ev
  | none, _, ρ => ρ
  | some i, d, ρ => ρ.set i (some d)
def offO (i : Option Nat) : Out → Out
  | .nx ρ => .nx (offR i ρ)
  | .bk ρ => .bk (offR i ρ)
  | .ct ρ => .ct (offR i ρ)
  | o => o
structure MCl where
  sub : Str → Option Bool
  i : Option Nat
  h : Addr → Str → XD → MS
/-- the exception's own dict -/
def exAll (f : Option (Str × Dt)) (k : XD → Pm Out) : Pm Out := match f with
  | none => k none
  | some (n, d) => match d.v? with
    | some v => .all fun b => k (some (b, n, v))
    | none => .bad
def mCls : List MCl → Str → Option (Str × Dt) → MS
  | [], x, f => fun ρ => .ret (.ex x f ρ)
  | q :: r, x, f => fun ρ => match q.sub x with
    | some false => mCls r x f ρ
    | some true => exAll f fun dd => .all fun a => q.h a x dd (onR q.i (.err a x dd) ρ) >>= fun o => .ret (offO q.i o)
    | none => .bad
def mTryC (l : List MCl) (b : MS) : MS := fun ρ => b ρ >>= fun o => match o with
  | .ex x f ρ' => mCls l x f ρ'
  | o => .ret o
inductive ClsM (κ : Kt) (mu : List Nat) (W : WX) : List Cls1 → List MCl → Prop
  | nil : ClsM κ mu W [] []
  | cons {x : Str} {i : Option Nat} {t : Addr → Value → Option Addr → TS} {sub : Str → Option Bool} {h : Addr → Str → XD → MS} {l : List Cls1} {l' : List MCl} (hs : ∀ y b, sub y = some b → PySem.W.exmOne κ.K (.ref (ga κ.K y)) (.ref (ga κ.K x)) = some b)
      (hi : ∀ j, i = some j → j ∉ mu) (hh : ∀ a y dd, RS κ mu W (t a (.ref (ga κ.K y)) (XD.adr dd)) (h a y dd)) (r : ClsM κ mu W l l') : ClsM κ mu W (⟨.ref (ga κ.K x), i, t⟩ :: l) (⟨sub, i, h⟩ :: l')
theorem Sl.off {c : Cn} {M : Nat → List Addr} {H : Hp} {σ : L2.St} {ρ : Ev} {i : Nat} (S : Sl κ mu c M H σ ρ) : Sl κ mu c M H (σ.set i none) (ρ.set i none) := by
  have key : ∀ j (d : Dt), (ρ.set i none)[j]? = some (some d) → i ≠ j ∧ ρ[j]? = some (some d) := fun j d h => by
    by_cases e : i = j
    · subst e
      rw [List.getElem?_set] at h
      simp only [if_pos] at h
      split at h <;> cases h
    · exact ⟨e, by rw [List.getElem?_set_ne e] at h; exact h⟩
  refine ⟨by rw [List.length_set, List.length_set]; exact S.len, S.ok, fun j d h => ?_, fun j k d e hj hk h1 h2 n => S.dist j k d e hj hk (key _ _ h1).2 (key _ _ h2).2 n, S.tb, S.hT⟩
  obtain ⟨ne, h⟩ := key j d h
  rw [List.getElem?_set_ne ne]
  exact S.at_ j d h
theorem Sl.offS {c : Cn} {M : Nat → List Addr} {H : Hp} {σ : L2.St} {ρ : Ev} (S : Sl κ mu c M H σ ρ) : ∀ i, Sl κ mu c M H (Tk.offS i σ) (offR i ρ)
  | none => S
  | some _ => S.off
theorem Post.off {c : Cn} {H : Hp} {D : Ends} {i : Option Nat} : ∀ {o : Out}, Post κ mu c H W D (offO i o) → Post κ mu c H W (offE i D) o
  | .nx _, q => fun c' M σ H' F k S => q c' M _ H' F k (S.offS i)
  | .bk _, q => fun c' M σ H' F k S => q c' M _ H' F k (S.offS i)
  | .ct _, q => fun c' M σ H' F k S => q c' M _ H' F k (S.offS i)
  | .rt _, q => q
  | .ex _ _ _, q => q
theorem Dt.v_ofV {d : Dt} {v : V} (e : d.v? = some v) : scB v = true := by
  cases d <;> cases e <;> rfl
theorem exAll_is {f : Option (Str × Dt)} {k : XD → Pm Out} {Q : Out → Prop} {H : Hp} {e : Option Addr} (w : wp0 (exAll f k) Q NoX) (i : ExIs K H e f) : ∃ dd, XD.adr dd = e ∧ (dd = none ∨ ∃ b n v, dd = some (b, n, v) ∧ H b = some (.xd [(n, v)]) ∧ scB v = true) ∧ wp0 (k dd) Q NoX := by
  unfold exAll at w
  split at w
  · cases i
    exact ⟨none, rfl, .inl rfl, w⟩
  · rename_i n d
    split at w
    · rename_i v ev
      obtain ⟨b, u, rfl, hb, r⟩ := i
      obtain ⟨rfl, _⟩ := Rw.v (.inl r) ev
      exact ⟨some (b, n, u), rfl, .inr ⟨b, n, u, rfl, hb, Dt.v_ofV ev⟩, w b⟩
    · exact w.elim
theorem rs_cls {x : Str} {f : Option (Str × Dt)} {D : Ends} {c : Cn} {H : Hp} {ρ : Ev} {c' : Cn} {M : Nat → List Addr} {σ : L2.St} {H' : Hp} {e : Option Addr} (F : Fs c H H') (k : Lk c c' H) (S : Sl κ mu c' M H' σ ρ) (i : ExIs κ.K H' e f) :
    ∀ {l : List Cls1} {l' : List MCl}, ClsM κ mu W l l' → wp0 (mCls l' x f ρ) (Post κ mu c H W D) NoX → wCls κ.K W D l (.ref (ga κ.K x)) e σ H'
  | _, _, .nil, w => w c' M σ H' e F k S i
  | _, _, .cons (i := j) hs hi hh r, w => by
    unfold mCls at w
    split at w
    · rename_i es
      exact ⟨false, hs x false es, (fun z => Bool.noConfusion z), fun _ => rs_cls F k S i r w⟩
    · rename_i es
      refine ⟨true, hs x true es, fun _ a na => ?_, fun z => Bool.noConfusion z⟩
      obtain ⟨dd, rfl, hd, w⟩ := exAll_is w i
      have S' : Sl κ mu c' M H' (onS j a σ) (onR j (.err a x dd) ρ) := by
        cases j with
        | none => exact S
        | some j =>
          refine S.set (hi j rfl) ?_
          rcases hd with rfl | ⟨b, n, v, rfl, h1, h2⟩
          · exact .err0
          · exact .err1 h1 h2
      exact hh a x dd c' M _ _ H' _ S' (wp0_mono (wp0_bind.mp (w a)) (fun o q => Post.step F k (Post.off q)) fun _ _ h => h)
    · exact w.elim
theorem rs_tryC {tb : WX → TS} {mb : MS} {l : List Cls1} {l' : List MCl} (hb : ∀ W', RS κ mu W' (tb W') mb) (hc : ClsM κ mu W l l') : RS κ mu W (tTryC κ.K W l tb) (mTryC l' mb) := by
  intro c M σ ρ H D S w
  refine hb _ c M σ ρ H D S (wp0_mono (wp0_bind.mp w) (fun o w => ?_) fun _ _ h => h)
  cases o with
  | ex x f ρ' => exact fun c' M' σ' H' e F k S' i => rs_cls F k S' i hc w
  | _ => exact w
end
/-! facts about own classes, as tests -/
open He (eqO eqO_ok) in
def excB (K : PySem.W.Frag) (x : Str) : Bool := eqO (PySem.W.findIn K (.ref (ga K x)) "__getattribute__") (some (some (.builtin "BaseException.__getattribute__"))) && (eqO (PySem.W.findIn K (.ref (ga K x)) "__getattr__") (some none) && (decide (PySem.W.subIn K (.ref (ga K x)) (.type "BaseException") = some true) && (PySem.W.hasDictIn K (ga K x) &&
  (eqO (PySem.W.findIn K (.ref (ga K x)) "__class__") (some (some (.builtin "object.__class__"))) && (eqO (PySem.W.specialIn K (.builtin "object.__class__") "__get__") (some (some (.builtin "getset_descriptor.__get__"))) && (decide (PySem.W.takesIn K (.builtin "object.__class__") = some true) && decide (PySem.W.mroIn K (ga K x) (.type "object") = some true)))))))
theorem excB_ok {K : PySem.W.Frag} {x : Str} (h : excB K x = true) : ExcC K (ga K x) ∧ XfC K (ga K x) := by
  unfold excB at h
  simp only [Bool.and_eq_true] at h
  obtain ⟨h1, h2, h3, h4, h5, h6, h7, h8⟩ := h
  exact ⟨⟨He.eqO_ok h1, He.eqO_ok h2, of_decide_eq_true h3, h4, He.eqO_ok h5, He.eqO_ok h6, of_decide_eq_true h7, of_decide_eq_true h8⟩, ⟨He.eqO_ok h1, He.eqO_ok h2, of_decide_eq_true h3, h4⟩⟩
theorem kitB_ok {K : PySem.W.Frag} {x y : Str} (h : He.eqO ((PySem.W.kitOne K (.ref (ga K x)) (.ref (ga K y))).map fun b => some (Value.bool b)) (some (some (.bool true))) = true) : PySem.W.kitOne K (.ref (ga K x)) (.ref (ga K y)) = some true := by
  obtain ⟨b, h1, h2⟩ := Option.map_eq_some_iff.mp (He.eqO_ok h)
  cases h2
  exact h1
end Tk

end

section
/-! a def that changes a list that is given to it, and its call with a new list -/
namespace Tk
open PySem PySem.Spec L2 RZ
open He (ga)
/-- the list at j, at p, is the def's own -/
def spU (κ : Kt) (j : Nat) (m : MF) : Sp := fun vs H Q _ => ∃ S hd ds fp, hd.T = κ.T ∧ vs.length = ds.length ∧ (∀ i d, ds[i]? = some d → ∃ v, vs[i]? = some v ∧ (i = j → MutAt κ.K ⟨fp, S, hd⟩ H fp v d) ∧ (i ≠ j → Rl κ.K ⟨fp, S, hd⟩ H v d)) ∧
  (∀ b ∈ (⟨fp, S, hd⟩ : Cn).av, H b ≠ none) ∧ (∀ p ∈ κ.T, LamX.TabS H p.1 p.2) ∧ wp0 (m ds) (fun d => ∀ v H', Fs ⟨fp, S, hd⟩ H H' → Rl κ.K ⟨[], S, hd⟩ H' v d → Q v H') NoX
section
variable {K : PySem.W.Frag} {κ : Kt} {mu : List Nat} {W : WX} {te ta tb : TE} {me ma mb : ME} {ts : TS} {ms : MS}
theorem pure_U {N : List Str} {E : XK} {n j k : Nat} (h : RS κ mu (fun cls d _ H => E cls d H) ts ms) (hj : j ∈ mu) (hm : ∀ i ∈ mu, i = j ∨ n ≤ i) (hN : N.length = k) {vs : List V} {H : Hp} {Q : VK} (hl : vs.length = n) (hn : n ≤ k) (hw : spU κ j (mFun k ms) vs H Q E) :
    ts { nx := fun _ H' => Q .non H', rt := Q } (L2.start N vs) H := by
  obtain ⟨S, hd, ds, fp, hT, rl, r, ok, tb, w⟩ := hw
  have Sl0 : Sl κ mu ⟨fp, S, hd⟩ (fun _ => fp) H (L2.start N vs) (startD k ds) := by
    have e1 : (L2.start N vs) = vs.map some ++ List.replicate (N.length - vs.length) none := rfl
    have key : ∀ i d, (startD k ds)[i]? = some (some d) → ds[i]? = some d := fun i d e => by
      unfold startD at e
      rcases Nat.lt_or_ge i ds.length with h | h
      · rw [List.getElem?_append_left (by simpa using h), List.getElem?_map] at e
        cases q : ds[i]? with
        | none => rw [q] at e; cases e
        | some z => rw [q] at e; exact Option.some.inj e
      · rw [List.getElem?_append_right (by simpa using h), List.getElem?_replicate] at e
        split at e <;> cases e
    have small : ∀ i d, (startD k ds)[i]? = some (some d) → i < n := fun i d e => by
      have := (List.getElem?_eq_some_iff.mp (key i d e)).1
      omega
    refine ⟨?_, ok, fun i d e => ?_, fun i i' d e hi hj' h1 h2 ne => ?_, tb, hT⟩
    · rw [e1]; unfold startD; simp; omega
    · obtain ⟨v, h1, h2, h3⟩ := r i d (key i d e)
      have hlt := (List.getElem?_eq_some_iff.mp h1).1
      refine ⟨v, ?_, fun m => ?_, fun m => h3 fun e => m (e ▸ hj)⟩
      · rw [e1, List.getElem?_append_left (by simpa using hlt), List.getElem?_map, h1]
        rfl
      · have := small i d e
        exact h2 ((hm i m).resolve_right (by omega))
    · have q1 := small i d h1
      have q2 := small i' e h2
      exact absurd (((hm i hi).resolve_right (by omega)).trans ((hm i' hj').resolve_right (by omega)).symm) ne
  refine h _ _ _ _ _ _ Sl0 ?_
  unfold mFun at w
  have w := wp0_bind.mp w
  refine wp0_mono (wp0_nox.mp w) (fun o w => ?_) fun _ _ h => h
  cases o with
  | nx ρ => exact fun c' M σ H' F k S' => w _ H' F .non
  | bk ρ => exact w.elim
  | ct ρ => exact w.elim
  | rt d => exact fun v H' F r => w v H' F r
  | ex x f ρ => exact w.elim
/-- a value that is a new list -/
def RN (κ : Kt) (mu : List Nat) (W : WX) (te : TE) (me : ME) : Prop := ∀ c M σ ρ H (Q : VK), Sl κ mu c M H σ ρ → wp0 (me ρ) (fun d => ∀ fp v H', Fh c H H' → (∀ b ∈ fp, H b = none) → MutAt κ.K (c.addLs fp) H' fp v d → Q v H') (Xw κ.K c W σ H) → te σ H Q
def mCallU (m : MF) (ma mb : ME) : ME := fun ρ => ma ρ >>= fun d => mb ρ >>= fun e => (m [d, e]).nox
theorem re_callU {m : MF} (ha : RE κ mu W ta ma) (hb : RN κ mu W tb mb) : RE κ mu W (tCallS (spL 2 (spU κ 1 m)) (WE W) (tCons ta (tCons tb tNil))) (mCallU m ma mb) := by
  intro c M σ ρ H Q S w
  refine ha c M σ ρ H _ S (wp0_mono (wp0_bind.mp w) (fun d w v H1 F r => ?_) fun _ _ h => h)
  refine hb c M σ ρ H1 _ (S.fh F) (wp0_mono (wp0_bind.mp w) (fun e w fp u H2 G n q => ?_) fun x f h => h.fh F)
  have w := wp0_nox.mp w
  have np : ∀ b ∈ fp, b ∉ c.av := fun b hb => new_av (S.fh F).ok (n b hb)
  have eqv : ∀ b, b ∈ (⟨fp, c.L ++ c.S, c.h⟩ : Cn).av ↔ b ∈ (c.addLs fp).av := fun b => by
    rw [Cn.av_iff, Cn.av_iff]
    show b ∈ fp ∨ b ∈ c.L ++ c.S ∨ b ∈ c.hd ↔ b ∈ fp ++ c.L ∨ b ∈ c.S ∨ b ∈ c.hd
    simp only [List.mem_append]
    exact ⟨fun h => by rcases h with h | (h | h) | h <;> simp [h], fun h => by rcases h with (h | h) | h | h <;> simp [h]⟩
  have to1 : ∀ {b : Addr} {o : HO}, H2 b = some o → b ∉ (c.addLs fp).av → b ∉ (⟨fp, c.L ++ c.S, c.h⟩ : Cn).av := fun _ nb m => nb ((eqv _).mp m)
  have r2 : Rl κ.K (c.addLs fp) H2 v d := (Rl.addLs n r).fh (c := c.addLs fp) G
  have nS : ∀ b ∈ fp, b ∉ c.L ++ c.S := fun b hb h => by
    rcases List.mem_append.mp h with h | h
    · exact np b hb (Cn.L_av h)
    · exact np b hb (Cn.S_av h)
  refine ⟨rfl, c.L ++ c.S, c.h, [d, e], fp, (S.fh F).hT, rfl, fun i x hx => ?_, fun b hb => ?_, (S.fh (F.trans G)).tb, wp0_mono w (fun d2 q2 v2 H3 F3 r3 => ?_) fun _ _ z => z⟩
  · match i, hx with
    | 0, hx =>
      cases hx
      exact ⟨v, rfl, (fun z => by cases z), fun _ => Rl.to (c := c.addLs fp) (c' := ⟨fp, c.L ++ c.S, c.h⟩) rfl (fun b o h nb => to1 h nb) r2⟩
    | 1, hx =>
      cases hx
      exact ⟨_, rfl, fun _ => MutAt.to (c := c.addLs fp) (c' := ⟨fp, c.L ++ c.S, c.h⟩) rfl (fun b hb => hb) nS (fun b o h nb => to1 h nb) q, fun z => (z rfl).elim⟩
    | i + 2, hx => cases hx
  · rw [eqv] at hb
    rcases Cn.addLs_av.mp hb with hb | hb
    · obtain ⟨o, ho⟩ := q.ne b hb
      rw [ho]; exact fun z => by cases z
    · exact G.1.dom b ((S.fh F).ok b hb)
  · have F4 : Fh c H1 H3 := ⟨G.1.more F3.1 fun b hb => by
      rcases List.mem_append.mp hb with hb | hb
      · exact .inr (n b hb)
      · exact .inl hb, fun a l e h => F3.2 a l e (G.2 a l e h)⟩
    refine q2 v2 H3 (F.trans F4) (Rl.to (c := ⟨[], c.L ++ c.S, c.h⟩) (c' := c) rfl (fun b o h nb m => nb ?_) r3)
    rw [av_base]; exact m
/-- the mirror of such a call -/
@[simp] theorem x_callU {m : MF} {ρ : Ev} : mCallU m ma mb ρ = (ma ρ >>= fun d => mb ρ >>= fun e => (m [d, e]).nox) := rfl
end
end Tk

end

section
/-! two lambdas handed to a def that calls them -/
namespace Tk
open PySem PySem.Spec L2 RZ LamX NdefX PyProof.Rows
open He (ga)
theorem cellsUn {cl : List (Str × Addr)} {fr : List Str} {ws : List (Option V)} {fs : List Addr} {H H' : Hp} {h h' : Heap} (C : CellsAt cl fr ws h H) (u : Un fs [] H H' h h') : CellsAt cl fr ws h' H' := by
  have kp : ∀ y c, cl.lookup y = some c → ∀ v, h.IsCell c v → h'.IsCell c v := fun y c e v ⟨o, ho, hd⟩ => by
    obtain ⟨sl, q⟩ := u.any ho (C.all y c e).1 (by simp)
    exact ⟨_, q, hd⟩
  refine ⟨C.len, fun y c e => ?_, C.inj, fun i y e => ?_⟩
  · obtain ⟨n, v, z⟩ := C.all y c e
    obtain ⟨o, ho, _⟩ := id z
    exact ⟨u.free c o ho n (by simp), v, kp y c e v z⟩
  · obtain ⟨c, hc, hv⟩ := C.has i y e
    refine ⟨c, hc, fun v ev => ?_⟩
    obtain ⟨x, rx, z⟩ := hv v ev
    exact ⟨x, rx, kp y c hc _ z⟩
/-- in the context Z: the function at f, its code object at g, may be called with n values; v is what it captured -/
def LCall (Z : Cx) (f g : Addr) (q : Str) (n : Nat) (v : V) (sp : Sp) : Prop :=
  (∀ pins s σ H, Inv Z pins σ H s → PySem.W.FnAt f s.heap) ∧
  ∀ pins s σ H us vs Q, Inv Z pins σ H s → H g = some (CodeO g q) → Vals vs us → vs.length = n → sp (vs ++ [v]) H Q (fun _ _ _ => False) → wpAny (model Z.prog Z.w) Z.A (call (.ref f) us) (EP Z pins σ Q) Z.xe s
def tLoc (i : Nat) (f g : Addr) (q : Str) (n : Nat) (v : V) (sp : Sp) (ta : TA) : TE := fun σ H Q => σ[i]? = some (some (.ref f)) ∧ ta σ H fun vs H1 => H1 g = some (CodeO g q) ∧ vs.length = n ∧ sp (vs ++ [v]) H1 Q fun _ _ _ => False
theorem pe_loc {Z : Cx} {i n : Nat} {f g : Addr} {q a : Str} {v : V} {sp : Sp} {ta : TA} {e : Expr} {es : List Expr} {p pos : Pos} (h : LCall Z f g q n v sp) (hN : Z.N[i]? = some a) (hv : Vis Z.env.scope a) (ha : PA Z (e :: es) ta)
    (hd : (a == ("__debug__" : Str)) = false := by decide) (hcd : (a == ("__classdict__" : Str)) = false := by decide) (he : starEach (e :: es) Z.env = (false, eval e Z.env) :: starEach es Z.env := by rfl)
    (hpl : (backTo pos (starEach es Z.env)).any (·.1) = false := by rfl) : PE Z (.Call (.Name a p) (e :: es) [] pos) (tLoc i f g q n v sp ta) := by
  refine ⟨fun pins s σ H Q I h' => ?_⟩
  obtain ⟨hs, ht⟩ := h'
  refine wpAny_Call_Name_kw (thn ((pe_var (pos := p) hN hv hd hcd).run pins s σ H (fun v H1 => v = .ref f ∧ H1 = H) I ⟨.ref f, hs, rfl, rfl⟩) fun u s1 ⟨v', H1, I1, r1, q1⟩ => ?_)
  obtain ⟨z1, z2⟩ := q1
  subst z1
  rw [z2] at I1
  cases (show u = Value.ref f from r1)
  refine PySem.W.callWith_F (first := []) (h.1 _ _ _ _ I1) (thn (ha.run pos pins s1 σ H _ I1 ht) fun us s2 ⟨vs, H2, I2, r, h1, hl, q⟩ => ⟨h.1 _ _ _ _ I2, ?_⟩) he hpl
  exact h.2 pins s2 σ H2 us vs Q I2 h1 r hl q
section
variable {X : Cx} {pins : List (Addr × Obj)} {σ : L2.St} {H : Hp} {s : Shared}
theorem lcall_of {CXg : CXT} {Eg : XK} {Ng N ps fr : List Str} {qg : Str} {sg : Scope} {g0 f : Addr} {cdg pm ctv : Value} {F : NF} {ws : List (Option V)} {body : Expr} {k : Nat} {t : TE} {sp : Sp} {v : V}
    (S : NScope N ps fr F.scope) (hf : s.heap.get? f = some (PySem.W.kla_obj F.name F.qual F.params body F.scope F.cl pm F.c ctv)) (hn : H f = none) (hfr : f ∉ frs X.stack) (C : CellsAt F.cl fr ws s.heap H)
    (hbind : ∀ us : List Value, us.length = ps.length → bindArgs (PySem.W.kla_fn F.name F.qual F.params body F.scope F.cl pm (.ref F.c) ctv) ⟨us, []⟩ = pure (ps.zip us))
    (hr : Room (k + 1) (X.A.deeper (envOfC qg sg s.heap.objs.size g0 cdg)))
    (hbody : ∀ (A : Around) (outer : List Env) (s : Shared) (H : Hp), Room k (A.deeper (envF F f s.heap.objs.size)) → PE (ncx (L2.CX X.prog X.w) X.prog X.w X.K X.mg X.base N F f A outer s H (fun _ _ _ => False)) body t)
    (hsp : ∀ vs H Q E, vs.length = ps.length → sp (vs ++ [v]) H Q E → t (startF N vs ws) H Q) :
    LCall (cxOf CXg X.prog X.w X.K X.mg X.base Ng qg sg g0 cdg X.A X.stack s H Eg) f F.c F.qual ps.length v sp := by
  have at_ : ∀ pz sz σz Hz, Inv (cxOf CXg X.prog X.w X.K X.mg X.base Ng qg sg g0 cdg X.A X.stack s H Eg) pz σz Hz sz → sz.heap.get? f = some (PySem.W.kla_obj F.name F.qual F.params body F.scope F.cl pm F.c ctv) :=
    fun pz sz σz Hz J => J.base.keep f _ hf hn hfr (fun z => nomatch (show f ∈ ([] : List Addr) from z))
  refine ⟨fun pz sz σz Hz J => ⟨_, _, _, _, at_ pz sz σz Hz J⟩, fun pz sz σz Hz us vs Q J hc r hl hq => ?_⟩
  have of1 := at_ pz sz σz Hz J
  have rc : codeAny (model X.prog X.w) (X.A.deeper (envOfC qg sg s.heap.objs.size g0 cdg)) (.call (.ref f) ⟨us, []⟩) (CR (L2.CX X.prog X.w) (envOfC qg sg s.heap.objs.size g0 cdg :: X.stack) X.prog X.w Hz sz Q fun _ _ _ => False) sz := by
    refine PySem.W.kla_callFunE hr.depth of1 rfl S.co S.gen rfl (codeO_at J.hok hc) ?_
    rw [hbind us (by rw [← r.length]; exact hl)]
    refine wpAny_pure (wpAny_newFunctionEnv S.nocell (fun ⟨n, _⟩ hy => S.par n (List.of_mem_zip hy).1) (fun h₁ hns hsb => ⟨J.nolimit.fresh _ hsb, ?_⟩) S.kind)
    show codeAny _ _ (.expr body (envF F f sz.heap.objs.size)) _ _
    have kp : ∀ b o, sz.heap.get? b = some o → h₁.get? b = some o := fun b o e => hsb.extBut b o (Nat.ne_of_lt (Heap.lt_size e)) (Heap.get?_push_of_some _ e)
    have J2 : Inv (ncx (L2.CX X.prog X.w) X.prog X.w X.K X.mg X.base N F f (X.A.deeper (envOfC qg sg s.heap.objs.size g0 cdg)) (envOfC qg sg s.heap.objs.size g0 cdg :: X.stack) sz Hz (fun _ _ _ => False)) [] (startF N vs ws) Hz { sz with heap := h₁, toks := sz.toks + (ps.zip us).length } :=
      inv_startN S hr.hd J.env0 hl r (cellsUn C J.base) hns kp
    refine PySem.W.kla_codeExpr (wpAny_mono ((hbody _ _ sz Hz (hr.deeper _)).run [] _ _ Hz Q J2 (hsp vs Hz Q _ hl hq)) (fun v s' hq => ?_) fun e s' hq => hq)
    obtain ⟨w', H', J', rv, q⟩ := hq
    exact ⟨w', H', J'.os, J'.bare, J'.base, J'.hok, rv, q⟩
  refine wpAny_call (codeAny_mono rc fun r s' hq => ?_)
  cases r with
  | error e =>
    obtain ⟨_, _, _, _, _, _, _, _, _, _, _, _, z⟩ := hq
    exact z.elim
  | ok fl =>
    cases fl with
    | ret u => exact J.after hq
    | next => exact False.elim hq
    | brk => exact False.elim hq
    | cont => exact False.elim hq
/-- a lambda is made: its code object is new or found -/
theorem lam_new {c Pt : Addr} {pa : Arguments} {bd : Expr} {sco : Scope} {po : Pos} {E : Value → Shared → Prop} {Q : Value → Shared → Prop} (I : Inv X pins σ H s) (TB : TabB X.base X.mg c Pt) (hcc : X.env.code = .ref c)
    (hT : TabS H Pt (X.env.qual ++ "<lambda>")) (hdf : defaultsOf pa X.env = ([], [])) (hfr : ∀ y ∈ sco.names, y.2 = .free → ∃ c, X.env.cells.lookup y.1 = some c)
    (h : ∀ (f c' : Addr) (pm ctv : Value) (H1 : Hp) (s' : Shared), Inv X pins σ H1 s' → FrG (fun b q => b = Pt → q = X.env.qual ++ "<lambda>") [] H H1 →
      s'.heap.get? f = some (PySem.W.kla_obj "<lambda>" (X.env.qual ++ "<lambda>") pa bd sco (cloFrom X.env.cells sco.names []) pm c' ctv) → H1 f = none → f ∉ frs X.stack → H1 c' = some (CodeO c' (X.env.qual ++ "<lambda>")) → Q (.ref f) s') :
    wpAny (model X.prog X.w) X.A (eval (.Lambda pa bd sco po) X.env) Q E s := by
  obtain ⟨ps, t1, t2, t3⟩ := id hT
  refine PySem.W.kla_eval hdf ?_
  have bt : s.heap.BuiltinsAt X.mg Pt := TB.bm.keeps I.bk
  have gt : s.heap.get? Pt = some { cls := .none, data := .fields ps } := I.hok Pt _ t1
  have out : ∀ z, s.heap.objs.size ≤ z → z ∉ frs X.stack := fun z hz m => by
    rcases List.mem_cons.mp (I.stkSub _ m) with e | e
    · have l := I.lt
      rw [← e] at l
      exact absurd (Nat.lt_of_lt_of_le l hz) (Nat.lt_irrefl _)
    · exact I.nofs hz e
  cases q : codeAmong po ps.toList with
  | some cv =>
    obtain ⟨g, rfl, hg⟩ := t3 po cv q
    refine PySem.W.kla_makeFunctionHit (mg := X.mg) (c := c) (P := Pt) (ps := ps) (closure_ok hfr) I.ok.glob (I.mod.glob.keeps I.bk) hcc (TB.code.keeps I.bk) gt t2 q bt fun ctv k tk kx ks => ?_
    have J : Inv X pins σ H { s with heap := k.push (PySem.W.kla_obj "<lambda>" (X.env.qual ++ "<lambda>") pa bd sco (cloFrom X.env.cells sco.names []) ((X.mg "__name__").getD .none) g ctv), toks := tk } := I.kept fun b o e => Heap.get?_push_of_some _ (kx b o e)
    exact h _ g _ ctv H _ J FrG.refl (Heap.get?_push_size _ rfl) (I.hok.fresh ks) (out _ ks) hg
  | none =>
    refine PySem.W.kla_makeFunction (mg := X.mg) (c := c) (P := Pt) (ps := ps) (closure_ok hfr) I.ok.glob (I.mod.glob.keeps I.bk) hcc (TB.code.keeps I.bk) gt t2 q TB.gP bt fun g ctv k tk kx kge klt krec ktb => ?_
    obtain ⟨g2, oc, vs, t, eg, hoc, hdt, hvt⟩ := krec
    cases eg
    have ng : H g = none := I.hok.fresh kge
    have big : s.heap.objs.size ≤ k.objs.size := Nat.le_trans kge (Nat.le_of_lt klt)
    have J := inv_table (t' := tk) (more := #[rawInt po.line, rawInt po.col, .ref g]) (h' := k.push (PySem.W.kla_obj "<lambda>" (X.env.qual ++ "<lambda>") pa bd sco (cloFrom X.env.cells sco.names []) ((X.mg "__name__").getD .none) g ctv)) I t1
      (fun b o nb e => Heap.get?_push_of_some _ (kx b o nb e)) (Heap.get?_push_of_some _ ktb) kge ⟨oc, vs, t, Heap.get?_push_of_some _ hoc, hdt, hvt⟩
    have nPg : Pt ≠ g := ne_of_none t1 ng
    have old : ∀ b o, H b = some o → (∀ ps, o ≠ .tbl ps) → upd (upd H Pt (.tbl (ps ++ #[rawInt po.line, rawInt po.col, .ref g]))) g (CodeO g (X.env.qual ++ "<lambda>")) b = some o := fun b o e n => by
      rw [upd_ne (ne_of_none e ng), upd_ne (fun z : b = Pt => n ps (Option.some.inj (e.symm.trans (by rw [z]; exact t1))))]
      exact e
    have atP : upd (upd H Pt (.tbl (ps ++ #[rawInt po.line, rawInt po.col, .ref g]))) g (CodeO g (X.env.qual ++ "<lambda>")) Pt = some (.tbl (ps ++ #[rawInt po.line, rawInt po.col, .ref g])) := by rw [upd_ne nPg, upd_same]
    have el : (ps ++ #[rawInt po.line, rawInt po.col, .ref g]).toList = ps.toList ++ [rawInt po.line, rawInt po.col, .ref g] := by simp
    refine h k.objs.size g _ ctv _ _ J ⟨fun b o _ n e => old b o e n, fun b xs e => old b _ e (fun _ z => by cases z), fun b o u e => old b _ e (fun _ z => by cases z), fun b e => ?_, fun b q hq hb => ?_, fun b o st e => old b o e fun ps z => ?_⟩ (Heap.get?_push_size _ rfl) ?_ (out _ big) upd_same
    · by_cases z : b = g
      · rw [z, upd_same]; exact fun z => by cases z
      · by_cases z2 : b = Pt
        · rw [z2, atP]; exact fun z => by cases z
        · rw [upd_ne z, upd_ne z2]; exact e
    · by_cases z : b = Pt
      · subst z
        obtain ⟨ps2, a1, a2, a3⟩ := hb
        rw [t1] at a1
        cases a1
        refine ⟨_, atP, by rw [el]; exact PySem.TriplesOk_snoc _ _ _ _ a2, fun po2 cv hcv => ?_⟩
        rw [el] at hcv
        rcases among_app _ a2 hcv with y | y
        · obtain ⟨c0, e1, e2⟩ := a3 po2 cv y
          exact ⟨c0, e1, old _ _ e2 codeO_ne⟩
        · exact ⟨g, y, by rw [hq rfl]; exact upd_same⟩
      · obtain ⟨ps2, a1, a2, a3⟩ := hb
        refine ⟨ps2, by rw [upd_ne (ne_of_none a1 ng), upd_ne z]; exact a1, a2, fun po2 cv hcv => ?_⟩
        obtain ⟨c0, e1, e2⟩ := a3 po2 cv hcv
        exact ⟨c0, e1, old _ _ e2 codeO_ne⟩
    · subst z
      rcases st with ⟨fs, y⟩ | ⟨q, y⟩
      · cases y
      · exact codeO_ne _ y.symm
    · have n1 : k.objs.size ≠ g := Nat.ne_of_gt klt
      have n2 : k.objs.size ≠ Pt := Nat.ne_of_gt (Nat.lt_of_lt_of_le (Heap.lt_size gt) big)
      rw [upd_ne n1, upd_ne n2]
      exact I.hok.fresh big
/-- the made function is held fast -/
theorem lam_pin {f : Addr} {o : Obj} {fd : FuncData} (I : Inv X pins σ H s) (hf : s.heap.get? f = some o) (hd : o.data = .func fd) (hn : H f = none) (hfr : f ∉ frs X.stack) : Inv X ((f, o) :: pins) σ H s := by
  refine I.pins_of fun p hp => ?_
  rcases List.mem_cons.mp hp with e | hp
  · subst e
    refine ⟨hf, hn, fun z => ?_, fun z => hfr ?_, fun v z => by rw [hd] at z; cases z⟩
    · obtain ⟨m, hns, _⟩ := I.loc
      obtain ⟨o', es, ep, e1, e2, _⟩ := hns
      rw [← z, hf] at e1
      cases e1
      rw [hd] at e2
      cases e2
    · rcases I.ok.stk with e | ⟨e, _⟩
      · rw [e]; exact z
      · rw [e]
        obtain ⟨ev, h1, h2⟩ := List.mem_filterMap.mp z
        exact List.mem_filterMap.mpr ⟨ev, List.mem_cons_of_mem _ h1, h2⟩
  · exact I.pin p (List.mem_append_right _ hp)
end
end Tk

end

section
/-! x(e, lambda .., lambda ..): reading, mirror -/
namespace Tk
open PySem PySem.Spec L2 RZ LamX NdefX PyProof.Rows
open He (ga)
abbrev E0 : XK := fun _ _ _ => False
abbrev lamF (q : Str) (pa : Arguments) (sco : Scope) (cl : List (Str × Addr)) (g : Addr) : NF := ⟨"<lambda>", q, pa, [], sco, cl, g⟩
def tLam2 (Pt : Addr) (q : Str) (j : Nat) (te : TE) (tt : V → Addr → Addr → Addr → Addr → List V → Hp → VK → Prop) : TE := fun σ H Q => te σ H fun x H1 => ∃ v, σ[j]? = some (some v) ∧ TabS H1 Pt q ∧
  ∀ f1 g1 H2, FrG (fun b q' => b = Pt → q' = q) [] H1 H2 → H2 g1 = some (CodeO g1 q) → ∀ f2 g2 H3, FrG (fun b q' => b = Pt → q' = q) [] H2 H3 → H3 g2 = some (CodeO g2 q) → tt v f1 g1 f2 g2 [x, .ref f1, .ref f2] H3 Q
/-- what is told of a lambda in the text of X -/
structure LamOk (X : Cx) (q : Str) (y : Str) (j : Nat) (pa : Arguments) (bd : Expr) (sco : Scope) (N ps : List Str) (k : Nat) (t : TE) (sp : Sp) : Prop where
  S : NScope N ps [y] sco
  nb : ndefB X.env.scope sco [y] = true
  df : defaultsOf pa X.env = ([], [])
  bind : ∀ (cl : List (Str × Addr)) (pm cv ctv : Value) (us : List Value), us.length = ps.length → bindArgs (PySem.W.kla_fn "<lambda>" q pa bd sco cl pm cv ctv) ⟨us, []⟩ = pure (ps.zip us)
  body : ∀ (cl : List (Str × Addr)) (g f : Addr) (A : Around) (outer : List Env) (s : Shared) (H : Hp), Room k (A.deeper (envF (lamF q pa sco cl g) f s.heap.objs.size)) →
    PE (ncx (L2.CX X.prog X.w) X.prog X.w X.K X.mg X.base N (lamF q pa sco cl g) f A outer s H E0) bd t
  sp : ∀ vs v H Q E, vs.length = ps.length → sp (vs ++ [v]) H Q E → t (startF N vs [some v]) H Q
theorem LamOk.free {X : Cx} {q y : Str} {j k : Nat} {pa : Arguments} {bd : Expr} {sco : Scope} {N ps : List Str} {t : TE} {sp : Sp} (L : LamOk X q y j pa bd sco N ps k t sp) (ok : X.Ok) : ∀ z ∈ sco.names, z.2 = .free → ∃ c, X.env.cells.lookup z.1 = some c :=
  fun z hz e => (ndef_free L.nb z hz e).elim (fun h => ok.has _ (.inl h)) fun h => ok.has _ (.inr h)
theorem pe_lam2 {X : Cx} {x q y : Str} {j k c Pt : Nat} {st : Stmt} {N3 p3 N1 ps1 N2 ps2 : List Str} {e : Expr} {te : TE} {pa1 pa2 : Arguments} {bd1 bd2 : Expr} {sco1 sco2 : Scope} {lp1 lp2 p pos : Pos} {t1 t2 : TE} {sp1 sp2 : Sp} {tc : V → Addr → Addr → Addr → Addr → XK → TS}
    (F : ∃ fd, FunD X.K x x (defArgs st) (defBody st) (defScope st) [] [] (He.fAd X.K (x, none)) fd) (hmx : X.mg x = some (.ref (ga X.K x))) (S3 : FnScope N3 p3 (defScope st)) (h3 : p3.length = 3)
    (hb3 : ∀ (kV doc pm : Value) (an : Option Addr) (cdv ct : Value) (us : List Value), us.length = p3.length → bindArgs (PySem.W.fnOf x x (defArgs st) (defBody st) (defScope st) .none kV doc pm an cdv ct) ⟨us, []⟩ = pure (p3.zip us))
    (hg : Gl X x) (hr : Room (k + 3) X.A) (he : PE X e te) (TB : TabB X.base X.mg c Pt) (hcode : X.env.code = .ref c) (hq : X.env.qual ++ "<lambda>" = q) (hj : X.N[j]? = some y)
    (L1 : LamOk X q y j pa1 bd1 sco1 N1 ps1 k t1 sp1) (L2' : LamOk X q y j pa2 bd2 sco2 N2 ps2 k t2 sp2)
    (hcome : ∀ (cdv : Value) (A : Around) (outer : List Env) (s : Shared) (H : Hp) (f1 g1 f2 g2 : Addr) (v : V), Room (k + 1) (A.deeper (envOfC x (defScope st) s.heap.objs.size (ga X.K x) cdv)) →
      LCall (cxOf (L2.CX X.prog X.w) X.prog X.w X.K X.mg X.base N3 x (defScope st) (ga X.K x) cdv A outer s H E0) f1 g1 q ps1.length v sp1 →
      LCall (cxOf (L2.CX X.prog X.w) X.prog X.w X.K X.mg X.base N3 x (defScope st) (ga X.K x) cdv A outer s H E0) f2 g2 q ps2.length v sp2 →
      PSs (cxOf (L2.CX X.prog X.w) X.prog X.w X.K X.mg X.base N3 x (defScope st) (ga X.K x) cdv A outer s H E0) (defBody st) (tc v f1 g1 f2 g2 E0))
    (hdb : (x == ("__debug__" : Str)) = false := by decide)
    (he0 : starEach (e :: [Expr.Lambda pa1 bd1 sco1 lp1, Expr.Lambda pa2 bd2 sco2 lp2]) X.env = (false, eval e X.env) :: starEach [Expr.Lambda pa1 bd1 sco1 lp1, Expr.Lambda pa2 bd2 sco2 lp2] X.env := by rfl) :
    PE X (.Call (.Name x p) [e, .Lambda pa1 bd1 sco1 lp1, .Lambda pa2 bd2 sco2 lp2] [] pos) (tLam2 Pt q j te fun v f1 g1 f2 g2 vs H Q => tc v f1 g1 f2 g2 E0 { nx := fun _ H' => Q .non H', rt := Q } (L2.start N3 vs) H) := by
  refine ⟨fun pins s σ H Q I h => ?_⟩
  obtain ⟨fd, F⟩ := F
  have hkp := F.kp
  have hbn : L2.Binds X.K fd p3 [] := FunD.bindsN F hb3
  obtain ⟨oc, od, dV, kV, doc, pm, an, cdv, ct, osl, rfl, lk, hcd, _, _⟩ := F.ex
  refine wpAny_Call_Name_kw (ld_glob I hg hmx ?_ hdb)
  refine PySem.W.callWith_K (h₀ := X.base) I.ok.mod.kin hkp ?_ he0 (by rfl)
  rw [he0]
  show wpAny _ _ (spliced ((false, eval e X.env) :: backTo pos (starEach [Expr.Lambda pa1 bd1 sco1 lp1, Expr.Lambda pa2 bd2 sco2 lp2] X.env))) _ _ s
  refine Calls.spliced_cons (thn (he.run pins s σ H _ I h) fun u0 s0 ⟨x0, H0, I0, r0, v, hv, hT, h0⟩ => ?_)
  show wpAny _ _ (spliced ((false, eval (.Lambda pa1 bd1 sco1 lp1) X.env) :: backTo pos (starEach [Expr.Lambda pa2 bd2 sco2 lp2] X.env))) _ _ s0
  subst hq
  refine Calls.spliced_cons (lam_new I0 TB hcode hT L1.df (L1.free I0.ok) fun f1 g1 pm1 ct1 H1 s1 I1 F1 hf1 hn1 hfr1 hc1 => ?_)
  show wpAny _ _ (spliced ((false, eval (.Lambda pa2 bd2 sco2 lp2) X.env) :: backTo pos (starEach [] X.env))) _ _ s1
  have J1 := lam_pin I1 hf1 rfl hn1 hfr1
  refine Calls.spliced_cons (lam_new J1 TB hcode (F1.tbs _ _ (fun _ => rfl) hT) L2'.df (L2'.free I0.ok) fun f2 g2 pm2 ct2 H2 s2 J2 F2 hf2 hn2 hfr2 hc2 => ?_)
  have I2 : Inv X pins σ H2 s2 := J2.pins_of fun r hr => J2.pin r (List.mem_append_right _ (List.mem_cons_of_mem _ hr))
  have q1 := J2.pin (f1, _) (List.mem_append_right _ List.mem_cons_self)
  refine Calls.spliced_nil ⟨I2.kIn, ?_⟩
  have hwant := h0 f1 g1 H1 F1 hc1 f2 g2 H2 F2 hc2
  have C1 : CellsAt (cloFrom X.env.cells sco1.names []) [y] [some v] s2.heap H2 := by
    have z := cells_of I2 (Caps.made (js := [j]) I2.ok (ndef_free L1.nb) (ndef_fr L1.nb) (by simp [hj]))
    rw [List.map_cons, List.map_nil, slotAt_of hv] at z
    exact z
  have C2 : CellsAt (cloFrom X.env.cells sco2.names []) [y] [some v] s2.heap H2 := by
    have z := cells_of I2 (Caps.made (js := [j]) I2.ok (ndef_free L2'.nb) (ndef_fr L2'.nb) (by simp [hj]))
    rw [List.map_cons, List.map_nil, slotAt_of hv] at z
    exact z
  have rc : codeAny (model X.prog X.w) X.A (.call (.ref (ga X.K x)) ⟨[u0, .ref f1, .ref f2], []⟩) (CR (L2.CX X.prog X.w) X.stack X.prog X.w H2 s2 Q E0) s2 := by
    refine run_ofS (N := N3) (ps := p3) (us := [u0, .ref f1, .ref f2]) (vs := [x0, .ref f1, .ref f2]) lk hcd S3 hr I2.env0 ?_ (.cons r0 (.cons rfl (.cons rfl .nil))) h3.symm fun hr' => ⟨_, hcome cdv X.A X.stack s2 H2 f1 g1 f2 g2 v (hr'.mono (Nat.le_succ _)) ?_ ?_, hwant⟩
    · have z := hbn s2 [u0, .ref f1, .ref f2] I2.kIn (by rw [List.append_nil]; exact h3.symm)
      rw [List.append_nil] at z
      exact z
    · exact lcall_of (F := lamF _ pa1 sco1 (cloFrom X.env.cells sco1.names []) g1) L1.S q1.1 q1.2.1 hfr1 C1 (L1.bind _ _ _ _) (hr'.mono (Nat.le_succ _)) (L1.body _ _ _) fun vs H Q E hl hs => L1.sp vs v H Q E hl hs
    · exact lcall_of (F := lamF _ pa2 sco2 (cloFrom X.env.cells sco2.names []) g2) L2'.S hf2 hn2 hfr2 C2 (L2'.bind _ _ _ _) (hr'.mono (Nat.le_succ _)) (L2'.body _ _ _) fun vs H Q E hl hs => L2'.sp vs v H Q E hl hs
  show wpAny _ _ (call (.ref (ga X.K x)) [u0, .ref f1, .ref f2]) _ _ _
  refine wpAny_call (codeAny_mono rc fun r s' hq => ?_)
  cases r with
  | error e =>
    obtain ⟨_, _, _, _, _, _, _, _, _, _, _, _, z⟩ := hq
    exact z.elim
  | ok fl =>
    cases fl with
    | ret u => exact I2.after hq
    | next => exact False.elim hq
    | brk => exact False.elim hq
    | cont => exact False.elim hq
/-! ### mirrors -/
/-- a lambda, as its user knows it -/
structure Lm where
  f : Addr
  g : Addr
  q : Str
  v : V
def Lm.fn (L : Lm) (d : Dt) : Dt := .fn L.f L.g L.q L.v d
def mLoc (L : Lm) (m : MF) (i n : Nat) (l : MA) : ME := fun ρ => match ρ[i]? with
  | some (some (.fn f g q v d)) => if f = L.f ∧ g = L.g ∧ q = L.q ∧ v = L.v then l ρ >>= fun ds => if ds.length = n then (m (ds ++ [d])).nox else .bad else .bad
  | _ => .bad
section
variable {κ : Kt} {mu : List Nat} {W : WX} {te : TE} {me : ME} {t : TA} {mL : MA} {sp : Sp} {m : MF} {n : Nat}
theorem re_loc {L : Lm} {i : Nat} (hi : i ∉ mu) (hB : Bf κ (n + 1) m sp) (hl : RA κ mu W t mL) : RE κ mu W (tLoc i L.f L.g L.q n L.v sp t) (mLoc L m i n mL) := by
  intro c M σ ρ H Q S w
  unfold mLoc at w
  split at w
  · rename_i f g q v d e
    split at w
    · rename_i hh
      obtain ⟨rfl, rfl, rfl, rfl⟩ := hh
      obtain ⟨v', h1, _, h3⟩ := S.at_ i _ e
      have r := h3 hi
      cases r with
      | fn hg rd =>
        refine ⟨h1, hl c M σ ρ H _ S (wp0_mono (wp0_bind.mp w) (fun ds w vs H1 F r => ?_) fun _ _ h => h)⟩
        split at w
        · rename_i hn
          refine ⟨F.1.code hg, r.length.trans hn, ?_⟩
          have r2 : RlL κ.K c H1 (vs ++ [L.v]) (ds ++ [d]) := r.snoc (rd.fh F)
          exact (use_sp (σ := σ) hB (S.fh F).hT (S.fh F).ok (S.fh F).tb r2 (by rw [r2.length]; simp [hn]) (wp0_mono (wp0_nox.mp w) (fun d q v H' G r => q v H' (F.trans G) r) fun _ _ z => z.elim)).2
        · exact w.elim
    · exact w.elim
  · exact w.elim
open Classical in
/-- what comes out for every a -/
noncomputable def uniP {α β : Type} (f : α → Pm β) : Pm β := if h : ∃ m, ∀ a, f a = m then h.choose else .bad
theorem uniP_eq {α β : Type} {f : α → Pm β} {m : Pm β} (a : α) (h : ∀ a, f a = m) : uniP f = m := by
  unfold uniP
  have hh : ∃ m, ∀ a, f a = m := ⟨m, h⟩
  rw [dif_pos hh, ← hh.choose_spec a, h a]
theorem uniP_wp {α β : Type} {f : α → Pm β} {Q : β → Prop} {E : Str → Option (Str × Dt) → Prop} (w : wp0 (uniP f) Q E) (a : α) : wp0 (f a) Q E := by
  unfold uniP at w
  split at w
  · rename_i h
    rw [h.choose_spec a]
    exact w
  · exact w.elim
/-- .. the call of the def that gets them -/
noncomputable def mLam2 (q : Str) (j : Nat) (e : ME) (m : Lm → Lm → MF) : ME := fun ρ => e ρ >>= fun d => match ρ[j]? with
  | some (some dt) => ofO (tabQ dt) >>= fun _ => uniP fun u : Addr × Addr × Addr × Addr × Addr => (m ⟨u.2.1, u.2.2.1, q, .ref u.1⟩ ⟨u.2.2.2.1, u.2.2.2.2, q, .ref u.1⟩ [d, .fn u.2.1 u.2.2.1 q (.ref u.1) dt, .fn u.2.2.2.1 u.2.2.2.2 q (.ref u.1) dt]).nox
  | _ => .bad
theorem re_lam2 {Pt : Addr} {q : Str} {j : Nat} {tt : V → Addr → Addr → Addr → Addr → List V → Hp → VK → Prop} {mm : Lm → Lm → MF} (hj : j ∉ mu) (hm : (Pt, q) ∈ κ.T) (hu : ∀ p ∈ κ.T, p.1 = Pt → p.2 = q) (he : RE κ mu W te me)
    (hB : ∀ v f1 g1 f2 g2 vs H Q, vs.length = 3 → spM κ (mm ⟨f1, g1, q, v⟩ ⟨f2, g2, q, v⟩) vs H Q E0 → tt v f1 g1 f2 g2 vs H Q) : RE κ mu W (tLam2 Pt q j te tt) (mLam2 q j me mm) := by
  intro c M σ ρ H Q S w
  refine he c M σ ρ H _ S (wp0_mono (wp0_bind.mp w) (fun d w x H1 F r => ?_) fun _ _ h => h)
  cases e : ρ[j]? with
  | none => rw [e] at w; exact w.elim
  | some o =>
    cases o with
    | none => rw [e] at w; exact w.elim
    | some dt =>
      rw [e] at w
      obtain ⟨t, et, w⟩ := wp0_ofO (wp0_bind.mp w)
      obtain ⟨v, h1, _, h3⟩ := S.at_ j _ e
      have S1 := S.fh F
      have rv := (h3 hj).fh F
      obtain ⟨rfl, a, rfl, ht, _⟩ := tabQ_rw (.inl rv) et
      have toW : ∀ {Ha Hb : Hp}, FrG (fun b q' => b = Pt → q' = q) [] Ha Hb → Fh c Ha Hb := fun G => Fh.ofG (G.imp fun b q' hb z => hu (b, q') (by rw [← S.hT]; exact hb) z)
      refine ⟨.ref a, h1, S1.tb _ hm, fun f1 g1 H2 F1 hg1 f2 g2 H3 F2 hg2 => hB _ _ _ _ _ _ _ _ rfl ?_⟩
      have G1 := toW F1
      have G2 := toW F2
      have G := G1.trans G2
      have rv2 := rv.fh G1
      have w := uniP_wp w (a, f1, g1, f2, g2)
      refine (use_sp (σ := σ) (n := 3) bf_M (S1.fh G).hT (S1.fh G).ok (S1.fh G).tb (.cons (r.fh G) (.cons (.fn (G2.1.code hg1) (rv.fh G)) (.cons (.fn hg2 (rv.fh G)) .nil))) rfl (wp0_mono (wp0_nox.mp w) (fun d q v H' K r => q v H' (F.trans (G.trans K)) r) fun _ _ z => z.elim)).2
/-- the promise of a lambda's body: an expression over its parameters and what it captured -/
theorem bf_lam {n : Nat} (he : RE κ [] (fun _ _ _ _ => False) te me) : Bf κ n (fun ds => (me (ds.map some)).nox) (fun us H Q _ => te (us.map some) H Q) := by
  intro us H Q E hl h
  obtain ⟨S, hd, ds, hT, r, ok, tb, w⟩ := h
  have key : ∀ (i : Nat) (d : Dt), (ds.map some)[i]? = some (some d) → ds[i]? = some d := fun i d e => by
    rw [List.getElem?_map] at e
    cases q : ds[i]? with
    | none => rw [q] at e; cases e
    | some z => rw [q] at e; exact Option.some.inj e
  refine he ⟨[], S, hd⟩ (fun _ => []) (us.map some) (ds.map some) H Q ⟨by rw [List.length_map, List.length_map]; exact r.length, ok, fun i d e => ?_, fun i j d e hi => (by cases hi), tb, hT⟩ (wp0_mono (wp0_nox.mp w) (fun d q v H' F r => q v H' F r) fun _ _ z => z.elim)
  obtain ⟨v, h1, h2⟩ := r.get (key i d e)
  exact ⟨v, by rw [List.getElem?_map, h1]; rfl, fun m => (by cases m), fun _ => h2⟩
@[simp] theorem x_loc {L : Lm} {i : Nat} {l : MA} {ρ : Ev} : mLoc L m i n l ρ = (match ρ[i]? with
  | some (some (.fn f g q v d)) => if f = L.f ∧ g = L.g ∧ q = L.q ∧ v = L.v then l ρ >>= fun ds => if ds.length = n then (m (ds ++ [d])).nox else .bad else .bad
  | _ => .bad) := rfl
end
theorem x_lam2 {q : Str} {j : Nat} {e : ME} {m : Lm → Lm → MF} {ρ : Ev} {d : Dt} {tb : Tab} {r : Dt} (h1 : e ρ = .ret d) (h2 : ρ[j]? = some (some (.tab tb))) (h3 : ∀ (f1 g1 f2 g2 : Addr) (v : V), (m ⟨f1, g1, q, v⟩ ⟨f2, g2, q, v⟩ [d, .fn f1 g1 q v (.tab tb), .fn f2 g2 q v (.tab tb)]) = .ret r) : mLam2 q j e m ρ = .ret r := by
  unfold mLam2
  rw [h1, ret_bind, h2]
  simp only [tabQ, ofO, ret_bind]
  exact uniP_eq (m := .ret r) (0, 0, 0, 0, 0) fun u => by rw [h3]; rfl
end Tk

end

section
/-! dicts of nested keys by mirrors -/
namespace Tk
open PySem PySem.Spec L2 RZ
open He (ga)
mutual
def keyN : Dt → Option NestedKey
  | .non => some .none
  | .bl b => some (.num (if b = true then 1 else 0))
  | .int i => some (.num i)
  | .tup l => (keyNs l).map .tup
  | _ => none
def keyNs : List Dt → Option (List NestedKey)
  | [] => some []
  | d :: l => match keyN d, keyNs l with
    | some k, some ks => some (k :: ks)
    | _, _ => none
end
section
variable {K : PySem.W.Frag} {c : Cn} {H : Hp}
mutual
theorem Rl.ky : ∀ {v : V} {d : Dt} {k : NestedKey}, Rl K c H v d → keyN d = some k → Ky K H v k ∧ nkB k = true
  | _, _, _, .non, e => by rw [keyN] at e; cases e; exact ⟨.non, rfl⟩
  | _, _, _, .bl b, e => by rw [keyN] at e; cases e; exact ⟨.bl b, rfl⟩
  | _, _, _, .int i, e => by rw [keyN] at e; cases e; exact ⟨.int i, rfl⟩
  | _, _, _, .tup h t, e => by
    rw [keyN] at e
    obtain ⟨ks, h1, rfl⟩ := Option.map_eq_some_iff.mp e
    obtain ⟨h2, h3⟩ := RlL.kys t h1
    exact ⟨.tup h h2, by rw [nkB]; exact h3⟩
  | _, _, _, .str _, e => by simp [keyN] at e
  | _, _, _, .ty _, e => by simp [keyN] at e
  | _, _, _, .cls _, e => by simp [keyN] at e
  | _, _, _, .lst _ _ _, e => by simp [keyN] at e
  | _, _, _, .dK _ _ _, e => by simp [keyN] at e
  | _, _, _, .dT _ _ _, e => by simp [keyN] at e
  | _, _, _, .dN _ _ _ _, e => by simp [keyN] at e
  | _, _, _, .two _ _ _ _ _ _ _, e => by simp [keyN] at e
  | _, _, _, .gam _ _ _ _ _ _ _ _ _ _, e => by simp [keyN] at e
  | _, _, _, .tab _ _, e => by simp [keyN] at e
  | _, _, _, .hnd _ _, e => by simp [keyN] at e
  | _, _, _, .scr _, e => by simp [keyN] at e
  | _, _, _, .any, e => by simp [keyN] at e
  | _, _, _, .err0, e => by simp [keyN] at e
  | _, _, _, .err1 _ _, e => by simp [keyN] at e
  | _, _, _, .fn _ _, e => by simp [keyN] at e
theorem RlL.kys : ∀ {vs : List V} {ds : List Dt} {ks : List NestedKey}, RlL K c H vs ds → keyNs ds = some ks → KyL K H vs ks ∧ nkBs ks = true
  | _, _, _, .nil, e => by rw [keyNs] at e; cases e; exact ⟨.nil, rfl⟩
  | _, _, _, .cons h t, e => by
    rw [keyNs] at e
    split at e
    · rename_i k ks e1 e2
      cases e
      obtain ⟨h1, h2⟩ := Rl.ky h e1
      obtain ⟨h3, h4⟩ := RlL.kys t e2
      exact ⟨.cons h1 h3, by rw [nkBs, h2, h4]; rfl⟩
    · cases e
end
/-- a tuple as a key, of a depth that can be asked -/
def keyT (d : Dt) : Option NestedKey := match d with
  | .tup l => match keyNs l with
    | some ks => if (NestedKey.tup ks).depth ≤ 8 then some (.tup ks) else none
    | none => none
  | _ => none
theorem Rw.keyT {x : V} {d : Dt} {k : NestedKey} (h : Rw K c H x d) (e : Tk.keyT d = some k) : ∃ b, x = .ref b ∧ Ky K H (.ref b) k ∧ nkB k = true ∧ k.depth ≤ 8 := by
  unfold Tk.keyT at e
  split at e
  · split at e
    · rename_i l _ ks hk
      split at e
      · rename_i hd
        cases e
        obtain ⟨a, xs, rfl, h1, t⟩ := h.tup
        obtain ⟨h2, h3⟩ := t.kys hk
        exact ⟨a, rfl, .tup h1 h2, by rw [nkB]; exact h3, hd⟩
      · cases e
    · cases e
  · cases e
def getN (d k : Dt) : Option (Option V) := match d with
  | .dN kvs => (keyT k).map fun k => valV kvs k
  | _ => none
theorem Rw.getN {x y : V} {d e : Dt} {o : Option V} (hx : Rw K c H x d) (hy : Rw K c H y e) (h : Tk.getN d e = some o) : ∃ a, x = .ref a ∧ NGet K H a y o ∧ ∀ v, o = some v → scB v = true := by
  unfold Tk.getN at h
  split at h
  · rename_i kvs
    obtain ⟨k, hk, rfl⟩ := Option.map_eq_some_iff.mp h
    obtain ⟨a, xs, rfl, ha, hr, hs⟩ := hx.dN
    obtain ⟨b, rfl, hb, _, hd⟩ := hy.keyT hk
    refine ⟨a, rfl, ⟨kvs, xs, k, b, ha, hr, rfl, hb, hd, rfl⟩, fun v hv => ?_⟩
    unfold valV at hv
    obtain ⟨p, hp, rfl⟩ := Option.map_eq_some_iff.mp hv
    exact List.all_eq_true.mp hs p (List.mem_of_find?_eq_some hp)
  · cases h
end
def inN (x d : Dt) : Option Dt := (getN d x).map fun o => .bl o.isSome
def ixNk (d k : Dt) : Option Dt := match getN d k with
  | some (some v) => some (ofV v)
  | _ => none
section
variable {K : PySem.W.Frag} {κ : Kt} {mu : List Nat} {W : WX} {te : TE} {me : ME}
theorem om_inN : OpM K (rInN K) inN := by
  intro c H x y d e z Q ok hx hy hz q
  obtain ⟨o, ho, rfl⟩ := Option.map_eq_some_iff.mp hz
  obtain ⟨a, rfl, g, _⟩ := hy.getN hx ho
  exact ⟨a, o, rfl, g, q _ _ Fh.refl (.bl _)⟩
theorem om_ixN : OpM K (rIxN K) ixNk := by
  intro c H x y d e z Q ok hx hy hz q
  unfold ixNk at hz
  split at hz
  · rename_i v e
    cases hz
    obtain ⟨a, rfl, g, hs⟩ := hx.getN hy e
    exact ⟨a, v, rfl, g, q v H Fh.refl (.ofV (hs v rfl))⟩
  · cases hz
theorem rc_dN {i : Nat} (hi : i ∈ mu) : RC κ mu W i tDNewN (mC (.dN [])) := by
  intro c M σ ρ H Q S w p n
  have np := new_av S.ok n
  exact w _ _ _ (Fh.new n) (.inr ⟨hi, [p], new1 n, rfl, own1 np, .dN upd_same .nil rfl⟩)
def mSetN (i : Nat) (k v : ME) : MS := fun ρ => mAtt (v ρ) ρ fun d => match ρ[i]? with
  | some (some (.dN kvs)) => mAtt (k ρ) ρ fun e => ofO (keyT e) >>= fun n => ofO d.v? >>= fun v => if kvs.length < 16777216 then .ret (.nx (ρ.set i (some (.dN (putK kvs n v))))) else .bad
  | _ => .bad
theorem MutAt.dN {c : Cn} {H : Hp} {fp : List Addr} {v : V} {kvs : List (NestedKey × V)} (h : MutAt K c H fp v (.dN kvs)) : ∃ p xs, fp = [p] ∧ v = .ref p ∧ H p = some (NatO p xs) ∧ NatR K H kvs xs ∧ (kvs.all fun q => scB q.2) = true := by
  obtain ⟨_, h⟩ := h
  cases h with
  | dN h r t => exact ⟨_, _, rfl, rfl, h, r, t⟩
theorem nat_put {H : Hp} {p : Addr} {xs : List (NestedKey × Addr × Value)} {o : HO} (h : H p = some (NatO p xs)) : Fr [p] H (upd H p o) :=
  Fr.put h (fun _ z => by unfold NatO at z; cases z) (fun _ _ z => by unfold NatO at z; cases z) (by simp) (fun _ z => by unfold NatO at z; cases z) (fun q => nat_ne_code q) (fun _ z => by unfold NatO at z; cases z)
theorem rs_setN {i : Nat} {tk : TE} {mk : ME} (hi : i ∈ mu) (hk : RO κ mu W tk mk) (h : RE κ mu W te me) : RS κ mu W (tAsg te (gSub (tVar i) tk (rSetN κ.K))) (mSetN i mk me) := by
  intro c M σ ρ H D S w
  refine h c M σ ρ H _ S (wp0_mono (wp0_mAtt w) (fun d w v H1 F r => ?_) fun x f q => Post.xw S q)
  have S1 := S.fh F
  split at w
  · rename_i kvs e
    obtain ⟨v0, h1, q⟩ := S1.mut hi e
    refine ⟨_, h1, ?_⟩
    refine hk c M σ ρ H1 _ S1 (wp0_mono (wp0_mAtt w) (fun d2 w v2 H2 G r2 => ?_) fun x f q e' H' F2 i => Post.xw S q e' H' (F.trans F2) i)
    obtain ⟨n, hn, w⟩ := wp0_ofO (wp0_bind.mp w)
    obtain ⟨u, hu, w⟩ := wp0_ofO (wp0_bind.mp w)
    split at w
    · rename_i hl
      have q2 := q.fh G
      obtain ⟨p, xs, hfp, rfl, hy, hr, hs⟩ := q2.dN
      obtain ⟨b, rfl, hb, hpl, hd⟩ := r2.keyT hn
      obtain ⟨rfl, _⟩ := Rw.v (.inl r) hu
      refine ⟨p, kvs, xs, n, b, rfl, hy, hr, rfl, hb, hpl, hd, by rw [sizeLine_eq]; exact hl, fun u' ru => ?_⟩
      have F3 : Fr [p] H2 (upd H2 p (NatO p (storedH xs n b u'))) := nat_put hy
      obtain ⟨Gs, S2⟩ := (S1.fh G).put (H' := upd H2 p (NatO p (storedH xs n b u'))) hi e h1 (e := .dN (putK kvs n v)) ⟨q2.1, by rw [hfp]; exact .dN upd_same ((hr.put hb hpl hd ru).fr F3) (putK_sc hs (v_sc hu))⟩ (by rw [hfp]; exact F3)
      exact w c M σ _ (Fs.trans Lk.refl (F.trans G).fs Gs) Lk.refl S2
    · exact w.elim
  · exact w.elim
@[simp] theorem x_setN {i : Nat} {a v : ME} {ρ : Ev} : mSetN i a v ρ = (mAtt (v ρ) ρ fun d => match ρ[i]? with
  | some (some (.dN kvs)) => mAtt (a ρ) ρ fun e => ofO (keyT e) >>= fun n => ofO d.v? >>= fun v => if kvs.length < 16777216 then .ret (.nx (ρ.set i (some (.dN (putK kvs n v))))) else .bad
  | _ => .bad) := rfl
end
end Tk

end

section
/-! own facts and hook with tables of code objects; a law's end with them -/
namespace Tk
open PySem PySem.Spec PyProof.Rows L2 LamX
open He (ga ma eqO eqO_ok ba)
/-- the code object of a global def, its table -/
def cTab (K : PySem.W.Frag) (x : Str) : Addr × Addr := (PySem.W.tabIn K x).getD (0, 0)
def isEmT : Option Obj → Bool
  | some ⟨.none, none, .fields vs, sl⟩ => vs.size == 0 && sl.size == 0
  | _ => false
theorem isEmT_ok {o : Option Obj} (h : isEmT o = true) : o = some { cls := .none, data := .fields #[] } := by
  unfold isEmT at h
  split at h
  · rename_i vs sl
    simp only [Bool.and_eq_true, beq_iff_eq] at h
    have e1 := Array.size_eq_zero_iff.mp h.1
    have e2 := Array.size_eq_zero_iff.mp h.2
    rw [e1, e2]
  · cases h
def isTb : Option Obj → Bool
  | some ⟨.none, _, .fields _, _⟩ => true
  | _ => false
def cdHB (K : PySem.W.Frag) (c Pt : Addr) : Bool := match K.lookup c with
  | some ⟨.type n, _, .fields vs, _⟩ => n == "code" && (match (vs[11]? : Option Value), vs.getD 11 .none, vs.getD 18 .none, vs.getD 7 .none, vs.getD 9 .none, vs.getD 10 .none with
    | some (.ref a), .ref b, .str _ _, .int _ _, .bool _, .int _ _ => a == Pt && (b == Pt && !(c == Pt))
    | _, _, _, _, _, _ => false)
  | _ => false
theorem cdHB_ok {K : PySem.W.Frag} {h : Heap} {c Pt : Addr} (X : K.In h) (q : cdHB K c Pt = true) : PySem.W.CodeHd h c Pt := by
  unfold cdHB at q
  split at q
  · rename_i n od vs osl ho
    obtain ⟨q1, q2⟩ := ba q
    split at q2
    · rename_i a b x1 x2 y1 y2 z1 u1 u2 e1 e2 e3 e4 e5 e6
      obtain ⟨q3, q4⟩ := ba q2
      obtain ⟨q5, q6⟩ := ba q4
      have ea := eq_of_beq q3
      have eb := eq_of_beq q5
      subst ea
      rw [eb] at e2
      exact ⟨_, vs, x1, x2, y1, y2, z1, u1, u2, X _ _ ho, congrArg Value.type (eq_of_beq q1), rfl, e1, e2, e3, e4, e5, e6, by simpa using q6⟩
    · cases q2
  · cases q
/-- what is looked at of the def x: its code object, its empty table that is none of K's -/
def tabFB (g : Addr → Option Obj) (K : PySem.W.Frag) (x : Str) : Bool := (PySem.W.tabIn K x).isSome && ((K.lookup (cTab K x).2).isNone && (isEmT (g (cTab K x).2) && cdHB K (cTab K x).1 (cTab K x).2))
def TabFact (h : Heap) (K : PySem.W.Frag) (x : Str) : Prop := PySem.W.tabIn K x = some (cTab K x) ∧ K.lookup (cTab K x).2 = none ∧ h.get? (cTab K x).2 = some { cls := .none, data := .fields #[] } ∧ PySem.W.CodeHd h (cTab K x).1 (cTab K x).2
theorem tabFB_ok {h : Heap} {K : PySem.W.Frag} {x : Str} (X : K.In h) (q : tabFB h.get? K x = true) : TabFact h K x := by
  obtain ⟨q1, q⟩ := ba q
  obtain ⟨q2, q⟩ := ba q
  obtain ⟨q3, q4⟩ := ba q
  refine ⟨?_, by simpa using q2, isEmT_ok q3, cdHB_ok X q4⟩
  unfold cTab
  cases e : PySem.W.tabIn K x with
  | none => rw [e] at q1; cases q1
  | some p => rfl
def asT (g : Addr → Option Obj) (n : Nat) : List Addr := (asO g n).filter fun a => !isTb (g a)
abbrev AlT : Type := Bool × AlO
def obsTG (n : Nat) (fa : List He.Fa) (fn : List He.DefD) (da : List DefA) (more : PySem.W.Frag → List Bool) (ts : List Str) (g : Addr → Option Obj) : AlT :=
  (ts.all (tabFB g (He.frG g (asT g n))) && decide (ts.map fun x => (cTab (He.frG g (asT g n)) x).2).Nodup, obsO fa fn da more (He.frG g (asT g n)))
def TabsFact (ts : List Str) (h : Heap) (K : PySem.W.Frag) : Prop := (∀ x ∈ ts, TabFact h K x) ∧ (ts.map fun x => (cTab K x).2).Nodup
def hookT (n : Nat) (fa : List He.Fa) (fn : List He.DefD) (da : List DefA) (more : PySem.W.Frag → List Bool) (ts : List Str) : PySem.W.Hook where
  α := AlT
  obs := fun s => obsTG n fa fn da more ts s.heap.get?
  val := fun _ => (true, valO fn da)
  says := fun _ h => ∃ K : PySem.W.Frag, K.In h ∧ SaysO fa fn da more K ∧ TabsFact ts h K
  of := fun _ s e => by
    have e1 : (ts.all (tabFB s.heap.get? (He.frG s.heap.get? (asT s.heap.get? n))) && decide (ts.map fun x => (cTab (He.frG s.heap.get? (asT s.heap.get? n)) x).2).Nodup) = true := congrArg Prod.fst e
    obtain ⟨e2, e3⟩ := ba e1
    exact ⟨_, He.frG_in, congrArg Prod.snd e, fun x hx => tabFB_ok He.frG_in (List.all_eq_true.mp e2 x hx), of_decide_eq_true e3⟩
  keeps := fun _ _ _ ⟨K, hK, c, t, nd⟩ k => ⟨K, PySem.W.Frag.In.keeps hK k, c, fun x hx => let ⟨h1, h2, h3, h4⟩ := t x hx; ⟨h1, h2, k _ _ h3, h4.keeps k⟩, nd⟩
theorem obsTG_eq {n : Nat} {fa : List He.Fa} {fn : List He.DefD} {da : List DefA} {more : PySem.W.Frag → List Bool} {ts : List Str} {g : Addr → Option Obj} {s : Shared} (h : ∀ a, g a = s.heap.get? a) : obsTG n fa fn da more ts g = (hookT n fa fn da more ts).obs s := by
  have e : g = s.heap.get? := funext h
  rw [e] <;> rfl
/-- the end of a law with tables -/
theorem walk_ofTE {l : PySem.W.OpenLaw} {n k : Nat} {q : Program} {loose : List Str} {XP : (Str → Option Value) → Heap → Prop} {YP : World → Heap → Prop} {d : DefRec} {CX : CXT} {x : Str}
    (hn : l.most = some n) (hn2 : n ≤ sizeLine) (hdf : d.params.defaults = []) (hr : Room k callerA)
    (F : ∀ (w : World) (mg : Str → Option Value) (fa : Addr) (h : Heap), YP w h → h.Ns mainGlobals mg → mg d.name = some (.ref fa) →
      ∃ (K : PySem.W.Frag) (fd : FuncData) (cs : List (Addr × Addr)) (sp : Sp), K.In h ∧ (∀ p ∈ cs, h.get? p.2 = some { cls := .none, data := .fields #[] }) ∧ (∀ p ∈ cs, K.lookup p.2 = none) ∧ (∀ p ∈ cs, PySem.W.CodeHd h p.1 p.2) ∧ (∀ (s : Shared) (u : Value), BindsTo s fd ⟨[u], []⟩ [(x, u)]) ∧
        (∀ (H : Hp) (a : Addr) (ns : List Int), ns.length ≤ n → (∀ p ∈ cs, H p.2 = some (.tbl #[])) → SqL K H a (ns.map V.int) → sp [.ref a] H (fun v _ => v = .bl true) fun _ _ _ => False) ∧
        ∀ base : Heap, K.In base → base.Ns mainGlobals mg → (∀ p ∈ cs, TabB base mg p.1 p.2) → FnOk l.prog w K mg base CX k fa fd [x] sp)
    (hCX : ∀ (H : Hp) (s : Shared) (e : Value) (s' : Shared), CX [] H s (fun _ _ _ => False) e s' → False) :
    PySem.W.WalkO q loose XP YP l.row.toRowW d [] (fun f vs => PySem.call f vs) := by
  refine Att.attach_callB hn hdf fun w s₀ s₁ mg mb fa o pm cd doc a vs ns G Y ho hd hcd hmg hobj hints hlen hbits hg => ?_
  obtain ⟨K, fd, cs, sp, KX, hT, nT, C, hb, hsp, hF⟩ := F w mg fa _ Y G.T.g hmg
  exact law_callTs KX G.T.g G.T.b G.T.builtins G.T.nolimit hg hT nT C G.T.bmain hobj hints (Nat.le_trans hlen hn2) hr hF hb (fun H hH hS => hsp H a ns hlen hH hS) fun H e s' => hCX H s₁ e s'
/-- a def in which lambdas are made: its code object is known -/
theorem ok_mkT {P : Program} {w : World} {K : PySem.W.Frag} {mg : Str → Option Value} {base : Heap} {x : Str} {st : Stmt} {N ps : List Str} {k : Nat} {sp : Sp} {t : XK → TS}
    (F : ∃ fd, FunD K x x (defArgs st) (defBody st) (defScope st) [] [] (He.fAd K (x, none)) fd) (hm : mg x = some (.ref (He.ga K x))) (S : FnScope N ps (defScope st)) (ht : PySem.W.tabIn K x = some (cTab K x))
    (hb : ∀ (kV doc pm : Value) (an : Option Addr) (cdv ct : Value) (us : List Value), us.length = ps.length → bindArgs (PySem.W.fnOf x x (defArgs st) (defBody st) (defScope st) .none kV doc pm an cdv ct) ⟨us, []⟩ = pure (ps.zip us))
    (hd : ∀ (A : Around) (outer : List Env) (s : Shared) (H : Hp) (E : XK), Room k (A.deeper (envOfC x (defScope st) s.heap.objs.size (He.ga K x) (.ref (cTab K x).1))) → PSs (cxOf (L2.CX P w) P w K mg base N x (defScope st) (He.ga K x) (.ref (cTab K x).1) A outer s H E) (defBody st) (t E))
    (hp : ∀ (vs : List V) (H : Hp) (Q : VK) (E : XK), vs.length = ps.length → sp vs H Q E → t E { nx := fun _ H' => Q .non H', rt := Q } (start N vs) H) : Ok P w K mg base x (k + 1) ps (spL ps.length sp) := by
  obtain ⟨fd, F⟩ := F
  have hbn := FunD.bindsN F hb
  have kp := F.kp
  obtain ⟨oc, od, dV, kV, doc, pm, an, cdv, ct, osl, rfl, lk, hcd, _, _⟩ := F.ex
  have lk' : K.lookup (He.ga K x) = some ⟨oc, od, .func (PySem.W.fnOf x x (defArgs st) (defBody st) (defScope st) dV kV doc pm an cdv ct), osl⟩ := lk
  have ec : cdv = .ref (cTab K x).1 := by
    generalize hz : cTab K x = z at ht
    obtain ⟨c, Pt⟩ := z
    unfold PySem.W.tabIn at ht
    split at ht
    · rename_i f hf
      have eg : He.ga K x = f := by unfold He.ga; rw [hf]
      rw [eg] at lk'
      split at ht
      · rename_i q1 q2 fd q3 hfo
        rw [lk'] at hfo
        cases hfo
        split at ht
        · rename_i c2 hc
          split at ht
          · split at ht
            · cases ht
              exact hc
            · cases ht
          · cases ht
        · cases ht
      · cases ht
    · cases ht
  subst ec
  refine ⟨_, fn_of lk hcd S (fun vs H Q E h => h.1) (fun A outer s H vs Q E hr h => ⟨t E, hd A outer s H E hr, hp vs H Q E h.1 h.2⟩), kp, hbn, hm⟩
end Tk

end

section
/-! comprehensions of two sources -/
namespace Tk
open PySem PySem.Spec L2 RZ
section
variable {κ : Kt} {mu : List Nat} {W : WX}
def lc2Go (mg : MG) (mt : MB) (mi1 : MI) (mg1 : MG) (mt1 : MB) (me : ME) (vs1 : List Nat) (ρ : Ev) : List Dt → Pm (List Dt)
  | [] => .ret []
  | d :: l => mg d ρ >>= fun ρ1 => mt ρ1 >>= fun b => if b = true then mi1 ρ1 >>= fun l1 => if l1.length ≤ 4000 then lcGo mg1 mt1 me (wipeD ρ1 vs1) l1 >>= fun ys => lc2Go mg mt mi1 mg1 mt1 me vs1 ρ l >>= fun zs => .ret (ys ++ zs) else .bad else lc2Go mg mt mi1 mg1 mt1 me vs1 ρ l
def mLc2 (mi : MI) (mg : MG) (mt : MB) (mi1 : MI) (mg1 : MG) (mt1 : MB) (me : ME) (vs vs1 : List Nat) : ME := fun ρ => mi ρ >>= fun l => if l.length ≤ 4000 then (lc2Go mg mt mi1 mg1 mt1 me vs1 (wipeD ρ vs) l).nox >>= fun ds => .ret (.lst ds) else .bad
/-- D alone is changed -/
def Fd (c : Cn) (D : Addr) (H H' : Hp) : Prop := FrG c.P (D :: c.hd) H H' ∧ ∀ a l, c.h.d = some (a, l) → Drw H a l → Drw H' a l
theorem Fd.refl {c : Cn} {D : Addr} {H : Hp} : Fd c D H H := ⟨FrG.refl, fun _ _ _ h => h⟩
theorem Fd.trans {c : Cn} {D : Addr} {H H1 H2 : Hp} (F : Fd c D H H1) (G : Fd c D H1 H2) : Fd c D H H2 := ⟨F.1.trans G.1, fun a l e h => G.2 a l e (F.2 a l e h)⟩
theorem Fh.fd {c : Cn} {D : Addr} {H H1 : Hp} (F : Fh c H H1) : Fd c D H H1 := ⟨F.1.mono fun _ h => List.mem_cons_of_mem _ h, F.2⟩
theorem Fd.fm {c : Cn} {D : Addr} {H H1 : Hp} (F : Fd c D H H1) (h : D ∈ c.av) : Fm c H H1 := ⟨F.1.mono fun b hb => by
  rcases List.mem_cons.mp hb with e | hb
  · rw [e]; exact h
  · exact Cn.hd_av hb, F.2⟩
theorem Sl.fd {c : Cn} {D : Addr} {M : Nat → List Addr} {H H' : Hp} {σ : L2.St} {ρ : Ev} (S : Sl κ mu c M H σ ρ) (F : Fd c D H H') (h : D ∈ c.S) : Sl κ mu c M H' σ ρ :=
  ⟨S.len, fun b hb => F.1.dom b (S.ok b hb), fun i d e => let ⟨v, h1, h2, h3⟩ := S.at_ i d e
    ⟨v, h1, fun m => (h2 m).fm F.1 (F.fm (Cn.S_av h)) fun b hb z => by
      have q := (h2 m).1 b hb
      rcases List.mem_cons.mp z with z | z
      · exact q.2.1 (by rw [z]; exact h)
      · exact q.2.2 z, fun m => (h3 m).fm (F.fm (Cn.S_av h))⟩, S.dist, fun p hp => F.1.tbs _ _ (show (p.1, p.2) ∈ c.h.T by rw [S.hT]; exact hp) (S.tb p hp), S.hT⟩
theorem re_lc2 {wi wi1 : TI} {mi mi1 : MI} {g g1 : TG} {mg mg1 : MG} {tt tt1 : TT} {mt mt1 : MB} {te : TE} {me : ME} {vs ws vs1 ws1 : List Nat} (hi : RI κ mu W false wi mi) (hg : RG κ mu ws g mg) (hw : ∀ i ∈ ws, i ∈ vs) (ht : RT κ mu (fun _ _ _ _ => False) tt mt)
    (hi1 : RI κ mu (fun _ _ _ _ => False) true wi1 mi1) (hg1 : RG κ mu ws1 g1 mg1) (hw1 : ∀ i ∈ ws1, i ∈ vs1) (ht1 : RT κ mu (fun _ _ _ _ => False) tt1 mt1) (he : RE κ mu (fun _ _ _ _ => False) te me) :
    RE κ mu W (tLc2 wi g tt wi1 g1 tt1 te vs vs1) (mLc2 mi mg mt mi1 mg1 mt1 me vs vs1) := by
  intro c M σ ρ H Q S w
  refine hi c M σ ρ H _ S (wp0_mono (wp0_bind.mp w) (fun l w J H1 F wk => ?_) fun _ _ h => h)
  split at w
  rotate_left
  · exact w.elim
  rename_i hlen
  intro D nD
  have w := wp0_nox.mp (wp0_bind.mp w)
  have S1 := S.fh F
  let c1 : Cn := (c.addLs [D]).add D
  have n1 : ∀ b ∈ [D], H1 b = none := fun b hb => by rw [List.mem_singleton.mp hb]; exact nD
  have av1 : ∀ b, b ∈ c1.av ↔ b = D ∨ b ∈ c.av := fun b => by
    show b ∈ ((c.addLs [D]).add D).av ↔ _
    rw [Cn.add_av, Cn.addLs_av, List.mem_singleton]
    exact ⟨fun h => by rcases h with h | h | h <;> simp [h], fun h => by rcases h with h | h <;> simp [h]⟩
  have to1 : ∀ b o, H1 b = some o → b ∉ c.av → b ∉ c1.av := fun b o h nb m => by
    rcases (av1 b).mp m with e | m
    · rw [e, nD] at h; cases h
    · exact nb m
  have nw : Nw c c1 H1 := ⟨rfl, to1⟩
  have DL : D ∈ c1.L := List.mem_append_left _ (List.mem_singleton.mpr rfl)
  have DS : D ∈ c1.S := List.mem_cons_self ..
  have nDh : D ∉ c.hd := fun z => S1.ok D (Cn.hd_av z) nD
  have okD : ∀ {H' : Hp}, Fh c H1 H' → H' D ≠ none → ∀ b ∈ c1.av, H' b ≠ none := fun {H'} F' hD b hb => by
    rcases (av1 b).mp hb with rfl | hb
    · exact hD
    · exact F'.1.dom b (S1.ok b hb)
  have wkD := wk c1 nw
  have hfr : ∀ {H' : Hp}, Fh c H1 H' → FrG c.P ((if false = true then c.L else []) ++ c.hd) H1 H' := fun F' => F'.1.mono fun b hb => by simpa using hb
  have SD : ∀ {H' : Hp}, Fh c H1 H' → H' D ≠ none → Sl κ mu c1 M H' σ ρ := fun {H'} F' hD => by
    refine ⟨S.len, okD F' hD, fun j d h => ?_, S.dist, fun p hp => F'.1.tbs _ _ (show (p.1, p.2) ∈ c.h.T by rw [S.hT]; exact hp) (S1.tb p hp), S.hT⟩
    obtain ⟨v, h1, h2, h3⟩ := S1.at_ j d h
    refine ⟨v, h1, fun m => ?_, fun m => (Rl.to (c := c) (c' := c1) rfl to1 (h3 m)).fh (c := c1) F'⟩
    have q := h2 m
    exact MutAt.fh (c := c1) F' (MutAt.to (c := c) (c' := c1) rfl (fun b hb => List.mem_append_right _ (q.1 b hb).1) (fun b hb z => by
      rcases List.mem_cons.mp z with z | z
      · obtain ⟨o, ho⟩ := q.ne b hb
        rw [z, nD] at ho; cases ho
      · exact (q.1 b hb).2.1 z) to1 q)
  let K0 : List Dt → Prop := fun ds => wp0 (Pm.ret (Dt.lst ds) : Pm Dt) (fun d => ∀ v H', Fh c H H' → Rl κ.K c H' v d → Q v H') (Xw κ.K c W σ H)
  let P : Nat → Hp → Prop := fun i H' => Fh c H1 H' ∧ ∃ acc done, H' D = some (.lst acc) ∧ acc.length ≤ 4000 * i ∧ RlL κ.K c1 H' acc done ∧
    wp0 (lc2Go mg mt mi1 mg1 mt1 me vs1 (wipeD ρ vs) (l.drop i)) (fun ys => K0 (done ++ ys)) NoX
  refine ⟨fun i m H' => m = l.length - i ∧ i ≤ l.length ∧ P i H', ⟨l.length, by simp, Nat.zero_le _, Fh.new nD, [], [], upd_same, Nat.le_refl _, .nil, by simpa using w⟩, ?_⟩
  rintro i m H' ⟨rfl, hile, F', acc, done, hD, hacc, racc, w⟩
  have G' : Fm c1 H1 H' := Fh.fm (c := c1) F'
  obtain ⟨go, stop, yld⟩ := wkD _ H' (hfr F') G'
  by_cases hlt : i < l.length
  · refine .inr ⟨go i hlt, P (i + 1), fun H2 p => ⟨l.length - (i + 1), by omega, rfl, hlt, p⟩, fun x H2 y => ?_⟩
    obtain ⟨F2, d, hd, rx⟩ := yld i x H2 hlt y
    have F12 : Fh c H1 H2 := F'.trans (Fh.of0 F2)
    have hD2 := F2.lst0 hD
    have S2 := (SD F12 (by rw [hD2]; exact fun z => by cases z)).wipe vs
    have hdrop : l.drop i = d :: l.drop (i + 1) := by
      rw [List.drop_eq_getElem_cons hlt]
      congr 1
      rw [List.getElem?_eq_getElem hlt] at hd
      exact Option.some.inj hd
    rw [hdrop] at w
    have w := wp0_bind.mp w
    refine hg c1 M _ _ H2 x d _ S2 rx (wp0_mono w (fun ρ2 w σ2 Sg ew => ?_) fun _ _ h => h)
    refine ⟨by rw [ew vs hw, wipe_wipe], ?_⟩
    refine ht c1 M σ2 ρ2 H2 _ Sg (wp0_nx (wp0_mono (wp0_bind.mp w) (fun b w H3 F3 => ?_) fun _ _ h => h))
    have F13 : Fh c H1 H3 := F12.trans F3
    have hD3 := F3.1.lst nDh hD2
    have racc3 : RlL κ.K c1 H3 acc done := (racc.fh (Fh.of0 F2)).fh F3
    cases b with
    | true =>
      refine hi1 c1 M σ2 ρ2 H3 _ (Sg.fh F3) (wp0_nx (wp0_mono (wp0_bind.mp w) (fun l1 w J1 H4 F4 wk1 => ?_) fun _ _ h => h))
      split at w
      rotate_left
      · exact w.elim
      rename_i hlen1
      have F14 : Fh c H1 H4 := F13.trans F4
      have hD4 := F4.1.lst nDh hD3
      have Sg4 := (Sg.fh F3).fh F4
      have wkc := wk1 c1 ⟨rfl, fun _ _ _ n => n⟩
      let P1 : Nat → Hp → Prop := fun j H' => Fh c H1 H' ∧ Fd c1 D H4 H' ∧ ∃ acc done, H' D = some (.lst acc) ∧ acc.length ≤ 4000 * i + j ∧ RlL κ.K c1 H' acc done ∧
        wp0 (lcGo mg1 mt1 me (wipeD ρ2 vs1) (l1.drop j)) (fun ys => wp0 (lc2Go mg mt mi1 mg1 mt1 me vs1 (wipeD ρ vs) (l.drop (i + 1))) (fun zs => K0 (done ++ (ys ++ zs))) NoX) NoX
      have w0 : wp0 (lcGo mg1 mt1 me (wipeD ρ2 vs1) (l1.drop 0)) (fun ys => wp0 (lc2Go mg mt mi1 mg1 mt1 me vs1 (wipeD ρ vs) (l.drop (i + 1))) (fun zs => K0 (done ++ (ys ++ zs))) NoX) NoX :=
        wp0_mono (wp0_bind.mp w) (fun ys q => wp0_mono (wp0_bind.mp q) (fun zs q => q) fun _ _ h => h) fun _ _ h => h
      refine ⟨fun j k H' => k = l1.length - j ∧ j ≤ l1.length ∧ P1 j H', ⟨l1.length, by simp, Nat.zero_le _, F14, Fd.refl, acc, done, hD4, by omega, racc3.fh F4, w0⟩, ?_⟩
      clear w w0
      rintro j k H5 ⟨rfl, hjle, F15, Fd5, acc5, done5, hD5, hacc5, racc5, w⟩
      obtain ⟨go1, stop1, yld1⟩ := wkc _ H5 (Fd5.1.mono fun b hb => by
        rcases List.mem_cons.mp hb with e | hb
        · rw [e]; exact List.mem_append_left _ DL
        · exact List.mem_append_right _ hb) (Fd5.fm (Cn.S_av DS))
      by_cases hlt1 : j < l1.length
      · refine .inr ⟨go1 j hlt1, P1 (j + 1), fun H6 p => ⟨l1.length - (j + 1), by omega, rfl, hlt1, p⟩, fun x1 H6 y1 => ?_⟩
        obtain ⟨F6, d1, hd1, rx1⟩ := yld1 j x1 H6 hlt1 y1
        have F16 : Fh c H1 H6 := F15.trans (Fh.of0 F6)
        have hD6 := F6.lst0 hD5
        have Fd6 : Fd c1 D H4 H6 := Fd5.trans (Fh.fd (Fh.of0 F6))
        have S6 := (Sg4.fd Fd6 DS).wipe vs1
        have hdrop1 : l1.drop j = d1 :: l1.drop (j + 1) := by
          rw [List.drop_eq_getElem_cons hlt1]
          congr 1
          rw [List.getElem?_eq_getElem hlt1] at hd1
          exact Option.some.inj hd1
        rw [hdrop1] at w
        have w := wp0_bind.mp w
        refine hg1 c1 M _ _ H6 x1 d1 _ S6 rx1 (wp0_mono w (fun ρ3 w σ3 Sg3 ew1 => ?_) fun _ _ h => h)
        refine ⟨by rw [ew1 vs1 hw1, wipe_wipe], ?_⟩
        refine ht1 c1 M σ3 ρ3 H6 _ Sg3 (wp0_nx (wp0_mono (wp0_bind.mp w) (fun b w H7 F7 => ?_) fun _ _ h => h))
        have F17 : Fh c H1 H7 := F16.trans F7
        have hD7 := F7.1.lst nDh hD6
        have racc7 : RlL κ.K c1 H7 acc5 done5 := (racc5.fh (Fh.of0 F6)).fh F7
        have Fd7 : Fd c1 D H4 H7 := Fd6.trans (Fh.fd F7)
        cases b with
        | true =>
          refine he c1 M σ3 ρ3 H7 _ (Sg3.fh F7) (wp0_nx (wp0_mono (wp0_bind.mp w) (fun e w v H8 F8 re => ?_) fun _ _ h => h))
          have F18 : Fh c H1 H8 := F17.trans F8
          have hD8 := F8.1.lst nDh hD7
          have rac8 : RlL κ.K c1 H8 acc5 done5 := racc7.fh F8
          have FD : Fr [D] H8 (upd H8 D (.lst (acc5 ++ [v]))) := Fr.put hD8 (fun _ z => by cases z) (fun _ _ z => by cases z) (by simp)
          have dr : ∀ a l', c.h.d = some (a, l') → Drw H8 a l' → Drw (upd H8 D (.lst (acc5 ++ [v]))) a l' := fun a l' e h => h.fr FD (fun z => nDh (by
            have := List.mem_singleton.mp z
            rw [← this]; unfold Cn.hd; rw [e]; simp)) fun z => nDh (by
            have := List.mem_singleton.mp z
            rw [← this]; unfold Cn.hd; rw [e]; simp)
          have F19 : Fh c H1 (upd H8 D (.lst (acc5 ++ [v]))) := ⟨FrG.over nD F18.1 (FD.weak.mono fun b hb => by rw [List.mem_singleton.mp hb]; exact List.mem_cons_self ..), fun a l' e h => dr a l' e (F18.2 a l' e h)⟩
          have FdU : Fd c1 D H8 (upd H8 D (.lst (acc5 ++ [v]))) := ⟨FD.weak.mono fun b hb => by rw [List.mem_singleton.mp hb]; exact List.mem_cons_self .., dr⟩
          refine ⟨acc5, hD8, by rw [sizeLine_eq]; omega, F19, (Fd7.trans (Fh.fd F8)).trans FdU, acc5 ++ [v], done5 ++ [e], upd_same, by rw [List.length_append]; simp; omega, (rac8.snoc re).fm (FdU.fm (Cn.S_av DS)), ?_⟩
          have w := wp0_bind.mp w
          exact wp0_mono w (fun ys q => wp0_mono q (fun zs q => by rw [List.append_assoc]; exact q) fun _ _ h => h) fun _ _ h => h
        | false =>
          exact ⟨F17, Fd7, acc5, done5, hD7, by omega, racc7, w⟩
      · have e : j = l1.length := by omega
        subst e
        refine .inl ⟨stop1, F15, acc5, done5, hD5, by omega, racc5, ?_⟩
        rw [List.drop_length] at w
        exact w
    | false =>
      exact ⟨F13, acc, done, hD3, by omega, racc3, w⟩
  · have e : i = l.length := by omega
    subst e
    refine .inl ⟨stop, ?_⟩
    rw [List.drop_length] at w
    have q : ∀ v H'', Fh c H H'' → Rl κ.K c H'' v (.lst (done ++ [])) → Q v H'' := w
    rw [List.append_nil] at q
    exact q _ H' (F.trans F') (.lst hD (fun z => S1.ok D z nD) (RlL.to (c := c1) (c' := c) rfl (to_sub fun b m => (av1 b).mpr (.inr m)) racc))
end
end Tk

end

section
/-! defs with one keyword-only parameter -/
namespace Tk
open PySem PySem.Spec L2 RZ
open PyProof.Rows (envOfC)
/-- three places, one keyword -/
def OkKw (P : Program) (w : World) (K : PySem.W.Frag) (mg : Str → Option Value) (base : Heap) (x : Str) (k : Nat) (ps : List Str) (kn : Str) (dv : V) (sp : Sp) : Prop :=
  ∃ fd, FnOk P w K mg base (L2.CX P w) k (He.ga K x) fd ps sp ∧ PySem.W.keepIn K (.ref (He.ga K x)) = true ∧ KBn K fd ps 3 [kn] (fun us ws => us ++ ws) (fun vs zs => vs ++ zs) ∧ (∃ ds, Vals [dv] ds ∧ Binds K fd ps ds) ∧ mg x = some (.ref (He.ga K x))
def tKw (sp : Sp) (E : L2.St → XK) (t tk : TA) : TE := fun σ H Q => t σ H fun vs H1 => tk σ H1 fun zs H2 => vs.length = 3 ∧ zs.length = 1 ∧ sp (vs ++ zs) H2 Q (E σ)
theorem tKw_eq {sp : Sp} {E : L2.St → XK} {a b c d : TE} : tKw sp E (tCons a (tCons b (tCons c tNil))) (tCons d tNil) = tCallS sp E (tCons a (tCons b (tCons c (tCons d tNil)))) := by
  funext σ H Q
  simp [tKw, tCallS, tCons, tNil]
theorem tSD_eq {sp : Sp} {E : L2.St → XK} {a b c : TE} {v : V} : tCallSD sp [v] E (tCons a (tCons b (tCons c tNil))) = tCallS sp E (tCons a (tCons b (tCons c (tCons (tC v) tNil)))) := rfl
section
variable {X : Cx} {W : WX} {k : Nat} {ps : List Str} {sp : Sp} {x kn : Str} {dv : V} {p pos kpos : Pos} {e1 e2 e3 e4 : Expr} {t1 t2 t3 t4 : TE} {f : Addr} {fd : FuncData} {E : XK}
theorem run_fnNS {pins : List (Addr × Obj)} {σ : L2.St} {H : Hp} {s : Shared} {Q : VK} {us ws : List Value} {vs zs : List V} {n : Nat} {ks : List Str} {g : List Value → List Value → List Value} {gV : List V → List V → List V} (F : FnOk X.prog X.w X.K X.mg X.base (L2.CX X.prog X.w) k f fd ps sp) (hr : Room k X.A) (hb : KBn X.K fd ps n ks g gV) (hx : PassesAt (L2.CX X.prog X.w) X σ E)
    (I : Inv X pins σ H s) (r : Vals vs us) (rz : Vals zs ws) (l1 : vs.length = n) (l2 : zs.length = ks.length) (h : sp (gV vs zs) H Q E) : wpAny (model X.prog X.w) X.A (call (.ref f) us (ks.zip ws)) (EP X pins σ Q) X.xe s := by
  have r2 := hb.rel r rz
  refine wpAny_call (codeAny_mono (F.run X.A X.stack s H ⟨us, ks.zip ws⟩ (g us ws) (gV vs zs) Q E hr I.env0 (hb.to s us ws I.kIn (r.length.symm.trans l1) (rz.length.symm.trans l2)) r2 h) fun r s' hq => ?_)
  cases r with
  | error e => exact hx pins H s e s' I hq
  | ok fl =>
    cases fl with
    | ret u => exact I.after hq
    | next => exact False.elim hq
    | brk => exact False.elim hq
    | cont => exact False.elim hq
theorem pe_callKw (F : OkKw X.prog X.w X.K X.mg X.base x k ps kn dv sp) (hr : Room k X.A) (hg : Gl X x) (tk : Takes X W)
    (h1 : PE X e1 t1) (h2 : PE X e2 t2) (h3 : PE X e3 t3) (h4 : PE X e4 t4) (ha : ∀ (h : PA X [e1, e2, e3] (tCons t1 (tCons t2 (tCons t3 tNil)))), PA X [e1, e2, e3] (tCons t1 (tCons t2 (tCons t3 tNil))) := by exact fun h => h) (hdb : (x == ("__debug__" : Str)) = false := by decide)
    (s3 : starEach [e3] X.env = (false, eval e3 X.env) :: starEach [] X.env := by rfl) (s2 : starEach [e2, e3] X.env = (false, eval e2 X.env) :: starEach [e3] X.env := by rfl) (he : starEach [e1, e2, e3] X.env = (false, eval e1 X.env) :: starEach [e2, e3] X.env := by rfl)
    (hall : (backToKw pos (keywordEach [⟨some kn, e4, kpos⟩] X.env)).all (·.1.isSome) = true := by rfl) (hks : (backToKw pos (keywordEach [⟨some kn, e4, kpos⟩] X.env)).filterMap (·.1) = [kn] := by rfl)
    (hpl : ((backTo pos (starEach [e1, e2, e3] X.env)).any (·.1) || (backToKw pos (keywordEach [⟨some kn, e4, kpos⟩] X.env)).any (·.1.isNone)) = false := by rfl) :
    PE X (.Call (.Name x p) [e1, e2, e3] [⟨some kn, e4, kpos⟩] pos) (tCallS sp (WE W) (tCons t1 (tCons t2 (tCons t3 (tCons t4 tNil))))) := by
  rw [← tKw_eq]
  have hA : PA X [e1, e2, e3] (tCons t1 (tCons t2 (tCons t3 tNil))) := pa_cons h1 (pa_cons h2 (pa_cons h3 pa_nil s3) s2) he
  have hK : PK X [⟨some kn, e4, kpos⟩] (tCons t4 tNil) := pk_cons h4 pk_nil
  refine ⟨fun pins s σ H Q I h => ?_⟩
  obtain ⟨fd, G, hk, hb, _, hm⟩ := F
  refine wpAny_Call_Name_kw (ld_glob I hg hm ?_ hdb)
  refine PySem.W.callWith_KW (h₀ := X.base) I.ok.mod.kin hk hall (thn (hA.run pos pins s σ H _ I h) fun us s1 ⟨vs, H1, I1, r, q⟩ => ?_) hpl he
  refine thn (hK.run pos pins s1 σ H1 _ I1 q) fun ws s2 ⟨zs, H2, I2, rz, l1, l2, q2⟩ => ⟨I2.kIn, ?_⟩
  rw [hks]
  exact run_fnNS G hr hb (passAt tk σ) I2 r rz l1 l2 q2
theorem pe_callKd (F : OkKw X.prog X.w X.K X.mg X.base x k ps kn dv sp) (hr : Room k X.A) (hg : Gl X x) (tk : Takes X W)
    (h1 : PE X e1 t1) (h2 : PE X e2 t2) (h3 : PE X e3 t3) (hdb : (x == ("__debug__" : Str)) = false := by decide)
    (s3 : starEach [e3] X.env = (false, eval e3 X.env) :: starEach [] X.env := by rfl) (s2 : starEach [e2, e3] X.env = (false, eval e2 X.env) :: starEach [e3] X.env := by rfl) (he : starEach [e1, e2, e3] X.env = (false, eval e1 X.env) :: starEach [e2, e3] X.env := by rfl) (hpl : (backTo pos (starEach [e2, e3] X.env)).any (·.1) = false := by rfl) :
    PE X (.Call (.Name x p) [e1, e2, e3] [] pos) (tCallS sp (WE W) (tCons t1 (tCons t2 (tCons t3 (tCons (tC dv) tNil))))) := by
  rw [← tSD_eq]
  have hA : PA X [e1, e2, e3] (tCons t1 (tCons t2 (tCons t3 tNil))) := pa_cons h1 (pa_cons h2 (pa_cons h3 pa_nil s3) s2) he
  refine ⟨fun pins s σ H Q I h => ?_⟩
  obtain ⟨fd, G, hk, _, ⟨ds, hd, hb⟩, hm⟩ := F
  exact (pe_callSD G hr hg hm hk hb hd (fun σ => passAt tk σ) hA hdb he hpl).run pins s σ H Q I h
end
theorem ok_mkKw {P : Program} {w : World} {K : PySem.W.Frag} {mg : Str → Option Value} {base : Heap} {x kn : Str} {dv : V} {st : Stmt} {N ps : List Str} {k : Nat} {sp : Sp} {t : XK → TS}
    (F : ∃ fd, FunD K x x (defArgs st) (defBody st) (defScope st) [] [(kn, dv)] (He.fAd K (x, none)) fd) (hm : mg x = some (.ref (He.ga K x))) (S : FnScope N ps (defScope st)) (h4 : ps.length = 4)
    (hb : ∀ (kV doc pm : Value) (an : Option Addr) (cdv ct : Value) (us ws : List Value), us.length = 3 → ws.length = 1 → bindArgs (PySem.W.fnOf x x (defArgs st) (defBody st) (defScope st) .none kV doc pm an cdv ct) ⟨us, [kn].zip ws⟩ = pure (ps.zip (us ++ ws)))
    (hb0 : ∀ (D : Addr) (doc pm : Value) (an : Option Addr) (cdv ct : Value) (us ks : List Value), us.length = 3 → ks.length = 1 → KwChain D ([kn].zip ks) (bindArgs (PySem.W.fnOf x x (defArgs st) (defBody st) (defScope st) .none (.ref D) doc pm an cdv ct) ⟨us, []⟩) (ps.zip (us ++ ks)))
    (hd : ∀ (cdv : Value) (A : Around) (outer : List Env) (s : Shared) (H : Hp) (E : XK), Room k (A.deeper (envOfC x (defScope st) s.heap.objs.size (He.ga K x) cdv)) → PSs (cxOf (L2.CX P w) P w K mg base N x (defScope st) (He.ga K x) cdv A outer s H E) (defBody st) (t E))
    (hp : ∀ (vs : List V) (H : Hp) (Q : VK) (E : XK), vs.length = ps.length → sp vs H Q E → t E { nx := fun _ H' => Q .non H', rt := Q } (start N vs) H) : OkKw P w K mg base x (k + 1) ps kn dv (spL ps.length sp) := by
  obtain ⟨fd, F⟩ := F
  refine ⟨fd, FunD.ok F S (fun vs H Q E h => h.1) (fun cdv A outer s H vs Q E hr h => ⟨t E, hd cdv A outer s H E hr, hp vs H Q E h.1 h.2⟩), F.kp, ⟨fun s us ws X l1 l2 => ?_, fun r1 r2 => r1.append r2⟩, FunD.binds0 F 3 (by simp) (by rw [h4]; rfl) hb0, hm⟩
  obtain ⟨oc, od, dV, kV, doc, pm, an, cdv, ct, osl, rfl, lk, hcd, hD, hK⟩ := F.ex
  rcases hD with ⟨_, rfl⟩ | ⟨e, _⟩
  · exact .of_eq (hb kV doc pm an cdv ct us ws l1 l2)
  · exact absurd rfl e
theorem ok_noneM {P : Program} {w : World} {K : PySem.W.Frag} {mg : Str → Option Value} {base : Heap} {x : Str} {st : Stmt} {ps : List Str} {k n : Nat} {κ : Kt} {m : MF}
    (F : ∃ fd, FunD K x x (defArgs st) (defBody st) (defScope st) [] [] (He.fAd K (x, none)) fd) (hm : mg x = some (.ref (He.ga K x)))
    (hb : ∀ (kV doc pm : Value) (an : Option Addr) (cdv ct : Value) (us : List Value), us.length = ps.length → bindArgs (PySem.W.fnOf x x (defArgs st) (defBody st) (defScope st) .none kV doc pm an cdv ct) ⟨us, []⟩ = pure (ps.zip us)) (h0 : ∀ ds, m ds = .bad) :
    Ok P w K mg base x k ps (spL n (spM κ m)) := by
  have no : ∀ vs H Q E, spM κ m vs H Q E → False := fun vs H Q E h => by
    obtain ⟨S, hd, ds, hT, r, ok, tb, w⟩ := h
    rw [h0] at w
    exact w.elim
  obtain ⟨fd, F⟩ := F
  exact ⟨fd, ⟨fun _ _ _ _ h => (no _ _ _ _ h.2).elim, fun _ _ _ _ _ _ _ _ _ _ _ _ _ h => (no _ _ _ _ h.2).elim⟩, F.kp, FunD.bindsN F hb, hm⟩
end Tk

end

section
/-! a pair of lists that grow -/
namespace Tk
open PySem PySem.Spec L2 RZ
section
variable {κ : Kt} {mu : List Nat} {W : WX} {te : TE} {me : ME}
theorem MutAt.two {K : PySem.W.Frag} {c : Cn} {H : Hp} {fp : List Addr} {v : V} {l m : List Dt} (h : MutAt K c H fp v (.two l m)) : ∃ t p q xs ys, fp = [p, q] ∧ v = .ref t ∧ SqT K H t [.ref p, .ref q] ∧ p ≠ q ∧ H p = some (.lst xs) ∧ RlL K c H xs l ∧ H q = some (.lst ys) ∧ RlL K c H ys m := by
  obtain ⟨_, h⟩ := h
  cases h with
  | two h e h1 r1 h2 r2 => exact ⟨_, _, _, _, _, rfl, rfl, h, e, h1, r1, h2, r2⟩
theorem rc_two {i : Nat} (hi : i ∈ mu) : RC κ mu W i (tTup (tCons (tLst tNil) (tCons (tLst tNil) tNil))) (mC (.two [] [])) := by
  intro c M σ ρ H Q S w
  refine ⟨by rw [sizeLine_eq]; decide, fun p np => ⟨by rw [sizeLine_eq]; decide, fun q nq => ⟨by rw [sizeLine_eq]; show 2 ≤ _; decide, fun t nt => ?_⟩⟩⟩
  have hqp : q ≠ p := fun e => by rw [e, upd_same] at nq; cases nq
  have nq0 : H q = none := by rw [upd_ne hqp] at nq; exact nq
  have htp : t ≠ p := fun e => by rw [e, upd_ne hqp.symm, upd_same] at nt; cases nt
  have htq : t ≠ q := fun e => by rw [e, upd_same] at nt; cases nt
  have F : Fh c H (upd (upd (upd H p (.lst [])) q (.lst [])) t (.tup [.ref p, .ref q])) := ((Fh.new np).trans (Fh.new nq)).trans (Fh.new nt)
  have ap := new_av S.ok np
  have aq := new_av S.ok nq0
  refine w (c.addLs [p, q]) _ _ F (.inr ⟨hi, [p, q], fun b hb => ?_, rfl, fun b hb => ?_, .two (SqT.of upd_same) hqp.symm (by rw [upd_ne htp.symm, upd_ne hqp.symm, upd_same]) .nil (by rw [upd_ne htq.symm, upd_same]) .nil⟩)
  · simp at hb
    rcases hb with rfl | rfl
    · exact np
    · exact nq0
  · refine ⟨List.mem_append_left _ hb, fun z => ?_, fun z => ?_⟩
    · simp at hb
      rcases hb with rfl | rfl
      · exact ap (Cn.S_av z)
      · exact aq (Cn.S_av z)
    · simp at hb
      rcases hb with rfl | rfl
      · exact ap (Cn.hd_av z)
      · exact aq (Cn.hd_av z)
/-- len(x[0]) -/
def mLen2 (i : Nat) : ME := fun ρ => match ρ[i]? with
  | some (some (.two l _)) => .ret (.int (l.length : Nat))
  | _ => .bad
theorem re_len2 {i : Nat} (hi : i ∈ mu) : RE κ mu W (tCB (rLenA κ.K) (tCons (tOp (rIxV κ.K) (tVar i) (tC (.int 0))) tNil)) (mLen2 i) := by
  intro c M σ ρ H Q S w
  unfold mLen2 at w
  split at w
  · rename_i l m e
    obtain ⟨v, h1, q⟩ := S.mut hi e
    obtain ⟨t, p, q', xs, ys, hfp, rfl, ht, hne, hp, rp, hq, rq⟩ := q.two
    refine ⟨_, h1, .inl (.inr (.inl ⟨t, [.ref p, .ref q'], 0, .ref p, rfl, rfl, ht, atI0, ?_⟩))⟩
    refine r_lenL (SqL.of hp) ?_
    rw [rp.length]
    exact w _ H Fh.refl (.int _)
  · exact w.elim
/-- x[j].append(e) -/
def mApp2 (i j : Nat) (a : ME) : MS := fun ρ => match ρ[i]? with
  | some (some (.two l m)) => mAtt (a ρ) ρ fun d => if l.length < 16777216 ∧ m.length < 16777216 then .ret (.nx (ρ.set i (some (if j = 0 then .two (l ++ [d]) m else .two l (m ++ [d]))))) else .bad
  | _ => .bad
theorem rs_app20 {i : Nat} (hi : i ∈ mu) (h : RE κ mu W te me) : RS κ mu W (tDrop (tBM κ.K "list" rAppend (tOp (rIxV κ.K) (tVar i) (tC (.int 0))) (tCons te tNil))) (mApp2 i 0 me) := by
  intro c M σ ρ H D S w
  unfold mApp2 at w
  split at w
  · rename_i l m e
    obtain ⟨v0, h1, q⟩ := S.mut hi e
    obtain ⟨t, p, q', xs, ys, hfp, rfl, ht, hne, hp, rp, hq, rq⟩ := q.two
    refine ⟨_, h1, .inl (.inr (.inl ⟨t, [.ref p, .ref q'], 0, .ref p, rfl, rfl, ht, atI0, r_tyL (SqL.of hp), ?_⟩))⟩
    refine h c M σ ρ H _ S (wp0_mono (wp0_mAtt w) (fun d w v H1 F r => ?_) fun x f q => Post.xw S q)
    split at w
    · rename_i hl
      have q1 := q.fh F
      obtain ⟨t1, p1, q1', xs1, ys1, hfp1, e1, ht1, hne1, hp1, rp1, hq1, rq1⟩ := q1.two
      cases e1
      rw [hfp] at hfp1
      cases hfp1
      have FD : Fr [p] H1 (upd H1 p (.lst (xs1 ++ [v]))) := Fr.put hp1 (fun _ z => by cases z) (fun _ _ z => by cases z) (by simp)
      have FD2 : Fr (M i) H1 (upd H1 p (.lst (xs1 ++ [v]))) := FD.mono fun b hb => by rw [hfp, List.mem_singleton.mp hb]; simp
      have Gm := own_fm FD2 q1.1
      have mm : MutAt κ.K c (upd H1 p (.lst (xs1 ++ [v]))) (M i) (.ref t) (.two (l ++ [d]) m) := ⟨q1.1, by rw [hfp]; exact .two (FD.weak (P := fun _ _ => True) |>.sqt ht1) hne upd_same ((rp1.snoc r).fm Gm) (by rw [upd_ne hne.symm]; exact hq1) (rq1.fm Gm)⟩
      obtain ⟨Gs, S2⟩ := (S.fh F).put hi e h1 mm FD2
      exact ⟨p, xs1, v, rfl, rfl, hp1, by rw [rp1.length, sizeLine_eq]; exact hl.1, w c M σ _ (Fs.trans Lk.refl F.fs Gs) Lk.refl S2⟩
    · exact w.elim
  · exact w.elim
theorem rs_app21 {i : Nat} (hi : i ∈ mu) (h : RE κ mu W te me) : RS κ mu W (tDrop (tBM κ.K "list" rAppend (tOp (rIxV κ.K) (tVar i) (tC (.int 1))) (tCons te tNil))) (mApp2 i 1 me) := by
  intro c M σ ρ H D S w
  unfold mApp2 at w
  split at w
  · rename_i l m e
    obtain ⟨v0, h1, q⟩ := S.mut hi e
    obtain ⟨t, p, q', xs, ys, hfp, rfl, ht, hne, hp, rp, hq, rq⟩ := q.two
    refine ⟨_, h1, .inl (.inr (.inl ⟨t, [.ref p, .ref q'], 1, .ref q', rfl, rfl, ht, atI1, r_tyL (SqL.of hq), ?_⟩))⟩
    refine h c M σ ρ H _ S (wp0_mono (wp0_mAtt w) (fun d w v H1 F r => ?_) fun x f q => Post.xw S q)
    split at w
    · rename_i hl
      have q1 := q.fh F
      obtain ⟨t1, p1, q1', xs1, ys1, hfp1, e1, ht1, hne1, hp1, rp1, hq1, rq1⟩ := q1.two
      cases e1
      rw [hfp] at hfp1
      cases hfp1
      have FD : Fr [q'] H1 (upd H1 q' (.lst (ys1 ++ [v]))) := Fr.put hq1 (fun _ z => by cases z) (fun _ _ z => by cases z) (by simp)
      have FD2 : Fr (M i) H1 (upd H1 q' (.lst (ys1 ++ [v]))) := FD.mono fun b hb => by rw [hfp, List.mem_singleton.mp hb]; simp
      have Gm := own_fm FD2 q1.1
      have mm : MutAt κ.K c (upd H1 q' (.lst (ys1 ++ [v]))) (M i) (.ref t) (.two l (m ++ [d])) := ⟨q1.1, by rw [hfp]; exact .two (FD.weak (P := fun _ _ => True) |>.sqt ht1) hne (by rw [upd_ne hne]; exact hp1) (rp1.fm Gm) upd_same ((rq1.snoc r).fm Gm)⟩
      obtain ⟨Gs, S2⟩ := (S.fh F).put hi e h1 mm FD2
      exact ⟨q', ys1, v, rfl, rfl, hq1, by rw [rq1.length, sizeLine_eq]; exact hl.2, w c M σ _ (Fs.trans Lk.refl F.fs Gs) Lk.refl S2⟩
    · exact w.elim
  · exact w.elim
/-! [some[::-1][:n] for some in x] -/
def recGo (mh : Ev → Pm (Option Int)) (ρ : Ev) : List (List Dt) → Pm (List Dt)
  | [] => .ret []
  | l :: r => mh ρ >>= fun o => recGo mh ρ r >>= fun ys => .ret (.lst (cutD l.reverse none o) :: ys)
def mRec2 (i s : Nat) (mh : Ev → Pm (Option Int)) : ME := fun ρ => if s < ρ.length then match ρ[i]? with
  | some (some (.two l m)) => (recGo mh (wipeD ρ [s]) [l, m]).nox >>= fun ds => .ret (.lst ds)
  | _ => .bad else .bad
theorem Sl.setσ {c : Cn} {M : Nat → List Addr} {H : Hp} {σ : L2.St} {ρ : Ev} {s : Nat} {x : Option V} (S : Sl κ mu c M H σ ρ) (h : ∀ d, ρ[s]? ≠ some (some d)) : Sl κ mu c M H (σ.set s x) ρ := by
  refine ⟨by rw [List.length_set]; exact S.len, S.ok, fun j d e => ?_, S.dist, S.tb, S.hT⟩
  have n : s ≠ j := fun z => h d (by rw [z]; exact e)
  rw [List.getElem?_set_ne n]
  exact S.at_ j d e
theorem re_rec2 {i s : Nat} {th : TO} {mh : Ev → Pm (Option Int)} (hi : i ∈ mu) (hh : RP κ mu (fun _ _ _ _ => False) th mh) :
    RE κ mu W (tLc (iSeq κ.K (tVar i)) (gName s) tYes (tSl (rSl κ.K) (tRevL κ.K (tVar s)) tNoPart th) [s]) (mRec2 i s mh) := by
  intro c M σ ρ H Q S w
  unfold mRec2 at w
  split at w
  rotate_left
  · exact w.elim
  rename_i hsl
  split at w
  rotate_left
  · exact w.elim
  rename_i l m e
  obtain ⟨v, h1, q⟩ := S.mut hi e
  obtain ⟨t, p, q', xs, ys, hfp, rfl, ht, hne, hp, rp, hq, rq⟩ := q.two
  refine ⟨_, h1, t, rfl, .inr ⟨⟨_, ht⟩, ?_⟩⟩
  intro D nD
  have w := wp0_nox.mp (wp0_bind.mp w)
  have nDh : D ∉ c.hd := fun z => S.ok D (Cn.hd_av z) nD
  have okD : ∀ {H' : Hp}, Fh c H H' → H' D ≠ none → ∀ b ∈ (c.add D).av, H' b ≠ none := fun {H'} F' hD b hb => by
    rcases Cn.add_av.mp hb with rfl | hb
    · exact hD
    · exact F'.1.dom b (S.ok b hb)
  have SD : ∀ {H' : Hp}, Fh c H H' → H' D ≠ none → Sl κ mu (c.add D) M H' σ ρ := fun {H'} F' hD => by
    refine ⟨S.len, okD F' hD, fun j d h => ?_, S.dist, fun p hp => F'.1.tbs _ _ (show (p.1, p.2) ∈ c.h.T by rw [S.hT]; exact hp) (S.tb p hp), S.hT⟩
    obtain ⟨v, h1, h2, h3⟩ := S.at_ j d h
    refine ⟨v, h1, fun m => ?_, fun m => (Rl.add nD (h3 m)).fh (c := c.add D) F'⟩
    have q := h2 m
    exact MutAt.fh (c := c.add D) F' (MutAt.to (c := c) (c' := c.add D) rfl (fun b hb => (q.1 b hb).1) (fun b hb z => by
      rcases List.mem_cons.mp z with z | z
      · obtain ⟨o, ho⟩ := q.ne b hb
        rw [z, nD] at ho; cases ho
      · exact (q.1 b hb).2.1 z) (to_add nD) q)
  -- the two, as they stand
  have itm : ∀ (j : Nat) (x : V), ([V.ref p, .ref q'] : List V)[j]? = some x → ∃ (a : Addr) (zs : List V) (L : List Dt), x = V.ref a ∧ ([l, m] : List (List Dt))[j]? = some L ∧ H a = some (.lst zs) ∧ a ∉ c.hd ∧ RlL κ.K c H zs L := fun j x h => by
    have hm : ∀ b ∈ M i, b ∉ c.hd := fun b hb => (q.1 b hb).2.2
    match j, h with
    | 0, h => cases h; exact ⟨p, xs, l, rfl, rfl, hp, hm p (by rw [hfp]; simp), rp⟩
    | 1, h => cases h; exact ⟨q', ys, m, rfl, rfl, hq, hm q' (by rw [hfp]; simp), rq⟩
  let P : Nat → Hp → Prop := fun j H' => Fh c H H' ∧ ∃ acc done, H' D = some (.lst acc) ∧ acc.length ≤ j ∧ RlL κ.K (c.add D) H' acc done ∧
    wp0 (recGo mh (wipeD ρ [s]) (([l, m] : List (List Dt)).drop j)) (fun ys => wp0 (Pm.ret (Dt.lst (done ++ ys)) : Pm Dt) (fun d => ∀ v H', Fh c H H' → Rl κ.K c H' v d → Q v H') (Xw κ.K c W σ H)) NoX
  refine ⟨fun j k H' => k = 2 - j ∧ j ≤ 2 ∧ P j H', ⟨2, rfl, Nat.zero_le _, Fh.new nD, [], [], upd_same, Nat.le_refl _, .nil, w⟩, ?_⟩
  rintro j k H' ⟨rfl, hile, F', acc, done, hD, hacc, racc, w⟩
  have ht' : SqT κ.K H' t [.ref p, .ref q'] := F'.1.sqt ht
  have h2l : ([V.ref p, .ref q'] : List V).length = 2 := rfl
  by_cases hlt : j < 2
  · refine .inr ⟨walk_tup.goes j H' (by rw [h2l]; exact hlt) ht', P (j + 1), fun H2 p => ⟨2 - (j + 1), by omega, rfl, hlt, p⟩, fun x H2 y => ?_⟩
    obtain ⟨rfl, ex⟩ := walk_tup.yields j H' x H2 (by rw [h2l]; exact hlt) ht' y
    obtain ⟨a, zs, L, rfl, hL, ha, nah, ra⟩ := itm j x ex
    have hD2 := hD
    have S2 := (SD F' (by rw [hD2]; exact fun z => by cases z)).wipe [s]
    have hwl : s < (L2.wipe σ [s]).length := by
      have := S2.len
      rw [this]
      simpa [wipeD] using hsl
    have hno : ∀ d, (wipeD ρ [s])[s]? ≠ some (some d) := fun d z => by
      simp [wipeD, hsl] at z
    have S3 := S2.setσ (x := some (.ref a)) hno
    have hdrop : ([l, m] : List (List Dt)).drop j = L :: ([l, m] : List (List Dt)).drop (j + 1) := by
      have hj : j < ([l, m] : List (List Dt)).length := hlt
      rw [List.drop_eq_getElem_cons hj]
      congr 1
      rw [List.getElem?_eq_getElem hj] at hL
      exact Option.some.inj hL
    rw [hdrop] at w
    have w := wp0_bind.mp w
    refine ⟨?_, ?_⟩
    · show L2.wipe ((L2.wipe σ [s]).set s (some (.ref a))) [s] = _
      simp [L2.wipe]
    change tSl (rSl κ.K) (tRevL κ.K (tVar s)) tNoPart th ((L2.wipe σ [s]).set s (some (.ref a))) H2 _
    have za : H2 a = some (.lst zs) := F'.1.lst nah ha
    refine ⟨.ref a, by rw [List.getElem?_set_self hwl], a, zs, rfl, SqL.of za, fun r nr => ?_⟩
    have Fr1 : Fh c H2 (upd H2 r (.lst zs.reverse)) := Fh.new nr
    have nrh : r ∉ c.hd := fun z => (okD F' (by rw [hD2]; exact fun z => by cases z) r (Cn.add_av.mpr (.inr (Cn.hd_av z)))) nr
    refine hh (c.add D) M _ _ _ _ (S3.fh Fr1) (wp0_nx (wp0_mono w (fun o w H5 F5 => ?_) fun _ _ h => h))
    have hr5 : H5 r = some (.lst zs.reverse) := F5.1.lst nrh upd_same
    have F15 : Fh c H H5 := (F'.trans Fr1).trans F5
    refine r_slL (SqL.of hr5) fun r2 n2 F6 e6 => ?_
    have F16 : Fh c H (upd H5 r2 (.lst (cutV zs.reverse none o))) := F15.trans (Fh.of0 F6)
    have tx : RlL κ.K (c.add D) H5 zs.reverse L.reverse := ((RlL.add nD ra).fh (c := c.add D) F15).rev
    have hD6 : (upd H5 r2 (.lst (cutV zs.reverse none o))) D = some (.lst acc) := F6.lst0 ((F5.1.lst nDh (Fr1.1.lst nDh hD2)))
    have rac6 : RlL κ.K (c.add D) (upd H5 r2 (.lst (cutV zs.reverse none o))) acc done := ((racc.fh (c := c.add D) Fr1).fh F5).fh (Fh.of0 F6)
    have hH5D : H5 D ≠ none := by rw [F5.1.lst nDh (Fr1.1.lst nDh hD2)]; exact fun z => by cases z
    have re : Rl κ.K (c.add D) (upd H5 r2 (.lst (cutV zs.reverse none o))) (.ref r2) (.lst (cutD L.reverse none o)) := Rl.newL (okD F15 hH5D) n2 e6 (Fh.of0 F6) tx.cut
    generalize hH6 : upd H5 r2 (.lst (cutV zs.reverse none o)) = H6 at *
    have FD : Fr [D] H6 (upd H6 D (.lst (acc ++ [.ref r2]))) := Fr.put hD6 (fun _ z => by cases z) (fun _ _ z => by cases z) (by simp)
    have dr : ∀ a l', c.h.d = some (a, l') → Drw H6 a l' → Drw (upd H6 D (.lst (acc ++ [.ref r2]))) a l' := fun a l' e h => h.fr FD (fun z => nDh (by
      have := List.mem_singleton.mp z
      rw [← this]; unfold Cn.hd; rw [e]; simp)) fun z => nDh (by
      have := List.mem_singleton.mp z
      rw [← this]; unfold Cn.hd; rw [e]; simp)
    have F17 : Fh c H (upd H6 D (.lst (acc ++ [.ref r2]))) := ⟨FrG.over nD F16.1 (FD.weak.mono fun b hb => by rw [List.mem_singleton.mp hb]; exact List.mem_cons_self ..), fun a l' e h => dr a l' e (F16.2 a l' e h)⟩
    have Gm : Fm (c.add D) H6 (upd H6 D (.lst (acc ++ [.ref r2]))) := ⟨FD.weak.mono fun b hb => by rw [List.mem_singleton.mp hb]; exact Cn.add_av.mpr (.inl rfl), dr⟩
    refine ⟨acc, hD6, by rw [sizeLine_eq]; omega, F17, acc ++ [.ref r2], done ++ [.lst (cutD L.reverse none o)], upd_same, by rw [List.length_append]; simp; omega, (rac6.snoc re).fm Gm, ?_⟩
    exact wp0_mono (wp0_bind.mp w) (fun ys q => by rw [List.append_assoc]; exact q) fun _ _ h => h
  · have e2 : j = 2 := by omega
    subst e2
    refine .inl ⟨walk_tup.stops H' ht', ?_⟩
    have q2 : ∀ v H'', Fh c H H'' → Rl κ.K c H'' v (.lst (done ++ [])) → Q v H'' := w
    rw [List.append_nil] at q2
    exact q2 _ H' F' (.lst hD (fun z => S.ok D z nD) racc.drop)
end
end Tk

end

section
/-! a walk over a dict with tuples as keys: where it differs from another -/
namespace Tk
open PySem PySem.Spec L2 RZ
section
variable {κ : Kt} {mu : List Nat} {W : WX}
def kD : Key → Dt
  | .inl i => .int i
  | .inr z => .str z
theorem kD_rl {K : PySem.W.Frag} {c : Cn} {H : Hp} : ∀ k : Key, Rl K c H (kV k) (kD k)
  | .inl i => .int i
  | .inr z => .str z
theorem kDs_rl {K : PySem.W.Frag} {c : Cn} {H : Hp} : ∀ ks : List Key, RlL K c H (ks.map kV) (ks.map kD)
  | [] => .nil
  | k :: ks => .cons (kD_rl k) (kDs_rl ks)
def lsGo (kvs ws : List (List Key × V)) : List (List Key × V) → Pm (List Dt)
  | [] => .ret []
  | kv :: r => match valV kvs kv.1, valV ws kv.1 with
    | some (.bl x), some (.bl y) => lsGo kvs ws r >>= fun ys => .ret (if x = y then ys else .tup (kv.1.map kD) :: ys)
    | _, _ => .bad
/-- [k for k in a if a[k] != b[k]] -/
def mLs (a b s : Nat) : ME := fun ρ => if s < ρ.length ∧ s ≠ a ∧ s ≠ b then match ρ[a]?, ρ[b]? with
  | some (some (.dT kvs)), some (some (.dT ws)) => if kvs.length < 16777216 then lsGo kvs ws kvs >>= fun ds => .ret (.lst ds) else .bad
  | _, _ => .bad else .bad
theorem re_ls {a b s : Nat} (ha : a ∉ mu) (hb : b ∉ mu) : RE κ mu W (tLockE (tLc (iKeys (tVar a)) (gName s) (tTest (tOp (rNeA κ.K) (tOp (rIxV κ.K) (tVar a) (tVar s)) (tOp (rIxV κ.K) (tVar b) (tVar s)))) (tVar s) [s])) (mLs a b s) := by
  intro c M σ ρ H Q S w
  unfold mLs at w
  split at w
  rotate_left
  · exact w.elim
  rename_i hs
  obtain ⟨hsl, hsa, hsb⟩ := hs
  split at w
  rotate_left
  · exact w.elim
  rename_i kvs ws ea eb
  split at w
  rotate_left
  · exact w.elim
  rename_i hlen
  obtain ⟨va, a1, _, a3⟩ := S.at_ a _ ea
  obtain ⟨vb, b1, _, b3⟩ := S.at_ b _ eb
  obtain ⟨d, rfl, hd, _⟩ := Rw.dT (.inl (a3 ha))
  obtain ⟨d2, rfl, hd2, _⟩ := Rw.dT (.inl (b3 hb))
  refine ⟨d, .dT kvs, hd, trivial, fun od => ?_⟩
  refine ⟨.ref d, a1, d, od, rfl, .inr ⟨kvs, upd_same, ?_⟩⟩
  intro D nD
  have hDd : D ≠ d := fun e => by rw [e, upd_same] at nD; cases nD
  have nD0 : H D = none := by rw [upd_ne hDd] at nD; exact nD
  have hsσ : s < σ.length := by rw [S.len]; exact hsl
  let P : Nat → Hp → Prop := fun j H' => (∀ e, e ≠ D → H' e = upd H d (.frz od (.dT kvs)) e) ∧ ∃ acc done, H' D = some (.lst acc) ∧ acc.length ≤ j ∧ (∀ H2 : Hp, (∀ e o, e ≠ D → e ≠ d → H' e = some o → H2 e = some o) → RlL κ.K c H2 acc done) ∧
    wp0 (lsGo kvs ws (kvs.drop j)) (fun ys => wp0 (Pm.ret (Dt.lst (done ++ ys)) : Pm Dt) (fun d => ∀ v H', Fh c H H' → Rl κ.K c H' v d → Q v H') (Xw κ.K c W σ H)) (Xw κ.K c W σ H)
  refine ⟨fun j k H' => k = kvs.length - j ∧ j ≤ kvs.length ∧ P j H', ⟨kvs.length, by simp, Nat.zero_le _, fun e he => upd_ne he, [], [], upd_same, Nat.le_refl _, fun _ _ => .nil, by simpa using wp0_bind.mp w⟩, ?_⟩
  rintro j k H' ⟨rfl, hile, hE, acc, done, hD, hacc, racc, w⟩
  have hfrz : H' d = some (.frz od (.dT kvs)) := by rw [hE d hDd.symm, upd_same]
  by_cases hlt : j < kvs.length
  · refine .inr ⟨walk_keysT.goes j H' hlt hfrz, P (j + 1), fun H2 p => ⟨kvs.length - (j + 1), by omega, rfl, hlt, p⟩, fun x H2 y => ?_⟩
    obtain ⟨rfl, k, v, q, ek, rfl, hq⟩ := walk_keysT.yields j H' x H2 hlt hfrz y
    have hqd : q ≠ d := fun e => by rw [e, hfrz] at hq; cases hq
    have hqD : q ≠ D := fun e => by rw [e, hD] at hq; cases hq
    have hdrop : kvs.drop j = (k, v) :: kvs.drop (j + 1) := by
      rw [List.drop_eq_getElem_cons hlt]
      congr 1
      rw [List.getElem?_eq_getElem hlt] at ek
      exact Option.some.inj ek
    rw [hdrop, lsGo] at w
    have hwl : s < (L2.wipe σ [s]).length := by simpa [L2.wipe] using hsσ
    refine ⟨by simp [L2.wipe], ?_⟩
    have sa : ((L2.wipe σ [s]).set s (some (.ref q)))[a]? = some (some (.ref d)) := by simp [L2.wipe, List.getElem?_set_ne hsa, a1]
    have sb : ((L2.wipe σ [s]).set s (some (.ref q)))[b]? = some (some (.ref d2)) := by simp [L2.wipe, List.getElem?_set_ne hsb, b1]
    have ss : ((L2.wipe σ [s]).set s (some (.ref q)))[s]? = some (some (.ref q)) := List.getElem?_set_self hwl
    have rd1 : L2.Rd H2 d (.dT kvs) := .inr ⟨od, hfrz⟩
    have rd2 : L2.Rd H2 d2 (.dT ws) := by
      by_cases e : d2 = d
      · subst e
        rw [hd] at hd2
        cases hd2
        exact .inr ⟨od, hfrz⟩
      · refine .inl ?_
        have hD2 : d2 ≠ D := fun z => by rw [z, nD0] at hd2; cases hd2
        rw [hE d2 hD2, upd_ne e]
        exact hd2
    split at w
    · rename_i x y e1 e2
      refine ⟨_, sa, _, ss, .inr ⟨d, .bl x, rfl, .inr ⟨kvs, k, q, rd1, rfl, SqT.of hq, e1.symm⟩, ?_⟩⟩
      refine ⟨_, sb, _, ss, .inr ⟨d2, .bl y, rfl, .inr ⟨ws, k, q, rd2, rfl, SqT.of hq, e2.symm⟩, ?_⟩⟩
      refine r_neB ⟨_, rfl, ?_⟩
      have w := wp0_bind.mp w
      by_cases hxy : x = y
      · subst hxy
        change (if (!x == x) = true then _ else P (j + 1) H2)
        rw [if_neg (by simp)]
        refine ⟨hE, acc, done, hD, by omega, racc, wp0_mono w (fun ys q => by rw [if_pos rfl] at q; exact q) fun _ _ h => h⟩
      · change (if (!x == y) = true then tVar s (List.set (L2.wipe σ [s]) s (some (V.ref q))) H2 (fun y H4 => ∃ acc, H4 D = some (HO.lst acc) ∧ acc.length < sizeLine ∧ P (j + 1) (upd H4 D (HO.lst (acc ++ [y])))) else P (j + 1) H2)
        rw [if_pos (by simp [hxy])]
        refine ⟨_, ss, acc, hD, by rw [sizeLine_eq]; omega, fun e he => by rw [upd_ne he]; exact hE e he, acc ++ [.ref q], done ++ [.tup (k.map kD)], upd_same, by rw [List.length_append]; simp; omega, fun H3 h3 => ?_, wp0_mono w (fun ys q => by rw [List.append_assoc]; rw [if_neg hxy] at q; exact q) fun _ _ h => h⟩
        have keep : ∀ e o, e ≠ D → e ≠ d → H2 e = some o → H3 e = some o := fun e o h1 h2 h => h3 e o h1 h2 (by rw [upd_ne h1]; exact h)
        exact (racc H3 keep).snoc (.tup (SqT.of (keep q _ hqD hqd hq)) (kDs_rl k))
    · exact w.elim
  · have e : j = kvs.length := by omega
    subst e
    refine .inl ⟨walk_keysT.stops H' hfrz, hfrz, ?_⟩
    rw [List.drop_length] at w
    have q : ∀ v H'', Fh c H H'' → Rl κ.K c H'' v (.lst (done ++ [])) → Q v H'' := w
    rw [List.append_nil] at q
    have eH : upd H' d (.dT kvs) = upd H D (.lst acc) := by
      funext e
      by_cases h1 : e = d
      · subst h1
        rw [upd_same, upd_ne hDd.symm, hd]
      · rw [upd_ne h1]
        by_cases h2 : e = D
        · subst h2; rw [upd_same, hD]
        · rw [upd_ne h2, hE e h2, upd_ne h1]
    rw [eH]
    refine q _ _ (Fh.new nD0) (.lst upd_same (fun z => S.ok D z nD0) (racc _ fun e o h1 h2 h => ?_))
    rw [upd_ne h1]
    rw [hE e h1, upd_ne h2] at h
    exact h
end
end Tk

end

section
/-! plain facts of mirrors' data -/
namespace Tk
open PySem PySem.Spec L2 RZ StX
@[simp] theorem x_bindA {α β γ : Type} {m : Pm α} {f : α → Pm β} {g : β → Pm γ} : ((m >>= f) >>= g) = (m >>= fun x => f x >>= g) := bind_assoc'
@[simp] theorem bad_att {α : Type} : (Pm.bad : Pm α).att = .bad := rfl
@[simp] theorem bad_nox {α : Type} : (Pm.bad : Pm α).nox = .bad := rfl
@[simp] theorem draw_bind {α β : Type} {n : Nat} {k : Nat → Pm α} {f : α → Pm β} : (Pm.draw n k >>= f) = Pm.draw n fun i => k i >>= f := rfl
@[simp] theorem drawT_bind {α β : Type} {n : Nat} {k : Tab → Pm α} {f : α → Pm β} : (Pm.drawT n k >>= f) = Pm.drawT n fun i => k i >>= f := rfl
@[simp] theorem all_bind {α β : Type} {k : Nat → Pm α} {f : α → Pm β} : (Pm.all k >>= f) = Pm.all fun i => k i >>= f := rfl
@[simp] theorem all_att {α : Type} {k : Nat → Pm α} : (Pm.all k).att = Pm.all fun i => (k i).att := rfl
@[simp] theorem all_mAtt {α : Type} {k : Nat → Pm α} {ρ : Ev} {f : α → Pm Out} : mAtt (Pm.all k) ρ f = Pm.all fun i => mAtt (k i) ρ f := rfl
@[simp] theorem draw_att {α : Type} {n : Nat} {k : Nat → Pm α} : (Pm.draw n k).att = Pm.draw n fun i => (k i).att := rfl
@[simp] theorem drawT_att {α : Type} {n : Nat} {k : Tab → Pm α} : (Pm.drawT n k).att = Pm.drawT n fun i => (k i).att := rfl
@[simp] theorem draw_mAtt {α : Type} {n : Nat} {k : Nat → Pm α} {ρ : Ev} {f : α → Pm Out} : mAtt (Pm.draw n k) ρ f = Pm.draw n fun i => mAtt (k i) ρ f := rfl
@[simp] theorem drawT_mAtt {α : Type} {n : Nat} {k : Tab → Pm α} {ρ : Ev} {f : α → Pm Out} : mAtt (Pm.drawT n k) ρ f = Pm.drawT n fun i => mAtt (k i) ρ f := rfl
@[simp] theorem bad_mAtt {α : Type} {ρ : Ev} {f : α → Pm Out} : mAtt (Pm.bad : Pm α) ρ f = .bad := rfl
theorem wp_mono {α : Type} {m : Pm α} {Q Q' : α → Prop} {E E' : Str → Option (Str × Dt) → Prop} (h : wp m Q E) (q : ∀ a, Q a → Q' a) (e : ∀ x f, E x f → E' x f) : wp m Q' E' := wp_iff.mpr (wp0_mono (wp_iff.mp h) q e)
theorem wp_bind {α β : Type} {m : Pm α} {k : α → Pm β} {Q : β → Prop} {E : Str → Option (Str × Dt) → Prop} : wp (m >>= k) Q E ↔ wp m (fun a => wp (k a) Q E) E := by
  rw [wp_iff, wp_iff, wp0_bind]
  exact ⟨fun h => wp0_mono h (fun _ h => wp_iff.mpr h) fun _ _ h => h, fun h => wp0_mono h (fun _ h => wp_iff.mp h) fun _ _ h => h⟩
@[simp] theorem wp_ret {α : Type} {a : α} {Q : α → Prop} {E : Str → Option (Str × Dt) → Prop} : wp (Pm.ret a) Q E ↔ Q a := by rw [wp_iff]; exact Iff.rfl
@[simp] theorem wp_draw {α : Type} {n : Nat} {k : Nat → Pm α} {Q : α → Prop} {E : Str → Option (Str × Dt) → Prop} : wp (Pm.draw n k) Q E ↔ ∀ i, i < n → wp (k i) Q E := by
  rw [wp_iff]
  exact ⟨fun h i hi => wp_iff.mpr (h i hi), fun h i hi => wp_iff.mp (h i hi)⟩
@[simp] theorem wp_all {α : Type} {k : Nat → Pm α} {Q : α → Prop} {E : Str → Option (Str × Dt) → Prop} : wp (Pm.all k) Q E ↔ ∀ i, wp (k i) Q E := by
  rw [wp_iff]
  exact ⟨fun h i => wp_iff.mpr (h i), fun h i => wp_iff.mp (h i)⟩
@[simp] theorem wp_drawT {α : Type} {n : Nat} {k : Tab → Pm α} {Q : α → Prop} {E : Str → Option (Str × Dt) → Prop} : wp (Pm.drawT n k) Q E ↔ ∀ t, Drawn3 t n → wp (k t) Q E := by
  rw [wp_iff]
  exact ⟨fun h i hi => wp_iff.mpr (h i hi), fun h i hi => wp_iff.mp (h i hi)⟩
/-! loops -/
theorem wp_for {mg : MG} {s : MS} {Q : Out → Prop} (I : Ev → Prop) : ∀ {l : List Dt} {ρ : Ev}, I ρ → (∀ d ∈ l, ∀ ρ, I ρ → wp (forOne mg s d ρ) (fun o => ∃ ρ', o = .nx ρ' ∧ I ρ') NoX) → (∀ ρ, I ρ → Q (.nx ρ)) → wp (forGo mg s l ρ) Q NoX
  | [], ρ, h0, _, hp => by rw [x_for0]; exact wp_ret.mpr (hp ρ h0)
  | d :: l, ρ, h0, hs, hp => by
    rw [x_for1, ← bind_assoc', wp_bind]
    refine wp_mono (hs d (List.mem_cons_self ..) ρ h0) (fun o ⟨ρ', e, h1⟩ => ?_) fun _ _ z => z
    subst e
    exact wp_for I h1 (fun e he => hs e (List.mem_cons_of_mem _ he)) hp
/-- .. over data of a plain list -/
theorem wp_forM {α : Type} {mg : MG} {s : MS} {Q : Out → Prop} {f : α → Dt} {xs : List α} {ρ : Ev} (I : Ev → Prop) (h0 : I ρ) (hs : ∀ x ∈ xs, ∀ ρ, I ρ → wp (forOne mg s (f x) ρ) (fun o => ∃ ρ', o = .nx ρ' ∧ I ρ') NoX) (hp : ∀ ρ, I ρ → Q (.nx ρ)) : wp (forGo mg s (xs.map f) ρ) Q NoX :=
  wp_for I h0 (fun d hd ρ h => by
    obtain ⟨x, hx, rfl⟩ := List.mem_map.mp hd
    exact hs x hx ρ h) hp
/-! membership -/
theorem vAll_ints : ∀ r : List Int, vAll (r.map Dt.int) = some (r.map V.int)
  | [] => rfl
  | a :: r => by rw [List.map_cons, vAll, vAll_ints r]; rfl
theorem vAll_strs : ∀ r : List Str, vAll (r.map Dt.str) = some (r.map V.str)
  | [] => rfl
  | a :: r => by rw [List.map_cons, vAll, vAll_strs r]; rfl
theorem vAll_bls : ∀ r : List Bool, vAll (r.map Dt.bl) = some (r.map V.bl)
  | [] => rfl
  | a :: r => by rw [List.map_cons, vAll, vAll_bls r]; rfl
@[simp] theorem inB_ints {n : Int} {r : List Int} {d : Dt} (h : seqD d = some (r.map Dt.int)) : inB (.int n) d = some (decide (n ∈ r)) := by
  have hg : getK d (.int n) = none := by
    cases d <;> first | rfl | cases h
  unfold inB
  rw [hg, h]
  show (match Dt.v? (.int n), vAll (r.map Dt.int) with
    | some v, some vs => some (inV v vs)
    | _, _ => _) = _
  rw [vAll_ints]
  show some (inV (.int n) (r.map V.int)) = _
  rw [inV_int]
theorem inB_strs {n : Str} {r : List Str} {d : Dt} (h : seqD d = some (r.map Dt.str)) : inB (.str n) d = some (decide (n ∈ r)) := by
  have hg : getK d (.str n) = none := by
    cases d <;> first | rfl | cases h
  unfold inB
  rw [hg, h]
  show (match Dt.v? (.str n), vAll (r.map Dt.str) with
    | some v, some vs => some (inV v vs)
    | _, _ => _) = _
  rw [vAll_strs]
  show some (inV (.str n) (r.map V.str)) = _
  rw [inV_str]
theorem inB_bls {n : Bool} {r : List Bool} {d : Dt} (h : seqD d = some (r.map Dt.bl)) : inB (.bl n) d = some (decide (n ∈ r)) := by
  have hg : getK d (.bl n) = none := by
    cases d <;> first | rfl | cases h
  unfold inB
  rw [hg, h]
  show (match Dt.v? (.bl n), vAll (r.map Dt.bl) with
    | some v, some vs => some (inV v vs)
    | _, _ => _) = _
  rw [vAll_bls]
  show some (inV (.bl n) (r.map V.bl)) = _
  rw [inV_bl]
@[simp] theorem in_tI {n : Int} {r : List Int} : inD (.int n) (.tup (r.map Dt.int)) = some (.bl (decide (n ∈ r))) := by unfold inD; rw [inB_ints rfl]; rfl
@[simp] theorem in_lI {n : Int} {r : List Int} : inD (.int n) (.lst (r.map Dt.int)) = some (.bl (decide (n ∈ r))) := by unfold inD; rw [inB_ints rfl]; rfl
@[simp] theorem ni_tI {n : Int} {r : List Int} : notInD (.int n) (.tup (r.map Dt.int)) = some (.bl (!decide (n ∈ r))) := by unfold notInD; rw [inB_ints rfl]; rfl
@[simp] theorem ni_lI {n : Int} {r : List Int} : notInD (.int n) (.lst (r.map Dt.int)) = some (.bl (!decide (n ∈ r))) := by unfold notInD; rw [inB_ints rfl]; rfl
@[simp] theorem in_tS {n : Str} {r : List Str} : inD (.str n) (.tup (r.map Dt.str)) = some (.bl (decide (n ∈ r))) := by unfold inD; rw [inB_strs rfl]; rfl
@[simp] theorem in_lS {n : Str} {r : List Str} : inD (.str n) (.lst (r.map Dt.str)) = some (.bl (decide (n ∈ r))) := by unfold inD; rw [inB_strs rfl]; rfl
@[simp] theorem ni_tS {n : Str} {r : List Str} : notInD (.str n) (.tup (r.map Dt.str)) = some (.bl (!decide (n ∈ r))) := by unfold notInD; rw [inB_strs rfl]; rfl
@[simp] theorem in_lB {n : Bool} {r : List Bool} : inD (.bl n) (.lst (r.map Dt.bl)) = some (.bl (decide (n ∈ r))) := by unfold inD; rw [inB_bls rfl]; rfl
/-! equality -/
@[simp] theorem eq_int {i j : Int} : eqD (.int i) (.int j) = some (.bl (decide (i = j))) := by simp [eqD, Dt.cmp, Dt.eqv]
@[simp] theorem ne_int {i j : Int} : neD (.int i) (.int j) = some (.bl (!decide (i = j))) := by simp [neD, Dt.cmp, Dt.eqv]
@[simp] theorem eq_bl {i j : Bool} : eqD (.bl i) (.bl j) = some (.bl (i == j)) := by simp [eqD, Dt.cmp, Dt.eqv]
@[simp] theorem ne_bl {i j : Bool} : neD (.bl i) (.bl j) = some (.bl (!(i == j))) := by simp [neD, Dt.cmp, Dt.eqv]
theorem eq_str {i j : Str} (h : PyData.strOk i = true) (h' : PyData.strOk j = true) : eqD (.str i) (.str j) = some (.bl (decide (i = j))) := by simp [eqD, Dt.cmp, Dt.eqv, h, h']
theorem ne_str {i j : Str} (h : PyData.strOk i = true) (h' : PyData.strOk j = true) : neD (.str i) (.str j) = some (.bl (!decide (i = j))) := by simp [neD, Dt.cmp, Dt.eqv, h, h']
theorem eqD_of {d e : Dt} {b : Bool} (h : d.cmp 12 = true) (h' : e.cmp 12 = true) (q : d.eqv e = b) : eqD d e = some (.bl b) := by unfold eqD; rw [h, h', q]; rfl
theorem neD_of {d e : Dt} {b : Bool} (h : d.cmp 12 = true) (h' : e.cmp 12 = true) (q : d.eqv e = b) : neD d e = some (.bl (!b)) := by unfold neD; rw [h, h', q]; rfl
/-! kinds -/
def isIntT (d : Dt) (lo hi : Int) : Bool := match d with
  | .int i => decide (lo ≤ i) && decide (i ≤ hi)
  | _ => false
def intT : Dt → Int
  | .int i => i
  | _ => 0
def rowL (t : Tab) : Dt := .lst [rowsT t.rows, .int t.spare, .str t.fate]
def pairT (p : Int × Int) : Dt := .tup [.int p.1, .int p.2]
@[simp] theorem kd_int {i : Int} : kd (.int i) = some .int := rfl
@[simp] theorem kd_bl {i : Bool} : kd (.bl i) = some .bl := rfl
@[simp] theorem kd_str {i : Str} : kd (.str i) = some .str := rfl
@[simp] theorem kd_non : kd .non = some .non := rfl
@[simp] theorem kd_tup {l : List Dt} : kd (.tup l) = some .tup := rfl
@[simp] theorem kd_lst {l : List Dt} : kd (.lst l) = some .lst := rfl
@[simp] theorem rowsT_len {rs : List (List Int)} : lenD [rowsT rs] = some (.int (rs.length : Nat)) := by unfold rowsT; simp
@[simp] theorem atI_nat' {α : Type} {xs : List α} {i : Nat} : L2.atI xs ((i : Nat) : Int) = xs[i]? := by
  cases e : xs[i]? with
  | some v => exact atI_nat e
  | none =>
    have := List.getElem?_eq_none_iff.mp e
    unfold L2.atI ixN
    rw [if_pos (by omega), if_neg (by omega)]
    rfl
theorem sorted_ints {ns : List Int} (h : ns.length < 64) : sortedD [.lst (ns.map Dt.int)] = some (.lst ((sortI ns).map Dt.int)) := by
  show (intsD (ns.map Dt.int)).bind _ = _
  rw [intsD_map]
  exact if_pos h
theorem enum_map {α : Type} {f : α → Dt} {xs : List α} : enumD (xs.map f) = xs.zipIdx.map fun p => .tup [.int (p.2 : Nat), f p.1] := by
  unfold enumD
  rw [List.zipIdx_map, List.map_map]
  rfl
theorem zipIdx_mem {α : Type} {xs : List α} {p : α × Nat} (h : p ∈ xs.zipIdx) : p.1 ∈ xs := by
  obtain ⟨r, i⟩ := p
  exact (List.mem_zipIdx h).2.2 ▸ List.getElem_mem _
@[simp] theorem rowsT_seq {rs : List (List Int)} : seqD (rowsT rs) = some (rs.map rowT) := rfl
@[simp] theorem rowT_seq {r : List Int} : seqD (rowT r) = some (r.map Dt.int) := rfl
@[simp] theorem rowT_len {r : List Int} : lenD [rowT r] = some (.int (r.length : Nat)) := by unfold rowT; simp
@[simp] theorem ix_rows {rs : List (List Int)} {i : Int} : ixD (rowsT rs) (.int i) = (L2.atI rs i).map rowT := by
  unfold rowsT
  rw [ixT]
  unfold L2.atI
  rw [List.length_map]
  cases ixN rs.length i with
  | none => rfl
  | some j => exact List.getElem?_map ..
@[simp] theorem in_rowT {n : Int} {r : List Int} : inD (.int n) (rowT r) = some (.bl (decide (n ∈ r))) := in_tI
theorem tab_eq {t : Tab} : (⟨t.rows, t.spare, t.fate⟩ : Tab) = t := rfl
@[simp] theorem rowsT_list {rs : List (List Int)} : listD [rowsT rs] = some (.lst (rs.map rowT)) := rfl
@[simp] theorem rowT_list {r : List Int} : listD [rowT r] = some (.lst (r.map Dt.int)) := rfl
@[simp] theorem rowsT_tuple {rs : List (List Int)} : tupleD [rowsT rs] = some (rowsT rs) := rfl
@[simp] theorem rowT_tuple {r : List Int} : tupleD [rowT r] = some (rowT r) := rfl
theorem toRowT {r : List Int} : Dt.tup (r.map Dt.int) = rowT r := rfl
theorem toRowsT {r : List (List Int)} : Dt.tup (r.map rowT) = rowsT r := rfl
@[simp] theorem rng_len {i : Int} {n : Nat} : (rngD i n).length = n := by unfold rngD; simp
@[simp] theorem enum_len {l : List Dt} : (enumD l).length = l.length := enumD_len l
@[simp] theorem ix_pair0 {p : Int × Int} : ixD (pairT p) (.int 0) = some (.int p.1) := rfl
@[simp] theorem ix_pair1 {p : Int × Int} : ixD (pairT p) (.int 1) = some (.int p.2) := rfl
@[simp] theorem ix_rowL0 {t : Tab} : ixD (rowL t) (.int 0) = some (rowsT t.rows) := rfl
@[simp] theorem ix_rowL1 {t : Tab} : ixD (rowL t) (.int 1) = some (.int t.spare) := rfl
@[simp] theorem ix_rowL2 {t : Tab} : ixD (rowL t) (.int 2) = some (.str t.fate) := rfl
@[simp] theorem isInt_int {i lo hi : Int} : isIntT (.int i) lo hi = (decide (lo ≤ i) && decide (i ≤ hi)) := rfl
@[simp] theorem isInt_non {lo hi : Int} : isIntT .non lo hi = false := rfl
@[simp] theorem isInt_bl {b : Bool} {lo hi : Int} : isIntT (.bl b) lo hi = false := rfl
@[simp] theorem isInt_str {b : Str} {lo hi : Int} : isIntT (.str b) lo hi = false := rfl
@[simp] theorem isInt_tup {b : List Dt} {lo hi : Int} : isIntT (.tup b) lo hi = false := rfl
@[simp] theorem isInt_lst {b : List Dt} {lo hi : Int} : isIntT (.lst b) lo hi = false := rfl
@[simp] theorem x_addL {a b : List Dt} : addD (.lst a) (.lst b) = if a.length + b.length ≤ 16777216 then some (.lst (a ++ b)) else none := rfl
@[simp] theorem x_addT {a b : List Dt} : addD (.tup a) (.tup b) = if a.length + b.length ≤ 16777216 then some (.tup (a ++ b)) else none := rfl
@[simp] theorem x_eqTabR {t u : Tab} (h : t.Good) : eqTabD (.tab t) (rowL u) = some (.bl false) := x_eqTabL h
theorem Tab.Good.flip {t : Tab} (g : t.Good) : (⟨t.rows, 1 - t.spare, t.fate⟩ : Tab).Good := ⟨g.len, g.row, by have := g.spare; show 1 - t.spare = 0 ∨ 1 - t.spare = 1; omega, g.fate⟩
theorem Tab.flip_ne {t : Tab} (g : t.Good) : t ≠ ⟨t.rows, 1 - t.spare, t.fate⟩ := fun e => by
  have h := congrArg Tab.spare e
  have := g.spare
  simp at h
  omega
/-! sizes -/
theorem ret_if {α : Type} {p : Prop} [Decidable p] {a b : Pm α} (h : p) : (if p then a else b) = a := if_pos h
end Tk
namespace Tk
open PySem PySem.Spec L2 RZ StX
/-! ### what is like itself -/
theorem sameL_self {n : Nat} : ∀ {l : List Dt}, (∀ d ∈ l, Dt.same n d d = true) → Dt.sameL n l l = true
  | [], _ => by rw [Dt.sameL]
  | d :: l, h => by rw [Dt.sameL, h d (List.mem_cons_self ..), sameL_self fun e he => h e (List.mem_cons_of_mem _ he)]; rfl
theorem same_tup {n : Nat} {l : List Dt} (hl : l.length < 1000000) (h : ∀ d ∈ l, Dt.same n d d = true) : Dt.same (n + 1) (.tup l) (.tup l) = true := by rw [Dt.same, decide_eq_true hl, sameL_self h]; rfl
theorem same_lst {n : Nat} {l : List Dt} (hl : l.length < 1000000) (h : ∀ d ∈ l, Dt.same n d d = true) : Dt.same (n + 1) (.lst l) (.lst l) = true := by rw [Dt.same, decide_eq_true hl, sameL_self h]; rfl
@[simp] theorem same_int {n : Nat} {i : Int} : Dt.same (n + 1) (.int i) (.int i) = true := by rw [Dt.same]; exact decide_eq_true rfl
@[simp] theorem same_str {n : Nat} {i : Str} : Dt.same (n + 1) (.str i) (.str i) = true := by rw [Dt.same]; exact decide_eq_true rfl
@[simp] theorem same_bl {n : Nat} {i : Bool} : Dt.same (n + 1) (.bl i) (.bl i) = true := by rw [Dt.same]; exact beq_self_eq_true i
@[simp] theorem same_non {n : Nat} : Dt.same (n + 1) .non .non = true := by rw [Dt.same]
theorem mem_map_all {α : Type} {f : α → Dt} {xs : List α} {p : Dt → Prop} (h : ∀ x ∈ xs, p (f x)) : ∀ d ∈ xs.map f, p d := fun d hd => by
  obtain ⟨x, hx, rfl⟩ := List.mem_map.mp hd
  exact h x hx
theorem same_row {n : Nat} {r : List Int} (h : r.length < 1000000) : Dt.same (n + 2) (rowT r) (rowT r) = true := same_tup (by rw [List.length_map]; exact h) (mem_map_all fun _ _ => same_int)
theorem same_rows {n : Nat} {t : Tab} (g : t.Good) : Dt.same (n + 3) (rowsT t.rows) (rowsT t.rows) = true := same_tup (by rw [List.length_map]; have := g.len; omega) (mem_map_all fun r hr => same_row (by have := g.rowLen hr; omega))
theorem same_rowL {n : Nat} {t : Tab} (g : t.Good) : Dt.same (n + 4) (rowL t) (rowL t) = true := same_lst (by simp) fun d hd => by
  simp only [List.mem_cons, List.not_mem_nil, or_false] at hd
  rcases hd with rfl | rfl | rfl
  · exact same_rows g
  · exact same_int
  · exact same_str
end Tk

end

section
/-! more plain facts: parts of lists, loops that leave, caught exceptions, texts -/
namespace Tk
open PySem PySem.Spec L2 RZ StX
theorem cutD_from {xs : List Dt} {n : Nat} : cutD xs (some (n : Int)) none = xs.drop n := by
  unfold cutD
  rw [HT.sIx_nat, HT.sIx_none]
  rcases Nat.lt_or_ge n xs.length with h | h
  · rw [Nat.min_eq_left (Nat.le_of_lt h), List.take_of_length_le (by rw [List.length_drop]; omega)]
  · rw [Nat.min_eq_right h, List.drop_of_length_le (Nat.le_refl _), List.drop_of_length_le h, List.take_nil]
theorem cutD_to {xs : List Dt} {n : Nat} : cutD xs none (some (n : Int)) = xs.take n := by
  unfold cutD
  rw [HT.sIx_nat, HT.sIx_none, List.drop_zero, Nat.sub_zero]
  rcases Nat.lt_or_ge n xs.length with h | h
  · rw [Nat.min_eq_left (Nat.le_of_lt h)]
  · rw [Nat.min_eq_right h, List.take_of_length_le (Nat.le_refl _), List.take_of_length_le h]
@[simp] theorem sl_fromL {xs : List Dt} {n : Nat} : slD (.lst xs) (some (n : Int)) none = some (.lst (xs.drop n)) := congrArg (fun l => some (Dt.lst l)) cutD_from
@[simp] theorem sl_fromT {xs : List Dt} {n : Nat} : slD (.tup xs) (some (n : Int)) none = some (.tup (xs.drop n)) := congrArg (fun l => some (Dt.tup l)) cutD_from
@[simp] theorem sl_toL {xs : List Dt} {n : Nat} : slD (.lst xs) none (some (n : Int)) = some (.lst (xs.take n)) := congrArg (fun l => some (Dt.lst l)) cutD_to
@[simp] theorem sl_toT {xs : List Dt} {n : Nat} : slD (.tup xs) none (some (n : Int)) = some (.tup (xs.take n)) := congrArg (fun l => some (Dt.tup l)) cutD_to
@[simp] theorem sl_1L {xs : List Dt} : slD (.lst xs) (some 1) none = some (.lst (xs.drop 1)) := sl_fromL (n := 1)
@[simp] theorem sl_1T {xs : List Dt} : slD (.tup xs) (some 1) none = some (.tup (xs.drop 1)) := sl_fromT (n := 1)
@[simp] theorem sl_2L {xs : List Dt} : slD (.lst xs) (some 2) none = some (.lst (xs.drop 2)) := sl_fromL (n := 2)
@[simp] theorem x_addLD {a b : List Dt} : addLD (.lst a) (.lst b) = if a.length + b.length ≤ 16777216 then some (.lst (a ++ b)) else none := rfl
@[simp] theorem x_tryC {l : List MCl} {s : MS} {ρ : Ev} : mTryC l s ρ = (s ρ >>= fun o => match o with
  | .ex x f ρ' => mCls l x f ρ'
  | o => .ret o) := rfl
@[simp] theorem x_cls0 {x : Str} {f : Option (Str × Dt)} {ρ : Ev} : mCls [] x f ρ = .ret (.ex x f ρ) := rfl
@[simp] theorem x_cls1 {q : MCl} {r : List MCl} {x : Str} {f : Option (Str × Dt)} {ρ : Ev} : mCls (q :: r) x f ρ = (match q.sub x with
    | some false => mCls r x f ρ
    | some true => exAll f fun dd => .all fun a => q.h a x dd (onR q.i (.err a x dd) ρ) >>= fun o => .ret (offO q.i o)
    | none => .bad) := by rw [mCls] <;> rfl
@[simp] theorem x_exN {k : XD → Pm Out} : exAll none k = k none := rfl
@[simp] theorem x_exS {n : Str} {d : Dt} {k : XD → Pm Out} : exAll (some (n, d)) k = (match d.v? with
    | some v => .all fun b => k (some (b, n, v))
    | none => .bad) := rfl
@[simp] theorem x_v_int {i : Int} : (Dt.int i).v? = some (.int i) := rfl
@[simp] theorem x_v_non : Dt.non.v? = some .non := rfl
@[simp] theorem x_v_str {i : Str} : (Dt.str i).v? = some (.str i) := rfl
@[simp] theorem x_v_bl {i : Bool} : (Dt.bl i).v? = some (.bl i) := rfl
@[simp] theorem x_ofV_int {i : Int} : ofV (.int i) = .int i := rfl
@[simp] theorem x_ofV_non : ofV .non = .non := rfl
@[simp] theorem x_isE {ok : Str → Str → Option Bool} {a : Addr} {x y : Str} {dd : XD} : isED ok a x dd [.err a x dd, .cls y] = (ok x y).map .bl := by
  show (if a = a ∧ XD.adr dd = XD.adr dd then _ else _) = _
  rw [if_pos ⟨rfl, rfl⟩]
@[simp] theorem x_errF {ok : Str → Bool} {a : Addr} {x n : Str} {dd : XD} {m : ME} {ρ : Ev} : mErrF ok a x dd n m ρ = (m ρ >>= fun d => match d with
  | .err a' _ (some (b, n', v)) => if a' = a ∧ XD.adr dd = some b ∧ n' = n ∧ ok x = true then .ret (ofV v) else .bad
  | _ => .bad) := rfl
@[simp] theorem x_adrS {b : Addr} {n : Str} {v : V} : XD.adr (some (b, n, v)) = some b := rfl
@[simp] theorem x_adrN : XD.adr none = none := rfl
@[simp] theorem x_onS {i : Nat} {d : Dt} {ρ : Ev} : onR (some i) d ρ = ρ.set i (some d) := rfl
@[simp] theorem x_onN {d : Dt} {ρ : Ev} : onR none d ρ = ρ := rfl
@[simp] theorem x_offS {i : Nat} {ρ : Ev} : offO (some i) (.nx ρ) = .nx (ρ.set i none) := rfl
@[simp] theorem x_offN {o : Out} : offO none o = o := by cases o <;> rfl
@[simp] theorem all_nox {α : Type} {k : Nat → Pm α} : (Pm.all k).nox = Pm.all fun i => (k i).nox := rfl
@[simp] theorem draw_nox {α : Type} {n : Nat} {k : Nat → Pm α} : (Pm.draw n k).nox = Pm.draw n fun i => (k i).nox := rfl
/-- a loop over numbers that may be left -/
theorem for_ix {mg : MG} {s : MS} {f : Nat → Dt} (P : Nat → Ev) (bad : Nat → Bool) (R : Nat → Out) (hR : ∀ k, ∀ ρ, R k ≠ .nx ρ ∧ R k ≠ .ct ρ ∧ R k ≠ .bk ρ) : ∀ {m a : Nat}, (∀ k, a ≤ k → k < a + m → forOne mg s (f k) (P k) = .ret (if bad k = true then R k else .nx (P (k + 1)))) →
    forGo mg s ((List.range' a m).map f) (P a) = .ret (match (List.range' a m).find? bad with
      | some k => R k
      | none => .nx (P (a + m)))
  | 0, a, _ => rfl
  | m + 1, a, h => by
    have h1 := h a (Nat.le_refl _) (by omega)
    unfold forOne at h1
    rw [List.range'_succ, List.map_cons, x_for1, ← bind_assoc', h1, ret_bind, List.find?_cons]
    cases e : bad a with
    | true =>
      rw [if_pos rfl]
      simp only
      have := hR a
      revert this
      cases R a with
      | nx ρ => intro z; exact ((z ρ).1 rfl).elim
      | ct ρ => intro z; exact ((z ρ).2.1 rfl).elim
      | bk ρ => intro z; exact ((z ρ).2.2 rfl).elim
      | _ => intro _; rfl
    | false =>
      rw [if_neg (by simp)]
      show forGo mg s ((List.range' (a + 1) m).map f) (P (a + 1)) = _
      rw [for_ix P bad R hR (m := m) (a := a + 1) fun k h1 h2 => h k (by omega) (by omega), show a + 1 + m = a + (m + 1) by omega]
theorem rngD_range' {i : Int} {n : Nat} : rngD i n = (List.range' 0 n).map fun (k : Nat) => .int (i + k) := by
  unfold rngD
  rw [List.range_eq_range']
/-- the thing at an index -/
def nthD {α : Type} (l : List α) (k : Nat) (d : α) : α := l.getD k d
theorem nthD_eq {α : Type} {l : List α} {k : Nat} {d : α} : nthD l k d = l.getD k d := rfl
theorem enum_range' {l : List Dt} : enumD l = (List.range' 0 l.length).map fun k => .tup [.int (k : Nat), nthD l k .non] := by
  apply List.ext_getElem?
  intro i
  cases e : l[i]? with
  | none =>
    have := List.getElem?_eq_none_iff.mp e
    rw [List.getElem?_eq_none_iff.mpr (by simp; omega), List.getElem?_eq_none_iff.mpr (by simp; omega)]
  | some d =>
    obtain ⟨hi, _⟩ := List.getElem?_eq_some_iff.mp e
    rw [enumD_get e, List.getElem?_map, List.getElem?_range' (by omega)]
    simp [nthD, List.getD_eq_getElem?_getD, e]
theorem wp_rets {α : Type} {m : Pm α} {a : α} {Q : α → Prop} {E : Str → Option (Str × Dt) → Prop} (h : m = .ret a) (q : Q a) : wp m Q E := by
  rw [h]; exact wp_ret.mpr q
/-- a loop whose turns are counted -/
theorem wp_forN {mg : MG} {s : MS} {Q : Out → Prop} (I : Nat → Ev → Prop) : ∀ {l : List Dt} {n : Nat} {ρ : Ev}, I n ρ → (∀ d ∈ l, ∀ k, k < n + l.length → ∀ ρ, I k ρ → wp (forOne mg s d ρ) (fun o => ∃ ρ', o = .nx ρ' ∧ I (k + 1) ρ') NoX) → (∀ ρ, I (n + l.length) ρ → Q (.nx ρ)) → wp (forGo mg s l ρ) Q NoX
  | [], n, ρ, h0, _, hp => by rw [x_for0]; exact wp_ret.mpr (hp ρ h0)
  | d :: l, n, ρ, h0, hs, hp => by
    rw [x_for1, ← bind_assoc', wp_bind]
    refine wp_mono (hs d (List.mem_cons_self ..) n (by simp) ρ h0) (fun o ⟨ρ', e, h1⟩ => ?_) fun _ _ z => z
    subst e
    exact wp_forN I h1 (fun e he k hk => hs e (List.mem_cons_of_mem _ he) k (by simp at hk ⊢; omega)) fun ρ h => hp ρ (by rw [List.length_cons, show n + (l.length + 1) = n + 1 + l.length by omega]; exact h)
/-! equality of lists of the same kind -/
theorem eqvL_map {α : Type} [DecidableEq α] {f : α → Dt} (h : ∀ x y, (f x).eqv (f y) = decide (x = y)) : ∀ {a b : List α}, Dt.eqvL (a.map f) (b.map f) = decide (a = b)
  | [], [] => by rw [List.map_nil, Dt.eqvL]; simp
  | [], _ :: _ => by simp [Dt.eqvL]
  | _ :: _, [] => by simp [Dt.eqvL]
  | x :: a, y :: b => by
    rw [List.map_cons, List.map_cons, Dt.eqvL, h, eqvL_map h]
    simp
theorem cmpL_map {α : Type} {f : α → Dt} {n : Nat} : ∀ {a : List α}, (∀ x ∈ a, (f x).cmp n = true) → Dt.cmpL n (a.map f) = true
  | [], _ => by rw [List.map_nil, Dt.cmpL]
  | x :: a, h => by rw [List.map_cons, Dt.cmpL, h x (List.mem_cons_self ..), cmpL_map fun y hy => h y (List.mem_cons_of_mem _ hy)]; rfl
theorem cmp_lst {n : Nat} {l : List Dt} : (Dt.lst l).cmp (n + 1) = Dt.cmpL n l := by rw [Dt.cmp]
theorem cmp_tup {n : Nat} {l : List Dt} : (Dt.tup l).cmp (n + 1) = Dt.cmpL n l := by rw [Dt.cmp]
theorem cmp_str {n : Nat} {z : Str} : (Dt.str z).cmp n = PyData.strOk z := by cases n <;> rw [Dt.cmp]
@[simp] theorem eqv_strD {x y : Str} : (Dt.str x).eqv (.str y) = decide (x = y) := by rw [Dt.eqv]
@[simp] theorem eqv_intD {x y : Int} : (Dt.int x).eqv (.int y) = decide (x = y) := by rw [Dt.eqv]
@[simp] theorem eqv_blD {x y : Bool} : (Dt.bl x).eqv (.bl y) = (x == y) := by rw [Dt.eqv]
@[simp] theorem eqv_lstD {x y : List Dt} : (Dt.lst x).eqv (.lst y) = Dt.eqvL x y := by rw [Dt.eqv]
@[simp] theorem eqv_tupD {x y : List Dt} : (Dt.tup x).eqv (.tup y) = Dt.eqvL x y := by rw [Dt.eqv]
theorem eq_strs {a b : List Str} (ha : ∀ z ∈ a, PyData.strOk z = true) (hb : ∀ z ∈ b, PyData.strOk z = true) : eqD (.lst (a.map Dt.str)) (.lst (b.map Dt.str)) = some (.bl (decide (a = b))) := by
  refine eqD_of ?_ ?_ ?_
  · rw [cmp_lst]; exact cmpL_map fun x hx => by rw [cmp_str]; exact ha x hx
  · rw [cmp_lst]; exact cmpL_map fun x hx => by rw [cmp_str]; exact hb x hx
  · rw [eqv_lstD]; exact eqvL_map fun x y => eqv_strD
theorem sign_filter {r : List Str} : digits.filterMap (fun z => if z ∈ r then some (Dt.str z) else none) = (digits.filter fun s => decide (s ∈ r)).map Dt.str := by
  rw [← List.filterMap_eq_map, List.filterMap_filter]
  congr 1
  funext z
  by_cases h : z ∈ r <;> simp [h]
theorem strOf_nat {j : Nat} (h : j ≤ 3) : strOfD [.int (j : Nat)] = some (.str (iS j)) := by
  show (if _ then _ else _) = _
  rw [if_pos (one_log (by omega) (by omega))]
  rfl
theorem eq_strG {a b : Str} (ha : gw a = true) (hb : gw b = true) : eqD (.str a) (.str b) = some (.bl (decide (a = b))) := eq_str (gw_ok ha) (gw_ok hb)
theorem ne_strG {a b : Str} (ha : gw a = true) (hb : gw b = true) : neD (.str a) (.str b) = some (.bl (!decide (a = b))) := ne_str (gw_ok ha) (gw_ok hb)
theorem gw_nat {j : Nat} (h : j ≤ 4) : gw (iS j) = true := by
  have : ∀ j, j ≤ 4 → gw (iS (j : Nat)) = true := by decide +kernel
  exact this j h
/-- what the last turn left -/
def lastO (k : Nat) (f : Nat → Dt) : Option Dt := match k with
  | 0 => none
  | k + 1 => some (f k)
@[simp] theorem lastO_succ {k : Nat} {f : Nat → Dt} : lastO (k + 1) f = some (f k) := rfl
theorem nth_map {α : Type} {f : α → Dt} {xs : List α} {k : Nat} {d : α} (h : k < xs.length) : nthD (xs.map f) k .non = f (nthD xs k d) := by
  unfold nthD
  rw [List.getD_eq_getElem?_getD, List.getD_eq_getElem?_getD, List.getElem?_map, List.getElem?_eq_getElem h]
  rfl
theorem nth_mem {α : Type} {xs : List α} {k : Nat} {d : α} (h : k < xs.length) : nthD xs k d ∈ xs := by
  unfold nthD
  rw [List.getD_eq_getElem?_getD, List.getElem?_eq_getElem h]
  exact List.getElem_mem _
theorem nth_at {α : Type} {xs : List α} {k : Nat} {d : α} (h : k < xs.length) : xs[k]? = some (nthD xs k d) := by
  unfold nthD
  rw [List.getD_eq_getElem?_getD, List.getElem?_eq_getElem h]
  rfl
theorem txt_le {ls : List (List Str)} (g : GoodLs ls) : (txtOf ls).length ≤ 2000000 := by
  have h0 : (txtOf ls).length ≤ _ := join_le _ _
  have h1 : ((ls.map (Txt.join sp1)).map (·.length)).sum ≤ ((ls.map (Txt.join sp1)).map (·.length)).length * 10100 := sum_le fun a ha => by
    obtain ⟨z, hz, rfl⟩ := List.mem_map.mp ha
    obtain ⟨l, hl, rfl⟩ := List.mem_map.mp hz
    have q := g.each l hl
    exact line_len q.2.1 q.2.2
  rw [List.length_map, List.length_map] at h1
  rw [List.length_map, show nl1.length = 1 by decide +kernel] at h0
  have := g.len
  omega
theorem find_line {ls : List (List Str)} : (List.range' 0 ls.length).find? (fun i => !okLine (nthD ls i []) i) = badLine ls := by unfold badLine nthD; rw [List.range_eq_range']
def badT (tk : List (List Int)) (i : Nat) : Bool := (nthD tk i []).any fun n => decide ((tk.length : Int) - 1 < n)
theorem find_take {tk : List (List Int)} : (List.range' 0 tk.length).find? (badT tk) = badTake tk := by unfold badTake badT nthD; rw [List.range_eq_range']
theorem intOf_dig {r : List Str} (h : digits.filter (fun s => decide (s ∈ r)) = r) {z : Str} (hz : z ∈ r) : intOfD [.str z] = some (.int (digI z)) := by
  have key : ∀ z ∈ digits, z.length ≤ 640 := by decide +kernel
  have hd : z ∈ digits := by
    rw [← h] at hz
    exact (List.mem_filter.mp hz).1
  show (if z.length ≤ 640 then (PySem.intText? z).map Dt.int else none) = _
  rw [if_pos (key z hd), (dig_good h).2.2 z hz]
  rfl
theorem split_txt {ls : List (List Str)} (g : GoodLs ls) : splitD (txtOf ls) (.str nl1) = some (.lst (ls.map fun l => .str (Txt.join sp1 l))) := by
  show (if _ then _ else _) = _
  rw [if_pos ⟨by decide +kernel, Nat.le_trans (txt_le g) (by decide)⟩, split_lines g, List.map_map]
  rfl
theorem split_words {l : List Str} (h0 : l ≠ []) (h1 : l.length ≤ 100) (h2 : ∀ z ∈ l, gw z = true) : splitD (Txt.join sp1 l) (.str sp1) = some (.lst (l.map Dt.str)) := by
  show (if _ then _ else _) = _
  rw [if_pos ⟨by decide +kernel, Nat.le_trans (line_len h1 h2) (by decide)⟩, split_line h0 h2]
theorem any_bl {α : Type} {p : α → Bool} {xs : List α} : anyD [.lst (xs.map fun x => .bl (p x))] = some (.bl (xs.any p)) := by
  show (bools (xs.map fun x => .bl (p x))).map _ = _
  rw [show (xs.map fun x => Dt.bl (p x)) = (xs.map p).map Dt.bl by rw [List.map_map]; rfl, bools_map]
  simp [List.any_map]
theorem all_bl {α : Type} {p : α → Bool} {xs : List α} : allD [.lst (xs.map fun x => .bl (p x))] = some (.bl (xs.all p)) := by
  show (bools (xs.map fun x => .bl (p x))).map _ = _
  rw [show (xs.map fun x => Dt.bl (p x)) = (xs.map p).map Dt.bl by rw [List.map_map]; rfl, bools_map]
  simp [List.all_map]
def jlines (ls : List (List Str)) : Dt := .lst (ls.map fun l => .str (Txt.join sp1 l))
theorem join_jl {ls : List (List Str)} (g : GoodLs ls) : joinD nl1 (jlines ls) = some (.str (txtOf ls)) := by
  have h1 : ((ls.map (Txt.join sp1)).map (·.length)).sum ≤ ((ls.map (Txt.join sp1)).map (·.length)).length * 10100 := sum_le fun a ha => by
    obtain ⟨z, hz, rfl⟩ := List.mem_map.mp ha
    obtain ⟨l, hl, rfl⟩ := List.mem_map.mp hz
    have q := g.each l hl
    exact line_len q.2.1 q.2.2
  rw [List.length_map, List.length_map] at h1
  have := g.len
  unfold jlines joinD
  rw [show (ls.map fun l => Dt.str (Txt.join sp1 l)) = (ls.map (Txt.join sp1)).map Dt.str by rw [List.map_map]; rfl]
  show (strsD ((ls.map (Txt.join sp1)).map Dt.str)).bind _ = _
  rw [strsD_map]
  show (if ((ls.map (Txt.join sp1)).map (·.length)).sum + (ls.map (Txt.join sp1)).length * nl1.length ≤ 16777216 then _ else _) = _
  rw [if_pos (by rw [List.length_map, show nl1.length = 1 by decide +kernel]; omega)]
  rfl
theorem ix_jl {ls : List (List Str)} {k : Nat} (h : k < ls.length) : ixD (jlines ls) (.int (k : Nat)) = some (.str (Txt.join sp1 (nthD ls k []))) := by
  unfold jlines
  rw [ixL, atI_nat', List.getElem?_map, nth_at (d := []) h]
  rfl
theorem len_jl {ls : List (List Str)} : lenD [jlines ls] = some (.int (ls.length : Nat)) := by unfold jlines; simp
theorem toFrom_jl {ls : List (List Str)} {n : Nat} : slD (jlines ls) none (some (n : Int)) = some (jlines (ls.take n)) ∧ slD (jlines ls) (some (n : Int)) none = some (jlines (ls.drop n)) := by
  unfold jlines
  exact ⟨by rw [sl_toL, List.map_take], by rw [sl_fromL, List.map_drop]⟩
theorem add_jl {a b : List (List Str)} (h : a.length + b.length ≤ 1000) : addD (jlines a) (jlines b) = some (jlines (a ++ b)) ∧ addLD (jlines a) (jlines b) = some (jlines (a ++ b)) := by
  unfold jlines
  constructor
  · rw [x_addL, if_pos (by rw [List.length_map, List.length_map]; omega), List.map_append]
  · rw [x_addLD, if_pos (by rw [List.length_map, List.length_map]; omega), List.map_append]
def lastP (o : Option Dt) (k : Nat) (f : Nat → Dt) : Option Dt := match k with
  | 0 => o
  | k + 1 => some (f k)
@[simp] theorem lastP_succ {o : Option Dt} {k : Nat} {f : Nat → Dt} : lastP o (k + 1) f = some (f k) := rfl
@[simp] theorem lastP_zero {o : Option Dt} {f : Nat → Dt} : lastP o 0 f = o := rfl
@[simp] theorem flatQ_non : flatQ .non = .ret .non := x_flatQ (by rw [Dt.flat])
@[simp] theorem flatQ_int {i : Int} : flatQ (.int i) = .ret (.int i) := x_flatQ (by rw [Dt.flat])
@[simp] theorem flatQ_str {i : Str} : flatQ (.str i) = .ret (.str i) := x_flatQ (by rw [Dt.flat])
@[simp] theorem flatQ_bl {i : Bool} : flatQ (.bl i) = .ret (.bl i) := x_flatQ (by rw [Dt.flat])
@[simp] theorem isi_tt {l : List Dt} : isiD [.tup l, .ty "tuple"] = some (.bl true) := rfl
theorem find_idx {α : Type} {l : List α} {d : α} {p : α → Bool} : (List.range' 0 l.length).find? (fun k => p (nthD l k d)) = l.findIdx? p := by
  rw [← List.range_eq_range']
  cases e : l.findIdx? p with
  | none =>
    rw [List.findIdx?_eq_none_iff] at e
    refine List.find?_range_eq_none.mpr fun i hi => ?_
    rw [e _ (nth_mem hi)]
    rfl
  | some i =>
    rw [List.findIdx?_eq_some_iff_getElem] at e
    obtain ⟨h, h1, h2⟩ := e
    have q : ∀ j (hj : j < l.length), nthD l j d = l[j] := fun j hj => by
      unfold nthD
      rw [List.getD_eq_getElem?_getD, List.getElem?_eq_getElem hj]
      rfl
    refine List.find?_range_eq_some.mpr ⟨by rw [q i h]; exact h1, List.mem_range.mpr h, fun j hj => ?_⟩
    have := h2 j hj
    rw [q j (Nat.lt_trans hj h)]
    simpa using this
@[simp] theorem wp_nox {α : Type} {m : Pm α} {Q : α → Prop} {E : Str → Option (Str × Dt) → Prop} : wp m.nox Q E ↔ wp m Q NoX := by rw [wp_iff, wp_iff, wp0_nox]
end Tk

end

section
/-! rows that come round: plain facts -/
namespace Tk
open PySem PySem.Spec L2 RZ StX
def rowsL (r : Nat → Dt) (n : Nat) : List Dt := (List.range n).map r
@[simp] theorem rowsL_len {r : Nat → Dt} {n : Nat} : (rowsL r n).length = n := by unfold rowsL; simp
theorem rowsL_get {r : Nat → Dt} {n i : Nat} (h : i < n) : (rowsL r n)[i]? = some (r i) := by unfold rowsL; simp [h]
theorem rowsL_succ {r : Nat → Dt} {n : Nat} : rowsL r (n + 1) = rowsL r n ++ [r n] := by unfold rowsL; rw [List.range_succ, List.map_append]; rfl
theorem cutD_nn {xs : List Dt} {a b : Nat} (h : a ≤ b) (hb : b ≤ xs.length) : cutD xs (some (a : Int)) (some (b : Int)) = (xs.drop a).take (b - a) := by
  unfold cutD
  rw [HT.sIx_nat, HT.sIx_nat, Nat.min_eq_left (Nat.le_trans h hb), Nat.min_eq_left hb]
theorem range_cut {a b n : Nat} (h : a ≤ b) (hb : b ≤ n) : ((List.range n).drop a).take (b - a) = List.range' a (b - a) := by
  apply List.ext_getElem?
  intro i
  by_cases hi : i < b - a
  · rw [List.getElem?_take_of_lt hi, List.getElem?_drop, List.getElem?_range (by omega), List.getElem?_range' hi]
    simp
  · rw [List.getElem?_eq_none_iff.mpr (by simp; omega), List.getElem?_eq_none_iff.mpr (by simp; omega)]
theorem rows_cut {r : Nat → Dt} {a b n : Nat} (h : a ≤ b) (hb : b ≤ n) : cutD (rowsL r n) (some (a : Int)) (some (b : Int)) = (List.range' a (b - a)).map r := by
  rw [cutD_nn h (by simpa using hb)]
  unfold rowsL
  rw [← List.map_drop, ← List.map_take, range_cut h hb]
theorem rows_to {r : Nat → Dt} {b n : Nat} (hb : b ≤ n) : (rowsL r n).take b = rowsL r b := by
  unfold rowsL
  rw [← List.map_take, List.take_range, Nat.min_eq_left hb]
/-- such rows can be compared, and are told apart -/
structure Cmp (r : Nat → Dt) : Prop where
  cmp : ∀ i, (r i).cmp 10 = true
  eqv : ∀ i j, (r i).eqv (r j) = true ↔ r i = r j
  flat : ∀ i, (r i).flat = true
def sameR (r : Nat → Dt) (a b m : Nat) : Bool := (List.range m).all fun i => (r (a + i)).eqv (r (b + i))
theorem eqvL_range {r : Nat → Dt} : ∀ {m a b : Nat}, Dt.eqvL ((List.range' a m).map r) ((List.range' b m).map r) = sameR r a b m
  | 0, a, b => by simp [sameR, Dt.eqvL]
  | m + 1, a, b => by
    rw [List.range'_succ, List.range'_succ, List.map_cons, List.map_cons, Dt.eqvL, eqvL_range]
    unfold sameR
    rw [List.range_succ_eq_map, List.all_cons, List.all_map]
    congr 1
    congr 1
    funext i
    simp only [Function.comp, Nat.succ_eq_add_one]
    rw [show a + 1 + i = a + (i + 1) by omega, show b + 1 + i = b + (i + 1) by omega]
theorem cmpL_of {n : Nat} : ∀ {l : List Dt}, (∀ d ∈ l, d.cmp n = true) → Dt.cmpL n l = true
  | [], _ => by rw [Dt.cmpL]
  | d :: l, h => by rw [Dt.cmpL, h d (List.mem_cons_self ..), cmpL_of fun e he => h e (List.mem_cons_of_mem _ he)]; rfl
mutual
theorem cmp_up : ∀ (d : Dt) (n : Nat), d.cmp n = true → d.cmp (n + 1) = true
  | .non, n, _ => by rw [Dt.cmp]
  | .bl _, n, _ => by rw [Dt.cmp]
  | .int _, n, _ => by rw [Dt.cmp]
  | .str z, n, h => by rw [cmp_str] at h ⊢; exact h
  | .tup l, 0, h => by simp [Dt.cmp] at h
  | .tup l, n + 1, h => by rw [Dt.cmp] at h ⊢; exact cmpL_up l n h
  | .lst l, 0, h => by simp [Dt.cmp] at h
  | .lst l, n + 1, h => by rw [Dt.cmp] at h ⊢; exact cmpL_up l n h
  | .ty _, n, h => by cases n <;> simp [Dt.cmp] at h
  | .cls _, n, h => by cases n <;> simp [Dt.cmp] at h
  | .dK _, n, h => by cases n <;> simp [Dt.cmp] at h
  | .dT _, n, h => by cases n <;> simp [Dt.cmp] at h
  | .dN _, n, h => by cases n <;> simp [Dt.cmp] at h
  | .err _ _ _, n, h => by cases n <;> simp [Dt.cmp] at h
  | .fn _ _ _ _ _, n, h => by cases n <;> simp [Dt.cmp] at h
  | .two _ _, n, h => by cases n <;> simp [Dt.cmp] at h
  | .gam _ _ _ _, n, h => by cases n <;> simp [Dt.cmp] at h
  | .nst _, n, h => by cases n <;> simp [Dt.cmp] at h
  | .tab _, n, h => by cases n <;> simp [Dt.cmp] at h
  | .hnd, n, h => by cases n <;> simp [Dt.cmp] at h
  | .scr _, n, h => by cases n <;> simp [Dt.cmp] at h
  | .any, n, h => by cases n <;> simp [Dt.cmp] at h
theorem cmpL_up : ∀ (l : List Dt) (n : Nat), Dt.cmpL n l = true → Dt.cmpL (n + 1) l = true
  | [], n, _ => by rw [Dt.cmpL]
  | d :: l, n, h => by
    rw [Dt.cmpL, Bool.and_eq_true] at h ⊢
    exact ⟨cmp_up d n h.1, cmpL_up l n h.2⟩
end
theorem cmp_le {d : Dt} {n m : Nat} (h : d.cmp n = true) (e : n ≤ m) : d.cmp m = true := by
  induction e with
  | refl => exact h
  | step _ ih => exact cmp_up _ _ ih
section
variable {r : Nat → Dt} (c : Cmp r)
include c
theorem Cmp.eqR {a b m : Nat} : eqD (.lst ((List.range' a m).map r)) (.lst ((List.range' b m).map r)) = some (.bl (sameR r a b m)) := by
  refine eqD_of ?_ ?_ ?_
  · rw [cmp_lst]; exact cmpL_map fun x hx => cmp_up _ _ (c.cmp x)
  · rw [cmp_lst]; exact cmpL_map fun x hx => cmp_up _ _ (c.cmp x)
  · rw [eqv_lstD, eqvL_range]
theorem Cmp.eq1 {i j : Nat} : eqD (r i) (r j) = some (.bl ((r i).eqv (r j))) := eqD_of (cmp_le (c.cmp i) (by decide)) (cmp_le (c.cmp j) (by decide)) rfl
theorem Cmp.same {a b m : Nat} : sameR r a b m = true ↔ ∀ i, i < m → r (a + i) = r (b + i) := by
  unfold sameR
  simp only [List.all_eq_true, List.mem_range]
  exact ⟨fun h i hi => (c.eqv _ _).mp (h i hi), fun h i hi => (c.eqv _ _).mpr (h i hi)⟩
end
def shOk (r : Nat → Dt) (b p s : Nat) : Bool := decide (p % s = 0) && sameR r b (b + s) (p - s)
def shOf (r : Nat → Dt) (b p : Nat) : Nat := ((List.range' 1 p).find? (shOk r b p)).getD p
def stOf (r : Nat → Dt) (s : Nat) : Nat → Nat
  | 0 => 0
  | b + 1 => if (r b).eqv (r (b + s)) = true then stOf r s b else b + 1
def patT (r : Nat → Dt) (c s : Nat) : Dt := .tup [.int (c : Nat), .int (s : Nat), .tup (rowsL r (c + s))]
def lpD (r : Nat → Dt) (b p : Nat) : Dt := patT r (stOf r (shOf r b p) b) (shOf r b p)
theorem shOk_self {r : Nat → Dt} {b p : Nat} : shOk r b p p = true := by unfold shOk sameR; simp
theorem shOf_find {r : Nat → Dt} {b p : Nat} (hp : 1 ≤ p) : (List.range' 1 p).find? (shOk r b p) = some (shOf r b p) := by
  unfold shOf
  cases e : (List.range' 1 p).find? (shOk r b p) with
  | some s => rfl
  | none =>
    have h := List.find?_eq_none.mp e p (by rw [List.mem_range'_1]; omega)
    exact (h shOk_self).elim
theorem shOf_le {r : Nat → Dt} {b p : Nat} (hp : 1 ≤ p) : 1 ≤ shOf r b p ∧ shOf r b p ≤ p ∧ shOk r b p (shOf r b p) = true := by
  have h := shOf_find (r := r) (b := b) hp
  have h1 := List.mem_of_find?_eq_some h
  have h2 := List.find?_some h
  rw [List.mem_range'_1] at h1
  exact ⟨h1.1, by omega, h2⟩
theorem stOf_le {r : Nat → Dt} {s : Nat} : ∀ b, stOf r s b ≤ b
  | 0 => Nat.le_refl _
  | b + 1 => by
    rw [stOf]
    split
    · exact Nat.le_succ_of_le (stOf_le b)
    · exact Nat.le_refl _
theorem flatL_of {l : List Dt} (h : ∀ d ∈ l, d.flat = true) : Dt.flatL l = true := by
  induction l with
  | nil => rw [Dt.flatL]
  | cons d l ih => rw [Dt.flatL, h d (List.mem_cons_self ..), ih fun e he => h e (List.mem_cons_of_mem _ he)]; rfl
theorem patT_flat {r : Nat → Dt} (c : Cmp r) {a b : Nat} : (patT r a b).flat = true := by
  unfold patT
  rw [Dt.flat]
  refine flatL_of fun d hd => ?_
  simp only [List.mem_cons, List.not_mem_nil, or_false] at hd
  rcases hd with rfl | rfl | rfl
  · rw [Dt.flat]
  · rw [Dt.flat]
  · rw [Dt.flat]
    refine flatL_of fun d hd => ?_
    unfold rowsL at hd
    obtain ⟨i, _, rfl⟩ := List.mem_map.mp hd
    exact c.flat i
/-! ### what it means -/
/-- from c on with the period s, both least -/
structure IsPat (r : Nat → Dt) (c s : Nat) : Prop where
  pos : 1 ≤ s
  per : ∀ i, c ≤ i → r (i + s) = r i
  first : c = 0 ∨ r (c - 1) ≠ r (c - 1 + s)
  least : ∀ k, 1 ≤ k → k < s → s % k = 0 → ¬ ∀ i, i < s → r (c + i) = r (c + k + i)
theorem per_mul {r : Nat → Dt} {b p : Nat} (h : ∀ i, b ≤ i → r (i + p) = r i) : ∀ k i, b ≤ i → r (i + p * k) = r i
  | 0, i, _ => rfl
  | k + 1, i, hi => by rw [Nat.mul_succ, ← Nat.add_assoc, h _ (by omega), per_mul h k i hi]
theorem stOf_spec {r : Nat → Dt} {s : Nat} (c : Cmp r) : ∀ b, (∀ i, b ≤ i → r (i + s) = r i) → (∀ i, stOf r s b ≤ i → r (i + s) = r i) ∧ (stOf r s b = 0 ∨ r (stOf r s b - 1) ≠ r (stOf r s b - 1 + s))
  | 0, h => ⟨h, .inl rfl⟩
  | b + 1, h => by
    rw [stOf]
    split
    · rename_i e
      have e := (c.eqv _ _).mp e
      exact stOf_spec c b fun i hi => by
        rcases Nat.eq_or_lt_of_le hi with z | z
        · rw [← z]; exact e.symm
        · exact h i z
    · rename_i e
      exact ⟨h, .inr fun z => e ((c.eqv _ _).mpr z)⟩
theorem lp_isPat {r : Nat → Dt} {b p : Nat} (c : Cmp r) (hp : 1 ≤ p) (h : ∀ i, b ≤ i → r (i + p) = r i) : IsPat r (stOf r (shOf r b p) b) (shOf r b p) := by
  obtain ⟨h1, h2, h3⟩ := shOf_le (r := r) (b := b) hp
  generalize hs : shOf r b p = s at h1 h2 h3
  -- one that divides p and is met over one period is met for ever
  have key : ∀ s, 1 ≤ s → s ≤ p → shOk r b p s = true → ∀ i, b ≤ i → r (i + s) = r i := by
    intro s h1 h2 h3 i hi
    unfold shOk at h3
    rw [Bool.and_eq_true, decide_eq_true_iff, c.same] at h3
    obtain ⟨hd, hr⟩ := h3
    obtain ⟨k, hk⟩ := Nat.dvd_of_mod_eq_zero hd
    -- in the first period
    have base : ∀ j, j < p → r (b + j + s) = r (b + j) := by
      intro j hj
      rcases Nat.lt_or_ge j (p - s) with z | z
      · rw [hr j z]; congr 1; omega
      · -- round the end: j + s - p is behind a multiple of s
        have back : ∀ m j, j + s * m < p → r (b + j + s * m) = r (b + j) := by
          intro m
          induction m with
          | zero => intro j _; rfl
          | succ m ih =>
            intro j hj
            rw [Nat.mul_succ] at hj ⊢
            have := hr (j + s * m) (by omega)
            rw [show b + j + (s * m + s) = b + s + (j + s * m) by omega, ← this, show b + (j + s * m) = b + j + s * m by omega]
            exact ih j (by omega)
        have e1 : r (b + j + s) = r (b + (j + s - p)) := by
          rw [show b + j + s = b + (j + s - p) + p by omega]
          exact h _ (by omega)
        have hk1 : 1 ≤ k := by
          rcases Nat.eq_zero_or_pos k with z | z
          · rw [z] at hk; omega
          · exact z
        have e2 : j = j + s - p + s * (k - 1) := by
          have : s * k = s * (k - 1) + s := by
            rw [← Nat.mul_succ]; congr 1; omega
          omega
        have e3 := back (k - 1) (j + s - p) (by omega)
        rw [e1, ← e3]
        congr 1
        omega
    -- anywhere
    have e1 : r i = r (b + (i - b) % p) := by
      have := per_mul h ((i - b) / p) (b + (i - b) % p) (by omega)
      rw [← this]
      congr 1
      have := Nat.div_add_mod (i - b) p
      omega
    have e2 : r (i + s) = r (b + (i - b) % p + s) := by
      have := per_mul h ((i - b) / p) (b + (i - b) % p + s) (by omega)
      rw [← this]
      congr 1
      have := Nat.div_add_mod (i - b) p
      omega
    rw [e1, e2]
    exact base _ (Nat.mod_lt _ hp)
  have hper := key s h1 h2 h3
  obtain ⟨g1, g2⟩ := stOf_spec c b hper
  refine ⟨h1, g1, g2, fun k k1 k2 k3 hk => ?_⟩
  -- a smaller one would have been found
  have kper : ∀ i, stOf r s b ≤ i → r (i + k) = r i := by
    intro i hi
    have e1 : r i = r (stOf r s b + (i - stOf r s b) % s) := by
      have := per_mul g1 ((i - stOf r s b) / s) (stOf r s b + (i - stOf r s b) % s) (by omega)
      rw [← this]
      congr 1
      have := Nat.div_add_mod (i - stOf r s b) s
      omega
    have e2 : r (i + k) = r (stOf r s b + (i - stOf r s b) % s + k) := by
      have := per_mul g1 ((i - stOf r s b) / s) (stOf r s b + (i - stOf r s b) % s + k) (by omega)
      rw [← this]
      congr 1
      have := Nat.div_add_mod (i - stOf r s b) s
      omega
    rw [e1, e2, hk _ (Nat.mod_lt _ h1)]
    congr 1
    omega
  have ok : shOk r b p k = true := by
    unfold shOk at h3 ⊢
    rw [Bool.and_eq_true, decide_eq_true_iff] at h3 ⊢
    refine ⟨?_, (c.same).mpr fun i _ => ?_⟩
    · exact Nat.mod_eq_zero_of_dvd (Nat.dvd_trans (Nat.dvd_of_mod_eq_zero k3) (Nat.dvd_of_mod_eq_zero h3.1))
    · have := stOf_le (r := r) (s := s) b
      rw [show b + k + i = b + i + k by omega, kper _ (by omega)]
  have hf := shOf_find (r := r) (b := b) hp
  rw [hs] at hf
  have := List.find?_range'_eq_some.mp hf
  have := this.2.2 k (by omega) (by omega)
  rw [ok] at this
  cases this
end Tk
namespace Tk
open PySem PySem.Spec L2 RZ StX
/-! ### rows made one by one -/
def recD (r : Nat → Dt) (most k : Nat) : Dt := .lst ((rowsL r k).reverse.take most)
def fstK (key : Nat → NestedKey) (most k : Nat) : Option Nat := (List.range' most (k - most)).find? fun j => decide (key j = key k)
def kvK (key : Nat → NestedKey) (most k : Nat) : List (NestedKey × V) := (List.range' most (k - most)).map fun j => (key j, V.int (j : Nat))
def markO (kd : Nat → Dt) (most k : Nat) : Option Dt := if k ≤ most then none else some (kd (k - 1))
theorem kvK_val {key : Nat → NestedKey} {most k : Nat} : valV (kvK key most k) (key k) = (fstK key most k).map fun j => V.int (j : Nat) := by
  unfold valV kvK fstK
  rw [List.find?_map, Option.map_map]
  rfl
theorem kvK_succ {key : Nat → NestedKey} {most k : Nat} (h : most ≤ k) : kvK key most (k + 1) = kvK key most k ++ [(key k, V.int (k : Nat))] := by
  unfold kvK
  rw [show k + 1 - most = (k - most) + 1 by omega, List.range'_concat, List.map_append, show most + 1 * (k - most) = k by omega]
  rfl
theorem kvK_len {key : Nat → NestedKey} {most k : Nat} : (kvK key most k).length = k - most := by unfold kvK; simp
theorem kvK_nil {key : Nat → NestedKey} {most k : Nat} (h : k ≤ most) : kvK key most k = [] := by unfold kvK; rw [show k - most = 0 by omega]; rfl
theorem inN_kv {key : Nat → NestedKey} {most k : Nat} {d : Dt} (h : keyT d = some (key k)) : inN d (.dN (kvK key most k)) = some (.bl (fstK key most k).isSome) := by
  unfold inN getN
  rw [h]
  simp [kvK_val]
theorem ixN_kv {key : Nat → NestedKey} {most k j : Nat} {d : Dt} (h : keyT d = some (key k)) (e : fstK key most k = some j) : ixNk (.dN (kvK key most k)) d = some (.int (j : Nat)) := by
  unfold ixNk getN
  rw [h]
  simp [kvK_val, e]
/-- what a lambda makes of rows so far: r the rows, kd what is remembered, key as a key -/
structure Made (m1 m2 : MF) (d : Dt) (most : Nat) (r kd : Nat → Dt) (key : Nat → NestedKey) : Prop where
  row : ∀ k : Nat, (m1 [recD r most k, .int (k : Nat), d]).nox = .ret (r k)
  win : ∀ k, most ≤ k → (m2 [recD r most k, d]).nox = .ret (kd k)
  ky : ∀ k, most ≤ k → keyT (kd k) = some (key k)
  cmp : Cmp r
  det : ∀ a b, most ≤ a → most ≤ b → key a = key b → r a = r b ∧ key (a + 1) = key (b + 1)
theorem Made.per {m1 m2 : MF} {d : Dt} {most : Nat} {r kd : Nat → Dt} {key : Nat → NestedKey} (M : Made m1 m2 d most r kd key) {a b : Nat} (ha : most ≤ a) (h : a ≤ b) (e : key a = key b) : ∀ i, a ≤ i → r (i + (b - a)) = r i := by
  have step : ∀ k, key (a + k) = key (b + k) := by
    intro k
    induction k with
    | zero => exact e
    | succ k ih => exact (M.det _ _ (by omega) (by omega) ih).2
  intro i hi
  have := (M.det _ _ (by omega) (by omega) (step (i - a))).1
  rw [show a + (i - a) = i by omega, show b + (i - a) = i + (b - a) by omega] at this
  exact this.symm
/-- a loop whose turns are counted, left at the last -/
theorem wh_till {mt : MB} {mb : MS} (P : Nat → Ev) {o : Out} (ho : ∀ ρ, o ≠ .nx ρ ∧ o ≠ .ct ρ ∧ o ≠ .bk ρ) (ht : ∀ k, mt (P k) = .ret true) : ∀ (m a F : Nat), m < F → (∀ k, a ≤ k → k < a + m → mb (P k) = .ret (.nx (P (k + 1)))) → mb (P (a + m)) = .ret o → whGo mt mb F (P a) = .ret o
  | 0, a, 0, h, _, _ => by omega
  | 0, a, F + 1, _, _, h => by
    rw [whGo, ht]
    simp only [mAtt_ret, if_pos]
    rw [show a + 0 = a from rfl] at h
    rw [h]
    revert ho
    cases o with
    | nx ρ => intro z; exact ((z ρ).1 rfl).elim
    | ct ρ => intro z; exact ((z ρ).2.1 rfl).elim
    | bk ρ => intro z; exact ((z ρ).2.2 rfl).elim
    | _ => intro _; rfl
  | m + 1, a, 0, h, _, _ => by omega
  | m + 1, a, F + 1, hF, hs, h => by
    rw [whGo, ht]
    simp only [mAtt_ret, if_pos]
    rw [hs a (Nat.le_refl _) (by omega)]
    exact wh_till P ho ht m (a + 1) F (by omega) (fun k h1 h2 => hs k (by omega) (by omega)) (by rw [show a + 1 + m = a + (m + 1) by omega]; exact h)
end Tk

end

section
/-! who wins: an account of tables, in plain Lean -/
namespace Tk
open PySem PySem.Spec L2 RZ StX
def mostN (t : Tab) : Nat := t.rows.length - 1
def spN (t : Tab) : Nat := t.spare.toNat
def tk (t : Tab) (l : Nat) : List Nat := (nthD t.rows l []).map Int.toNat
structure Opt where
  m : Nat
  s : Nat
  l : Nat
  p : Nat
deriving DecidableEq
def passO (s l p : Nat) : List Opt := if 0 < p ∧ 0 < s then [⟨0, s, l, p - 1⟩] else []
def takeO (t : Tab) (s l p : Nat) : List Opt := ((tk t l).filter fun x => decide (1 ≤ x ∧ x ≤ s)).map fun x => ⟨x, s - x, x, p⟩
def optS (t : Tab) (s l p : Nat) : List Opt := passO s l p ++ takeO t s l p
theorem optS_mem {t : Tab} {s l p : Nat} {o : Opt} (h : o ∈ optS t s l p) : (o.m = 0 ∧ 0 < p ∧ 0 < s ∧ o = ⟨0, s, l, p - 1⟩) ∨ (o.m ∈ tk t l ∧ 1 ≤ o.m ∧ o.m ≤ s ∧ o = ⟨o.m, s - o.m, o.m, p⟩) := by
  unfold optS passO takeO at h
  rcases List.mem_append.mp h with h | h
  · split at h
    · rename_i hc
      cases List.mem_singleton.mp h
      exact .inl ⟨rfl, hc.1, hc.2, rfl⟩
    · cases h
  · obtain ⟨x, hx, rfl⟩ := List.mem_map.mp h
    obtain ⟨h1, h2⟩ := List.mem_filter.mp hx
    have h2 := of_decide_eq_true h2
    exact .inr ⟨h1, h2.1, h2.2, rfl⟩
theorem optS_dec {t : Tab} {s l p : Nat} {o : Opt} (h : o ∈ optS t s l p) : o.s + o.p < s + p := by
  rcases optS_mem h with ⟨h1, h2, h3, h4⟩ | ⟨h1, h2, h3, h4⟩
  · rw [h4]; show s + (p - 1) < s + p; omega
  · rw [h4]; show s - o.m + p < s + p; omega
theorem any_att {α : Type} {l : List α} {p : α → Bool} : (l.attach.any fun x => p x.1) = l.any p := by
  conv => rhs; rw [← List.attach_map_subtype_val l]
  rw [List.any_map]
  rfl
theorem any_eq {α : Type} {p q : α → Bool} : ∀ {l : List α}, (∀ x ∈ l, p x = q x) → l.any p = l.any q
  | [], _ => rfl
  | a :: l, h => by rw [List.any_cons, List.any_cons, h a (List.mem_cons_self ..), any_eq fun x hx => h x (List.mem_cons_of_mem _ hx)]
theorem passO_zero {s l : Nat} : passO s l 0 = [] := if_neg (by omega)
theorem passO_succ {s l p : Nat} (h : 0 < s) : passO s l (p + 1) = [⟨0, s, l, p⟩] := if_pos ⟨Nat.succ_pos p, h⟩
def winsB (t : Tab) : Bool := decide (t.fate = "wins")
def W (t : Tab) (s l p : Nat) : Bool := if optS t s l p = [] then winsB t else (optS t s l p).attach.any fun o => !W t o.1.s o.1.l o.1.p
termination_by s + p
decreasing_by exact optS_dec o.2
theorem W_eq {t : Tab} {s l p : Nat} : W t s l p = if optS t s l p = [] then winsB t else (optS t s l p).any fun o => !W t o.s o.l o.p := by
  conv => lhs; rw [W]
  split
  · rfl
  · exact any_att (p := fun o : Opt => !W t o.s o.l o.p)
def boolsD (f : Nat → Bool) (n : Nat) : Dt := .tup ((List.range n).map fun p => .bl (f p))
def rowDt (t : Tab) (k : Nat) : Dt := .tup ((List.range (mostN t + 1)).map fun l => boolsD (W t k l) (spN t + 1))
def boolsK (f : Nat → Bool) (n : Nat) : NestedKey := .tup ((List.range n).map fun p => .num (if f p = true then 1 else 0))
def winD (t : Tab) (k : Nat) : Dt := .tup ((List.range' 1 (mostN t)).map fun x => .tup ((List.range x).map fun i => boolsD (W t (k - 1 - i) x) (spN t + 1)))
def winK (t : Tab) (k : Nat) : NestedKey := .tup ((List.range' 1 (mostN t)).map fun x => .tup ((List.range x).map fun i => boolsK (W t (k - 1 - i) x) (spN t + 1)))
theorem keyNs_map {α : Type} {f : α → Dt} {g : α → NestedKey} (h : ∀ x, keyN (f x) = some (g x)) : ∀ l : List α, keyNs (l.map f) = some (l.map g)
  | [] => by rw [List.map_nil, keyNs]; rfl
  | a :: l => by rw [List.map_cons, keyNs, h a, keyNs_map h l]; rfl
theorem keyN_tup {l : List Dt} : keyN (.tup l) = (keyNs l).map .tup := by rw [keyN]
theorem keyN_bools {f : Nat → Bool} {n : Nat} : keyN (boolsD f n) = some (boolsK f n) := by
  unfold boolsD boolsK
  rw [keyN_tup, keyNs_map (g := fun p => NestedKey.num (if f p = true then 1 else 0)) fun p => by rw [keyN]]
  rfl
theorem depths_le {α : Type} {n : Nat} {g : α → NestedKey} (h : ∀ x, (g x).depth ≤ n) : ∀ l : List α, NestedKey.depthAll (l.map g) ≤ n
  | [] => by rw [List.map_nil, NestedKey.depthAll]; omega
  | a :: l => by rw [List.map_cons, NestedKey.depthAll]; exact Nat.max_le.mpr ⟨h a, depths_le h l⟩
theorem depth_bools {f : Nat → Bool} {n : Nat} : (boolsK f n).depth ≤ 2 := by
  unfold boolsK
  rw [NestedKey.depth]
  have := depths_le (n := 1) (g := fun p => NestedKey.num (if f p = true then 1 else 0)) (fun p => by rw [NestedKey.depth]; omega) (List.range n)
  omega
theorem winD_key {t : Tab} {k : Nat} : keyT (winD t k) = some (winK t k) := by
  unfold keyT winD winK
  have e : keyNs ((List.range' 1 (mostN t)).map fun x => .tup ((List.range x).map fun i => boolsD (W t (k - 1 - i) x) (spN t + 1))) = some _ := keyNs_map (g := fun x => NestedKey.tup ((List.range x).map fun i => boolsK (W t (k - 1 - i) x) (spN t + 1))) (fun x => by
    rw [keyN_tup, keyNs_map fun i => keyN_bools]; rfl) _
  simp only [e]
  rw [if_pos]
  rw [NestedKey.depth]
  have := depths_le (n := 3) (g := fun x => NestedKey.tup ((List.range x).map fun i => boolsK (W t (k - 1 - i) x) (spN t + 1))) (fun x => by
    rw [NestedKey.depth]
    have := depths_le (n := 2) (g := fun i => boolsK (W t (k - 1 - i) x) (spN t + 1)) (fun i => depth_bools) (List.range x)
    omega) (List.range' 1 (mostN t))
  omega
theorem boolsK_inj {f g : Nat → Bool} {n : Nat} (h : boolsK f n = boolsK g n) : ∀ p, p < n → f p = g p := by
  unfold boolsK at h
  injection h with h
  intro p hp
  have := List.map_inj_left.mp h p (List.mem_range.mpr hp)
  injection this with this
  cases e : f p <;> cases e2 : g p <;> simp [e, e2] at this <;> rfl
theorem winK_iff {t : Tab} {a b : Nat} : winK t a = winK t b ↔ ∀ x i p, 1 ≤ x → x ≤ mostN t → i < x → p ≤ spN t → W t (a - 1 - i) x p = W t (b - 1 - i) x p := by
  unfold winK
  constructor
  · intro h x i p h1 h2 h3 h4
    injection h with h
    have := List.map_inj_left.mp h x (List.mem_range'_1.mpr ⟨h1, by omega⟩)
    injection this with this
    have := List.map_inj_left.mp this i (List.mem_range.mpr h3)
    exact boolsK_inj this p (by omega)
  · intro h
    congr 1
    refine List.map_inj_left.mpr fun x hx => ?_
    have hx := List.mem_range'_1.mp hx
    congr 1
    refine List.map_inj_left.mpr fun i hi => ?_
    unfold boolsK
    congr 1
    refine List.map_inj_left.mpr fun p hp => ?_
    rw [h x i p hx.1 (by omega) (List.mem_range.mp hi) (by have := List.mem_range.mp hp; omega)]
/-! ### the next row -/
theorem tk_most {t : Tab} (g : t.Good) {l x : Nat} (h : x ∈ tk t l) : 1 ≤ x ∧ x ≤ mostN t := by
  unfold tk at h
  obtain ⟨n, hn, rfl⟩ := List.mem_map.mp h
  by_cases hl : l < t.rows.length
  · have := (g.row _ (nth_mem (d := []) hl)).1 n hn
    unfold mostN
    omega
  · unfold nthD at hn
    rw [List.getD_eq_getElem?_getD, List.getElem?_eq_none_iff.mpr (by omega)] at hn
    cases hn
theorem W_next {t : Tab} (g : t.Good) {a b : Nat} (ha : mostN t ≤ a) (hb : mostN t ≤ b) (h : winK t a = winK t b) (l : Nat) : ∀ p, p ≤ spN t → W t a l p = W t b l p := by
  have gl := g.len
  have hm : 1 ≤ mostN t := by unfold mostN; omega
  rw [winK_iff] at h
  have tO : ∀ s p, mostN t ≤ s → takeO t s l p = (tk t l).map fun x => ⟨x, s - x, x, p⟩ := fun s p hs => by
    unfold takeO
    rw [List.filter_eq_self.mpr fun x hx => by have := tk_most g hx; exact decide_eq_true ⟨this.1, by omega⟩]
  have tA : ∀ p, p ≤ spN t → ((takeO t a l p).any fun o => !W t o.s o.l o.p) = (takeO t b l p).any fun o => !W t o.s o.l o.p := fun p hp => by
    rw [tO a p ha, tO b p hb, List.any_map, List.any_map]
    refine any_eq fun x hx => ?_
    have := tk_most g hx
    have := h x (x - 1) p this.1 this.2 (by omega) hp
    show (!W t (a - x) x p) = !W t (b - x) x p
    rw [show a - x = a - 1 - (x - 1) by omega, show b - x = b - 1 - (x - 1) by omega, this]
  have tE : ∀ p, (takeO t a l p = []) = (takeO t b l p = []) := fun p => by
    rw [tO a p ha, tO b p hb, List.map_eq_nil_iff, List.map_eq_nil_iff]
  intro p
  induction p with
  | zero =>
    intro hp
    rw [W_eq, W_eq (s := b)]
    unfold optS
    rw [passO_zero, passO_zero, List.nil_append, List.nil_append, tA 0 hp]
    simp only [tE 0]
  | succ p ih =>
    intro hp
    rw [W_eq, W_eq (s := b)]
    unfold optS
    rw [passO_succ (by omega), passO_succ (by omega), List.cons_append, List.cons_append, List.any_cons, List.any_cons, List.nil_append, List.nil_append, tA _ hp]
    rw [if_neg (by simp), if_neg (by simp)]
    show ((!W t a l p) || _) = ((!W t b l p) || _)
    rw [ih (by omega)]
theorem win_next {t : Tab} (g : t.Good) {a b : Nat} (ha : mostN t ≤ a) (hb : mostN t ≤ b) (h : winK t a = winK t b) : rowDt t a = rowDt t b ∧ winK t (a + 1) = winK t (b + 1) := by
  have gl := g.len
  have hm : 1 ≤ mostN t := by unfold mostN; omega
  have e := W_next g ha hb h
  constructor
  · unfold rowDt
    congr 1
    refine List.map_inj_left.mpr fun l _ => ?_
    unfold boolsD
    congr 1
    refine List.map_inj_left.mpr fun p hp => ?_
    rw [e l p (by have := List.mem_range.mp hp; omega)]
  · rw [winK_iff] at h ⊢
    intro x i p h1 h2 h3 h4
    cases i with
    | zero => exact e x p h4
    | succ i =>
      have := h x i p h1 h2 (by omega) h4
      rw [show a + 1 - 1 - (i + 1) = a - 1 - i by omega, show b + 1 - 1 - (i + 1) = b - 1 - i by omega]
      exact this
/-! ### they come round -/
theorem pigeon : ∀ (M : Nat) (f : Nat → Nat), (∀ k, k ≤ M → f k < M) → ∃ a b, a < b ∧ b ≤ M ∧ f a = f b
  | 0, f, h => absurd (h 0 (Nat.le_refl _)) (Nat.not_lt_zero _)
  | M + 1, f, h => by
    by_cases hx : ∃ k, k ≤ M ∧ f k = f (M + 1)
    · obtain ⟨k, h1, h2⟩ := hx
      exact ⟨k, M + 1, by omega, Nat.le_refl _, h2⟩
    · obtain ⟨a, b, h1, h2, h3⟩ := pigeon M (fun k => if f k = M then f (M + 1) else f k) (fun k hk => by
        have k1 := h k (by omega)
        have k2 := h (M + 1) (Nat.le_refl _)
        show (if f k = M then f (M + 1) else f k) < M
        split
        · rename_i e
          rcases Nat.lt_or_ge (f (M + 1)) M with z | z
          · exact z
          · exact (hx ⟨k, hk, by omega⟩).elim
        · omega)
      refine ⟨a, b, h1, by omega, ?_⟩
      have n1 : f a ≠ f (M + 1) := fun z => hx ⟨a, by omega, z⟩
      have n2 : f b ≠ f (M + 1) := fun z => hx ⟨b, by omega, z⟩
      split at h3 <;> split at h3 <;> omega
def bitsN : List Bool → Nat
  | [] => 0
  | b :: l => (if b = true then 1 else 0) + 2 * bitsN l
theorem bitsN_lt : ∀ l, bitsN l < 2 ^ l.length
  | [] => by decide
  | b :: l => by
    have := bitsN_lt l
    rw [bitsN, List.length_cons, Nat.pow_succ]
    split <;> omega
theorem bitsN_inj : ∀ {l m : List Bool}, l.length = m.length → bitsN l = bitsN m → l = m
  | [], [], _, _ => rfl
  | [], _ :: _, h, _ => by cases h
  | _ :: _, [], h, _ => by cases h
  | a :: l, b :: m, h, e => by
    rw [bitsN, bitsN] at e
    have hl : l.length = m.length := Nat.succ.inj h
    cases a <;> cases b <;> simp at e
    · rw [bitsN_inj hl (by omega)]
    · omega
    · omega
    · rw [bitsN_inj hl (by omega)]
def cells : List (Nat × Nat × Nat) := [(1, 0, 0), (1, 0, 1), (2, 0, 0), (2, 0, 1), (2, 1, 0), (2, 1, 1), (3, 0, 0), (3, 0, 1), (3, 1, 0), (3, 1, 1), (3, 2, 0), (3, 2, 1)]
theorem cells_all : ∀ x, x < 4 → ∀ i, i < 4 → ∀ p, p < 2 → 1 ≤ x → i < x → (x, i, p) ∈ cells := by
  intro x hx i hi p hp h1 h2
  have e1 : p = 0 ∨ p = 1 := by omega
  have e2 : (x = 1 ∧ i = 0) ∨ (x = 2 ∧ i = 0) ∨ (x = 2 ∧ i = 1) ∨ (x = 3 ∧ i = 0) ∨ (x = 3 ∧ i = 1) ∨ (x = 3 ∧ i = 2) := by omega
  rcases e1 with rfl | rfl <;> rcases e2 with ⟨rfl, rfl⟩ | ⟨rfl, rfl⟩ | ⟨rfl, rfl⟩ | ⟨rfl, rfl⟩ | ⟨rfl, rfl⟩ | ⟨rfl, rfl⟩ <;> simp [cells]
def sigW (t : Tab) (k : Nat) : List Bool := cells.map fun c => W t (k - 1 - c.2.1) c.1 c.2.2
theorem Tab.Good.most {t : Tab} (g : t.Good) : 1 ≤ mostN t ∧ mostN t ≤ 3 ∧ mostN t + 1 = t.rows.length := by have := g.len; unfold mostN; omega
theorem Tab.Good.spa {t : Tab} (g : t.Good) : spN t ≤ 1 ∧ t.spare = (spN t : Nat) := by have := g.spare; unfold spN; omega
theorem sig_win {t : Tab} (g : t.Good) {a b : Nat} (h : bitsN (sigW t a) = bitsN (sigW t b)) : winK t a = winK t b := by
  have h := bitsN_inj (by unfold sigW; simp) h
  unfold sigW at h
  rw [winK_iff]
  intro x i p h1 h2 h3 h4
  have := g.most
  have := g.spa
  exact List.map_inj_left.mp h (x, i, p) (cells_all x (by omega) i (by omega) p (by omega) h1 h3)
theorem fst_none {key : Nat → NestedKey} {most k : Nat} : fstK key most k = none ↔ ∀ j, most ≤ j → j < k → key j ≠ key k := by
  unfold fstK
  rw [List.find?_eq_none]
  constructor
  · intro h j h1 h2 e
    exact h j (List.mem_range'_1.mpr ⟨h1, by omega⟩) (decide_eq_true e)
  · intro h j hj e
    have := List.mem_range'_1.mp hj
    exact h j this.1 (by omega) (of_decide_eq_true e)
theorem least_ex {p : Nat → Prop} [DecidablePred p] : ∀ n, p n → ∃ m, m ≤ n ∧ p m ∧ ∀ k, k < m → ¬ p k := by
  intro n
  induction n using Nat.strongRecOn with
  | _ n ih =>
    intro h
    by_cases e : ∃ k, k < n ∧ p k
    · obtain ⟨k, h1, h2⟩ := e
      obtain ⟨m, h3, h4⟩ := ih k h1 h2
      exact ⟨m, by omega, h4⟩
    · exact ⟨n, Nat.le_refl _, h, fun k hk z => e ⟨k, hk, z⟩⟩
theorem round_ex {t : Tab} (g : t.Good) : ∃ N j, (∀ k, k < N → fstK (winK t) (mostN t) k = none) ∧ fstK (winK t) (mostN t) N = some j ∧ N ≤ 4099 := by
  obtain ⟨a, b, h1, h2, h3⟩ := pigeon 4096 (fun k => bitsN (sigW t (mostN t + k))) fun k _ => by
    have := bitsN_lt (sigW t (mostN t + k))
    unfold sigW at this ⊢
    rw [List.length_map] at this
    exact this
  have e := sig_win g h3
  have hb : (fstK (winK t) (mostN t) (mostN t + b)).isSome = true := by
    cases e2 : fstK (winK t) (mostN t) (mostN t + b) with
    | some j => rfl
    | none => exact (fst_none.mp e2 (mostN t + a) (by omega) (by omega) e).elim
  obtain ⟨N, h4, h5, h6⟩ := least_ex (p := fun k => (fstK (winK t) (mostN t) k).isSome = true) _ hb
  obtain ⟨j, hj⟩ := Option.isSome_iff_exists.mp h5
  refine ⟨N, j, fun k hk => ?_, hj, by have := g.most; omega⟩
  have := h6 k hk
  cases e : fstK (winK t) (mostN t) k with
  | none => rfl
  | some _ => rw [e] at this; exact (this rfl).elim
open Classical in
noncomputable def rN (t : Tab) : Nat := if g : t.Good then (round_ex g).choose else 0
open Classical in
noncomputable def rJ (t : Tab) : Nat := if g : t.Good then (round_ex g).choose_spec.choose else 0
theorem rN_spec {t : Tab} (g : t.Good) : (∀ k, k < rN t → fstK (winK t) (mostN t) k = none) ∧ fstK (winK t) (mostN t) (rN t) = some (rJ t) ∧ rN t ≤ 4099 := by
  unfold rN rJ
  rw [dif_pos g, dif_pos g]
  exact (round_ex g).choose_spec.choose_spec
/-- the least start, the least period -/
noncomputable def pS (t : Tab) : Nat := shOf (rowDt t) (rJ t) (rN t - rJ t)
noncomputable def pC (t : Tab) : Nat := stOf (rowDt t) (pS t) (rJ t)
noncomputable def patD (t : Tab) : Dt := patT (rowDt t) (pC t) (pS t)
theorem cmp_bools {f : Nat → Bool} {n m : Nat} : (boolsD f n).cmp (m + 1) = true := by
  unfold boolsD
  rw [cmp_tup]
  exact cmpL_map fun x _ => by cases m <;> rw [Dt.cmp]
theorem eqvL_iff {α : Type} {f g : α → Dt} : ∀ {l : List α}, (∀ x ∈ l, (f x).eqv (g x) = true ↔ f x = g x) → (Dt.eqvL (l.map f) (l.map g) = true ↔ l.map f = l.map g)
  | [], _ => by simp [Dt.eqvL]
  | a :: l, h => by
    rw [List.map_cons, List.map_cons, Dt.eqvL, Bool.and_eq_true, h a (List.mem_cons_self ..), eqvL_iff fun x hx => h x (List.mem_cons_of_mem _ hx), List.cons.injEq]
theorem eqv_bools {f g : Nat → Bool} {n : Nat} : (boolsD f n).eqv (boolsD g n) = true ↔ boolsD f n = boolsD g n := by
  unfold boolsD
  rw [eqv_tupD, eqvL_iff fun x _ => by simp, Dt.tup.injEq]
theorem row_cmp {t : Tab} : Cmp (rowDt t) := by
  refine ⟨fun i => ?_, fun i j => ?_, fun i => ?_⟩
  · unfold rowDt
    rw [cmp_tup]
    exact cmpL_map fun x _ => cmp_bools
  · unfold rowDt
    rw [eqv_tupD, eqvL_iff fun x _ => eqv_bools, Dt.tup.injEq]
  · unfold rowDt
    rw [Dt.flat]
    refine flatL_of fun d hd => ?_
    obtain ⟨l, _, rfl⟩ := List.mem_map.mp hd
    unfold boolsD
    rw [Dt.flat]
    refine flatL_of fun d hd => ?_
    obtain ⟨l, _, rfl⟩ := List.mem_map.mp hd
    rw [Dt.flat]
theorem per_of_key {t : Tab} (g : t.Good) {a b : Nat} (ha : mostN t ≤ a) (h : a ≤ b) (e : winK t a = winK t b) : ∀ i, a ≤ i → rowDt t (i + (b - a)) = rowDt t i := by
  have step : ∀ k, winK t (a + k) = winK t (b + k) := by
    intro k
    induction k with
    | zero => exact e
    | succ k ih => exact (win_next g (by omega) (by omega) ih).2
  intro i hi
  have := (win_next g (by omega) (by omega) (step (i - a))).1
  rw [show a + (i - a) = i by omega, show b + (i - a) = i + (b - a) by omega] at this
  exact this.symm
theorem rJ_lt {t : Tab} (g : t.Good) : mostN t ≤ rJ t ∧ rJ t < rN t ∧ winK t (rJ t) = winK t (rN t) := by
  have h := (rN_spec g).2.1
  have h1 := List.mem_range'_1.mp (List.mem_of_find?_eq_some h)
  have h2 := List.find?_some h
  exact ⟨h1.1, by omega, of_decide_eq_true h2⟩
theorem pat_is {t : Tab} (g : t.Good) : IsPat (rowDt t) (pC t) (pS t) ∧ pC t + pS t ≤ 4099 := by
  obtain ⟨h1, h2, h3⟩ := rJ_lt g
  have h4 := (rN_spec g).2.2
  have hp : 1 ≤ rN t - rJ t := by omega
  refine ⟨lp_isPat row_cmp hp (per_of_key g h1 (by omega) h3), ?_⟩
  have := shOf_le (r := rowDt t) (b := rJ t) hp
  have := stOf_le (r := rowDt t) (s := pS t) (rJ t)
  unfold pC
  unfold pS at this ⊢
  omega
end Tk

end

section
/-! tables' moves and rows as mirrors meet them -/
namespace Tk
open PySem PySem.Spec L2 RZ StX
theorem tk_row {t : Tab} (g : t.Good) {l : Nat} (h : l ≤ mostN t) : t.rows[l]? = some ((tk t l).map fun x : Nat => (x : Int)) := by
  have gm := g.most
  have hl : l < t.rows.length := by omega
  rw [nth_at (d := []) hl]
  congr 1
  unfold tk
  rw [List.map_map]
  refine (List.map_id _).symm.trans (List.map_inj_left.mpr fun n hn => ?_)
  have := (g.row _ (nth_mem (d := []) hl)).1 n hn
  show n = ((n.toNat : Nat) : Int)
  omega
theorem tk_len {t : Tab} (g : t.Good) {l : Nat} : (tk t l).length ≤ 100 := by
  unfold tk
  rw [List.length_map]
  by_cases hl : l < t.rows.length
  · have := g.rowLen (nth_mem (d := []) hl)
    omega
  · unfold nthD
    rw [List.getD_eq_getElem?_getD, List.getElem?_eq_none_iff.mpr (by omega)]
    decide
def rowN (r : List Nat) : Dt := .tup (r.map fun x => .int (x : Nat))
theorem ix_row {t : Tab} (g : t.Good) {l : Nat} (h : l ≤ mostN t) : ixD (rowsT t.rows) (.int (l : Nat)) = some (rowN (tk t l)) := by
  rw [ix_rows, atI_nat', tk_row g h]
  show some (rowT _) = _
  unfold rowT rowN
  rw [List.map_map]
  rfl
def optD (o : Opt) : Dt := .tup [.int (o.m : Nat), .int (o.s : Nat), .int (o.l : Nat), .int (o.p : Nat)]
theorem takes_map {t : Tab} (g : t.Good) {s l p : Nat} {f : Opt → Dt} : ((tk t l).filterMap fun x => if x ≤ s then some (f ⟨x, s - x, x, p⟩) else none) = (takeO t s l p).map f := by
  unfold takeO
  have h : ∀ x ∈ tk t l, 1 ≤ x := fun x hx => (tk_most g hx).1
  revert h
  induction tk t l with
  | nil => intro _; rfl
  | cons a r ih =>
    intro h
    have ha := h a (List.mem_cons_self ..)
    rw [List.filterMap_cons]
    by_cases e : a ≤ s
    · rw [if_pos e, List.filter_cons_of_pos (p := fun x => decide (1 ≤ x ∧ x ≤ s)) (decide_eq_true ⟨ha, e⟩), List.map_cons, List.map_cons]
      show _ :: _ = _
      rw [ih fun x hx => h x (List.mem_cons_of_mem _ hx)]
    · rw [if_neg e, List.filter_cons_of_neg (by simp; omega)]
      exact ih fun x hx => h x (List.mem_cons_of_mem _ hx)
theorem opt_len {t : Tab} (g : t.Good) {s l p : Nat} : (optS t s l p).length ≤ 200 := by
  unfold optS passO takeO
  rw [List.length_append, List.length_map]
  have h1 := List.length_filter_le (fun x => decide (1 ≤ x ∧ x ≤ s)) (tk t l)
  have h2 := tk_len g (l := l)
  split
  · show 1 + _ ≤ _; omega
  · show 0 + _ ≤ _; omega
theorem opt_last {t : Tab} (g : t.Good) {s l p : Nat} (h : l ≤ mostN t) {o : Opt} (ho : o ∈ optS t s l p) : o.l ≤ mostN t ∧ o.p ≤ p ∧ o.s ≤ s ∧ o.m ≤ 3 := by
  have gm := g.most
  rcases optS_mem ho with ⟨h1, h2, h3, h4⟩ | ⟨h1, h2, h3, h4⟩
  · rw [h4]
    exact ⟨h, by show p - 1 ≤ p; omega, Nat.le_refl _, Nat.zero_le _⟩
  · have := tk_most g h1
    rw [h4]
    exact ⟨this.2, Nat.le_refl _, by show s - o.m ≤ s; omega, by show o.m ≤ 3; omega⟩
theorem opt_eqn {l : List Opt} : eqD (.lst (l.map optD)) (.lst []) = some (.bl (decide (l = []))) := by
  refine eqD_of ?_ ?_ ?_
  · rw [cmp_lst]
    refine cmpL_map fun o _ => ?_
    unfold optD
    rw [cmp_tup]
    simp [Dt.cmpL, Dt.cmp]
  · rw [cmp_lst, Dt.cmpL]
  · rw [eqv_lstD]
    cases l <;> simp [Dt.eqvL]
theorem fate_eq {t : Tab} (g : t.Good) : eqD (.str t.fate) (.str "wins") = some (.bl (winsB t)) := by
  unfold winsB
  rcases g.fate with e | e <;> rw [e] <;> exact eq_str (by decide +kernel) (by decide +kernel)
/-! rows of outcomes -/
theorem rowDt_at {t : Tab} {k l : Nat} (h : l ≤ mostN t) : ixD (rowDt t k) (.int (l : Nat)) = some (boolsD (W t k l) (spN t + 1)) := by
  unfold rowDt
  rw [ixT, atI_nat', List.getElem?_map, List.getElem?_range (by omega)]
  rfl
theorem bools_at {f : Nat → Bool} {n p : Nat} (h : p < n) : ixD (boolsD f n) (.int (p : Nat)) = some (.bl (f p)) := by
  unfold boolsD
  rw [ixT, atI_nat', List.getElem?_map, List.getElem?_range h]
  rfl
def boolsL (f : Nat → Bool) (n : Nat) : Dt := .lst ((List.range n).map fun p => .bl (f p))
theorem boolsL_at {f : Nat → Bool} {n p : Nat} (h : p < n) : ixD (boolsL f n) (.int (p : Nat)) = some (.bl (f p)) := by
  unfold boolsL
  rw [ixL, atI_nat', List.getElem?_map, List.getElem?_range h]
  rfl
theorem rec_list {r : Nat → Dt} {most k : Nat} : (rowsL r k).reverse.take most = (List.range (min most k)).map fun i => r (k - 1 - i) := by
  apply List.ext_getElem?
  intro i
  by_cases hi : i < min most k
  · rw [List.getElem?_take_of_lt (by omega), List.getElem?_reverse (by simp; omega), rowsL_len, rowsL_get (by omega), List.getElem?_map, List.getElem?_range hi]
    rfl
  · rw [List.getElem?_eq_none_iff.mpr (by simp; omega), List.getElem?_eq_none_iff.mpr (by simp; omega)]
theorem rec_at {r : Nat → Dt} {most k i : Nat} (h : i < most) (h' : i < k) : ixD (recD r most k) (.int (i : Nat)) = some (r (k - 1 - i)) := by
  unfold recD
  rw [ixL, rec_list, atI_nat', List.getElem?_map, List.getElem?_range (by omega)]
  rfl
theorem rec_to {r : Nat → Dt} {most k x : Nat} (h : x ≤ most) (h' : x ≤ k) : slD (recD r most k) none (some (x : Int)) = some (.lst ((List.range x).map fun i => r (k - 1 - i))) := by
  unfold recD
  rw [sl_toL, rec_list, ← List.map_take, List.take_range, Nat.min_eq_left (by omega)]
/-! loops -/
def opt1 {α : Type} (o : Option α) (f : α → Dt) : Option Dt := o.map f
@[simp] theorem opt1_some {α : Type} {x : α} {f : α → Dt} : opt1 (some x) f = some (f x) := rfl
/-- a loop that ends at the first of a kind -/
theorem for_any {α : Type} {mg : MG} {s : MS} {f : α → Dt} (P : Option α → Ev) (bad : α → Bool) {R : Out} (hR : ∀ ρ, R ≠ .nx ρ ∧ R ≠ .ct ρ ∧ R ≠ .bk ρ) : ∀ {xs : List α} {o : Option α}, (∀ x ∈ xs, ∀ o, forOne mg s (f x) (P o) = .ret (if bad x = true then R else .nx (P (some x)))) → (xs.any bad = true → forGo mg s (xs.map f) (P o) = .ret R) ∧ (xs.any bad = false → ∃ o', forGo mg s (xs.map f) (P o) = .ret (.nx (P o')))
  | [], o, _ => ⟨fun h => (by simp at h), fun _ => ⟨o, rfl⟩⟩
  | x :: xs, o, h => by
    have h1 := h x (List.mem_cons_self ..) o
    unfold forOne at h1
    have ih := for_any P bad hR (xs := xs) (o := some x) fun y hy => h y (List.mem_cons_of_mem _ hy)
    rw [List.map_cons, x_for1, ← bind_assoc', h1, ret_bind, List.any_cons]
    cases e : bad x with
    | true =>
      refine ⟨fun _ => ?_, fun z => by simp at z⟩
      rw [if_pos rfl]
      revert hR
      cases R with
      | nx ρ => intro z; exact ((z ρ).1 rfl).elim
      | ct ρ => intro z; exact ((z ρ).2.1 rfl).elim
      | bk ρ => intro z; exact ((z ρ).2.2 rfl).elim
      | _ => intro _; rfl
    | false =>
      rw [if_neg (by simp), Bool.false_or]
      exact ih
def lastL {α : Type} (ys : List α) (f : α → Dt) : Option Dt := ys.getLast?.map f
@[simp] theorem lastL_nil {α : Type} {f : α → Dt} : lastL [] f = none := rfl
@[simp] theorem lastL_snoc {α : Type} {ys : List α} {x : α} {f : α → Dt} : lastL (ys ++ [x]) f = some (f x) := by unfold lastL; rw [List.getLast?_concat]; rfl
theorem rngD_one {m : Nat} : rngD 1 m = (List.range' 1 m).map fun x : Nat => .int (x : Nat) := by
  rw [rngD_range', ← List.range_eq_range', List.range'_eq_map_range, List.map_map]
  refine List.map_inj_left.mpr fun x _ => ?_
  show Dt.int (1 + (x : Int)) = .int ((1 + x : Nat) : Int)
  congr 1
theorem rngD_zero {m : Nat} : rngD 0 m = (List.range m).map fun x : Nat => .int (x : Nat) := by
  unfold rngD
  refine List.map_inj_left.mpr fun x _ => ?_
  show Dt.int (0 + (x : Int)) = _
  rw [Int.zero_add]
theorem range_split {m : Nat} {ys zs : List Nat} {x : Nat} (h : List.range m = ys ++ x :: zs) : x < m ∧ ys = List.range x := by
  have hx : x = ys.length := by
    have e1 : (List.range m)[ys.length]? = some x := by rw [h]; simp
    have h2 : ys.length < m := by have := congrArg List.length h; simp at this; omega
    rw [List.getElem?_range h2] at e1
    cases e1
    rfl
  have h2 : ys.length < m := by have := congrArg List.length h; simp at this; omega
  refine ⟨by omega, ?_⟩
  have := congrArg (List.take ys.length) h
  rw [List.take_range, Nat.min_eq_left (by omega), List.take_left' rfl] at this
  rw [hx, this]
theorem rngA_n {n : Nat} (h : n < 1000000) : rngA [.int (n : Nat)] = some ((List.range n).map fun x : Nat => .int (x : Nat)) := by
  rw [rng_int (by omega) (by omega), rngD_zero, Int.toNat_natCast]
theorem rngA_n1 {n : Nat} (h : n < 900000) : rngA [.int ((n : Int) + 1)] = some ((List.range (n + 1)).map fun x : Nat => .int (x : Nat)) := rngA_n (n := n + 1) (by omega)
theorem rngA_12 {n : Nat} (h : n < 900000) : rngA [.int 1, .int ((n : Int) + 1)] = some ((List.range' 1 n).map fun x : Nat => .int (x : Nat)) := by
  rw [rng_two (by omega), rngD_one, show ((n : Int) + 1 - 1).toNat = n by omega]
/-! places in patterns -/
def plN (c s z : Nat) : Nat := if z < c + s then z else c + (z - c) % s
theorem pl_lt {c s z : Nat} (h : 1 ≤ s) : plN c s z < c + s := by
  unfold plN
  split
  · assumption
  · have := Nat.mod_lt (z - c) (show 0 < s by omega); omega
theorem pl_row {r : Nat → Dt} {c s : Nat} (h : 1 ≤ s) (hp : ∀ i, c ≤ i → r (i + s) = r i) (z : Nat) : r (plN c s z) = r z := by
  unfold plN
  split
  · rfl
  · have := per_mul hp ((z - c) / s) (c + (z - c) % s) (by omega)
    rw [← this]
    congr 1
    have := Nat.div_add_mod (z - c) s
    omega
theorem pat_row {t : Tab} (g : t.Good) (z : Nat) : rowDt t (plN (pC t) (pS t) z) = rowDt t z := pl_row (pat_is g).1.pos (pat_is g).1.per z
theorem pat_at {r : Nat → Dt} {c s z : Nat} (h : 1 ≤ s) : ixD (patT r c s) (.int 2) = some (.tup (rowsL r (c + s))) ∧ ixD (.tup (rowsL r (c + s))) (.int (plN c s z : Nat)) = some (r (plN c s z)) := by
  constructor
  · unfold patT; simp
  · rw [ixT, atI_nat', rowsL_get (pl_lt h)]
theorem made_of {t : Tab} (g : t.Good) {m1 m2 : MF} (h1 : ∀ k : Nat, (m1 [recD (rowDt t) (mostN t) k, .int (k : Nat), .tab t]).nox = .ret (rowDt t k)) (h2 : ∀ k, mostN t ≤ k → (m2 [recD (rowDt t) (mostN t) k, .tab t]).nox = .ret (winD t k)) : Made m1 m2 (.tab t) (mostN t) (rowDt t) (winD t) (winK t) :=
  ⟨h1, h2, fun _ _ => winD_key, row_cmp, fun _ _ h1 h2 h => win_next g h1 h2 h⟩
theorem filterMap_if {α β : Type} {p : α → Bool} {f : α → β} : ∀ {l : List α}, (l.filterMap fun x => if p x = true then some (f x) else none) = (l.filter p).map f
  | [] => rfl
  | a :: l => by
    rw [List.filterMap_cons, List.filter_cons]
    cases e : p a with
    | true => rw [if_pos rfl, if_pos rfl, List.map_cons, ← filterMap_if]
    | false => rw [if_neg (by simp), if_neg (by simp), ← filterMap_if]
end Tk

end

section
/-! stands, accounts in dicts -/
namespace Tk
open PySem PySem.Spec L2 RZ StX
theorem for_inv {α : Type} {mg : MG} {s : MS} {f : α → Dt} (I : List α → Ev → Prop) : ∀ {xs : List α} {done : List α} {ρ : Ev}, I done ρ → (∀ (ys : List α) (x : α) (zs : List α), done ++ xs = ys ++ x :: zs → ∀ ρ, I ys ρ → ∃ ρ', forOne mg s (f x) ρ = .ret (.nx ρ') ∧ I (ys ++ [x]) ρ') → ∃ ρ', forGo mg s (xs.map f) ρ = .ret (.nx ρ') ∧ I (done ++ xs) ρ'
  | [], done, ρ, h0, _ => ⟨ρ, rfl, by rw [List.append_nil]; exact h0⟩
  | x :: xs, done, ρ, h0, h => by
    obtain ⟨ρ1, h1, i1⟩ := h done x xs rfl ρ h0
    have e : done ++ x :: xs = (done ++ [x]) ++ xs := by rw [List.append_assoc]; rfl
    obtain ⟨ρ2, h2, i2⟩ := for_inv I (xs := xs) i1 fun ys y zs e' => h ys y zs (e.trans e')
    refine ⟨ρ2, ?_, by rw [e]; exact i2⟩
    unfold forOne at h1
    rw [List.map_cons, x_for1, ← bind_assoc', h1, ret_bind]
    exact h2
/-! ### what is a stand -/
def stO (t : Tab) (d : Dt) : Option Bool := match d with
  | .tup [a, b, c] => match kd a, kd b, kd c with
    | some _, some _, some _ => some (isIntT a 0 1000000000000000000000000000000 && isIntT b 0 (mostN t : Nat) && isIntT c 0 (spN t : Nat))
    | _, _, _ => none
  | .tup [] => some false
  | .tup [_] => some false
  | .tup [_, _] => some false
  | .tup (_ :: _ :: _ :: _ :: _) => some false
  | .int _ | .str _ | .non | .bl _ | .lst _ => some false
  | _ => none
def stD (z l p : Nat) : Dt := .tup [.int (z : Nat), .int (l : Nat), .int (p : Nat)]
theorem st_ok {t : Tab} {z l p : Nat} (h0 : z ≤ 1000000000000000000000000000000) (hl : l ≤ mostN t) (hp : p ≤ spN t) : stO t (stD z l p) = some true := by
  unfold stO stD
  simp
  omega
/-! ### accounts -/
abbrev Pl := Nat × Nat × Nat
def plK (q : Pl) : List Key := [.inl (q.1 : Nat), .inl (q.2.1 : Nat), .inl (q.2.2 : Nat)]
theorem plK_inj {q r : Pl} (h : plK q = plK r) : q = r := by
  obtain ⟨a, b, c⟩ := q
  obtain ⟨a', b', c'⟩ := r
  simp [plK] at h
  obtain ⟨h1, h2, h3⟩ := h
  rw [show a = a' by omega, show b = b' by omega, show c = c' by omega]
def kvT (w : Pl → V) (L : List Pl) : List (List Key × V) := L.map fun q => (plK q, w q)
theorem kvT_val {w : Pl → V} {L : List Pl} {q : Pl} : valV (kvT w L) (plK q) = if q ∈ L then some (w q) else none := by
  unfold valV kvT
  rw [List.find?_map]
  induction L with
  | nil => rfl
  | cons a L ih =>
    rw [List.find?_cons]
    by_cases e : plK a = plK q
    · have := plK_inj e
      subst this
      simp
    · have ne : ¬ q = a := fun z => e (by rw [z])
      simp only [Function.comp, e, decide_false]
      rw [ih]
      simp [ne]
theorem kvT_put {w : Pl → V} {L : List Pl} {q : Pl} (h : q ∉ L) : putK (kvT w L) (plK q) (w q) = kvT w (L ++ [q]) := by
  rw [putK_new _ (by rw [kvT_val, if_neg h])]
  unfold kvT
  rw [List.map_append]
  rfl
theorem kvT_len {w : Pl → V} {L : List Pl} : (kvT w L).length = L.length := by unfold kvT; simp
theorem keys_st {z l p : Nat} : keysD [.int (z : Nat), .int (l : Nat), .int (p : Nat)] = some (plK (z, l, p)) := rfl
theorem ix_kvT {w : Pl → V} {L : List Pl} {z l p : Nat} (h : (z, l, p) ∈ L) : ixD (.dT (kvT w L)) (stD z l p) = some (ofV (w (z, l, p))) := by
  show (match getK (.dT (kvT w L)) (stD z l p) with
    | some (some v) => some (ofV v)
    | _ => none) = _
  have e : getK (.dT (kvT w L)) (stD z l p) = some (some (w (z, l, p))) := by
    show (keysD [.int (z : Nat), .int (l : Nat), .int (p : Nat)]).map _ = _
    rw [keys_st, Option.map_some, kvT_val, if_pos h]
  rw [e]
/-- the stands before one, in the order of loops -/
def plS (n m : Nat) (s : Nat) : List Pl := (List.range s).flatMap fun z => (List.range n).flatMap fun l => (List.range m).map fun p => (z, l, p)
def plL (m : Nat) (s l : Nat) : List Pl := (List.range l).flatMap fun l => (List.range m).map fun p => (s, l, p)
def plP (s l p : Nat) : List Pl := (List.range p).map fun p => (s, l, p)
theorem plS_mem {n m s : Nat} {q : Pl} : q ∈ plS n m s ↔ q.1 < s ∧ q.2.1 < n ∧ q.2.2 < m := by
  obtain ⟨a, b, c⟩ := q
  unfold plS
  simp [List.mem_flatMap]
  constructor
  · rintro ⟨z, h1, l, h2, p, h3, rfl, rfl, rfl⟩
    exact ⟨h1, h2, h3⟩
  · rintro ⟨h1, h2, h3⟩
    exact ⟨a, h1, b, h2, c, h3, rfl, rfl, rfl⟩
theorem plL_mem {m s l : Nat} {q : Pl} : q ∈ plL m s l ↔ q.1 = s ∧ q.2.1 < l ∧ q.2.2 < m := by
  obtain ⟨a, b, c⟩ := q
  unfold plL
  simp [List.mem_flatMap]
  constructor
  · rintro ⟨l, h2, p, h3, rfl, rfl, rfl⟩
    exact ⟨rfl, h2, h3⟩
  · rintro ⟨rfl, h2, h3⟩
    exact ⟨b, h2, c, h3, rfl, rfl, rfl⟩
theorem plP_mem {s l p : Nat} {q : Pl} : q ∈ plP s l p ↔ q.1 = s ∧ q.2.1 = l ∧ q.2.2 < p := by
  obtain ⟨a, b, c⟩ := q
  unfold plP
  simp
  constructor
  · rintro ⟨p, h3, rfl, rfl, rfl⟩
    exact ⟨rfl, rfl, h3⟩
  · rintro ⟨rfl, rfl, h3⟩
    exact ⟨c, h3, rfl, rfl, rfl⟩
theorem plS_succ {n m s : Nat} : plS n m (s + 1) = plS n m s ++ plL m s n := by
  unfold plS plL
  rw [List.range_succ, List.flatMap_append]
  simp
theorem plL_succ {m s l : Nat} : plL m s (l + 1) = plL m s l ++ plP s l m := by
  unfold plL plP
  rw [List.range_succ, List.flatMap_append]
  simp
theorem plP_succ {s l p : Nat} : plP s l (p + 1) = plP s l p ++ [(s, l, p)] := by
  unfold plP
  rw [List.range_succ, List.map_append]
  rfl
theorem plP_len {s l p : Nat} : (plP s l p).length = p := by unfold plP; simp
theorem plL_len {m s l : Nat} : (plL m s l).length = l * m := by
  induction l with
  | zero => simp [plL]
  | succ l ih => rw [plL_succ, List.length_append, ih, plP_len, Nat.succ_mul]
theorem plS_len {n m s : Nat} : (plS n m s).length = s * (n * m) := by
  induction s with
  | zero => simp [plS]
  | succ s ih => rw [plS_succ, List.length_append, ih, plL_len, Nat.succ_mul]
theorem eqn_ints {α : Type} {l : List α} {f : α → Int} : eqD (.lst (l.map fun x => .int (f x))) (.lst []) = some (.bl (decide (l = []))) := by
  refine eqD_of ?_ ?_ ?_
  · rw [cmp_lst]
    exact cmpL_map fun o _ => by simp [Dt.cmp]
  · rw [cmp_lst, Dt.cmpL]
  · rw [eqv_lstD]
    cases l <;> simp [Dt.eqvL]
@[simp] theorem x_ofV_bl {i : Bool} : ofV (.bl i) = .bl i := rfl
@[simp] theorem x_ofV_str {i : Str} : ofV (.str i) = .str i := rfl
theorem rngA_m1 {n : Nat} (h : n < 900000) : rngA [.int ((n : Int) + 1)] = some ((List.range (n + 1)).map fun x : Nat => .int (x : Nat)) := rngA_n1 h
end Tk

end

section
/-! two sources; sets of entries -/
namespace Tk
open PySem PySem.Spec L2 RZ StX
@[simp] theorem x_lc2 {mi : MI} {mg : MG} {mt : MB} {mi1 : MI} {mg1 : MG} {mt1 : MB} {me : ME} {vs vs1 : List Nat} {ρ : Ev} : mLc2 mi mg mt mi1 mg1 mt1 me vs vs1 ρ = (mi ρ >>= fun l => if l.length ≤ 4000 then (lc2Go mg mt mi1 mg1 mt1 me vs1 (wipeD ρ vs) l).nox >>= fun ds => .ret (.lst ds) else .bad) := rfl
theorem lc2_flat {α : Type} {mg : MG} {mt : MB} {mi1 : MI} {mg1 : MG} {mt1 : MB} {me : ME} {vs1 : List Nat} {ρ : Ev} {f : α → Dt} (G : α → List Dt) : ∀ {xs : List α}, (∀ x ∈ xs, ∃ ρ1 l1, mg (f x) ρ = .ret ρ1 ∧ mt ρ1 = .ret true ∧ mi1 ρ1 = .ret l1 ∧ l1.length ≤ 4000 ∧ lcGo mg1 mt1 me (wipeD ρ1 vs1) l1 = .ret (G x)) → lc2Go mg mt mi1 mg1 mt1 me vs1 ρ (xs.map f) = .ret (xs.flatMap G)
  | [], _ => rfl
  | x :: xs, h => by
    obtain ⟨ρ1, l1, h1, h2, h3, h4, h5⟩ := h x (List.mem_cons_self ..)
    rw [List.map_cons, lc2Go, h1, ret_bind, h2, ret_bind, if_pos rfl, h3, ret_bind, if_pos h4, h5, ret_bind, lc2_flat G fun y hy => h y (List.mem_cons_of_mem _ hy), ret_bind, List.flatMap_cons]
theorem for_find {α : Type} {mg : MG} {s : MS} {f : α → Dt} (I : Ev → Prop) (bad : α → Bool) (R : α → Out) (hR : ∀ x ρ, R x ≠ .nx ρ ∧ R x ≠ .ct ρ ∧ R x ≠ .bk ρ) : ∀ {xs : List α} {ρ : Ev}, I ρ → (∀ x ∈ xs, ∀ ρ, I ρ → (bad x = true → forOne mg s (f x) ρ = .ret (R x)) ∧ (bad x = false → ∃ ρ', forOne mg s (f x) ρ = .ret (.nx ρ') ∧ I ρ')) →
    (∀ x, xs.find? bad = some x → forGo mg s (xs.map f) ρ = .ret (R x)) ∧ (xs.find? bad = none → ∃ ρ', forGo mg s (xs.map f) ρ = .ret (.nx ρ') ∧ I ρ')
  | [], ρ, h0, _ => ⟨fun x h => by simp at h, fun _ => ⟨ρ, rfl, h0⟩⟩
  | x :: xs, ρ, h0, h => by
    obtain ⟨h1, h2⟩ := h x (List.mem_cons_self ..) ρ h0
    cases e : bad x with
    | true =>
      have h1 := h1 e
      unfold forOne at h1
      refine ⟨fun y hy => ?_, fun z => ?_⟩
      · rw [List.find?_cons, e] at hy
        cases hy
        rw [List.map_cons, x_for1, ← bind_assoc', h1, ret_bind]
        have := hR x
        revert this
        cases R x with
        | nx ρ => intro z; exact ((z ρ).1 rfl).elim
        | ct ρ => intro z; exact ((z ρ).2.1 rfl).elim
        | bk ρ => intro z; exact ((z ρ).2.2 rfl).elim
        | _ => intro _; rfl
      · rw [List.find?_cons, e] at z
        cases z
    | false =>
      obtain ⟨ρ1, h3, h4⟩ := h2 e
      unfold forOne at h3
      have ih := for_find I bad R hR (xs := xs) h4 fun y hy => h y (List.mem_cons_of_mem _ hy)
      rw [List.map_cons, x_for1, ← bind_assoc', h3, ret_bind, List.find?_cons, e]
      exact ih
/-! sets, in order -/
def setsL {α : Type} : Nat → List α → List (List α)
  | 0, _ => [[]]
  | _ + 1, [] => []
  | k + 1, a :: r => (setsL k r).map (a :: ·) ++ setsL (k + 1) r
theorem sets_len {α : Type} : ∀ (k : Nat) (l : List α), (setsL k l).length ≤ 2 ^ l.length
  | 0, l => by rw [setsL]; exact Nat.one_le_two_pow
  | k + 1, [] => by rw [setsL]; exact Nat.zero_le _
  | k + 1, a :: r => by
    rw [setsL, List.length_append, List.length_map, List.length_cons, Nat.pow_succ]
    have := sets_len k r
    have := sets_len (k + 1) r
    omega
theorem sets_mem {α : Type} : ∀ (k : Nat) (l : List α) (s : List α), s ∈ setsL k l → s.length = k ∧ ∀ x ∈ s, x ∈ l
  | 0, l, s, h => by
    rw [setsL] at h
    cases List.mem_singleton.mp h
    exact ⟨rfl, fun x hx => by cases hx⟩
  | k + 1, [], s, h => by rw [setsL] at h; cases h
  | k + 1, a :: r, s, h => by
    rw [setsL] at h
    rcases List.mem_append.mp h with h | h
    · obtain ⟨s', h1, rfl⟩ := List.mem_map.mp h
      obtain ⟨h2, h3⟩ := sets_mem k r s' h1
      refine ⟨by rw [List.length_cons, h2], fun x hx => ?_⟩
      rcases List.mem_cons.mp hx with e | hx
      · rw [e]; exact List.mem_cons_self ..
      · exact List.mem_cons_of_mem _ (h3 x hx)
    · obtain ⟨h2, h3⟩ := sets_mem (k + 1) r s h
      exact ⟨h2, fun x hx => List.mem_cons_of_mem _ (h3 x hx)⟩
theorem sets_at {α : Type} (k : Nat) : ∀ l : List α, setsL (k + 1) l = (List.range l.length).flatMap fun i => match l[i]? with
    | some a => (setsL k (l.drop (i + 1))).map (a :: ·)
    | none => []
  | [] => rfl
  | a :: r => by
    rw [setsL, sets_at k r, List.length_cons, List.range_succ_eq_map, List.flatMap_cons, List.flatMap_map]
    rfl
theorem sets_one {α : Type} : ∀ l : List α, setsL 1 l = l.map fun a => [a]
  | [] => rfl
  | a :: r => by rw [setsL, setsL, sets_one r]; rfl
abbrev Ent := Int × Int
def turnAll (t : Tab) (es : List Ent) : Tab := es.foldl (fun t e => turnTab t e.1 e.2) t
def EntOk (t : Tab) (e : Ent) : Prop := 0 ≤ e.1 ∧ e.1 < t.rows.length ∧ 1 ≤ e.2 ∧ e.2 ≤ (t.rows.length : Int) - 1
theorem turn_rows {t : Tab} {a b : Int} : (turnTab t a b).rows.length = t.rows.length := turn_len
theorem EntOk.turn {t : Tab} {a b : Int} {e : Ent} (h : EntOk t e) : EntOk (turnTab t a b) e := by unfold EntOk; rw [turn_rows]; exact h
theorem turnAll_good : ∀ {es : List Ent} {t : Tab}, t.Good → (∀ e ∈ es, EntOk t e) → (turnAll t es).Good ∧ mostN (turnAll t es) = mostN t ∧ spN (turnAll t es) = spN t
  | [], t, g, _ => ⟨g, rfl, rfl⟩
  | e :: es, t, g, h => by
    have he := h e (List.mem_cons_self ..)
    have ih := turnAll_good (es := es) (t := turnTab t e.1 e.2) (g.turn he.2.2.1 he.2.2.2) fun x hx => (h x (List.mem_cons_of_mem _ hx)).turn
    refine ⟨ih.1, ih.2.1.trans ?_, ih.2.2⟩
    unfold mostN
    rw [turn_rows]
def entsOf (t : Tab) : List Ent := entriesN t.rows.length t.rows.length
theorem ents_ok {t : Tab} {e : Ent} (h : e ∈ entsOf t) : EntOk t e := by
  have := entries_mem h
  unfold EntOk
  omega
theorem ents_len {t : Tab} : (entsOf t).length = t.rows.length * (t.rows.length - 1) := entries_len ..
def chL (t : Tab) (z l p : Nat) (b : Bool) (k : Nat) : List (List Ent) := (setsL k (entsOf t)).filter fun es => W (turnAll t es) z l p == b
def chD (t : Tab) (z l p : Nat) (b : Bool) (n : Nat) : List (List Ent) := (((List.range n).find? fun k => decide (chL t z l p b k ≠ [])).map (chL t z l p b)).getD []
theorem chD_succ {t : Tab} {z l p : Nat} {b : Bool} {n : Nat} : chD t z l p b (n + 1) = if chD t z l p b n = [] then chL t z l p b n else chD t z l p b n := by
  unfold chD
  rw [List.range_succ, List.find?_append]
  cases e : (List.range n).find? fun k => decide (chL t z l p b k ≠ []) with
  | none =>
    rw [Option.none_or, List.find?_singleton]
    by_cases h : chL t z l p b n = []
    · simp [h]
    · simp [h]
  | some k =>
    have h := List.find?_some e
    have h2 : ¬ chL t z l p b k = [] := by simpa using h
    simp [h2]
def setD (es : List Ent) : Dt := .tup (es.map pairT)
theorem flat_le {α : Type} {G : Nat → List α} {n : Nat} : ∀ m, n ≤ m → ((List.range n).flatMap G).length ≤ ((List.range m).flatMap G).length := fun m h => by
  induction h with
  | refl => exact Nat.le_refl _
  | step _ ih =>
    rw [List.range_succ, List.flatMap_append, List.length_append]
    omega
theorem turnAll_snoc {t : Tab} {es : List Ent} {e : Ent} : turnAll t (es ++ [e]) = turnTab (turnAll t es) e.1 e.2 := by
  unfold turnAll
  rw [List.foldl_append]
  rfl
end Tk

end

section
/-! two tables side by side -/
namespace Tk
open PySem PySem.Spec L2 RZ StX
theorem enum_range {n : Nat} {f : Nat → Dt} : enumD ((List.range n).map f) = (List.range n).map fun i => .tup [.int (i : Nat), f i] := by
  rw [enum_map]
  have e : (List.range n).zipIdx = (List.range n).map fun i => (i, i) := by
    apply List.ext_getElem?
    intro i
    by_cases hi : i < n
    · rw [List.getElem?_zipIdx, List.getElem?_map, List.getElem?_range hi]
      simp
    · rw [List.getElem?_eq_none_iff.mpr (by simp; omega), List.getElem?_eq_none_iff.mpr (by simp; omega)]
  rw [e, List.map_map]
  rfl
theorem keyN_win {t : Tab} {k : Nat} : keyN (winD t k) = some (winK t k) := by
  unfold winD winK
  rw [keyN_tup, keyNs_map (g := fun x => NestedKey.tup ((List.range x).map fun i => boolsK (W t (k - 1 - i) x) (spN t + 1))) fun x => by
    rw [keyN_tup, keyNs_map fun i => keyN_bools]; rfl]
  rfl
theorem depth_win {t : Tab} {k : Nat} : (winK t k).depth ≤ 4 := by
  unfold winK
  rw [NestedKey.depth]
  have := depths_le (n := 3) (g := fun x => NestedKey.tup ((List.range x).map fun i => boolsK (W t (k - 1 - i) x) (spN t + 1))) (fun x => by
    rw [NestedKey.depth]
    have := depths_le (n := 2) (g := fun i => boolsK (W t (k - 1 - i) x) (spN t + 1)) (fun i => depth_bools) (List.range x)
    omega) (List.range' 1 (mostN t))
  omega
def K2 (t u : Tab) (k : Nat) : NestedKey := .tup [winK t k, winK u k]
theorem key2 {t u : Tab} {k : Nat} : keyT (.tup [winD t k, winD u k]) = some (K2 t u k) := by
  have e : keyNs [winD t k, winD u k] = some [winK t k, winK u k] := by rw [keyNs, keyN_win, keyNs, keyN_win, keyNs]
  unfold keyT
  simp only [e]
  rw [if_pos]
  · rfl
  · rw [NestedKey.depth, NestedKey.depthAll, NestedKey.depthAll, NestedKey.depthAll]
    have := depth_win (t := t) (k := k)
    have := depth_win (t := u) (k := k)
    omega
def kvB (key : Nat → NestedKey) (most k : Nat) : List (NestedKey × V) := (List.range' most (k - most)).map fun j => (key j, V.bl true)
theorem kvB_val {key : Nat → NestedKey} {most k : Nat} : valV (kvB key most k) (key k) = (fstK key most k).map fun _ => V.bl true := by
  unfold valV kvB fstK
  rw [List.find?_map, Option.map_map]
  rfl
theorem kvB_succ {key : Nat → NestedKey} {most k : Nat} (h : most ≤ k) : kvB key most (k + 1) = kvB key most k ++ [(key k, V.bl true)] := by
  unfold kvB
  rw [show k + 1 - most = (k - most) + 1 by omega, List.range'_concat, List.map_append, show most + 1 * (k - most) = k by omega]
  rfl
theorem kvB_len {key : Nat → NestedKey} {most k : Nat} : (kvB key most k).length = k - most := by unfold kvB; simp
theorem kvB_nil {key : Nat → NestedKey} {most k : Nat} (h : k ≤ most) : kvB key most k = [] := by unfold kvB; rw [show k - most = 0 by omega]; rfl
theorem inB_kv {key : Nat → NestedKey} {most k : Nat} {d : Dt} (h : keyT d = some (key k)) : inN d (.dN (kvB key most k)) = some (.bl (fstK key most k).isSome) := by
  unfold inN getN
  rw [h]
  simp [kvB_val]
/-- tables that can be compared -/
structure Twin (t u : Tab) : Prop where
  g : t.Good
  g2 : u.Good
  m : mostN t = mostN u
  s : spN t = spN u
theorem Twin.eqv {t u : Tab} (T : Twin t u) (i : Nat) : (rowDt t i).eqv (rowDt u i) = true ↔ rowDt t i = rowDt u i := by
  unfold rowDt
  rw [T.m, T.s, eqv_tupD, eqvL_iff fun x _ => eqv_bools, Dt.tup.injEq]
theorem Twin.ne {t u : Tab} (T : Twin t u) (i : Nat) : neD (rowDt t i) (rowDt u i) = some (.bl (!(rowDt t i).eqv (rowDt u i))) := neD_of (cmp_le (row_cmp.cmp i) (by decide)) (cmp_le (row_cmp.cmp i) (by decide)) rfl
theorem Twin.cell {t u : Tab} (T : Twin t u) {i : Nat} (h : rowDt t i = rowDt u i) {l p : Nat} (hl : l ≤ mostN t) (hp : p ≤ spN t) : W t i l p = W u i l p := by
  have e1 := rowDt_at (t := t) (k := i) hl
  have e2 := rowDt_at (t := u) (k := i) (l := l) (by rw [← T.m]; exact hl)
  rw [h, e2] at e1
  have e3 := bools_at (f := W t i l) (n := spN t + 1) (p := p) (by omega)
  have e4 := bools_at (f := W u i l) (n := spN u + 1) (p := p) (by rw [← T.s]; omega)
  rw [← Option.some.inj e1, e4] at e3
  have := Option.some.inj e3
  injection this with this
  exact this.symm
theorem Twin.win {t u : Tab} (T : Twin t u) {k : Nat} (hk : mostN t ≤ k) (h : ∀ i, i < k → rowDt t i = rowDt u i) : winK t k = winK u k := by
  have gm := T.g.most
  unfold winK
  rw [← T.m, ← T.s]
  congr 1
  refine List.map_inj_left.mpr fun x hx => ?_
  have hx := List.mem_range'_1.mp hx
  congr 1
  refine List.map_inj_left.mpr fun i hi => ?_
  unfold boolsK
  congr 1
  refine List.map_inj_left.mpr fun p hp => ?_
  rw [T.cell (h (k - 1 - i) (by omega)) (by omega) (by have := List.mem_range.mp hp; omega)]
def difL (t u : Tab) (k : Nat) : List Pl := (plL (spN t + 1) k (mostN t + 1)).filter fun q => W t q.1 q.2.1 q.2.2 != W u q.1 q.2.1 q.2.2
theorem Twin.dif {t u : Tab} (T : Twin t u) {k : Nat} (h : difL t u k = []) : rowDt t k = rowDt u k := by
  unfold difL at h
  rw [List.filter_eq_nil_iff] at h
  unfold rowDt boolsD
  rw [← T.m, ← T.s]
  congr 1
  refine List.map_inj_left.mpr fun l hl => ?_
  congr 1
  refine List.map_inj_left.mpr fun p hp => ?_
  have := h (k, l, p) (by rw [plL_mem]; exact ⟨rfl, List.mem_range.mp hl, List.mem_range.mp hp⟩)
  have e : W t k l p = W u k l p := by simpa using this
  rw [e]
def stopB (t u : Tab) (k : Nat) : Prop := (fstK (K2 t u) (mostN t) k).isSome = true ∨ (rowDt t k).eqv (rowDt u k) = false
instance {t u : Tab} : DecidablePred (stopB t u) := fun k => inferInstanceAs (Decidable (_ ∨ _))
theorem Twin.stop {t u : Tab} (T : Twin t u) : ∃ E, E ≤ 4099 ∧ stopB t u E ∧ ∀ k, k < E → ¬ stopB t u k := by
  obtain ⟨h1, h2, h3⟩ := rJ_lt T.g
  have h4 := (rN_spec T.g).2.2
  have ex : ∃ n, n ≤ 4099 ∧ stopB t u n := by
    by_cases h : ∃ i, i < rN t ∧ (rowDt t i).eqv (rowDt u i) = false
    · obtain ⟨i, h5, h6⟩ := h
      exact ⟨i, by omega, .inr h6⟩
    · have hr : ∀ i, i < rN t → rowDt t i = rowDt u i := fun i hi => by
        cases e : (rowDt t i).eqv (rowDt u i) with
        | true => exact (T.eqv i).mp e
        | false => exact (h ⟨i, hi, e⟩).elim
      refine ⟨rN t, h4, .inl ?_⟩
      have e1 := T.win h1 fun i hi => hr i (by omega)
      have e2 := T.win (k := rN t) (by omega) hr
      cases e : fstK (K2 t u) (mostN t) (rN t) with
      | some j => rfl
      | none =>
        refine (fst_none.mp e (rJ t) h1 h2 ?_).elim
        unfold K2
        rw [← e1, ← e2, h3]
  obtain ⟨n, h5, h6⟩ := ex
  obtain ⟨E, h7, h8, h9⟩ := least_ex n h6
  exact ⟨E, by omega, h8, h9⟩
theorem Twin.ever {t u : Tab} (T : Twin t u) {E j : Nat} (h : ∀ i, i < E → rowDt t i = rowDt u i) (hj : mostN t ≤ j) (hE : j < E) (e : K2 t u j = K2 t u E) : ∀ k, rowDt t k = rowDt u k := by
  unfold K2 at e
  injection e with e
  injection e with e1 e2
  injection e2 with e2 _
  have p1 := per_of_key T.g hj (by omega) e1
  have p2 := per_of_key T.g2 (by rw [← T.m]; exact hj) (by omega) e2
  intro k
  induction k using Nat.strongRecOn with
  | _ k ih =>
    by_cases hk : k < E
    · exact h k hk
    · have a1 := p1 (k - (E - j)) (by omega)
      have a2 := p2 (k - (E - j)) (by omega)
      rw [show k - (E - j) + (E - j) = k by omega] at a1 a2
      rw [a1, a2]
      exact ih _ (by omega)
end Tk

end

section
namespace Tk
open PySem PySem.Spec L2 RZ StX
open PyProof.Rows (envOfC)
def ts : List Str := ["pattern_of"]
abbrev kt (K : PySem.W.Frag) : Kt := ⟨K, [((cTab K "pattern_of").2, "pattern_of.<locals>.<lambda>")]⟩
def top (i : Nat) : Stmt := PySem.Challenge.pw_takesmemory_k07_whole_partings.main.body.getD i (.Pass ⟨0, 0, 0, 0⟩)
abbrev s_InvalidRows___init__ : Stmt := inClass (top 2) 0
abbrev s_InvalidPasses___init__ : Stmt := inClass (top 3) 0
abbrev s_InvalidStuck___init__ : Stmt := inClass (top 4) 0
abbrev s_UnknownEntry___init__ : Stmt := inClass (top 5) 0
abbrev s_NotComparable___init__ : Stmt := inClass (top 6) 0
abbrev s_is_integer : Stmt := top 11
abbrev s_is_row : Stmt := top 12
abbrev s_check_rows : Stmt := top 13
abbrev s_Table___init__ : Stmt := inClass (top 14) 0
abbrev s_Table_rows : Stmt := inClass (top 14) 1
abbrev s_Table_passes : Stmt := inClass (top 14) 2
abbrev s_Table_stuck : Stmt := inClass (top 14) 3
abbrev s_Table_most : Stmt := inClass (top 14) 4
abbrev s_Table___eq__ : Stmt := inClass (top 14) 5
abbrev s_Table_turned : Stmt := inClass (top 14) 6
abbrev s_turned_row : Stmt := top 15
abbrev s_turned_table : Stmt := top 16
abbrev s_options : Stmt := top 19
abbrev s_next_row : Stmt := top 20
abbrev s_is_won_by : Stmt := top 21
abbrev s_window_of : Stmt := top 22
abbrev s_least_pattern : Stmt := top 23
abbrev s_come_round : Stmt := top 24
abbrev s_pattern_of : Stmt := top 25
abbrev s_first_unlike : Stmt := top 27
abbrev s_parting : Stmt := top 28
abbrev s_alike : Stmt := top 29
abbrev s_pattern : Stmt := top 31
abbrev s__law_mix : Stmt := top 33
abbrev s__law_next : Stmt := top 34
abbrev s__law_alike : Stmt := top 35
abbrev s__law_pick : Stmt := top 36
abbrev s__law_line : Stmt := top 37
abbrev s__law_draw : Stmt := top 38
abbrev s__law_built : Stmt := top 39
abbrev s__law_entries : Stmt := top 40
abbrev s__law_turned : Stmt := top 41
abbrev s__law_moves : Stmt := top 42
abbrev s__law_behind : Stmt := top 43
abbrev s__law_outcomes : Stmt := top 44
abbrev s__law_least : Stmt := top 45
abbrev s__law_refused : Stmt := top 46
abbrev s_law : Stmt := top 47
def fn : List He.DefD := [⟨("is_integer", none), "is_integer", "is_integer", defArgs s_is_integer, defBody s_is_integer, defScope s_is_integer, [], []⟩,
  ⟨("is_row", none), "is_row", "is_row", defArgs s_is_row, defBody s_is_row, defScope s_is_row, [], []⟩,
  ⟨("check_rows", none), "check_rows", "check_rows", defArgs s_check_rows, defBody s_check_rows, defScope s_check_rows, [], []⟩,
  ⟨("Table", some "__init__"), "__init__", "Table.__init__", defArgs s_Table___init__, defBody s_Table___init__, defScope s_Table___init__, [], []⟩,
  ⟨("Table", some "__eq__"), "__eq__", "Table.__eq__", defArgs s_Table___eq__, defBody s_Table___eq__, defScope s_Table___eq__, [], []⟩,
  ⟨("Table", some "turned"), "turned", "Table.turned", defArgs s_Table_turned, defBody s_Table_turned, defScope s_Table_turned, [], []⟩,
  ⟨("turned_row", none), "turned_row", "turned_row", defArgs s_turned_row, defBody s_turned_row, defScope s_turned_row, [], []⟩,
  ⟨("turned_table", none), "turned_table", "turned_table", defArgs s_turned_table, defBody s_turned_table, defScope s_turned_table, [], []⟩,
  ⟨("options", none), "options", "options", defArgs s_options, defBody s_options, defScope s_options, [], []⟩,
  ⟨("next_row", none), "next_row", "next_row", defArgs s_next_row, defBody s_next_row, defScope s_next_row, [], []⟩,
  ⟨("is_won_by", none), "is_won_by", "is_won_by", defArgs s_is_won_by, defBody s_is_won_by, defScope s_is_won_by, [], []⟩,
  ⟨("window_of", none), "window_of", "window_of", defArgs s_window_of, defBody s_window_of, defScope s_window_of, [], []⟩,
  ⟨("least_pattern", none), "least_pattern", "least_pattern", defArgs s_least_pattern, defBody s_least_pattern, defScope s_least_pattern, [], []⟩,
  ⟨("come_round", none), "come_round", "come_round", defArgs s_come_round, defBody s_come_round, defScope s_come_round, [], []⟩,
  ⟨("pattern_of", none), "pattern_of", "pattern_of", defArgs s_pattern_of, defBody s_pattern_of, defScope s_pattern_of, [], []⟩,
  ⟨("first_unlike", none), "first_unlike", "first_unlike", defArgs s_first_unlike, defBody s_first_unlike, defScope s_first_unlike, [], []⟩,
  ⟨("parting", none), "parting", "parting", defArgs s_parting, defBody s_parting, defScope s_parting, [], []⟩,
  ⟨("alike", none), "alike", "alike", defArgs s_alike, defBody s_alike, defScope s_alike, [], []⟩,
  ⟨("pattern", none), "pattern", "pattern", defArgs s_pattern, defBody s_pattern, defScope s_pattern, [], []⟩,
  ⟨("_law_mix", none), "_law_mix", "_law_mix", defArgs s__law_mix, defBody s__law_mix, defScope s__law_mix, [], []⟩,
  ⟨("_law_next", none), "_law_next", "_law_next", defArgs s__law_next, defBody s__law_next, defScope s__law_next, [], []⟩,
  ⟨("_law_alike", none), "_law_alike", "_law_alike", defArgs s__law_alike, defBody s__law_alike, defScope s__law_alike, [], []⟩,
  ⟨("_law_pick", none), "_law_pick", "_law_pick", defArgs s__law_pick, defBody s__law_pick, defScope s__law_pick, [], []⟩,
  ⟨("_law_line", none), "_law_line", "_law_line", defArgs s__law_line, defBody s__law_line, defScope s__law_line, [], []⟩,
  ⟨("_law_draw", none), "_law_draw", "_law_draw", defArgs s__law_draw, defBody s__law_draw, defScope s__law_draw, [], []⟩,
  ⟨("_law_built", none), "_law_built", "_law_built", defArgs s__law_built, defBody s__law_built, defScope s__law_built, [], []⟩,
  ⟨("_law_entries", none), "_law_entries", "_law_entries", defArgs s__law_entries, defBody s__law_entries, defScope s__law_entries, [], []⟩,
  ⟨("_law_turned", none), "_law_turned", "_law_turned", defArgs s__law_turned, defBody s__law_turned, defScope s__law_turned, [], []⟩,
  ⟨("_law_moves", none), "_law_moves", "_law_moves", defArgs s__law_moves, defBody s__law_moves, defScope s__law_moves, [], []⟩,
  ⟨("_law_behind", none), "_law_behind", "_law_behind", defArgs s__law_behind, defBody s__law_behind, defScope s__law_behind, [], []⟩,
  ⟨("_law_outcomes", none), "_law_outcomes", "_law_outcomes", defArgs s__law_outcomes, defBody s__law_outcomes, defScope s__law_outcomes, [], []⟩,
  ⟨("_law_least", none), "_law_least", "_law_least", defArgs s__law_least, defBody s__law_least, defScope s__law_least, [], []⟩,
  ⟨("_law_refused", none), "_law_refused", "_law_refused", defArgs s__law_refused, defBody s__law_refused, defScope s__law_refused, [], []⟩,
  ⟨("law", none), "law", "law", defArgs s_law, defBody s_law, defScope s_law, [], []⟩]
def c_STUCK : Dt := dtOf (.tuple [(.str "loses"), (.str "wins")])
def sub_NotComparable : Str → Option Bool := fun y => if y = "InvalidRows" then some false else if y = "InvalidPasses" then some false else if y = "InvalidStuck" then some false else if y = "UnknownEntry" then some false else if y = "NotComparable" then some true else none
@[simp] theorem sub_NotComparable_InvalidRows : sub_NotComparable "InvalidRows" = some false := by decide +kernel
@[simp] theorem sub_NotComparable_InvalidPasses : sub_NotComparable "InvalidPasses" = some false := by decide +kernel
@[simp] theorem sub_NotComparable_InvalidStuck : sub_NotComparable "InvalidStuck" = some false := by decide +kernel
@[simp] theorem sub_NotComparable_UnknownEntry : sub_NotComparable "UnknownEntry" = some false := by decide +kernel
@[simp] theorem sub_NotComparable_NotComparable : sub_NotComparable "NotComparable" = some true := by decide +kernel
def fa : List He.Fa := [.glo "_law_alike",
  .glo "_law_behind",
  .glo "_law_built",
  .glo "_law_draw",
  .glo "_law_entries",
  .glo "_law_least",
  .glo "_law_line",
  .glo "_law_mix",
  .glo "_law_moves",
  .glo "_law_next",
  .glo "_law_outcomes",
  .glo "_law_pick",
  .glo "_law_refused",
  .glo "_law_turned",
  .glo "alike",
  .glo "check_rows",
  .glo "come_round",
  .glo "first_unlike",
  .glo "is_integer",
  .glo "is_row",
  .glo "is_won_by",
  .glo "law",
  .glo "least_pattern",
  .glo "next_row",
  .glo "options",
  .glo "parting",
  .glo "pattern",
  .glo "pattern_of",
  .glo "turned_row",
  .glo "turned_table",
  .glo "window_of",
  .glo "InvalidPasses",
  .glo "InvalidRows",
  .glo "InvalidStuck",
  .glo "NotComparable",
  .glo "Table",
  .glo "TakeError",
  .glo "UnknownEntry",
  .int "MOST_TAKE" 3,
  .int "MOST_PASSES" 1,
  .glo "STUCK",
  .int "PASS" 0,
  .free "all",
  .free "bool",
  .free "dict",
  .free "enumerate",
  .free "int",
  .free "isinstance",
  .free "len",
  .free "list",
  .free "max",
  .free "min",
  .free "property",
  .free "range",
  .free "sorted",
  .free "str",
  .free "super",
  .free "tuple",
  .free "zip",
  .cls "Table",
  .mkr "Table",
  .noat "Table" "allowed",
  .noat "Table" "spare",
  .noat "Table" "fate",
  .meth "Table" "__eq__",
  .meth "Table" "turned",
  .exm "InvalidRows" "NotComparable" false,
  .exm "InvalidPasses" "NotComparable" false,
  .exm "InvalidStuck" "NotComparable" false,
  .exm "UnknownEntry" "NotComparable" false,
  .exm "NotComparable" "NotComparable" true]
def da : List DefA := [⟨ini "InvalidRows", "__init__", "InvalidRows.__init__", defArgs s_InvalidRows___init__, defBody s_InvalidRows___init__, defScope s_InvalidRows___init__, ["__class__"]⟩,
  ⟨ini "InvalidPasses", "__init__", "InvalidPasses.__init__", defArgs s_InvalidPasses___init__, defBody s_InvalidPasses___init__, defScope s_InvalidPasses___init__, ["__class__"]⟩,
  ⟨ini "InvalidStuck", "__init__", "InvalidStuck.__init__", defArgs s_InvalidStuck___init__, defBody s_InvalidStuck___init__, defScope s_InvalidStuck___init__, ["__class__"]⟩,
  ⟨ini "UnknownEntry", "__init__", "UnknownEntry.__init__", defArgs s_UnknownEntry___init__, defBody s_UnknownEntry___init__, defScope s_UnknownEntry___init__, ["__class__"]⟩,
  ⟨ini "NotComparable", "__init__", "NotComparable.__init__", defArgs s_NotComparable___init__, defBody s_NotComparable___init__, defScope s_NotComparable___init__, ["__class__"]⟩,
  ⟨gt "Table" "rows", "rows", "Table.rows", defArgs s_Table_rows, defBody s_Table_rows, defScope s_Table_rows, []⟩,
  ⟨gt "Table" "passes", "passes", "Table.passes", defArgs s_Table_passes, defBody s_Table_passes, defScope s_Table_passes, []⟩,
  ⟨gt "Table" "stuck", "stuck", "Table.stuck", defArgs s_Table_stuck, defBody s_Table_stuck, defScope s_Table_stuck, []⟩,
  ⟨gt "Table" "most", "most", "Table.most", defArgs s_Table_most, defBody s_Table_most, defScope s_Table_most, []⟩]
def moreL (K : PySem.W.Frag) : List Bool := [dataB K (.tuple [(.str "loses"), (.str "wins")]) (.ref (He.ga K "STUCK")),
  exB PySem.Challenge.pw_takesmemory_k07_whole_partings.main.file K "InvalidRows",
  He.eqO (PySem.W.findIn K (.ref (He.ga K "InvalidRows")) "index") (some none),
  exB PySem.Challenge.pw_takesmemory_k07_whole_partings.main.file K "InvalidPasses",
  exB PySem.Challenge.pw_takesmemory_k07_whole_partings.main.file K "InvalidStuck",
  exB PySem.Challenge.pw_takesmemory_k07_whole_partings.main.file K "UnknownEntry",
  exB PySem.Challenge.pw_takesmemory_k07_whole_partings.main.file K "NotComparable",
  isiB K "Table",
  propB K "Table" "rows",
  propB K "Table" "passes",
  propB K "Table" "stuck",
  propB K "Table" "most"]
/-- what the top has left -/
structure Txt (P : Program) (K : PySem.W.Frag) (mg : Str → Option Value) (base : Heap) : Prop where
  kin : K.In base
  glob : base.Ns mainGlobals mg
  says : He.SaysD fa fn K
  more : (moreL K).all id = true
  das : ∀ (i : Nat) (d : DefA), da[i]? = some d → fnA K (d.adr K) = d.val ∧ d.ok K = true
  file : P.main.file = PySem.Challenge.pw_takesmemory_k07_whole_partings.main.file
  tsup : (P.main.scope.names.lookup ("super" : Str)).isSome = false
  tin : ∀ x ∈ ts, PySem.W.tabIn K x = some (cTab K x)
  tnd : (ts.map fun x => (cTab K x).2).Nodup
  tb : ∀ x ∈ ts, LamX.TabB base mg (cTab K x).1 (cTab K x).2
section
variable {P : Program} {K : PySem.W.Frag} {mg : Str → Option Value} {base : Heap}
theorem Txt.has (T : Txt P K mg base) (i : Nat) {b : Bool} (h : (moreL K)[i]? = some b := by rfl) : b = true := by
  have q := List.all_eq_true.mp T.more b (List.mem_of_getElem? h)
  exact q
theorem Txt.m__law_alike (T : Txt P K mg base) : mg "_law_alike" = some (.ref (He.ga K "_law_alike")) := He.glo_ok T.kin T.glob (T.says.fact 0 (f := .glo "_law_alike") rfl)
theorem Txt.m__law_behind (T : Txt P K mg base) : mg "_law_behind" = some (.ref (He.ga K "_law_behind")) := He.glo_ok T.kin T.glob (T.says.fact 1 (f := .glo "_law_behind") rfl)
theorem Txt.m__law_built (T : Txt P K mg base) : mg "_law_built" = some (.ref (He.ga K "_law_built")) := He.glo_ok T.kin T.glob (T.says.fact 2 (f := .glo "_law_built") rfl)
theorem Txt.m__law_draw (T : Txt P K mg base) : mg "_law_draw" = some (.ref (He.ga K "_law_draw")) := He.glo_ok T.kin T.glob (T.says.fact 3 (f := .glo "_law_draw") rfl)
theorem Txt.m__law_entries (T : Txt P K mg base) : mg "_law_entries" = some (.ref (He.ga K "_law_entries")) := He.glo_ok T.kin T.glob (T.says.fact 4 (f := .glo "_law_entries") rfl)
theorem Txt.m__law_least (T : Txt P K mg base) : mg "_law_least" = some (.ref (He.ga K "_law_least")) := He.glo_ok T.kin T.glob (T.says.fact 5 (f := .glo "_law_least") rfl)
theorem Txt.m__law_line (T : Txt P K mg base) : mg "_law_line" = some (.ref (He.ga K "_law_line")) := He.glo_ok T.kin T.glob (T.says.fact 6 (f := .glo "_law_line") rfl)
theorem Txt.m__law_mix (T : Txt P K mg base) : mg "_law_mix" = some (.ref (He.ga K "_law_mix")) := He.glo_ok T.kin T.glob (T.says.fact 7 (f := .glo "_law_mix") rfl)
theorem Txt.m__law_moves (T : Txt P K mg base) : mg "_law_moves" = some (.ref (He.ga K "_law_moves")) := He.glo_ok T.kin T.glob (T.says.fact 8 (f := .glo "_law_moves") rfl)
theorem Txt.m__law_next (T : Txt P K mg base) : mg "_law_next" = some (.ref (He.ga K "_law_next")) := He.glo_ok T.kin T.glob (T.says.fact 9 (f := .glo "_law_next") rfl)
theorem Txt.m__law_outcomes (T : Txt P K mg base) : mg "_law_outcomes" = some (.ref (He.ga K "_law_outcomes")) := He.glo_ok T.kin T.glob (T.says.fact 10 (f := .glo "_law_outcomes") rfl)
theorem Txt.m__law_pick (T : Txt P K mg base) : mg "_law_pick" = some (.ref (He.ga K "_law_pick")) := He.glo_ok T.kin T.glob (T.says.fact 11 (f := .glo "_law_pick") rfl)
theorem Txt.m__law_refused (T : Txt P K mg base) : mg "_law_refused" = some (.ref (He.ga K "_law_refused")) := He.glo_ok T.kin T.glob (T.says.fact 12 (f := .glo "_law_refused") rfl)
theorem Txt.m__law_turned (T : Txt P K mg base) : mg "_law_turned" = some (.ref (He.ga K "_law_turned")) := He.glo_ok T.kin T.glob (T.says.fact 13 (f := .glo "_law_turned") rfl)
theorem Txt.m_alike (T : Txt P K mg base) : mg "alike" = some (.ref (He.ga K "alike")) := He.glo_ok T.kin T.glob (T.says.fact 14 (f := .glo "alike") rfl)
theorem Txt.m_check_rows (T : Txt P K mg base) : mg "check_rows" = some (.ref (He.ga K "check_rows")) := He.glo_ok T.kin T.glob (T.says.fact 15 (f := .glo "check_rows") rfl)
theorem Txt.m_come_round (T : Txt P K mg base) : mg "come_round" = some (.ref (He.ga K "come_round")) := He.glo_ok T.kin T.glob (T.says.fact 16 (f := .glo "come_round") rfl)
theorem Txt.m_first_unlike (T : Txt P K mg base) : mg "first_unlike" = some (.ref (He.ga K "first_unlike")) := He.glo_ok T.kin T.glob (T.says.fact 17 (f := .glo "first_unlike") rfl)
theorem Txt.m_is_integer (T : Txt P K mg base) : mg "is_integer" = some (.ref (He.ga K "is_integer")) := He.glo_ok T.kin T.glob (T.says.fact 18 (f := .glo "is_integer") rfl)
theorem Txt.m_is_row (T : Txt P K mg base) : mg "is_row" = some (.ref (He.ga K "is_row")) := He.glo_ok T.kin T.glob (T.says.fact 19 (f := .glo "is_row") rfl)
theorem Txt.m_is_won_by (T : Txt P K mg base) : mg "is_won_by" = some (.ref (He.ga K "is_won_by")) := He.glo_ok T.kin T.glob (T.says.fact 20 (f := .glo "is_won_by") rfl)
theorem Txt.m_law (T : Txt P K mg base) : mg "law" = some (.ref (He.ga K "law")) := He.glo_ok T.kin T.glob (T.says.fact 21 (f := .glo "law") rfl)
theorem Txt.m_least_pattern (T : Txt P K mg base) : mg "least_pattern" = some (.ref (He.ga K "least_pattern")) := He.glo_ok T.kin T.glob (T.says.fact 22 (f := .glo "least_pattern") rfl)
theorem Txt.m_next_row (T : Txt P K mg base) : mg "next_row" = some (.ref (He.ga K "next_row")) := He.glo_ok T.kin T.glob (T.says.fact 23 (f := .glo "next_row") rfl)
theorem Txt.m_options (T : Txt P K mg base) : mg "options" = some (.ref (He.ga K "options")) := He.glo_ok T.kin T.glob (T.says.fact 24 (f := .glo "options") rfl)
theorem Txt.m_parting (T : Txt P K mg base) : mg "parting" = some (.ref (He.ga K "parting")) := He.glo_ok T.kin T.glob (T.says.fact 25 (f := .glo "parting") rfl)
theorem Txt.m_pattern (T : Txt P K mg base) : mg "pattern" = some (.ref (He.ga K "pattern")) := He.glo_ok T.kin T.glob (T.says.fact 26 (f := .glo "pattern") rfl)
theorem Txt.m_pattern_of (T : Txt P K mg base) : mg "pattern_of" = some (.ref (He.ga K "pattern_of")) := He.glo_ok T.kin T.glob (T.says.fact 27 (f := .glo "pattern_of") rfl)
theorem Txt.m_turned_row (T : Txt P K mg base) : mg "turned_row" = some (.ref (He.ga K "turned_row")) := He.glo_ok T.kin T.glob (T.says.fact 28 (f := .glo "turned_row") rfl)
theorem Txt.m_turned_table (T : Txt P K mg base) : mg "turned_table" = some (.ref (He.ga K "turned_table")) := He.glo_ok T.kin T.glob (T.says.fact 29 (f := .glo "turned_table") rfl)
theorem Txt.m_window_of (T : Txt P K mg base) : mg "window_of" = some (.ref (He.ga K "window_of")) := He.glo_ok T.kin T.glob (T.says.fact 30 (f := .glo "window_of") rfl)
theorem Txt.m_InvalidPasses (T : Txt P K mg base) : mg "InvalidPasses" = some (.ref (He.ga K "InvalidPasses")) := He.glo_ok T.kin T.glob (T.says.fact 31 (f := .glo "InvalidPasses") rfl)
theorem Txt.m_InvalidRows (T : Txt P K mg base) : mg "InvalidRows" = some (.ref (He.ga K "InvalidRows")) := He.glo_ok T.kin T.glob (T.says.fact 32 (f := .glo "InvalidRows") rfl)
theorem Txt.m_InvalidStuck (T : Txt P K mg base) : mg "InvalidStuck" = some (.ref (He.ga K "InvalidStuck")) := He.glo_ok T.kin T.glob (T.says.fact 33 (f := .glo "InvalidStuck") rfl)
theorem Txt.m_NotComparable (T : Txt P K mg base) : mg "NotComparable" = some (.ref (He.ga K "NotComparable")) := He.glo_ok T.kin T.glob (T.says.fact 34 (f := .glo "NotComparable") rfl)
theorem Txt.m_Table (T : Txt P K mg base) : mg "Table" = some (.ref (He.ga K "Table")) := He.glo_ok T.kin T.glob (T.says.fact 35 (f := .glo "Table") rfl)
theorem Txt.m_TakeError (T : Txt P K mg base) : mg "TakeError" = some (.ref (He.ga K "TakeError")) := He.glo_ok T.kin T.glob (T.says.fact 36 (f := .glo "TakeError") rfl)
theorem Txt.m_UnknownEntry (T : Txt P K mg base) : mg "UnknownEntry" = some (.ref (He.ga K "UnknownEntry")) := He.glo_ok T.kin T.glob (T.says.fact 37 (f := .glo "UnknownEntry") rfl)
theorem Txt.m_MOST_TAKE (T : Txt P K mg base) : ∃ t, mg "MOST_TAKE" = some (.int 3 t) := He.int_ok T.kin T.glob (T.says.fact 38 (f := .int "MOST_TAKE" 3) rfl)
theorem Txt.m_MOST_PASSES (T : Txt P K mg base) : ∃ t, mg "MOST_PASSES" = some (.int 1 t) := He.int_ok T.kin T.glob (T.says.fact 39 (f := .int "MOST_PASSES" 1) rfl)
theorem Txt.m_STUCK (T : Txt P K mg base) : mg "STUCK" = some (.ref (He.ga K "STUCK")) := He.glo_ok T.kin T.glob (T.says.fact 40 (f := .glo "STUCK") rfl)
theorem Txt.m_PASS (T : Txt P K mg base) : ∃ t, mg "PASS" = some (.int 0 t) := He.int_ok T.kin T.glob (T.says.fact 41 (f := .int "PASS" 0) rfl)
theorem Txt.f_all (T : Txt P K mg base) : mg "all" = none := He.free_ok T.kin T.glob (T.says.fact 42 (f := .free "all") rfl)
theorem Txt.f_bool (T : Txt P K mg base) : mg "bool" = none := He.free_ok T.kin T.glob (T.says.fact 43 (f := .free "bool") rfl)
theorem Txt.f_dict (T : Txt P K mg base) : mg "dict" = none := He.free_ok T.kin T.glob (T.says.fact 44 (f := .free "dict") rfl)
theorem Txt.f_enumerate (T : Txt P K mg base) : mg "enumerate" = none := He.free_ok T.kin T.glob (T.says.fact 45 (f := .free "enumerate") rfl)
theorem Txt.f_int (T : Txt P K mg base) : mg "int" = none := He.free_ok T.kin T.glob (T.says.fact 46 (f := .free "int") rfl)
theorem Txt.f_isinstance (T : Txt P K mg base) : mg "isinstance" = none := He.free_ok T.kin T.glob (T.says.fact 47 (f := .free "isinstance") rfl)
theorem Txt.f_len (T : Txt P K mg base) : mg "len" = none := He.free_ok T.kin T.glob (T.says.fact 48 (f := .free "len") rfl)
theorem Txt.f_list (T : Txt P K mg base) : mg "list" = none := He.free_ok T.kin T.glob (T.says.fact 49 (f := .free "list") rfl)
theorem Txt.f_max (T : Txt P K mg base) : mg "max" = none := He.free_ok T.kin T.glob (T.says.fact 50 (f := .free "max") rfl)
theorem Txt.f_min (T : Txt P K mg base) : mg "min" = none := He.free_ok T.kin T.glob (T.says.fact 51 (f := .free "min") rfl)
theorem Txt.f_property (T : Txt P K mg base) : mg "property" = none := He.free_ok T.kin T.glob (T.says.fact 52 (f := .free "property") rfl)
theorem Txt.f_range (T : Txt P K mg base) : mg "range" = none := He.free_ok T.kin T.glob (T.says.fact 53 (f := .free "range") rfl)
theorem Txt.f_sorted (T : Txt P K mg base) : mg "sorted" = none := He.free_ok T.kin T.glob (T.says.fact 54 (f := .free "sorted") rfl)
theorem Txt.f_str (T : Txt P K mg base) : mg "str" = none := He.free_ok T.kin T.glob (T.says.fact 55 (f := .free "str") rfl)
theorem Txt.f_super (T : Txt P K mg base) : mg "super" = none := He.free_ok T.kin T.glob (T.says.fact 56 (f := .free "super") rfl)
theorem Txt.f_tuple (T : Txt P K mg base) : mg "tuple" = none := He.free_ok T.kin T.glob (T.says.fact 57 (f := .free "tuple") rfl)
theorem Txt.f_zip (T : Txt P K mg base) : mg "zip" = none := He.free_ok T.kin T.glob (T.says.fact 58 (f := .free "zip") rfl)
theorem Txt.c_Table (T : Txt P K mg base) : Cls K (He.ga K "Table") := He.cls_ok (T.says.fact 59 (f := .cls "Table") rfl)
theorem Txt.k_Table (T : Txt P K mg base) : Mk K (He.ga K "Table") (He.ma K (He.ga K "Table") "__init__") := He.mkr_ok (T.says.fact 60 (f := .mkr "Table") rfl)
theorem Txt.n_Table_allowed (T : Txt P K mg base) : NoAttr K (He.ga K "Table") "allowed" := He.noat_ok (T.says.fact 61 (f := .noat "Table" "allowed") rfl)
theorem Txt.n_Table_spare (T : Txt P K mg base) : NoAttr K (He.ga K "Table") "spare" := He.noat_ok (T.says.fact 62 (f := .noat "Table" "spare") rfl)
theorem Txt.n_Table_fate (T : Txt P K mg base) : NoAttr K (He.ga K "Table") "fate" := He.noat_ok (T.says.fact 63 (f := .noat "Table" "fate") rfl)
theorem Txt.e_Table___eq__ (T : Txt P K mg base) : Meth K (He.ga K "Table") "__eq__" (He.ma K (He.ga K "Table") "__eq__") := He.meth_ok (T.says.fact 64 (f := .meth "Table" "__eq__") rfl)
theorem Txt.e_Table_turned (T : Txt P K mg base) : Meth K (He.ga K "Table") "turned" (He.ma K (He.ga K "Table") "turned") := He.meth_ok (T.says.fact 65 (f := .meth "Table" "turned") rfl)
theorem Txt.h_InvalidRows_NotComparable (T : Txt P K mg base) : PySem.W.exmOne K (.ref (He.ga K "InvalidRows")) (.ref (He.ga K "NotComparable")) = some false := He.exm_ok (T.says.fact 66 (f := .exm "InvalidRows" "NotComparable" false) rfl)
theorem Txt.h_InvalidPasses_NotComparable (T : Txt P K mg base) : PySem.W.exmOne K (.ref (He.ga K "InvalidPasses")) (.ref (He.ga K "NotComparable")) = some false := He.exm_ok (T.says.fact 67 (f := .exm "InvalidPasses" "NotComparable" false) rfl)
theorem Txt.h_InvalidStuck_NotComparable (T : Txt P K mg base) : PySem.W.exmOne K (.ref (He.ga K "InvalidStuck")) (.ref (He.ga K "NotComparable")) = some false := He.exm_ok (T.says.fact 68 (f := .exm "InvalidStuck" "NotComparable" false) rfl)
theorem Txt.h_UnknownEntry_NotComparable (T : Txt P K mg base) : PySem.W.exmOne K (.ref (He.ga K "UnknownEntry")) (.ref (He.ga K "NotComparable")) = some false := He.exm_ok (T.says.fact 69 (f := .exm "UnknownEntry" "NotComparable" false) rfl)
theorem Txt.h_NotComparable_NotComparable (T : Txt P K mg base) : PySem.W.exmOne K (.ref (He.ga K "NotComparable")) (.ref (He.ga K "NotComparable")) = some true := He.exm_ok (T.says.fact 70 (f := .exm "NotComparable" "NotComparable" true) rfl)
theorem Txt.d_is_integer (T : Txt P K mg base) : ∃ fd, FunD K "is_integer" "is_integer" (defArgs s_is_integer) (defBody s_is_integer) (defScope s_is_integer) [] [] (He.fAd K ("is_integer", none)) fd := T.says.def_ 0 (d := ⟨("is_integer", none), "is_integer", "is_integer", defArgs s_is_integer, defBody s_is_integer, defScope s_is_integer, [], []⟩) rfl
theorem Txt.d_is_row (T : Txt P K mg base) : ∃ fd, FunD K "is_row" "is_row" (defArgs s_is_row) (defBody s_is_row) (defScope s_is_row) [] [] (He.fAd K ("is_row", none)) fd := T.says.def_ 1 (d := ⟨("is_row", none), "is_row", "is_row", defArgs s_is_row, defBody s_is_row, defScope s_is_row, [], []⟩) rfl
theorem Txt.d_check_rows (T : Txt P K mg base) : ∃ fd, FunD K "check_rows" "check_rows" (defArgs s_check_rows) (defBody s_check_rows) (defScope s_check_rows) [] [] (He.fAd K ("check_rows", none)) fd := T.says.def_ 2 (d := ⟨("check_rows", none), "check_rows", "check_rows", defArgs s_check_rows, defBody s_check_rows, defScope s_check_rows, [], []⟩) rfl
theorem Txt.d_Table___init__ (T : Txt P K mg base) : ∃ fd, FunD K "__init__" "Table.__init__" (defArgs s_Table___init__) (defBody s_Table___init__) (defScope s_Table___init__) [] [] (He.fAd K ("Table", some "__init__")) fd := T.says.def_ 3 (d := ⟨("Table", some "__init__"), "__init__", "Table.__init__", defArgs s_Table___init__, defBody s_Table___init__, defScope s_Table___init__, [], []⟩) rfl
theorem Txt.d_Table___eq__ (T : Txt P K mg base) : ∃ fd, FunD K "__eq__" "Table.__eq__" (defArgs s_Table___eq__) (defBody s_Table___eq__) (defScope s_Table___eq__) [] [] (He.fAd K ("Table", some "__eq__")) fd := T.says.def_ 4 (d := ⟨("Table", some "__eq__"), "__eq__", "Table.__eq__", defArgs s_Table___eq__, defBody s_Table___eq__, defScope s_Table___eq__, [], []⟩) rfl
theorem Txt.d_Table_turned (T : Txt P K mg base) : ∃ fd, FunD K "turned" "Table.turned" (defArgs s_Table_turned) (defBody s_Table_turned) (defScope s_Table_turned) [] [] (He.fAd K ("Table", some "turned")) fd := T.says.def_ 5 (d := ⟨("Table", some "turned"), "turned", "Table.turned", defArgs s_Table_turned, defBody s_Table_turned, defScope s_Table_turned, [], []⟩) rfl
theorem Txt.d_turned_row (T : Txt P K mg base) : ∃ fd, FunD K "turned_row" "turned_row" (defArgs s_turned_row) (defBody s_turned_row) (defScope s_turned_row) [] [] (He.fAd K ("turned_row", none)) fd := T.says.def_ 6 (d := ⟨("turned_row", none), "turned_row", "turned_row", defArgs s_turned_row, defBody s_turned_row, defScope s_turned_row, [], []⟩) rfl
theorem Txt.d_turned_table (T : Txt P K mg base) : ∃ fd, FunD K "turned_table" "turned_table" (defArgs s_turned_table) (defBody s_turned_table) (defScope s_turned_table) [] [] (He.fAd K ("turned_table", none)) fd := T.says.def_ 7 (d := ⟨("turned_table", none), "turned_table", "turned_table", defArgs s_turned_table, defBody s_turned_table, defScope s_turned_table, [], []⟩) rfl
theorem Txt.d_options (T : Txt P K mg base) : ∃ fd, FunD K "options" "options" (defArgs s_options) (defBody s_options) (defScope s_options) [] [] (He.fAd K ("options", none)) fd := T.says.def_ 8 (d := ⟨("options", none), "options", "options", defArgs s_options, defBody s_options, defScope s_options, [], []⟩) rfl
theorem Txt.d_next_row (T : Txt P K mg base) : ∃ fd, FunD K "next_row" "next_row" (defArgs s_next_row) (defBody s_next_row) (defScope s_next_row) [] [] (He.fAd K ("next_row", none)) fd := T.says.def_ 9 (d := ⟨("next_row", none), "next_row", "next_row", defArgs s_next_row, defBody s_next_row, defScope s_next_row, [], []⟩) rfl
theorem Txt.d_is_won_by (T : Txt P K mg base) : ∃ fd, FunD K "is_won_by" "is_won_by" (defArgs s_is_won_by) (defBody s_is_won_by) (defScope s_is_won_by) [] [] (He.fAd K ("is_won_by", none)) fd := T.says.def_ 10 (d := ⟨("is_won_by", none), "is_won_by", "is_won_by", defArgs s_is_won_by, defBody s_is_won_by, defScope s_is_won_by, [], []⟩) rfl
theorem Txt.d_window_of (T : Txt P K mg base) : ∃ fd, FunD K "window_of" "window_of" (defArgs s_window_of) (defBody s_window_of) (defScope s_window_of) [] [] (He.fAd K ("window_of", none)) fd := T.says.def_ 11 (d := ⟨("window_of", none), "window_of", "window_of", defArgs s_window_of, defBody s_window_of, defScope s_window_of, [], []⟩) rfl
theorem Txt.d_least_pattern (T : Txt P K mg base) : ∃ fd, FunD K "least_pattern" "least_pattern" (defArgs s_least_pattern) (defBody s_least_pattern) (defScope s_least_pattern) [] [] (He.fAd K ("least_pattern", none)) fd := T.says.def_ 12 (d := ⟨("least_pattern", none), "least_pattern", "least_pattern", defArgs s_least_pattern, defBody s_least_pattern, defScope s_least_pattern, [], []⟩) rfl
theorem Txt.d_come_round (T : Txt P K mg base) : ∃ fd, FunD K "come_round" "come_round" (defArgs s_come_round) (defBody s_come_round) (defScope s_come_round) [] [] (He.fAd K ("come_round", none)) fd := T.says.def_ 13 (d := ⟨("come_round", none), "come_round", "come_round", defArgs s_come_round, defBody s_come_round, defScope s_come_round, [], []⟩) rfl
theorem Txt.d_pattern_of (T : Txt P K mg base) : ∃ fd, FunD K "pattern_of" "pattern_of" (defArgs s_pattern_of) (defBody s_pattern_of) (defScope s_pattern_of) [] [] (He.fAd K ("pattern_of", none)) fd := T.says.def_ 14 (d := ⟨("pattern_of", none), "pattern_of", "pattern_of", defArgs s_pattern_of, defBody s_pattern_of, defScope s_pattern_of, [], []⟩) rfl
theorem Txt.d_first_unlike (T : Txt P K mg base) : ∃ fd, FunD K "first_unlike" "first_unlike" (defArgs s_first_unlike) (defBody s_first_unlike) (defScope s_first_unlike) [] [] (He.fAd K ("first_unlike", none)) fd := T.says.def_ 15 (d := ⟨("first_unlike", none), "first_unlike", "first_unlike", defArgs s_first_unlike, defBody s_first_unlike, defScope s_first_unlike, [], []⟩) rfl
theorem Txt.d_parting (T : Txt P K mg base) : ∃ fd, FunD K "parting" "parting" (defArgs s_parting) (defBody s_parting) (defScope s_parting) [] [] (He.fAd K ("parting", none)) fd := T.says.def_ 16 (d := ⟨("parting", none), "parting", "parting", defArgs s_parting, defBody s_parting, defScope s_parting, [], []⟩) rfl
theorem Txt.d_alike (T : Txt P K mg base) : ∃ fd, FunD K "alike" "alike" (defArgs s_alike) (defBody s_alike) (defScope s_alike) [] [] (He.fAd K ("alike", none)) fd := T.says.def_ 17 (d := ⟨("alike", none), "alike", "alike", defArgs s_alike, defBody s_alike, defScope s_alike, [], []⟩) rfl
theorem Txt.d_pattern (T : Txt P K mg base) : ∃ fd, FunD K "pattern" "pattern" (defArgs s_pattern) (defBody s_pattern) (defScope s_pattern) [] [] (He.fAd K ("pattern", none)) fd := T.says.def_ 18 (d := ⟨("pattern", none), "pattern", "pattern", defArgs s_pattern, defBody s_pattern, defScope s_pattern, [], []⟩) rfl
theorem Txt.d__law_mix (T : Txt P K mg base) : ∃ fd, FunD K "_law_mix" "_law_mix" (defArgs s__law_mix) (defBody s__law_mix) (defScope s__law_mix) [] [] (He.fAd K ("_law_mix", none)) fd := T.says.def_ 19 (d := ⟨("_law_mix", none), "_law_mix", "_law_mix", defArgs s__law_mix, defBody s__law_mix, defScope s__law_mix, [], []⟩) rfl
theorem Txt.d__law_next (T : Txt P K mg base) : ∃ fd, FunD K "_law_next" "_law_next" (defArgs s__law_next) (defBody s__law_next) (defScope s__law_next) [] [] (He.fAd K ("_law_next", none)) fd := T.says.def_ 20 (d := ⟨("_law_next", none), "_law_next", "_law_next", defArgs s__law_next, defBody s__law_next, defScope s__law_next, [], []⟩) rfl
theorem Txt.d__law_alike (T : Txt P K mg base) : ∃ fd, FunD K "_law_alike" "_law_alike" (defArgs s__law_alike) (defBody s__law_alike) (defScope s__law_alike) [] [] (He.fAd K ("_law_alike", none)) fd := T.says.def_ 21 (d := ⟨("_law_alike", none), "_law_alike", "_law_alike", defArgs s__law_alike, defBody s__law_alike, defScope s__law_alike, [], []⟩) rfl
theorem Txt.d__law_pick (T : Txt P K mg base) : ∃ fd, FunD K "_law_pick" "_law_pick" (defArgs s__law_pick) (defBody s__law_pick) (defScope s__law_pick) [] [] (He.fAd K ("_law_pick", none)) fd := T.says.def_ 22 (d := ⟨("_law_pick", none), "_law_pick", "_law_pick", defArgs s__law_pick, defBody s__law_pick, defScope s__law_pick, [], []⟩) rfl
theorem Txt.d__law_line (T : Txt P K mg base) : ∃ fd, FunD K "_law_line" "_law_line" (defArgs s__law_line) (defBody s__law_line) (defScope s__law_line) [] [] (He.fAd K ("_law_line", none)) fd := T.says.def_ 23 (d := ⟨("_law_line", none), "_law_line", "_law_line", defArgs s__law_line, defBody s__law_line, defScope s__law_line, [], []⟩) rfl
theorem Txt.d__law_draw (T : Txt P K mg base) : ∃ fd, FunD K "_law_draw" "_law_draw" (defArgs s__law_draw) (defBody s__law_draw) (defScope s__law_draw) [] [] (He.fAd K ("_law_draw", none)) fd := T.says.def_ 24 (d := ⟨("_law_draw", none), "_law_draw", "_law_draw", defArgs s__law_draw, defBody s__law_draw, defScope s__law_draw, [], []⟩) rfl
theorem Txt.d__law_built (T : Txt P K mg base) : ∃ fd, FunD K "_law_built" "_law_built" (defArgs s__law_built) (defBody s__law_built) (defScope s__law_built) [] [] (He.fAd K ("_law_built", none)) fd := T.says.def_ 25 (d := ⟨("_law_built", none), "_law_built", "_law_built", defArgs s__law_built, defBody s__law_built, defScope s__law_built, [], []⟩) rfl
theorem Txt.d__law_entries (T : Txt P K mg base) : ∃ fd, FunD K "_law_entries" "_law_entries" (defArgs s__law_entries) (defBody s__law_entries) (defScope s__law_entries) [] [] (He.fAd K ("_law_entries", none)) fd := T.says.def_ 26 (d := ⟨("_law_entries", none), "_law_entries", "_law_entries", defArgs s__law_entries, defBody s__law_entries, defScope s__law_entries, [], []⟩) rfl
theorem Txt.d__law_turned (T : Txt P K mg base) : ∃ fd, FunD K "_law_turned" "_law_turned" (defArgs s__law_turned) (defBody s__law_turned) (defScope s__law_turned) [] [] (He.fAd K ("_law_turned", none)) fd := T.says.def_ 27 (d := ⟨("_law_turned", none), "_law_turned", "_law_turned", defArgs s__law_turned, defBody s__law_turned, defScope s__law_turned, [], []⟩) rfl
theorem Txt.d__law_moves (T : Txt P K mg base) : ∃ fd, FunD K "_law_moves" "_law_moves" (defArgs s__law_moves) (defBody s__law_moves) (defScope s__law_moves) [] [] (He.fAd K ("_law_moves", none)) fd := T.says.def_ 28 (d := ⟨("_law_moves", none), "_law_moves", "_law_moves", defArgs s__law_moves, defBody s__law_moves, defScope s__law_moves, [], []⟩) rfl
theorem Txt.d__law_behind (T : Txt P K mg base) : ∃ fd, FunD K "_law_behind" "_law_behind" (defArgs s__law_behind) (defBody s__law_behind) (defScope s__law_behind) [] [] (He.fAd K ("_law_behind", none)) fd := T.says.def_ 29 (d := ⟨("_law_behind", none), "_law_behind", "_law_behind", defArgs s__law_behind, defBody s__law_behind, defScope s__law_behind, [], []⟩) rfl
theorem Txt.d__law_outcomes (T : Txt P K mg base) : ∃ fd, FunD K "_law_outcomes" "_law_outcomes" (defArgs s__law_outcomes) (defBody s__law_outcomes) (defScope s__law_outcomes) [] [] (He.fAd K ("_law_outcomes", none)) fd := T.says.def_ 30 (d := ⟨("_law_outcomes", none), "_law_outcomes", "_law_outcomes", defArgs s__law_outcomes, defBody s__law_outcomes, defScope s__law_outcomes, [], []⟩) rfl
theorem Txt.d__law_least (T : Txt P K mg base) : ∃ fd, FunD K "_law_least" "_law_least" (defArgs s__law_least) (defBody s__law_least) (defScope s__law_least) [] [] (He.fAd K ("_law_least", none)) fd := T.says.def_ 31 (d := ⟨("_law_least", none), "_law_least", "_law_least", defArgs s__law_least, defBody s__law_least, defScope s__law_least, [], []⟩) rfl
theorem Txt.d__law_refused (T : Txt P K mg base) : ∃ fd, FunD K "_law_refused" "_law_refused" (defArgs s__law_refused) (defBody s__law_refused) (defScope s__law_refused) [] [] (He.fAd K ("_law_refused", none)) fd := T.says.def_ 32 (d := ⟨("_law_refused", none), "_law_refused", "_law_refused", defArgs s__law_refused, defBody s__law_refused, defScope s__law_refused, [], []⟩) rfl
theorem Txt.d_law (T : Txt P K mg base) : ∃ fd, FunD K "law" "law" (defArgs s_law) (defBody s_law) (defScope s_law) [] [] (He.fAd K ("law", none)) fd := T.says.def_ 33 (d := ⟨("law", none), "law", "law", defArgs s_law, defBody s_law, defScope s_law, [], []⟩) rfl
theorem Txt.q_STUCK (T : Txt P K mg base) : ∀ H, Tp K H (.ref (He.ga K "STUCK")) (.tuple [(.str "loses"), (.str "wins")]) := fun H => data_at (T.has 0) H
theorem Txt.x_InvalidRows (T : Txt P K mg base) : Exc1 P K mg "InvalidRows" "index" := ⟨T.m_InvalidRows, He.eqO_ok (T.has 2), ⟨by decide, by decide, by decide, by decide⟩, _, _, _, _, _, _, _, _, _, _, _, _, _, _, _, _, exB_ok T.file T.tsup (T.has 1) (T.das 0 _ rfl).1 (T.das 0 _ rfl).2, rfl, fun _ => rfl, fun _ => rfl, fun _ _ _ _ _ _ _ _ _ => BindsTo.of_eq (by first | rfl | with_unfolding_all rfl)⟩
theorem Txt.x_InvalidPasses (T : Txt P K mg base) : Exc0 P K mg "InvalidPasses" := ⟨T.m_InvalidPasses, _, _, _, _, _, _, _, _, _, _, _, exB_ok T.file T.tsup (T.has 3) (T.das 1 _ rfl).1 (T.das 1 _ rfl).2, rfl, fun _ => rfl⟩
theorem Txt.x_InvalidStuck (T : Txt P K mg base) : Exc0 P K mg "InvalidStuck" := ⟨T.m_InvalidStuck, _, _, _, _, _, _, _, _, _, _, _, exB_ok T.file T.tsup (T.has 4) (T.das 2 _ rfl).1 (T.das 2 _ rfl).2, rfl, fun _ => rfl⟩
theorem Txt.x_UnknownEntry (T : Txt P K mg base) : Exc0 P K mg "UnknownEntry" := ⟨T.m_UnknownEntry, _, _, _, _, _, _, _, _, _, _, _, exB_ok T.file T.tsup (T.has 5) (T.das 3 _ rfl).1 (T.das 3 _ rfl).2, rfl, fun _ => rfl⟩
theorem Txt.x_NotComparable (T : Txt P K mg base) : Exc0 P K mg "NotComparable" := ⟨T.m_NotComparable, _, _, _, _, _, _, _, _, _, _, _, exB_ok T.file T.tsup (T.has 6) (T.das 4 _ rfl).1 (T.das 4 _ rfl).2, rfl, fun _ => rfl⟩
theorem Txt.i_Table (T : Txt P K mg base) : IsiOk K "Table" := isiB_ok T.c_Table (T.has 7)
theorem Txt.l_Table_allowed (T : Txt P K mg base) : FldOk K "Table" "allowed" := ⟨T.c_Table, T.n_Table_allowed⟩
theorem Txt.l_Table_spare (T : Txt P K mg base) : FldOk K "Table" "spare" := ⟨T.c_Table, T.n_Table_spare⟩
theorem Txt.l_Table_fate (T : Txt P K mg base) : FldOk K "Table" "fate" := ⟨T.c_Table, T.n_Table_fate⟩
theorem Txt.p_Table_rows (T : Txt P K mg base) : PropOf K (He.ga K "Table") "rows" (pa K "Table" "rows") (gt "Table" "rows" K) := propB_ok (T.has 8)
theorem Txt.d_Table_rows (T : Txt P K mg base) : ∃ fd, FunD K "rows" "Table.rows" (defArgs s_Table_rows) (defBody s_Table_rows) (defScope s_Table_rows) [] [] (gt "Table" "rows" K) fd := DefA.funD (d := ⟨gt "Table" "rows", "rows", "Table.rows", defArgs s_Table_rows, defBody s_Table_rows, defScope s_Table_rows, []⟩) (T.das 5 _ rfl).1 (T.das 5 _ rfl).2 rfl
theorem Txt.p_Table_passes (T : Txt P K mg base) : PropOf K (He.ga K "Table") "passes" (pa K "Table" "passes") (gt "Table" "passes" K) := propB_ok (T.has 9)
theorem Txt.d_Table_passes (T : Txt P K mg base) : ∃ fd, FunD K "passes" "Table.passes" (defArgs s_Table_passes) (defBody s_Table_passes) (defScope s_Table_passes) [] [] (gt "Table" "passes" K) fd := DefA.funD (d := ⟨gt "Table" "passes", "passes", "Table.passes", defArgs s_Table_passes, defBody s_Table_passes, defScope s_Table_passes, []⟩) (T.das 6 _ rfl).1 (T.das 6 _ rfl).2 rfl
theorem Txt.p_Table_stuck (T : Txt P K mg base) : PropOf K (He.ga K "Table") "stuck" (pa K "Table" "stuck") (gt "Table" "stuck" K) := propB_ok (T.has 10)
theorem Txt.d_Table_stuck (T : Txt P K mg base) : ∃ fd, FunD K "stuck" "Table.stuck" (defArgs s_Table_stuck) (defBody s_Table_stuck) (defScope s_Table_stuck) [] [] (gt "Table" "stuck" K) fd := DefA.funD (d := ⟨gt "Table" "stuck", "stuck", "Table.stuck", defArgs s_Table_stuck, defBody s_Table_stuck, defScope s_Table_stuck, []⟩) (T.das 7 _ rfl).1 (T.das 7 _ rfl).2 rfl
theorem Txt.p_Table_most (T : Txt P K mg base) : PropOf K (He.ga K "Table") "most" (pa K "Table" "most") (gt "Table" "most" K) := propB_ok (T.has 11)
theorem Txt.d_Table_most (T : Txt P K mg base) : ∃ fd, FunD K "most" "Table.most" (defArgs s_Table_most) (defBody s_Table_most) (defScope s_Table_most) [] [] (gt "Table" "most" K) fd := DefA.funD (d := ⟨gt "Table" "most", "most", "Table.most", defArgs s_Table_most, defBody s_Table_most, defScope s_Table_most, []⟩) (T.das 8 _ rfl).1 (T.das 8 _ rfl).2 rfl
theorem Txt.tbs_pattern_of (T : Txt P K mg base) : LamX.TabB base mg (cTab K "pattern_of").1 (cTab K "pattern_of").2 := T.tb _ (by decide)
theorem Txt.tm_pattern_of (T : Txt P K mg base) : ((cTab K "pattern_of").2, ("pattern_of.<locals>.<lambda>" : Str)) ∈ (kt K).T := by simp [kt]
theorem Txt.tu_pattern_of (T : Txt P K mg base) : ∀ p ∈ (kt K).T, p.1 = (cTab K "pattern_of").2 → p.2 = "pattern_of.<locals>.<lambda>" := by
  have nd := T.tnd
  simp [ts] at nd
  intro p hp e
  simp [kt] at hp
  subst hp; rfl
theorem Txt.sub_NotComparable (T : Txt P K mg base) : ∀ y b, Tk.sub_NotComparable y = some b → PySem.W.exmOne K (.ref (He.ga K y)) (.ref (He.ga K "NotComparable")) = some b := by
  intro y b h
  unfold Tk.sub_NotComparable at h
  split at h
  · rename_i e; subst e; cases h; exact T.h_InvalidRows_NotComparable
  split at h
  · rename_i e; subst e; cases h; exact T.h_InvalidPasses_NotComparable
  split at h
  · rename_i e; subst e; cases h; exact T.h_InvalidStuck_NotComparable
  split at h
  · rename_i e; subst e; cases h; exact T.h_UnknownEntry_NotComparable
  split at h
  · rename_i e; subst e; cases h; exact T.h_NotComparable_NotComparable
  cases h
end
end Tk

end

section
namespace Tk
open PySem PySem.Spec L2 RZ StX
open PyProof.Rows (envOfC)
local macro_rules
  | `(tactic| k_subL) => `(tactic| first
      | with_reducible apply g_seq
      | with_reducible apply g_asg
      | with_reducible apply g_if
      | with_reducible apply g_ret
      | with_reducible apply g_drop
      | with_reducible apply g_next
      | with_reducible apply g_retN
      | with_reducible apply g_brk
      | with_reducible apply g_cont
      | (with_reducible apply g_name; focus (first | (simp only [wipe, List.foldl, List.set_cons_succ, List.set_cons_zero]; exact rfl) | exact rfl))
      | (with_reducible apply g_var; focus (with_unfolding_all exact rfl))
      | with_reducible apply g_c
      | with_reducible apply g_op
      | with_reducible apply g_un
      | with_reducible apply g_cb
      | with_reducible apply g_callS
      | with_reducible apply g_nil
      | with_reducible apply g_cons
      | with_reducible apply g_ife
      | with_reducible apply g_test
      | with_reducible apply g_tb
      | with_reducible apply g_bl
      | with_reducible apply g_and
      | with_reducible apply g_or
      | with_reducible apply g_not
      | with_reducible apply g_andV
      | with_reducible apply g_orV
      | with_reducible apply g_notV
      | with_reducible apply g_yes
      | with_reducible apply g_iT
      | with_reducible apply g_iF
      | with_reducible apply g_iNT
      | with_reducible apply g_iNF
      | with_reducible apply g_chain
      | with_reducible apply g_tup
      | with_reducible apply g_lc
      | with_reducible apply g_iSeq
      | with_reducible apply g_iEnum
      | with_reducible apply g_iZip
      | with_reducible apply g_rng1
      | with_reducible apply g_rng2
      | with_reducible apply g_for
      | with_reducible apply g_sl
      | with_reducible apply g_noPart
      | with_reducible apply g_part
      | with_reducible apply g_int
      | (with_reducible apply r_seqT; focus assumption)
      | (with_reducible apply r_seqL; focus assumption)
      | (with_reducible apply r_enumT; focus assumption)
      | (with_reducible apply r_enumL; focus assumption)
      | ((with_reducible apply r_zipT); (focus assumption); (focus assumption))
      | ((with_reducible apply r_lenT); (focus assumption))
      | ((with_reducible apply r_lenL); (focus assumption))
      | with_reducible apply g_lst
      | with_reducible apply g_m1
      | with_reducible apply g_tryO
      | with_reducible apply g_par
      | ((with_reducible apply g_par2); (try simp only [List.set_cons_succ, List.set_cons_zero]))
      | ((with_reducible apply r_row1); (focus assumption))
      | ((with_reducible apply r_row2); (focus assumption))
      | ((with_reducible apply r_mod); (focus first | assumption | decide))
      | ((with_reducible apply r_div); (focus first | assumption | decide))
      | ((with_reducible apply r_pow); (focus decide))
      | ((with_reducible apply r_mulC); (focus decide))
      | with_reducible apply g_gSub
      | ((with_reducible apply g_tabA); (focus assumption); intro _ _)
      | ((with_reducible apply g_tabS); (focus assumption))
      | ((with_reducible apply g_tabF); (focus assumption))
      | with_reducible apply g_isS
      | with_reducible apply g_star
      | with_reducible apply g_bm
      | with_reducible apply g_bm0
      | with_reducible apply r_intI
      | with_reducible apply g_raise0
      | with_reducible apply g_raise1
      | with_reducible apply g_fldO
      | with_reducible apply g_fldSO
      | with_reducible apply g_methO
      | with_reducible apply g_makeO
      | with_reducible apply g_propO
      | with_reducible apply r_I0
      | with_reducible apply r_addI
      | with_reducible apply r_eqI
      | with_reducible apply r_neI
      | with_reducible apply r_eqS
      | with_reducible apply r_neS
      | with_reducible apply r_eqB
      | with_reducible apply r_neB
      | with_reducible apply r_int1
      | with_reducible apply r_max2
      | with_reducible apply g_gNil
      | ((with_reducible apply g_gTup); (focus (exact SqT.of upd_same)); (focus (exact rfl)))
      | with_reducible apply g_gCons
      | (with_reducible refine r_isN ?_)
      | (with_reducible apply r_isi_int; focus k_offL)
      | (with_reducible apply r_isi_bool; focus k_offL)
      | (with_reducible apply r_isi_str; focus k_offL)
      | (with_reducible apply r_isi_tup; focus k_offL)
      | (with_reducible apply r_isi_lst; focus k_offL)
      | (with_reducible apply r_isi_dct; focus k_offL)
      | ((with_reducible apply r_isiTL); (focus k_offL); (focus (exact upd_same)))
      | dsimp only [Ty.isInt, Ty.isBool, Ty.isStr, Ty.isTup, Ty.isLst, Ty.isDct, Ty.isSeq]
      | dsimp only [decide_true, decide_false, Bool.not_true, Bool.not_false])
  | `(tactic| k_offL) => `(tactic| first | exact AnyV.non | exact AnyV.bl _ | exact AnyV.int _ | exact AnyV.str _ | exact AnyV.lst (by assumption) | exact AnyV.tup (by assumption) | exact AnyV.dK (by assumption) | assumption)
  | `(tactic| k_clsL) => `(tactic| repeat k_subL)

section
open PySem PySem.Spec L2 RZ StX
open PyProof.Rows (envOfC)
noncomputable section
variable {P : Program} {w : World} {K : PySem.W.Frag} {mg : Str → Option Value} {base : Heap}
abbrev N__law_mix : List Str := ["_law_script", "_law_seed", "_law_state", "_law_cell"]
theorem sc__law_mix : FnScope N__law_mix ["_law_script", "_law_seed"] (defScope s__law_mix) := ⟨rfl, rfl, rfl, by decide +kernel, rfl, by decide +kernel, by decide +kernel⟩
def t__law_mix (K : PySem.W.Frag) (E : XK) : TS :=
    (tSeq (tAsg (tVar 1) (gName 2))
    (tSeq (tFor (iSeq K (tVar 0)) (gName 3) (tAsg (tOp (rI (fun _ j => 0 < j) fun i j => .int (i % j)) (tCB rIntA (tCons (tOp (rAddA K) (tOp (rAddA K) (tOp (rMulA K) (tVar 2) (tC (.int 48271))) (tOp (rI (fun _ j => 0 < j) fun i j => .int (i % j)) (tCB rIntA (tCons (tVar 3) tNil)) (tC (.int 2147483629)))) (tC (.int 1))) tNil)) (tC (.int 2147483647))) (gName 2)))
    (tRet (tLst (tCons (tVar 2) (tCons (tCB (rListOf K) (tCons (tVar 0) tNil)) (tCons (tC (.int 0)) tNil)))))))
end
def sp__law_mix (K : PySem.W.Frag) : Sp := fun vs H Q _ => ∃ (a : Addr) (ns : List Int) (s0 : Int), vs = [.ref a, .int s0] ∧ SqL K H a (ns.map V.int) ∧ ns.length ≤ 63 ∧ ∀ b l H', H b = none → H l = none → Fr [] H H' → Drw H' b l → Q (.ref b) H'
theorem pure__law_mix {K : PySem.W.Frag} (vs : List V) (H : Hp) (Q : VK) (E : XK) (hl : vs.length = 2) (h : sp__law_mix K vs H Q E) : t__law_mix K E { nx := fun _ H' => Q .non H', rt := Q } (start N__law_mix vs) H := by
  obtain ⟨a, ns, s0, rfl, ha, hn, q⟩ := h
  show t__law_mix K E _ [some (.ref a), some (.int s0), none, none] H
  unfold t__law_mix
  k_clsL
  refine for_fm (walk_list (xs := ns.map V.int)) ns (by rw [List.length_map]) (fun i σ' H' => H' = H ∧ ∃ st s3, σ' = [some (.ref a), some (.int s0), some (V.int st), s3]) ⟨rfl, s0, none, rfl⟩ (fun i σ' H' ⟨e, _⟩ => by rw [e]; exact ha) ?_ ?_
  · rintro i n x σ' H1 H2 hi ⟨rfl, st, s3, rfl⟩ ⟨rfl, hx⟩
    rw [List.getElem?_map, hi] at hx
    cases hx
    k_clsL
    exact ⟨rfl, _, _, rfl⟩
  · rintro σ' H1 ⟨rfl, st, s3, rfl⟩
    k_clsL
    refine r_listOfL ha fun l n1 F1 h1 => ?_
    k_clsL
    refine g_nL fun b n2 F2 h2 => ?_
    refine q b l _ ?_ n1 (F1.trans F2) ?_
    · exact F1.free n2
    · refine ⟨fun e => ?_, st, ns, 0, h2, F2.lst0 h1, hn⟩
      subst e
      rw [h1] at n2
      cases n2

noncomputable section
variable {P : Program} {w : World} {K : PySem.W.Frag} {mg : Str → Option Value} {base : Heap}
theorem der__law_mix (T : Txt P K mg base) {cdv : Value} {A : Around} {outer : List Env} {s : Shared} {H : Hp} {E : XK} (hr : Room 0 (A.deeper (envOfC "_law_mix" (defScope s__law_mix) s.heap.objs.size (He.ga K "_law_mix") cdv))) :
    PSs (cxOf (L2.CX P w) P w K mg base N__law_mix "_law_mix" (defScope s__law_mix) (He.ga K "_law_mix") cdv A outer s H E) (defBody s__law_mix) (t__law_mix K E) := by
  have nd := (sc__law_mix).nd
  have tk : Takes (cxOf (L2.CX P w) P w K mg base N__law_mix "_law_mix" (defScope s__law_mix) (He.ga K "_law_mix") cdv A outer s H E) (fun cls d _ H => E cls d H) := takes_of rfl rfl rfl rfl
  exact (pss_cons (ps_set (i := 2) nd rfl (by first | exact Or.inl rfl | exact Or.inr rfl) (pv 1))
    (pss_cons (ps_for (passes_of rfl) rfl (pi_seq (pv 0)) (pg_name (i := 3) nd rfl (by first | exact Or.inl rfl | exact Or.inr rfl)) (pss_one (ps_set (i := 2) nd rfl (by first | exact Or.inl rfl | exact Or.inr rfl) (pe_op op_mod (pe_callTy call_intA (by rfl) T.f_int (by decide +kernel) (pa_cons (pe_op op_addA (pe_op op_addA (pe_op op_mulA (pv 2) pe_int) (pe_op op_mod (pe_callTy call_intA (by rfl) T.f_int (by decide +kernel) (pa_cons (pv 3) pa_nil)) pe_int)) pe_int) pa_nil)) pe_int))))
    (pss_one (ps_ret (pe_lst (pa_cons (pv 2) (pa_cons (pe_callTy call_listOf (by rfl) T.f_list (by decide +kernel) (pa_cons (pv 0) pa_nil)) (pa_cons pe_int pa_nil))))))))
theorem ok__law_mix (T : Txt P K mg base) : Ok P w K mg base "_law_mix" 1 ["_law_script", "_law_seed"] (spL 2 (sp__law_mix K)) := ok_mk (T.d__law_mix) T.m__law_mix sc__law_mix (fun _ _ _ _ _ _ us hl => match us, hl with | [_, _], _ => rfl) (fun _ _ _ _ _ _ hr => der__law_mix T hr) (pure__law_mix)
end
end

section
open PySem PySem.Spec L2 RZ StX
open PyProof.Rows (envOfC)
noncomputable section
variable {P : Program} {w : World} {K : PySem.W.Frag} {mg : Str → Option Value} {base : Heap}
abbrev N__law_next : List Str := ["_law_h", "_law_cap", "_law_cell"]
theorem sc__law_next : FnScope N__law_next ["_law_h", "_law_cap"] (defScope s__law_next) := ⟨rfl, rfl, rfl, by decide +kernel, rfl, by decide +kernel, by decide +kernel⟩
def t__law_next (K : PySem.W.Frag) (E : XK) : TS :=
    (tSeq (tAsg (tOp (rIx K) (tOp (rAddA K) (tOp (rIx K) (tVar 0) (tC (.int 1))) (tLst (tCons (tC (.int 0)) tNil))) (tOp (rI (fun _ j => 0 < j) fun i j => .int (i % j)) (tCB rIntA (tCons (tOp (rIx K) (tVar 0) (tC (.int 2))) tNil)) (tCB rMax2 (tCons (tC (.int 1)) (tCons (tCB (rLenA K) (tCons (tOp (rIx K) (tVar 0) (tC (.int 1))) tNil)) tNil))))) (gName 2))
    (tSeq (tIfS (tTest (tOp (rI0 fun i j => .bl (decide (j ≤ i))) (tVar 2) (tOp (rI CPow fun i j => .int (i ^ j.toNat)) (tC (.int 10)) (tC (.int 18))))) (tSeq (tAsg (tOp (rI CDiv fun i j => .int (i / j)) (tVar 2) (tVar 1)) (gSub (tOp (rIx K) (tVar 0) (tC (.int 1))) (tOp (rI (fun _ j => 0 < j) fun i j => .int (i % j)) (tCB rIntA (tCons (tOp (rIx K) (tVar 0) (tC (.int 2))) tNil)) (tCB (rLenA K) (tCons (tOp (rIx K) (tVar 0) (tC (.int 1))) tNil))) rSetL))
    (tRet (tOp (rI (fun _ j => 0 < j) fun i j => .int (i % j)) (tCB rIntA (tCons (tVar 2) tNil)) (tVar 1)))) tNext)
    (tSeq (tAsg (tOp (rI (fun _ j => 0 < j) fun i j => .int (i % j)) (tCB rIntA (tCons (tOp (rAddA K) (tOp (rAddA K) (tOp (rMulA K) (tOp (rIx K) (tVar 0) (tC (.int 0))) (tC (.int 48271))) (tOp (rMulA K) (tVar 2) (tC (.int 69621)))) (tC (.int 11))) tNil)) (tC (.int 2147483647))) (gSub (tVar 0) (tC (.int 0)) rSetL))
    (tSeq (tAsg (tOp (rAddA K) (tOp (rIx K) (tVar 0) (tC (.int 2))) (tC (.int 1))) (gSub (tVar 0) (tC (.int 2)) rSetL))
    (tRet (tOp (rI (fun _ j => 0 < j) fun i j => .int (i % j)) (tCB rIntA (tCons (tOp (rI CDiv fun i j => .int (i / j)) (tOp (rIx K) (tVar 0) (tC (.int 0))) (tC (.int 7))) tNil)) (tVar 1)))))))
end
def sp__law_next (K : PySem.W.Frag) : Sp := fun vs H Q _ => ∃ (a l : Addr) (cap : Int), vs = [.ref a, .int cap] ∧ Drw H a l ∧ 0 < cap ∧ cap < 1073741824 ∧ ∀ (k : Nat) H', (k : Int) < cap → Fr [a, l] H H' → Drw H' a l → Q (.int k) H'
theorem pure__law_next {K : PySem.W.Frag} (vs : List V) (H : Hp) (Q : VK) (E : XK) (hl : vs.length = 2) (h : sp__law_next K vs H Q E) : t__law_next K E { nx := fun _ H' => Q .non H', rt := Q } (start N__law_next vs) H := by
  obtain ⟨a, l, cap, rfl, ⟨hal, st, ns, ix, h1, h2, h3⟩, c0, c1, q⟩ := h
  show t__law_next K E _ [some (.ref a), some (.int cap), none] H
  unfold t__law_next
  have fin : ∀ (x : Int) (H' : Hp), Fr [a, l] H H' → Drw H' a l → Q (.int (x % cap)) H' := fun x H' F d => by
    obtain ⟨k, hk⟩ := Int.eq_ofNat_of_zero_le (Int.emod_nonneg x (Int.ne_of_gt c0))
    have h := q k H' (by rw [← hk]; exact Int.emod_lt_of_pos x c0) F d
    rw [← hk] at h
    exact h
  k_clsL
  refine r_ixL (j := 1) (SqL.of h1) rfl ?_
  k_clsL
  refine g_nL fun p n1 F1 hp => ?_
  have hl1 := F1.lst0 h2
  have ha1 := F1.lst0 h1
  refine r_addL hl1 hp (by rw [sizeLine_eq, List.length_map]; simp; omega) fun p2 n2 F2 hp2 => ?_
  have hl2 := F2.lst0 hl1
  have ha2 := F2.lst0 ha1
  k_clsL
  refine r_ixL (j := 2) (SqL.of ha2) rfl ?_
  k_clsL
  refine r_ixL (j := 1) (SqL.of ha2) rfl ?_
  k_clsL
  refine r_lenL (SqL.of hl2) ?_
  k_clsL
  generalize upd (upd H p (HO.lst [V.int 0])) p2 (HO.lst (List.map V.int ns ++ [V.int 0])) = H2 at F2 hp2 hl2 ha2 ⊢
  have F12 := F1.trans F2
  rw [List.length_map]
  obtain ⟨m, hm, hm1, hm2⟩ : ∃ m : Nat, (if (ns.length : Int) > 1 then (ns.length : Int) else 1) = (m : Int) ∧ 0 < m ∧ m ≤ ns.length + 1 := by
    by_cases h : (ns.length : Int) > 1
    · exact ⟨ns.length, if_pos h, by omega, by omega⟩
    · exact ⟨1, if_neg h, by omega, by omega⟩
  rw [hm]
  refine r_mod (by omega) ?_
  rw [← Int.natCast_emod]
  have hlt : ix % m < ns.length + 1 := Nat.lt_of_lt_of_le (Nat.mod_lt _ hm1) hm2
  obtain ⟨c, hc⟩ : ∃ c : Int, (ns.map V.int ++ [V.int 0])[ix % m]? = some (V.int c) := by
    rcases Nat.lt_or_ge (ix % m) ns.length with h | h
    · exact ⟨ns[ix % m], by rw [List.getElem?_append_left (by rw [List.length_map]; exact h), List.getElem?_map, List.getElem?_eq_getElem h]; rfl⟩
    · have e : ix % m = ns.length := by omega
      exact ⟨0, by rw [List.getElem?_append_right (by rw [List.length_map]; exact h), List.length_map, e, Nat.sub_self]; rfl⟩
  refine r_ixL (SqL.of hp2) hc ?_
  have hD : Drw H2 a l := ⟨hal, st, ns, ix, ha2, hl2, h3⟩
  k_clsL
  refine iteD (fun hb => ?_) (fun hb => ?_)
  · -- a wide number: its lower part is told, the rest stays
    have hns : 0 < ns.length := by
      rcases Nat.eq_zero_or_pos ns.length with h | h
      · exfalso
        have e0 : ns = [] := List.length_eq_zero_iff.mp h
        subst e0
        have em : ix % m = 0 := by
          have : m ≤ 1 := hm2
          have : m = 1 := by omega
          rw [this, Nat.mod_one]
        rw [em] at hc
        cases hc
        exact absurd hb (by decide)
      · exact h
    k_clsL
    refine r_div ⟨c0, c1⟩ ?_
    k_clsL
    refine r_ixL (j := 1) (SqL.of ha2) rfl ?_
    k_clsL
    refine r_ixL (j := 2) (SqL.of ha2) rfl ?_
    k_clsL
    refine r_ixL (j := 1) (SqL.of ha2) rfl ?_
    k_clsL
    refine r_lenL (SqL.of hl2) ?_
    k_clsL
    rw [List.length_map]
    refine r_mod (by omega) ?_
    rw [← Int.natCast_emod]
    k_clsL
    refine r_setL hl2 rfl (by rw [List.length_map]; exact Nat.mod_lt _ hns) ?_
    have F3 : Fr [a, l] H2 (upd H2 l (.lst ((ns.map V.int).set (ix % ns.length) (.int (c / cap))))) := Fr.put hl2 (fun _ z => by cases z) (fun _ _ z => by cases z) (by simp)
    k_clsL
    refine fin _ _ ((F12.nil).trans F3) ⟨hal, st, ns.set (ix % ns.length) (c / cap), ix, ?_, ?_, by rw [List.length_set]; exact h3⟩
    · rw [upd_ne hal]
      exact ha2
    · rw [upd_same, List.map_set]
  · k_clsL
    refine r_ixL (j := 0) (SqL.of ha2) rfl ?_
    k_clsL
    refine r_setL (n := 0) ha2 rfl (by simp) ?_
    k_clsL
    refine r_ixL (j := 2) (SqL.of upd_same) rfl ?_
    k_clsL
    refine r_setL (n := 2) upd_same rfl (by simp) ?_
    rw [upd_upd]
    k_clsL
    refine r_ixL (j := 0) (SqL.of upd_same) rfl ?_
    k_clsL
    have F3 : ∀ o, Fr [a, l] H2 (upd H2 a o) := fun o => Fr.put ha2 (fun _ z => by cases z) (fun _ _ z => by cases z) (by simp)
    refine fin _ _ ((F12.nil).trans (F3 _)) ⟨hal, _, ns, ix + 1, upd_same, ?_, h3⟩
    rw [upd_ne (Ne.symm hal)]
    exact hl2
def m__law_next : MF := fun ds => match ds with
  | [.hnd, .int cap] => if 0 < cap ∧ cap < 1073741824 then .draw cap.toNat (fun k => .ret (.int k)) else .bad
  | _ => .bad
theorem bf__law_next {K : PySem.W.Frag} : Bf (kt K) 2 m__law_next (sp__law_next K) := by
  intro vs H Q E hl h
  obtain ⟨S, hd, ds, hT, r, ok, tb, w⟩ := h
  unfold m__law_next at w
  split at w
  · rename_i cap
    split at w
    · rename_i hc
      cases r with
      | cons r1 t => cases t with
        | cons r2 t =>
          cases t; cases r2
          cases r1 with
          | hnd e hD =>
            refine ⟨_, _, cap, rfl, hD, hc.1, hc.2, fun k H' hk F d => ?_⟩
            have hd' := hd_some e
            exact w k (by omega) (.int k) H' ⟨by rw [hd']; exact F.weak, fun a l e' _ => by rw [e] at e'; cases e'; exact d⟩ (.int _)
    · exact w.elim
  · exact w.elim

noncomputable section
variable {P : Program} {w : World} {K : PySem.W.Frag} {mg : Str → Option Value} {base : Heap}
theorem der__law_next (T : Txt P K mg base) {cdv : Value} {A : Around} {outer : List Env} {s : Shared} {H : Hp} {E : XK} (hr : Room 0 (A.deeper (envOfC "_law_next" (defScope s__law_next) s.heap.objs.size (He.ga K "_law_next") cdv))) :
    PSs (cxOf (L2.CX P w) P w K mg base N__law_next "_law_next" (defScope s__law_next) (He.ga K "_law_next") cdv A outer s H E) (defBody s__law_next) (t__law_next K E) := by
  have nd := (sc__law_next).nd
  have tk : Takes (cxOf (L2.CX P w) P w K mg base N__law_next "_law_next" (defScope s__law_next) (He.ga K "_law_next") cdv A outer s H E) (fun cls d _ H => E cls d H) := takes_of rfl rfl rfl rfl
  exact (pss_cons (ps_set (i := 2) nd rfl (by first | exact Or.inl rfl | exact Or.inr rfl) (pe_ix ix_seq (pe_op op_addA (pe_ix ix_seq (pv 0) pe_int (fun _ _ => rfl)) (pe_lst (pa_cons pe_int pa_nil))) (pe_op op_mod (pe_callTy call_intA (by rfl) T.f_int (by decide +kernel) (pa_cons (pe_ix ix_seq (pv 0) pe_int (fun _ _ => rfl)) pa_nil)) (pe_callB (call_max2A rfl) (by rfl) T.f_max (by decide +kernel) (pa_cons pe_int (pa_cons (pe_callB call_lenA (by rfl) T.f_len (by decide +kernel) (pa_cons (pe_ix ix_seq (pv 0) pe_int (fun _ _ => rfl)) pa_nil)) pa_nil)))) (fun _ _ => rfl)))
    (pss_cons (ps_if (pt_cmpR op_ge (pv 2) (pe_op op_pow pe_int pe_int) (nomark _)) (pss_cons (ps_asg (pe_op op_fdiv (pv 2) (pv 1)) (pg_sub (pe_ix ix_seq (pv 0) pe_int (fun _ _ => rfl)) (pe_op op_mod (pe_callTy call_intA (by rfl) T.f_int (by decide +kernel) (pa_cons (pe_ix ix_seq (pv 0) pe_int (fun _ _ => rfl)) pa_nil)) (pe_callB call_lenA (by rfl) T.f_len (by decide +kernel) (pa_cons (pe_ix ix_seq (pv 0) pe_int (fun _ _ => rfl)) pa_nil))) set_list))
    (pss_one (ps_ret (pe_op op_mod (pe_callTy call_intA (by rfl) T.f_int (by decide +kernel) (pa_cons (pv 2) pa_nil)) (pv 1))))) pss_nil)
    (pss_cons (ps_asg (pe_op op_mod (pe_callTy call_intA (by rfl) T.f_int (by decide +kernel) (pa_cons (pe_op op_addA (pe_op op_addA (pe_op op_mulA (pe_ix ix_seq (pv 0) pe_int (fun _ _ => rfl)) pe_int) (pe_op op_mulA (pv 2) pe_int)) pe_int) pa_nil)) pe_int) (pg_sub (pv 0) pe_int set_list))
    (pss_cons (ps_asg (pe_op op_addA (pe_ix ix_seq (pv 0) pe_int (fun _ _ => rfl)) pe_int) (pg_sub (pv 0) pe_int set_list))
    (pss_one (ps_ret (pe_op op_mod (pe_callTy call_intA (by rfl) T.f_int (by decide +kernel) (pa_cons (pe_op op_fdiv (pe_ix ix_seq (pv 0) pe_int (fun _ _ => rfl)) pe_int) pa_nil)) (pv 1))))))))
theorem ok__law_next (T : Txt P K mg base) : Ok P w K mg base "_law_next" 1 ["_law_h", "_law_cap"] (spL 2 (sp__law_next K)) := ok_mk (T.d__law_next) T.m__law_next sc__law_next (fun _ _ _ _ _ _ us hl => match us, hl with | [_, _], _ => rfl) (fun _ _ _ _ _ _ hr => der__law_next T hr) (pure__law_next)
end
end

section
open PySem PySem.Spec L2 RZ StX
open PyProof.Rows (envOfC)
noncomputable section
variable {P : Program} {w : World} {K : PySem.W.Frag} {mg : Str → Option Value} {base : Heap}
abbrev N__law_line : List Str := ["_law_h", "_law_most", "_law_take"]
theorem sc__law_line : FnScope N__law_line ["_law_h", "_law_most"] (defScope s__law_line) := ⟨rfl, rfl, rfl, by decide +kernel, rfl, by decide +kernel, by decide +kernel⟩
def t__law_line (K : PySem.W.Frag) (E : XK) : TS :=
    (tRet (tCB (rTupleOf K) (tCons (tLc (iSeq K (tSl (rSl K) (tLst (tCons (tC (.int 1)) (tCons (tC (.int 2)) (tCons (tC (.int 3)) tNil)))) tNoPart (tPart (tVar 1)))) (gName 2) (tTest (tOp (rI0 fun i j => .bl (decide (i < j))) (tCallS (spL 2 (sp__law_next K)) (WE (fun _ _ _ _ => False)) (tCons (tVar 0) (tCons (tC (.int 5)) tNil))) (tC (.int 3)))) (tVar 2) [2]) tNil)))
end
def sp__law_line (K : PySem.W.Frag) : Sp := fun vs H Q _ => ∃ (a l : Addr) (m : Nat), vs = [.ref a, .int (m : Nat)] ∧ Drw H a l ∧ m ≤ 3 ∧ ∀ (r : List Int) v H', r.Sublist (([1, 2, 3] : List Int).take m) → Tp K H' v (rowD r) → Fr [a, l] H H' → Drw H' a l → Q v H'
theorem pure__law_line {K : PySem.W.Frag} (vs : List V) (H : Hp) (Q : VK) (E : XK) (hl : vs.length = 2) (h : sp__law_line K vs H Q E) : t__law_line K E { nx := fun _ H' => Q .non H', rt := Q } (start N__law_line vs) H := by
  obtain ⟨a, l, m, rfl, hD, hm, q⟩ := h
  show t__law_line K E _ [some (.ref a), some (.int (m : Nat)), none] H
  unfold t__law_line
  have hS : ∀ {H' : Hp}, Drw H' a l → ∀ b ∈ [a, l], H' b ≠ none := fun d b hb => by
    obtain ⟨_, st, ns, ix, h1, h2, _⟩ := d
    simp at hb
    rcases hb with rfl | rfl
    · rw [h1]; exact fun z => by cases z
    · rw [h2]; exact fun z => by cases z
  k_clsL
  refine g_nL fun p n1 F1 h1 => ?_
  have hD1 := hD.fr0 F1
  k_clsL
  refine r_slL (SqL.of h1) fun p2 n2 F2 h2 => ?_
  rw [show cutV [V.int 1, V.int 2, V.int 3] none (some (m : Int)) = ([V.int 1, V.int 2, V.int 3] : List V).take m from cut_to, show ([V.int 1, V.int 2, V.int 3] : List V).take m = (([1, 2, 3] : List Int).take m).map V.int by rw [List.map_take]; rfl] at h2 F2
  rw [show cutV [V.int 1, V.int 2, V.int 3] none (some (m : Int)) = ([V.int 1, V.int 2, V.int 3] : List V).take m from cut_to, show ([V.int 1, V.int 2, V.int 3] : List V).take m = (([1, 2, 3] : List Int).take m).map V.int by rw [List.map_take]; rfl]
  have hD2 := hD1.fr0 F2
  have np := hD1.ne n2
  refine r_seqL (SqL.of h2) ?_
  have hlen : ((([1, 2, 3] : List Int).take m).map V.int).length = m := by
    rw [List.length_map, List.length_take]
    simp
    omega
  refine lc_st (K := K) (walk_list (xs := (([1, 2, 3] : List Int).take m).map V.int)) (by omega) [a, l] (fun H' => Drw H' a l) (fun i ds => ∃ r : List Int, ds = r.map PyData.int ∧ r.Sublist (([1, 2, 3] : List Int).take i)) (hS hD2) hD2 (fun D Ha Hb nD F d => ?_) ⟨[], rfl, List.nil_sublist _⟩ (fun H' F _ => F.sql (by simp [np.1, np.2]) (SqL.of h2)) ?_ ?_
  · have := hD2.ne nD
    exact d.fr F (by simp [this.1.symm]) (by simp [this.2.symm])
  · rintro i x Ha Hb ds R Rn hi F3 d3 ⟨r, rfl, hr⟩ ⟨rfl, hx⟩ k1 k2
    rw [List.getElem?_map] at hx
    obtain ⟨n, hn, rfl⟩ : ∃ n, (([1, 2, 3] : List Int).take m)[i]? = some n ∧ x = V.int n := by
      cases e : (([1, 2, 3] : List Int).take m)[i]? with
      | none => rw [e] at hx; cases hx
      | some n => rw [e] at hx; exact ⟨n, rfl, (Option.some.inj hx).symm⟩
    have hn2 : ([1, 2, 3] : List Int)[i]? = some n := by
      rw [List.getElem?_take] at hn
      split at hn
      · exact hn
      · cases hn
    have hsucc : ([1, 2, 3] : List Int).take (i + 1) = ([1, 2, 3] : List Int).take i ++ [n] := by
      rw [List.take_add_one, hn2]
      rfl
    k_clsL
    refine ⟨rfl, ?_⟩
    k_clsL
    refine ⟨rfl, a, l, 5, rfl, d3, by decide, by decide, fun k H' hk F d => ?_⟩
    k_clsL
    refine iteD (fun _ => ?_) (fun _ => ?_)
    · k_clsL
      refine k1 _ _ (.int n) (.int n) F d ⟨r ++ [n], by rw [List.map_append]; rfl, ?_⟩
      rw [hsucc]
      exact hr.append (List.Sublist.refl _)
    · refine k2 _ F d ⟨r, rfl, ?_⟩
      rw [hsucc]
      exact hr.trans (List.sublist_append_left _ _)
  · rintro D H' ds nD F3 d3 ⟨r, rfl, hr⟩ hl3 h3
    rw [hlen] at hr hl3
    k_clsL
    refine r_tupOf h3 (szle (by simp at hl3 ⊢; omega)) fun p4 H4 n4 F4 h4 => ?_
    exact q r _ _ hr h4 (((F1.nil.trans F2.nil).trans F3).trans F4.nil) (d3.fr0 F4)

noncomputable section
variable {P : Program} {w : World} {K : PySem.W.Frag} {mg : Str → Option Value} {base : Heap}
theorem der__law_line (T : Txt P K mg base) {cdv : Value} {A : Around} {outer : List Env} {s : Shared} {H : Hp} {E : XK} (hr : Room 1 (A.deeper (envOfC "_law_line" (defScope s__law_line) s.heap.objs.size (He.ga K "_law_line") cdv))) :
    PSs (cxOf (L2.CX P w) P w K mg base N__law_line "_law_line" (defScope s__law_line) (He.ga K "_law_line") cdv A outer s H E) (defBody s__law_line) (t__law_line K E) := by
  have nd := (sc__law_line).nd
  have tk : Takes (cxOf (L2.CX P w) P w K mg base N__law_line "_law_line" (defScope s__law_line) (He.ga K "_law_line") cdv A outer s H E) (fun cls d _ H => E cls d H) := takes_of rfl rfl rfl rfl
  exact (pss_one (ps_ret (pe_callTy call_tupleOf (by rfl) T.f_tuple (by decide +kernel) (pa_cons (pe_lc (own := [("_law_take", 2)]) (g := (gName 2)) (tt := (tTest (tOp (rI0 fun i j => .bl (decide (i < j))) (tCallS (spL 2 (sp__law_next K)) (WE (fun _ _ _ _ => False)) (tCons (tVar 0) (tCons (tC (.int 5)) tNil))) (tC (.int 3))))) (te := (tVar 2)) rfl nd (pi_seq (pe_slice sl_any (pe_lst (pa_cons pe_int (pa_cons pe_int (pa_cons pe_int pa_nil)))) po_none (po_some (pv 1)))) (blkOk_by (own := [("_law_take", 2)]) (N := N__law_line) (sc := (defScope s__law_line)) (by decide +kernel)) (fun _ _ _ _ _ => (pg_name (i := 2) nd rfl (by first | exact Or.inl rfl | exact Or.inr rfl))) (fun _ _ _ _ _ => (pts_one (pt_cmpR op_lt (pe_callO (ok__law_next T) (hr.mono (by decide)) (by rfl) takes0 (pa_cons (pv 0) (pa_cons pe_int pa_nil))) pe_int (nomark _)))) (fun _ _ _ _ _ => (pv 2))) pa_nil))))
theorem ok__law_line (T : Txt P K mg base) : Ok P w K mg base "_law_line" 2 ["_law_h", "_law_most"] (spL 2 (sp__law_line K)) := ok_mk (T.d__law_line) T.m__law_line sc__law_line (fun _ _ _ _ _ _ us hl => match us, hl with | [_, _], _ => rfl) (fun _ _ _ _ _ _ hr => der__law_line T hr) (pure__law_line)
end
end

section
open PySem PySem.Spec L2 RZ StX
open PyProof.Rows (envOfC)
noncomputable section
variable {P : Program} {w : World} {K : PySem.W.Frag} {mg : Str → Option Value} {base : Heap}
abbrev N__law_pick : List Str := ["_law_h", "_law_things"]
theorem sc__law_pick : FnScope N__law_pick ["_law_h", "_law_things"] (defScope s__law_pick) := ⟨rfl, rfl, rfl, by decide +kernel, rfl, by decide +kernel, by decide +kernel⟩
def t__law_pick (K : PySem.W.Frag) (E : XK) : TS :=
    (tRet (tOp (rIx K) (tVar 1) (tCallS (spL 2 (sp__law_next K)) (WE (fun cls d _ H => E cls d H)) (tCons (tVar 0) (tCons (tCB (rLenA K) (tCons (tVar 1) tNil)) tNil)))))
end
def sp__law_pick (K : PySem.W.Frag) : Sp := fun vs H Q _ => ∃ (a l t : Addr) (xs : List V), vs = [.ref a, .ref t] ∧ Drw H a l ∧ SqL K H t xs ∧ t ≠ a ∧ t ≠ l ∧ 0 < xs.length ∧ xs.length ≤ 1000 ∧ ∀ (j : Nat) v H', xs[j]? = some v → Fr [a, l] H H' → Drw H' a l → Q v H'
theorem pure__law_pick {K : PySem.W.Frag} (vs : List V) (H : Hp) (Q : VK) (E : XK) (hl : vs.length = 2) (h : sp__law_pick K vs H Q E) : t__law_pick K E { nx := fun _ H' => Q .non H', rt := Q } (start N__law_pick vs) H := by
  obtain ⟨a, l, t, xs, rfl, hD, ht, ta, tl, x0, x1, q⟩ := h
  show t__law_pick K E _ [some (.ref a), some (.ref t)] H
  unfold t__law_pick
  k_clsL
  refine ⟨rfl, a, l, _, rfl, hD, by omega, by omega, fun k H' hk F hD' => ?_⟩
  have hk : k < xs.length := by omega
  have e := List.getElem?_eq_getElem hk
  exact r_ixL (F.sql (by simp [ta, tl]) ht) e (q k _ _ e F hD')
def m__law_pick : MF := fun ds => match ds with
  | [.hnd, .lst l] => if 0 < l.length ∧ l.length ≤ 1000 then .draw l.length (fun k => .ret (l.getD k .non)) else .bad
  | _ => .bad
theorem bf__law_pick {K : PySem.W.Frag} : Bf (kt K) 2 m__law_pick (sp__law_pick K) := by
  intro vs H Q E hl h
  obtain ⟨S, hd, ds, hT, r, ok, tb, w⟩ := h
  unfold m__law_pick at w
  split at w
  · rename_i l
    split at w
    · rename_i hc
      cases r with
      | cons r1 t => cases t with
        | cons r2 t =>
          cases t
          cases r2 with
          | lst hx nx tx =>
            cases r1 with
            | hnd e hD =>
              have hd' := hd_some e
              have na : ∀ b ∈ (⟨[], S, hd⟩ : Cn).hd, ∀ t : Addr, t ∉ (⟨[], S, hd⟩ : Cn).av → t ≠ b := fun b hb t nt e => nt (by rw [e]; exact Cn.hd_av hb)
              rw [hd'] at na
              have tl := tx.length
              refine ⟨_, _, _, _, rfl, hD, SqL.of hx, na _ (by simp) _ nx, na _ (by simp) _ nx, by omega, by omega, fun j v H' hj F d => ?_⟩
              obtain ⟨z, hz, rz⟩ := tx.get' hj
              have hj2 := (List.getElem?_eq_some_iff.mp hz).1
              have F' : Fh (⟨[], S, hd⟩ : Cn) H H' := ⟨by rw [hd']; exact F.weak, fun a l e' _ => by rw [e] at e'; cases e'; exact d⟩
              have q : ∀ v H', Fh (⟨[], S, hd⟩ : Cn) H H' → Rl K ⟨[], S, hd⟩ H' v (l.getD j .non) → Q v H' := w j hj2
              rw [List.getD_eq_getElem?_getD, hz] at q
              exact q v H' F' (rz.fh F')
    · exact w.elim
  · exact w.elim

noncomputable section
variable {P : Program} {w : World} {K : PySem.W.Frag} {mg : Str → Option Value} {base : Heap}
theorem der__law_pick (T : Txt P K mg base) {cdv : Value} {A : Around} {outer : List Env} {s : Shared} {H : Hp} {E : XK} (hr : Room 1 (A.deeper (envOfC "_law_pick" (defScope s__law_pick) s.heap.objs.size (He.ga K "_law_pick") cdv))) :
    PSs (cxOf (L2.CX P w) P w K mg base N__law_pick "_law_pick" (defScope s__law_pick) (He.ga K "_law_pick") cdv A outer s H E) (defBody s__law_pick) (t__law_pick K E) := by
  have nd := (sc__law_pick).nd
  have tk : Takes (cxOf (L2.CX P w) P w K mg base N__law_pick "_law_pick" (defScope s__law_pick) (He.ga K "_law_pick") cdv A outer s H E) (fun cls d _ H => E cls d H) := takes_of rfl rfl rfl rfl
  exact (pss_one (ps_ret (pe_ix ix_seq (pv 1) (pe_callO (ok__law_next T) (hr.mono (by decide)) (by rfl) tk (pa_cons (pv 0) (pa_cons (pe_callB call_lenA (by rfl) T.f_len (by decide +kernel) (pa_cons (pv 1) pa_nil)) pa_nil))) (fun _ _ => rfl))))
theorem ok__law_pick (T : Txt P K mg base) : Ok P w K mg base "_law_pick" 2 ["_law_h", "_law_things"] (spL 2 (sp__law_pick K)) := ok_mk (T.d__law_pick) T.m__law_pick sc__law_pick (fun _ _ _ _ _ _ us hl => match us, hl with | [_, _], _ => rfl) (fun _ _ _ _ _ _ hr => der__law_pick T hr) (pure__law_pick)
end
end

section
open PySem PySem.Spec L2 RZ StX
open PyProof.Rows (envOfC)
noncomputable section
variable {P : Program} {w : World} {K : PySem.W.Frag} {mg : Str → Option Value} {base : Heap}
abbrev N__law_draw : List Str := ["_law_h", "_law_widest", "_law_most", "_law_rows", "_law_k"]
theorem sc__law_draw : FnScope N__law_draw ["_law_h", "_law_widest"] (defScope s__law_draw) := ⟨rfl, rfl, rfl, by decide +kernel, rfl, by decide +kernel, by decide +kernel⟩
def t__law_draw (K : PySem.W.Frag) (E : XK) : TS :=
    (tSeq (tAsg (tOp (rAddA K) (tC (.int 1)) (tCallS (spL 2 (sp__law_next K)) (WE (fun cls d _ H => E cls d H)) (tCons (tVar 0) (tCons (tVar 1) tNil)))) (gName 2))
    (tSeq (tAsg (tCB (rTupleOf K) (tCons (tLc (iRng1 (tCons (tOp (rAddA K) (tVar 2) (tC (.int 1))) tNil)) (gName 4) tYes (tCallS (spL 2 (sp__law_line K)) (WE (fun _ _ _ _ => False)) (tCons (tVar 0) (tCons (tVar 2) tNil))) [4]) tNil)) (gName 3))
    (tRet (tLst (tCons (tVar 3) (tCons (tCallS (spL 2 (sp__law_next K)) (WE (fun cls d _ H => E cls d H)) (tCons (tVar 0) (tCons (tC (.int 2)) tNil))) (tCons (tCallS (spL 2 (sp__law_pick K)) (WE (fun cls d _ H => E cls d H)) (tCons (tVar 0) (tCons (tLst (tCons (tC (.str "loses")) (tCons (tC (.str "loses")) (tCons (tC (.str "wins")) tNil)))) tNil))) tNil)))))))
end
def sp__law_draw (K : PySem.W.Frag) : Sp := fun vs H Q _ => ∃ (a l : Addr) (w : Nat), vs = [.ref a, .int (w : Nat)] ∧ Drw H a l ∧ 1 ≤ w ∧ w ≤ 3 ∧ ∀ (t : Tab) b H', Drawn3 t w → H b = none → Row3 K H' b t → Fr [a, l] H H' → Drw H' a l → Q (.ref b) H'
theorem pure__law_draw {K : PySem.W.Frag} (vs : List V) (H : Hp) (Q : VK) (E : XK) (hl : vs.length = 2) (h : sp__law_draw K vs H Q E) : t__law_draw K E { nx := fun _ H' => Q .non H', rt := Q } (start N__law_draw vs) H := by
  obtain ⟨a, l, w, rfl, hD, hw1, hw3, q⟩ := h
  show t__law_draw K E _ [some (.ref a), some (.int (w : Nat)), none, none, none] H
  unfold t__law_draw
  have hS : ∀ {H' : Hp}, Drw H' a l → ∀ b ∈ [a, l], H' b ≠ none := fun d b hb => by
    obtain ⟨_, st, ns, ix, h1, h2, _⟩ := d
    simp at hb
    rcases hb with rfl | rfl
    · rw [h1]; exact fun z => by cases z
    · rw [h2]; exact fun z => by cases z
  k_clsL
  refine ⟨rfl, a, l, (w : Nat), rfl, hD, by omega, by omega, fun k H1 hk F1 hD1 => ?_⟩
  rw [show ((w : Nat) : Int) = (w : Int) from rfl] at hk
  have hk : k < w := by omega
  k_clsL
  rw [show (1 : Int) + (k : Int) = ((1 + k : Nat) : Int) by omega]
  generalize hm : 1 + k = m
  k_clsL
  rw [show ((m : Int) + 1) = ((m + 1 : Nat) : Int) by omega]
  refine r_rng1 (by omega) (by omega) ?_
  rw [Int.toNat_natCast]
  refine lc_st (K := K) walk_range (by omega) [a, l] (fun H' => Drw H' a l) (fun i ds => ∃ rs : List (List Int), ds = rs.map rowD ∧ rs.length = i ∧ ∀ r ∈ rs, r.Sublist (([1, 2, 3] : List Int).take m)) (hS hD1) hD1 (fun D Ha Hb nD F d => ?_) ⟨[], rfl, rfl, fun r hr => by cases hr⟩ (fun H' F _ => trivial) ?_ ?_
  · have := hD1.ne nD
    exact d.fr F (by simp [this.1.symm]) (by simp [this.2.symm])
  · rintro i x Ha Hb ds R Rn hi F3 d3 ⟨rs, rfl, hl3, hr⟩ ⟨rfl, rfl⟩ k1 k2
    k_clsL
    refine ⟨rfl, ?_⟩
    k_clsL
    refine ⟨rfl, a, l, m, rfl, d3, by omega, fun r v H' hs hv F d => ?_⟩
    refine k1 _ _ (rowD r) hv F d ⟨rs ++ [r], by rw [List.map_append]; rfl, by rw [List.length_append, hl3]; rfl, fun r' hr' => ?_⟩
    rcases List.mem_append.mp hr' with h | h
    · exact hr r' h
    · rw [List.mem_singleton.mp h]
      exact hs
  · rintro D H2 ds nD F2 d2 ⟨rs, rfl, hl2, hr⟩ _ h2
    k_clsL
    refine r_tupOf h2 (szle (by rw [List.length_map, hl2]; exact Nat.ble_eq_true_of_le (by omega))) fun p3 H3 n3 F3 h3 => ?_
    have d3 := d2.fr0 F3
    k_clsL
    refine ⟨rfl, a, l, 2, rfl, d3, by decide, by decide, fun p H4 hp F4 d4 => ?_⟩
    k_clsL
    refine g_nL fun p5 n5 F5 h5 => ?_
    have d5 := d4.fr0 F5
    have np := d4.ne n5
    k_clsL
    refine ⟨rfl, a, l, p5, _, rfl, d5, SqL.of h5, np.1, np.2, by decide, by decide, fun j v H6 hj F6 d6 => ?_⟩
    k_clsL
    obtain ⟨f, rfl, hf⟩ : ∃ f : Str, v = .str f ∧ (f = "loses" ∨ f = "wins") := by
      match j, hj with
      | 0, hj => exact ⟨_, (Option.some.inj hj).symm, .inl rfl⟩
      | 1, hj => exact ⟨_, (Option.some.inj hj).symm, .inl rfl⟩
      | 2, hj => exact ⟨_, (Option.some.inj hj).symm, .inr rfl⟩
    refine g_nL fun b n7 F7 h7 => ?_
    have F36 := (F4.trans F5.nil).trans F6
    have F16 : Fr [a, l] H H6 := ((F1.trans F2).trans F3.nil).trans F36
    refine q ⟨rs, p, f⟩ b _ ⟨⟨m, by omega, by omega, hl2, hr⟩, by show (p : Int) = 0 ∨ (p : Int) = 1; omega, hf⟩ (F16.free n7) ⟨.ref p3, h7, (h3.fr F36).fr F7⟩ (F16.trans F7.nil) (d6.fr0 F7)
def m__law_draw : MF := fun ds => match ds with
  | [.hnd, .int w] => if 1 ≤ w ∧ w ≤ 3 then .drawT w.toNat (fun t => .ret (rowL t)) else .bad
  | _ => .bad
theorem bf__law_draw {K : PySem.W.Frag} : Bf (kt K) 2 m__law_draw (sp__law_draw K) := by
  intro vs H Q E hl h
  obtain ⟨S, hd, ds, hT, r, ok, tb, w⟩ := h
  unfold m__law_draw at w
  split at w
  · rename_i wd
    split at w
    · rename_i hc
      cases r with
      | cons r1 t => cases t with
        | cons r2 t =>
          cases t; cases r2
          cases r1 with
          | hnd e hD =>
            have hd' := hd_some e
            refine ⟨_, _, wd.toNat, by rw [Int.toNat_of_nonneg (by omega)], hD, by omega, by omega, fun t b H' ht nb hb F d => ?_⟩
            have F' : Fh (⟨[], S, hd⟩ : Cn) H H' := ⟨by rw [hd']; exact F.weak, fun a l e' _ => by rw [e] at e'; cases e'; exact d⟩
            obtain ⟨v, h1, h2⟩ := hb
            exact w t ht _ H' F' (.lst h1 (new_av ok nb) (.cons (by rw [← dtOf_rows]; exact h2.rl) (.cons (.int _) (.cons (.str _) .nil))))
    · exact w.elim
  · exact w.elim
theorem rn__law_draw {K : PySem.W.Frag} {mu : List Nat} {W : WX} {ta tw : TE} {ma mw : ME} (ha : RE (kt K) mu W ta ma) (hw : RE (kt K) mu W tw mw) : RN (kt K) mu W (tCallS (spL 2 (sp__law_draw K)) (WE W) (tCons ta (tCons tw tNil))) (mCall 2 m__law_draw (mCons ma (mCons mw mNil))) := by
  intro c M σ ρ H Q S w
  rw [x_call, x_cons, bind_assoc'] at w
  refine ha c M σ ρ H _ S (wp0_mono (wp0_bind.mp w) (fun d w v H1 F r => ?_) fun _ _ h => h)
  rw [x_cons, bind_assoc', bind_assoc'] at w
  refine hw c M σ ρ H1 _ (S.fh F) (wp0_mono (wp0_bind.mp w) (fun e w u H2 G q => ?_) fun x f h => h.fh F)
  have w3 : wp0 (m__law_draw [d, e]) (fun d => ∀ fp v H', Fh c H H' → (∀ b ∈ fp, H b = none) → MutAt K (c.addLs fp) H' fp v d → Q v H') (Xw K c W σ H) := w
  clear w
  unfold m__law_draw at w3
  split at w3
  · rename_i wd heq
    cases heq
    split at w3
    · rename_i hc
      cases q
      cases r with
      | hnd e hD =>
        have hd' := hd_some e
        refine ⟨rfl, _, _, wd.toNat, by rw [Int.toNat_of_nonneg (by omega)], G.2 _ _ e hD, by omega, by omega, fun t b H' ht nb hb F2 d => ?_⟩
        have F' : Fh c H2 H' := ⟨by rw [hd']; exact F2.weak, fun a l e' _ => by rw [e] at e'; cases e'; exact d⟩
        have F3 := (F.trans G).trans F'
        have n0 : H b = none := (F.trans G).1.free nb
        have np := new_av S.ok n0
        obtain ⟨v, h1, h2⟩ := hb
        exact w3 t ht [b] _ H' F3 (new1 n0) ⟨own1 np, .lst h1 (.cons (by rw [← dtOf_rows]; exact h2.rl) (.cons (.int _) (.cons (.str _) .nil)))⟩
    · exact w3.elim
  · exact w3.elim

noncomputable section
variable {P : Program} {w : World} {K : PySem.W.Frag} {mg : Str → Option Value} {base : Heap}
theorem der__law_draw (T : Txt P K mg base) {cdv : Value} {A : Around} {outer : List Env} {s : Shared} {H : Hp} {E : XK} (hr : Room 2 (A.deeper (envOfC "_law_draw" (defScope s__law_draw) s.heap.objs.size (He.ga K "_law_draw") cdv))) :
    PSs (cxOf (L2.CX P w) P w K mg base N__law_draw "_law_draw" (defScope s__law_draw) (He.ga K "_law_draw") cdv A outer s H E) (defBody s__law_draw) (t__law_draw K E) := by
  have nd := (sc__law_draw).nd
  have tk : Takes (cxOf (L2.CX P w) P w K mg base N__law_draw "_law_draw" (defScope s__law_draw) (He.ga K "_law_draw") cdv A outer s H E) (fun cls d _ H => E cls d H) := takes_of rfl rfl rfl rfl
  exact (pss_cons (ps_set (i := 2) nd rfl (by first | exact Or.inl rfl | exact Or.inr rfl) (pe_op op_addA pe_int (pe_callO (ok__law_next T) (hr.mono (by decide)) (by rfl) tk (pa_cons (pv 0) (pa_cons (pv 1) pa_nil)))))
    (pss_cons (ps_set (i := 3) nd rfl (by first | exact Or.inl rfl | exact Or.inr rfl) (pe_callTy call_tupleOf (by rfl) T.f_tuple (by decide +kernel) (pa_cons (pe_lc (own := [("_law_k", 4)]) (g := (gName 4)) (tt := tYes) (te := (tCallS (spL 2 (sp__law_line K)) (WE (fun _ _ _ _ => False)) (tCons (tVar 0) (tCons (tVar 2) tNil)))) rfl nd (pi_range1 (by rfl) T.f_range (pa_cons (pe_op op_addA (pv 2) pe_int) pa_nil)) (blkOk_by (own := [("_law_k", 4)]) (N := N__law_draw) (sc := (defScope s__law_draw)) (by decide +kernel)) (fun _ _ _ _ _ => (pg_name (i := 4) nd rfl (by first | exact Or.inl rfl | exact Or.inr rfl))) (fun _ _ _ _ _ => pts_nil) (fun _ _ _ _ _ => (pe_callO (ok__law_line T) (hr.mono (by decide)) (by rfl) takes0 (pa_cons (pv 0) (pa_cons (pv 2) pa_nil))))) pa_nil)))
    (pss_one (ps_ret (pe_lst (pa_cons (pv 3) (pa_cons (pe_callO (ok__law_next T) (hr.mono (by decide)) (by rfl) tk (pa_cons (pv 0) (pa_cons pe_int pa_nil))) (pa_cons (pe_callO (ok__law_pick T) (hr.mono (by decide)) (by rfl) tk (pa_cons (pv 0) (pa_cons (pe_lst (pa_cons pe_str (pa_cons pe_str (pa_cons pe_str pa_nil)))) pa_nil))) pa_nil))))))))
theorem ok__law_draw (T : Txt P K mg base) : Ok P w K mg base "_law_draw" 3 ["_law_h", "_law_widest"] (spL 2 (sp__law_draw K)) := ok_mk (T.d__law_draw) T.m__law_draw sc__law_draw (fun _ _ _ _ _ _ us hl => match us, hl with | [_, _], _ => rfl) (fun _ _ _ _ _ _ hr => der__law_draw T hr) (pure__law_draw)
end
end

section
open PySem PySem.Spec L2 RZ StX
open PyProof.Rows (envOfC)
noncomputable section
variable {P : Program} {w : World} {K : PySem.W.Frag} {mg : Str → Option Value} {base : Heap}
abbrev N__law_turned : List Str := ["_law_row", "_law_entry", "_law_rows", "_law_line_here", "_law_take"]
theorem sc__law_turned : FnScope N__law_turned ["_law_row", "_law_entry"] (defScope s__law_turned) := ⟨rfl, rfl, rfl, by decide +kernel, rfl, by decide +kernel, by decide +kernel⟩
def t__law_turned (K : PySem.W.Frag) (E : XK) : TS :=
    (tSeq (tAsg (tCB (rListOf K) (tCons (tOp (rIxV K) (tVar 0) (tC (.int 0))) tNil)) (gName 2))
    (tSeq (tAsg (tCB (rListOf K) (tCons (tOp (rIxV K) (tVar 2) (tOp (rIxV K) (tVar 1) (tC (.int 0)))) tNil)) (gName 3))
    (tSeq (tAsg (tIf (tTest (tOp (rInV K) (tOp (rIxV K) (tVar 1) (tC (.int 1))) (tVar 3))) (tLc (iSeq K (tVar 3)) (gName 4) (tTest (tOp (rNeA K) (tVar 4) (tOp (rIxV K) (tVar 1) (tC (.int 1))))) (tVar 4) [4]) (tCB (rSorted K) (tCons (tOp (rAddA K) (tVar 3) (tLst (tCons (tOp (rIxV K) (tVar 1) (tC (.int 1))) tNil))) tNil))) (gName 3))
    (tSeq (tAsg (tCB (rTupleOf K) (tCons (tVar 3) tNil)) (gSub (tVar 2) (tOp (rIxV K) (tVar 1) (tC (.int 0))) rSetV))
    (tRet (tLst (tCons (tCB (rTupleOf K) (tCons (tVar 2) tNil)) (tCons (tOp (rIxV K) (tVar 0) (tC (.int 1))) (tCons (tOp (rIxV K) (tVar 0) (tC (.int 2))) tNil)))))))))
def b__law_turned : MS :=
    (mThen (mAsg (mCB listD (mCons (mOp ixD (mVar 0) (mC (.int 0))) mNil)) 2)
    (mThen (mAsg (mCB listD (mCons (mOp ixD (mVar 2) (mOp ixD (mVar 1) (mC (.int 0)))) mNil)) 3)
    (mThen (mAsg (mIf (mTest (mOp inD (mOp ixD (mVar 1) (mC (.int 1))) (mVar 3))) (mLc (mSeq (mVar 3)) (mgName 4) (mTest (mOp neD (mVar 4) (mOp ixD (mVar 1) (mC (.int 1))))) (mVar 4) [4]) (mCB sortedD (mCons (mOp addD (mVar 3) (mLst (mCons (mOp ixD (mVar 1) (mC (.int 1))) mNil))) mNil))) 3)
    (mThen (mSet 2 (mOp ixD (mVar 1) (mC (.int 0))) (mCB tupleD (mCons (mVar 3) mNil)))
    (mRet (mLst (mCons (mCB tupleD (mCons (mVar 2) mNil)) (mCons (mOp ixD (mVar 0) (mC (.int 1))) (mCons (mOp ixD (mVar 0) (mC (.int 2))) mNil)))))))))
def m__law_turned : MF := mFun 5 b__law_turned
def sp__law_turned (K : PySem.W.Frag) : Sp := spM (kt K) m__law_turned
theorem ref__law_turned (T : Txt P K mg base) {E : XK} : RS (kt K) [2] (fun cls d _ H => E cls d H) (t__law_turned K E) b__law_turned := by
  unfold t__law_turned b__law_turned
  exact (rs_seq (rs_asg (i := 2) (rc_list (by decide) (RA.w (ra_cons (re_op om_ix (RE.ro (re_var (i := 0))) (RE.ro re_int)) ra_nil))))
    (rs_seq (rs_asg (i := 3) (rc_of (by decide) (re_cb cm_list (RA.w (ra_cons (re_op om_ix ro_var (RE.ro (re_op om_ix (RE.ro (re_var (i := 1))) (RE.ro re_int)))) ra_nil)))))
    (rs_seq (rs_asg (i := 3) (rc_of (by decide) (re_if (rt_test (RE.ro (re_op om_in (RE.ro (re_op om_ix (RE.ro (re_var (i := 1))) (RE.ro re_int))) (RE.ro (re_var (i := 3)))))) (re_lc (vs := [4]) (ws := [4]) (ri_seq (re_var (i := 3))) (rg_name (i := 4)) (fun _ h => h) (rt_test (RE.ro (re_op om_ne (RE.ro (re_var (i := 4))) (RE.ro (re_op om_ix (RE.ro (re_var (i := 1))) (RE.ro re_int)))))) (re_var (i := 4))) (re_cb cm_sorted (RA.w (ra_cons (re_op om_add (RE.ro (re_var (i := 3))) (RE.ro (re_lst (ra_cons (re_op om_ix (RE.ro (re_var (i := 1))) (RE.ro re_int)) ra_nil)))) ra_nil))))))
    (rs_seq (rs_set (i := 2) (by decide) (RE.ro (re_op om_ix (RE.ro (re_var (i := 1))) (RE.ro re_int))) (re_cb cm_tuple (RA.w (ra_cons (re_var (i := 3)) ra_nil))))
    (rs_ret (RE.ro (re_lst (ra_cons (re_cb cm_tuple (ra_consW ro_var ra_nilW)) (ra_cons (re_op om_ix (RE.ro (re_var (i := 0))) (RE.ro re_int)) (ra_cons (re_op om_ix (RE.ro (re_var (i := 0))) (RE.ro re_int)) ra_nil))))))))))
theorem bf__law_turned : Bf (kt K) 2 m__law_turned (sp__law_turned K) := bf_M
theorem pure__law_turned (T : Txt P K mg base) (vs : List V) (H : Hp) (Q : VK) (E : XK) (hl : vs.length = 2) (h : sp__law_turned K vs H Q E) : t__law_turned K E { nx := fun _ H' => Q .non H', rt := Q } (start N__law_turned vs) H := pure_M (ref__law_turned T) (by decide) rfl hl (by decide) h
end
noncomputable section
@[simp] theorem v__law_turned {t : Tab} {j : Nat} {n : Int} (g : t.Good) (hj : j < t.rows.length) : m__law_turned [rowL t, pairT ((j : Int), n)] = .ret (rowL (turnTab t (j : Int) n)) := by
  have gl := g.len
  have hr : t.rows[j]? = some t.rows[j] := List.getElem?_eq_getElem hj
  have h3 := g.rowLen (List.mem_of_getElem? hr)
  generalize er : t.rows[j] = r at hr h3
  have e1 : (t.rows.map rowT).set j (rowT (turnRow r n)) = (turnTab t (j : Int) n).rows.map rowT := by
    show _ = (turnRows t.rows (j : Int) n).map rowT
    rw [turn_set hr, List.map_set]
  have e0 : ixN (t.rows.map rowT).length (j : Int) = some j := by
    unfold ixN
    simp [hj]
  have ixj : L2.atI (t.rows.map rowT) (j : Int) = some (rowT r) := by
    rw [atI_nat', List.getElem?_map, hr]; rfl
  have fin : rowL (turnTab t (j : Int) n) = .lst [.tup ((turnTab t (j : Int) n).rows.map rowT), .int t.spare, .str t.fate] := rfl
  rw [fin, ← e1]
  unfold turnRow
  by_cases hn : n ∈ r
  · have e := lc_fmap (mg := mgName 4) (t := mTest (mOp neD (mVar 4) (mOp ixD (mVar 1) (mC (Dt.int 1))))) (a := mVar 4) (ρ := [some (rowL t), some (pairT ((j : Int), n)), some (.lst (t.rows.map rowT)), some (.lst (r.map Dt.int)), none]) (f := Dt.int) (fun z => if z = n then none else some (.int z)) (xs := r) (fun x hx => by
      by_cases e : x = n <;> simp [lcOne, e, pairT])
    have e2 : r.filterMap (fun z => if z = n then none else some (Dt.int z)) = (r.filter fun x => decide (x ≠ n)).map Dt.int := by
      rw [← List.filterMap_eq_map, List.filterMap_filter]
      congr 1
      funext z
      by_cases h : z = n <;> simp [h]
    rw [e2] at e
    simp only [rowL, pairT] at e
    simp [m__law_turned, x_fun, b__law_turned, startD, rowL, pairT, hr, hn, show r.length ≤ 16777216 by omega, wipeD]
    rw [e]
    simp [ixN, hj, er, toRowT]
  · have e : sortedD [.lst (r.map Dt.int ++ [Dt.int n])] = some (.lst ((sortI (r ++ [n])).map Dt.int)) := by
      rw [show r.map Dt.int ++ [Dt.int n] = (r ++ [n]).map Dt.int by simp]
      exact sorted_ints (by simp; omega)
    simp [m__law_turned, x_fun, b__law_turned, startD, rowL, pairT, hr, hn, addD, show r.length ≤ 16777215 by omega, show r.length + 1 ≤ 16777216 by omega, e, ixN, hj, er, toRowT]

end
noncomputable section
variable {P : Program} {w : World} {K : PySem.W.Frag} {mg : Str → Option Value} {base : Heap}
theorem der__law_turned (T : Txt P K mg base) {cdv : Value} {A : Around} {outer : List Env} {s : Shared} {H : Hp} {E : XK} (hr : Room 0 (A.deeper (envOfC "_law_turned" (defScope s__law_turned) s.heap.objs.size (He.ga K "_law_turned") cdv))) :
    PSs (cxOf (L2.CX P w) P w K mg base N__law_turned "_law_turned" (defScope s__law_turned) (He.ga K "_law_turned") cdv A outer s H E) (defBody s__law_turned) (t__law_turned K E) := by
  have nd := (sc__law_turned).nd
  have tk : Takes (cxOf (L2.CX P w) P w K mg base N__law_turned "_law_turned" (defScope s__law_turned) (He.ga K "_law_turned") cdv A outer s H E) (fun cls d _ H => E cls d H) := takes_of rfl rfl rfl rfl
  exact (pss_cons (ps_set (i := 2) nd rfl (by first | exact Or.inl rfl | exact Or.inr rfl) (pe_callTy call_listOf (by rfl) T.f_list (by decide +kernel) (pa_cons (pe_ix (ix_V (units65 hr)) (pv 0) pe_int (fun _ _ => rfl)) pa_nil)))
    (pss_cons (ps_set (i := 3) nd rfl (by first | exact Or.inl rfl | exact Or.inr rfl) (pe_callTy call_listOf (by rfl) T.f_list (by decide +kernel) (pa_cons (pe_ix (ix_V (units65 hr)) (pv 2) (pe_ix (ix_V (units65 hr)) (pv 1) pe_int (fun _ _ => rfl)) (fun _ _ => rfl)) pa_nil)))
    (pss_cons (ps_set (i := 3) nd rfl (by first | exact Or.inl rfl | exact Or.inr rfl) (pe_ifExp (pt_cmpR (op_inV (units65 hr)) (pe_ix (ix_V (units65 hr)) (pv 1) pe_int (fun _ _ => rfl)) (pv 3) (by rfl)) (pe_lc (own := [("_law_take", 4)]) (g := (gName 4)) (tt := (tTest (tOp (rNeA K) (tVar 4) (tOp (rIxV K) (tVar 1) (tC (.int 1)))))) (te := (tVar 4)) rfl nd (pi_seq (pv 3)) (blkOk_by (own := [("_law_take", 4)]) (N := N__law_turned) (sc := (defScope s__law_turned)) (by decide +kernel)) (fun _ _ _ _ _ => (pg_name (i := 4) nd rfl (by first | exact Or.inl rfl | exact Or.inr rfl))) (fun _ _ _ _ _ => (pts_one (pt_cmpR (op_neA (units64 hr)) (pv 4) (pe_ix (ix_V (units65 hr)) (pv 1) pe_int (fun _ _ => rfl)) (nomark _)))) (fun _ _ _ _ _ => (pv 4))) (pe_callB cr_sorted (by rfl) T.f_sorted (by decide +kernel) (pa_cons (pe_op op_addA (pv 3) (pe_lst (pa_cons (pe_ix (ix_V (units65 hr)) (pv 1) pe_int (fun _ _ => rfl)) pa_nil))) pa_nil))))
    (pss_cons (ps_asg (pe_callTy call_tupleOf (by rfl) T.f_tuple (by decide +kernel) (pa_cons (pv 3) pa_nil)) (pg_sub (pv 2) (pe_ix (ix_V (units65 hr)) (pv 1) pe_int (fun _ _ => rfl)) (set_V (units65 hr))))
    (pss_one (ps_ret (pe_lst (pa_cons (pe_callTy call_tupleOf (by rfl) T.f_tuple (by decide +kernel) (pa_cons (pv 2) pa_nil)) (pa_cons (pe_ix (ix_V (units65 hr)) (pv 0) pe_int (fun _ _ => rfl)) (pa_cons (pe_ix (ix_V (units65 hr)) (pv 0) pe_int (fun _ _ => rfl)) pa_nil))))))))))
theorem ok__law_turned (T : Txt P K mg base) : Ok P w K mg base "_law_turned" 1 ["_law_row", "_law_entry"] (spL 2 (sp__law_turned K)) := ok_mk (T.d__law_turned) T.m__law_turned sc__law_turned (fun _ _ _ _ _ _ us hl => match us, hl with | [_, _], _ => rfl) (fun _ _ _ _ _ _ hr => der__law_turned T hr) (pure__law_turned T)
end
end

section
open PySem PySem.Spec L2 RZ StX
open PyProof.Rows (envOfC)
noncomputable section
variable {P : Program} {w : World} {K : PySem.W.Frag} {mg : Str → Option Value} {base : Heap}
abbrev N__law_entries : List Str := ["_law_row", "_law_found", "_law_many", "_law_last", "_law_take"]
theorem sc__law_entries : FnScope N__law_entries ["_law_row"] (defScope s__law_entries) := ⟨rfl, rfl, rfl, by decide +kernel, rfl, by decide +kernel, by decide +kernel⟩
def t__law_entries (K : PySem.W.Frag) (E : XK) : TS :=
    (tSeq (tPar 1 2 (tCons (tLst tNil) (tCons (tCB (rLenA K) (tCons (tOp (rIxV K) (tVar 0) (tC (.int 0))) tNil)) tNil)))
    (tSeq (tFor (iRng1 (tCons (tVar 2) tNil)) (gName 3) (tAsg (tOp (rAddA K) (tVar 1) (tLc (iRng2 (tCons (tC (.int 1)) (tCons (tVar 2) tNil))) (gName 4) tYes (tTup (tCons (tVar 3) (tCons (tVar 4) tNil))) [4])) (gName 1)))
    (tRet (tVar 1))))
def b__law_entries : MS :=
    (mThen (mPar 1 2 (mLst mNil) (mCB lenD (mCons (mOp ixD (mVar 0) (mC (.int 0))) mNil)))
    (mThen (mFor (mRng1 (mCons (mVar 2) mNil)) (mgName 3) (mAsg (mOp addD (mVar 1) (mLc (mRng2 (mCons (mC (.int 1)) (mCons (mVar 2) mNil))) (mgName 4) (fun _ => .ret true) (mTup (mCons (mVar 3) (mCons (mVar 4) mNil))) [4])) 1))
    (mRet (mVar 1))))
def m__law_entries : MF := mFun 5 b__law_entries
def sp__law_entries (K : PySem.W.Frag) : Sp := spM (kt K) m__law_entries
theorem ref__law_entries (T : Txt P K mg base) {E : XK} : RS (kt K) [] (fun cls d _ H => E cls d H) (t__law_entries K E) b__law_entries := by
  unfold t__law_entries b__law_entries
  exact (rs_seq (rs_par (i := 1) (j := 2) (rc_of (by decide) (re_lst ra_nil)) (rc_of (by decide) (re_cb cm_len (RA.w (ra_cons (re_op om_ix (RE.ro (re_var (i := 0))) (RE.ro re_int)) ra_nil)))) (by decide))
    (rs_seq (rs_for (vs := [3]) (ri_rng1 (RA.w (ra_cons (re_var (i := 2)) ra_nil))) (rg_name (i := 3)) (rs_asg (i := 1) (rc_of (by decide) (re_op om_add (RE.ro (re_var (i := 1))) (RE.ro (re_lc (vs := [4]) (ws := [4]) (ri_rng2 (RA.w (ra_cons re_int (ra_cons (re_var (i := 2)) ra_nil)))) (rg_name (i := 4)) (fun _ h => h) rt_yes (re_tup (ra_cons (re_var (i := 3)) (ra_cons (re_var (i := 4)) ra_nil)))))))))
    (rs_ret (RE.ro (re_var (i := 1))))))
theorem bf__law_entries : Bf (kt K) 1 m__law_entries (sp__law_entries K) := bf_M
theorem pure__law_entries (T : Txt P K mg base) (vs : List V) (H : Hp) (Q : VK) (E : XK) (hl : vs.length = 1) (h : sp__law_entries K vs H Q E) : t__law_entries K E { nx := fun _ H' => Q .non H', rt := Q } (start N__law_entries vs) H := pure_M (ref__law_entries T) (by decide) rfl hl (by decide) h
end
noncomputable section
@[simp] theorem v__law_entries {t : Tab} (g : t.Good) : m__law_entries [rowL t] = .ret (.lst ((entriesN t.rows.length t.rows.length).map pairT)) := by
  have gl := g.len
  generalize hn : t.rows.length = n at gl
  have one : ∀ l : Nat, ∀ ρ : Ev, ρ[3]? = some (some (.int l)) → ρ.length = 5 → lcGo (mgName 4) (fun x => Pm.ret true) (mTup (mCons (mVar 3) (mCons (mVar 4) mNil))) (wipeD ρ [4]) (rngD 1 (n - 1)) = .ret ((entRow n l).map pairT) := fun l ρ h3 hl => by
    unfold rngD entRow
    rw [List.map_map]
    refine lc_map (f := fun (k : Nat) => Dt.int (1 + (k : Int))) (pairT ∘ fun (k : Nat) => ((l : Int), 1 + (k : Int))) fun k hk => ?_
    match ρ, hl, h3 with
    | [a, b, c, d, e], _, h3 =>
      simp at h3
      subst h3
      simp [lcOne, wipeD, pairT]
  have key := for_all (mg := mgName 3) (s := mAsg (mOp addD (mVar 1) (mLc (mRng2 (mCons (mC (Dt.int 1)) (mCons (mVar 2) mNil))) (mgName 4) (fun x => Pm.ret true) (mTup (mCons (mVar 3) (mCons (mVar 4) mNil))) [4])) 1)
    (f := fun (k : Nat) => Dt.int (0 + (k : Int))) (fun l => [some (rowL t), some (.lst ((entriesN n l.length).map pairT)), some (.int n), l.getLast?.map fun (k : Nat) => Dt.int k, none]) (xs := List.range n) [] (fun ys x zs h _ => by
      have hx : x = ys.length := by
        have := congrArg (fun l => l[ys.length]?) h
        simp at this
        rw [List.getElem?_eq_some_iff] at this
        obtain ⟨_, e⟩ := this
        simp at e
        exact e.symm
      have hy : ys.length < n := by
        have := congrArg List.length h
        simp at this
        omega
      subst hx
      have e1 := one ys.length [some (rowL t), some (.lst ((entriesN n ys.length).map pairT)), some (.int n), some (.int (ys.length : Nat)), none] rfl rfl
      have hle : ys.length * (n - 1) ≤ 4 * 4 := Nat.mul_le_mul (by omega) (by omega)
      simp [wipeD] at e1
      simp [forOne, rng_two (show -1000000 < (1 : Int) ∧ (1 : Int) < 1000000 ∧ -1000000 < (n : Int) ∧ (n : Int) < 1000000 by omega), show ((n : Int) - 1).toNat = n - 1 by omega, show n - 1 ≤ 16777216 by omega, e1, addD, entries_len, entRow_len, show ys.length * (n - 1) + (n - 1) ≤ 16777216 by omega, wipeD]
      rw [entriesN_succ, List.map_append])
  simp only [List.nil_append, List.length_nil, List.length_range, List.getLast?_nil, Option.map_none, entriesN, List.range_zero, List.flatMap_nil, List.map_nil] at key
  have key2 : forGo (mgName 3) (mAsg (mOp addD (mVar 1) (mLc (mRng2 (mCons (mC (Dt.int 1)) (mCons (mVar 2) mNil))) (mgName 4) (fun x => Pm.ret true) (mTup (mCons (mVar 3) (mCons (mVar 4) mNil))) [4])) 1) (rngD 0 n) [some (rowL t), some (.lst []), some (.int n), none, none] = _ := key
  simp [m__law_entries, x_fun, b__law_entries, startD, hn, rng_nat (show n < 1000000 by omega)]
  simp [rowL, hn] at key2 ⊢
  rw [key2]
  simp [entriesN]

end
noncomputable section
variable {P : Program} {w : World} {K : PySem.W.Frag} {mg : Str → Option Value} {base : Heap}
theorem der__law_entries (T : Txt P K mg base) {cdv : Value} {A : Around} {outer : List Env} {s : Shared} {H : Hp} {E : XK} (hr : Room 0 (A.deeper (envOfC "_law_entries" (defScope s__law_entries) s.heap.objs.size (He.ga K "_law_entries") cdv))) :
    PSs (cxOf (L2.CX P w) P w K mg base N__law_entries "_law_entries" (defScope s__law_entries) (He.ga K "_law_entries") cdv A outer s H E) (defBody s__law_entries) (t__law_entries K E) := by
  have nd := (sc__law_entries).nd
  have tk : Takes (cxOf (L2.CX P w) P w K mg base N__law_entries "_law_entries" (defScope s__law_entries) (He.ga K "_law_entries") cdv A outer s H E) (fun cls d _ H => E cls d H) := takes_of rfl rfl rfl rfl
  exact (pss_cons (ps_par (i := 1) (j := 2) rfl nd rfl rfl (by decide) rfl rfl (pa_cons (pe_lst pa_nil) (pa_cons (pe_callB call_lenA (by rfl) T.f_len (by decide +kernel) (pa_cons (pe_ix (ix_V (units65 hr)) (pv 0) pe_int (fun _ _ => rfl)) pa_nil)) pa_nil)) rfl)
    (pss_cons (ps_for (passes_of rfl) rfl (pi_range1 (by rfl) T.f_range (pa_cons (pv 2) pa_nil)) (pg_name (i := 3) nd rfl (by first | exact Or.inl rfl | exact Or.inr rfl)) (pss_one (ps_set (i := 1) nd rfl (by first | exact Or.inl rfl | exact Or.inr rfl) (pe_op op_addA (pv 1) (pe_lc (own := [("_law_take", 4)]) (g := (gName 4)) (tt := tYes) (te := (tTup (tCons (tVar 3) (tCons (tVar 4) tNil)))) rfl nd (pi_range2 (by rfl) T.f_range (pa_cons pe_int (pa_cons (pv 2) pa_nil))) (blkOk_by (own := [("_law_take", 4)]) (N := N__law_entries) (sc := (defScope s__law_entries)) (by decide +kernel)) (fun _ _ _ _ _ => (pg_name (i := 4) nd rfl (by first | exact Or.inl rfl | exact Or.inr rfl))) (fun _ _ _ _ _ => pts_nil) (fun _ _ _ _ _ => (pe_tup (pa_cons (pv 3) (pa_cons (pv 4) pa_nil)))))))))
    (pss_one (ps_ret (pv 1)))))
theorem ok__law_entries (T : Txt P K mg base) : Ok P w K mg base "_law_entries" 1 ["_law_row"] (spL 1 (sp__law_entries K)) := ok_mk (T.d__law_entries) T.m__law_entries sc__law_entries (fun _ _ _ _ _ _ us hl => match us, hl with | [_], _ => rfl) (fun _ _ _ _ _ _ hr => der__law_entries T hr) (pure__law_entries T)
end
end

section
open PySem PySem.Spec L2 RZ StX
open PyProof.Rows (envOfC)
noncomputable section
variable {P : Program} {w : World} {K : PySem.W.Frag} {mg : Str → Option Value} {base : Heap}
abbrev N_is_integer : List Str := ["thing", "low", "high"]
theorem sc_is_integer : FnScope N_is_integer ["thing", "low", "high"] (defScope s_is_integer) := ⟨rfl, rfl, rfl, by decide +kernel, rfl, by decide +kernel, by decide +kernel⟩
def t_is_integer (K : PySem.W.Frag) (E : XK) : TS :=
    (tRet (tAndV (tCB (rIsi K) (tCons (tVar 0) (tCons (tC (.ty "int")) tNil))) (tAndV (tNotV (tCB (rIsi K) (tCons (tVar 0) (tCons (tC (.ty "bool")) tNil)))) (tChain (rI0 fun i j => .bl (decide (i ≤ j))) (rI0 fun i j => .bl (decide (i ≤ j))) (tVar 1) (tVar 0) (tVar 2)))))
end
def sp_is_integer (K : PySem.W.Frag) : Sp := fun vs H Q _ => ∃ (x : V) (lo hi : Int) (n : Ty), vs = [x, .int lo, .int hi] ∧ AnyV K H x n ∧ Q (.bl (isInt x lo hi)) H
theorem pure_is_integer {K : PySem.W.Frag} (vs : List V) (H : Hp) (Q : VK) (E : XK) (hl : vs.length = 3) (h : sp_is_integer K vs H Q E) : t_is_integer K E { nx := fun _ H' => Q .non H', rt := Q } (start N_is_integer vs) H := by
  obtain ⟨x, lo, hi, n, rfl, hx, q⟩ := h
  show t_is_integer K E _ [some x, some (.int lo), some (.int hi)] H
  unfold t_is_integer
  k_clsL
  cases hx with
  | int i =>
    k_clsL
    refine ite2 (fun h => ?_) (fun h => ?_)
    · k_clsL
      have e : isInt (.int i) lo hi = decide (i ≤ hi) := by simp only [isInt, h, Bool.true_and]
      rw [← e]; exact q
    · k_clsL
      have e : isInt (.int i) lo hi = false := by simp only [isInt, h, Bool.false_and]
      rw [← e]; exact q
  | _ => 
    k_clsL
    exact q
def m_is_integer : MF := fun ds => match ds with
  | [x, .int lo, .int hi] => (match kd x with
    | some _ => .ret (.bl (isIntT x lo hi))
    | none => .bad)
  | _ => .bad
theorem bf_is_integer {K : PySem.W.Frag} : Bf (kt K) 3 m_is_integer (sp_is_integer K) := by
  intro vs H Q E hl h
  obtain ⟨S, hd, ds, hT, r, ok, tb, w⟩ := h
  unfold m_is_integer at w
  split at w
  · rename_i x lo hi
    split at w
    · rename_i n e
      cases r with
      | cons r1 t => cases t with
        | cons r2 t => cases t with
          | cons r3 t =>
            cases t; cases r2; cases r3
            refine ⟨_, lo, hi, n, rfl, Rw.any (.inl r1) e, ?_⟩
            have q := w (.bl (isIntT x lo hi)) H Fh.refl (.bl _)
            have e2 : ∀ {v : V} {d : Dt}, Rl K ⟨[], S, hd⟩ H v d → isInt v lo hi = isIntT d lo hi ∨ kd d = none := fun r => by
              cases r <;> first | exact .inl rfl | exact .inr rfl
            rcases e2 r1 with e3 | e3
            · rw [e3]; exact q
            · rw [e3] at e; cases e
    · exact w.elim
  · exact w.elim
@[simp] theorem x_is_integer {x : Dt} {lo hi : Int} {n : Ty} (h : kd x = some n) : m_is_integer [x, .int lo, .int hi] = .ret (.bl (isIntT x lo hi)) := by
  unfold m_is_integer
  simp only [h]

noncomputable section
variable {P : Program} {w : World} {K : PySem.W.Frag} {mg : Str → Option Value} {base : Heap}
theorem der_is_integer (T : Txt P K mg base) {cdv : Value} {A : Around} {outer : List Env} {s : Shared} {H : Hp} {E : XK} (hr : Room 0 (A.deeper (envOfC "is_integer" (defScope s_is_integer) s.heap.objs.size (He.ga K "is_integer") cdv))) :
    PSs (cxOf (L2.CX P w) P w K mg base N_is_integer "is_integer" (defScope s_is_integer) (He.ga K "is_integer") cdv A outer s H E) (defBody s_is_integer) (t_is_integer K E) := by
  have nd := (sc_is_integer).nd
  have tk : Takes (cxOf (L2.CX P w) P w K mg base N_is_integer "is_integer" (defScope s_is_integer) (He.ga K "is_integer") cdv A outer s H E) (fun cls d _ H => E cls d H) := takes_of rfl rfl rfl rfl
  exact (pss_one (ps_ret (pe_and (pe_callB call_isi (by rfl) T.f_isinstance (by decide +kernel) (pa_cons (pv 0) (pa_cons (pe_bltn (by rfl) T.f_int (by decide +kernel) rfl) pa_nil))) (pe_and (pe_not (pe_callB call_isi (by rfl) T.f_isinstance (by decide +kernel) (pa_cons (pv 0) (pa_cons (pe_bltn (by rfl) T.f_bool (by decide +kernel) rfl) pa_nil)))) (pe_one (pe_chain op_le op_le (pv 1) (pv 0) (pv 2)))))))
theorem ok_is_integer (T : Txt P K mg base) : Ok P w K mg base "is_integer" 1 ["thing", "low", "high"] (spL 3 (sp_is_integer K)) := ok_mk (T.d_is_integer) T.m_is_integer sc_is_integer (fun _ _ _ _ _ _ us hl => match us, hl with | [_, _, _], _ => rfl) (fun _ _ _ _ _ _ hr => der_is_integer T hr) (pure_is_integer)
end
end

section
open PySem PySem.Spec L2 RZ StX
open PyProof.Rows (envOfC)
noncomputable section
variable {P : Program} {w : World} {K : PySem.W.Frag} {mg : Str → Option Value} {base : Heap}
abbrev N_is_row : List Str := ["thing", "most", "take", "one", "other"]
theorem sc_is_row : FnScope N_is_row ["thing", "most"] (defScope s_is_row) := ⟨rfl, rfl, rfl, by decide +kernel, rfl, by decide +kernel, by decide +kernel⟩
def t_is_row (K : PySem.W.Frag) (E : XK) : TS :=
    (tSeq (tIfS (tOr (tNot (tB (tCB (rIsi K) (tCons (tVar 0) (tCons (tC (.ty "tuple")) tNil))))) (tNot (tB (tCB (rAll K) (tCons (tLc (iSeq K (tVar 0)) (gName 2) tYes (tCallS (spL 3 (sp_is_integer K)) (WE (fun _ _ _ _ => False)) (tCons (tVar 2) (tCons (tC (.int 1)) (tCons (tVar 1) tNil)))) [2]) tNil))))) (tRet (tC (.bl false))) tNext)
    (tRet (tCB (rAll K) (tCons (tLc (iZipA K (tCons (tVar 0) (tCons (tSl (rSl K) (tVar 0) (tPart (tC (.int 1))) tNoPart) tNil))) (gTup K 2 (gCons (gName 3) (gCons (gName 4) gNil))) tYes (tOp (rI0 fun i j => .bl (decide (i < j))) (tVar 3) (tVar 4)) [3, 4]) tNil))))
end
def sp_is_row (K : PySem.W.Frag) : Sp := fun vs H Q _ => ∃ (x : V) (d : PyData) (m : Int), vs = [x, .int m] ∧ Da K H x d ∧ (∀ ds, d = .tuple ds → ds.length < 1000) ∧ ∀ H', Fr [] H H' → Q (.bl (isRowD d m)) H'
theorem pure_is_row {K : PySem.W.Frag} (vs : List V) (H : Hp) (Q : VK) (E : XK) (hl : vs.length = 2) (h : sp_is_row K vs H Q E) : t_is_row K E { nx := fun _ H' => Q .non H', rt := Q } (start N_is_row vs) H := by
  obtain ⟨x, d, m, rfl, hx, hz, q⟩ := h
  show t_is_row K E _ [some x, some (.int m), none, none, none] H
  unfold t_is_row
  cases hx with
  | @tup a xs ds h t =>
    k_clsL
    have hzl := hz ds rfl
    have tl := t.length
    refine lc_fm (K := K) walk_tup ds (fun d => some (.bool (isIntD d 1 m))) tl.symm (by omega) (fun H' F => F.sqt h) ?_ ?_
    · rintro i d x H1 H2 R Rn hd F1 ⟨rfl, hx⟩ k1 k2
      obtain ⟨d', hd', hxd⟩ := t.get' hx
      rw [hd] at hd'
      cases hd'
      obtain ⟨n, hn⟩ := (hxd.fr F1).any
      k_clsL
      refine ⟨rfl, ?_⟩
      k_clsL
      refine ⟨rfl, _, _, _, n, rfl, hn, ?_⟩
      refine k1 _ _ _ rfl ?_ Fr.refl
      rw [hxd.isInt]
      exact .bl _
    · intro D H1 nD F1 hD
      rw [List.filterMap_eq_map'] at hD
      k_clsL
      refine r_all (bs := ds.map fun d => isIntD d 1 m) (by rw [List.map_map]; exact hD) ?_
      k_clsL
      cases e : (ds.map fun d => isIntD d 1 m).all id with
      | false =>
        k_clsL
        have e2 : isRowD (.tuple ds) m = false := by
          rw [List.all_map] at e
          show (ds.all (fun d => isIntD d 1 m) && ascB ds) = false
          rw [show ds.all (fun d => isIntD d 1 m) = false from e, Bool.false_and]
        rw [← e2]
        exact q _ F1
      | true =>
        k_clsL
        have all : ∀ (i : Nat) (d : PyData), ds[i]? = some d → ∃ z : Int, d = .int z := fun i d hd => by
          have q := List.all_eq_true.mp e (isIntD d 1 m) (List.mem_map.mpr ⟨d, List.mem_of_getElem? hd, rfl⟩)
          cases d with
          | int z => exact ⟨z, rfl⟩
          | _ => cases q
        refine r_slT (F1.sqt h) (fun p H2 F2 hp => ?_)
        have hs : SqT K H2 a xs := F2.sqt (F1.sqt h)
        rw [show cutV xs (some 1) none = xs.drop 1 from cut_from] at hp
        k_clsL
        refine lc_fm (K := K) (walk_zipT rfl) (ds.zip (ds.drop 1)) (fun z => some (.bool (ltD z))) (by rw [List.length_zip, List.length_drop, List.length_drop, tl]) (by omega) (fun H' F => ⟨F.sqt hs, F.sqt hp⟩) ?_ ?_
        · rintro i z x H3 H4 R Rn hz F3 ⟨T, x1, x2, rfl, hT, rfl, h1, h2⟩ k1 k2
          obtain ⟨d1, hd1, t1⟩ := t.get' h1
          obtain ⟨d2, hd2, t2⟩ := (t.drop 1).get' h2
          have ez : z = (d1, d2) := by
            rw [List.getElem?_zip_eq_some] at hz
            rw [hd1, hd2] at hz
            exact Prod.ext (Option.some.inj hz.1).symm (Option.some.inj hz.2).symm
          obtain ⟨z1, rfl⟩ := all _ _ hd1
          obtain ⟨z2, rfl⟩ := all (1 + i) _ (by rw [List.getElem?_drop] at hd2; exact hd2)
          cases t1
          cases t2
          k_clsL
          refine ⟨rfl, ?_⟩
          k_clsL
          refine k1 _ _ _ rfl ?_ (Fr.new hT)
          rw [ez]
          exact .bl _
        · intro D2 H3 nD2 F3 hD2
          rw [List.filterMap_eq_map'] at hD2
          k_clsL
          refine r_all (bs := (ds.zip (ds.drop 1)).map ltD) (by rw [List.map_map]; exact hD2) ?_
          have e2 : isRowD (.tuple ds) m = ((ds.zip (ds.drop 1)).map ltD).all id := by
            rw [List.all_map] at e ⊢
            show (ds.all (fun d => isIntD d 1 m) && ascB ds) = _
            rw [show ds.all (fun d => isIntD d 1 m) = true from e, Bool.true_and]
            refine asc_zip ds (List.all_eq_true.mpr fun d hd => ?_)
            obtain ⟨i, hi⟩ := List.getElem?_of_mem hd
            obtain ⟨z, rfl⟩ := all i d hi
            rfl
          rw [← e2]
          exact q _ ((F1.trans F2).trans F3)
  | _ => 
    k_clsL
    exact q _ Fr.refl

noncomputable section
variable {P : Program} {w : World} {K : PySem.W.Frag} {mg : Str → Option Value} {base : Heap}
theorem der_is_row (T : Txt P K mg base) {cdv : Value} {A : Around} {outer : List Env} {s : Shared} {H : Hp} {E : XK} (hr : Room 1 (A.deeper (envOfC "is_row" (defScope s_is_row) s.heap.objs.size (He.ga K "is_row") cdv))) :
    PSs (cxOf (L2.CX P w) P w K mg base N_is_row "is_row" (defScope s_is_row) (He.ga K "is_row") cdv A outer s H E) (defBody s_is_row) (t_is_row K E) := by
  have nd := (sc_is_row).nd
  have tk : Takes (cxOf (L2.CX P w) P w K mg base N_is_row "is_row" (defScope s_is_row) (He.ga K "is_row") cdv A outer s H E) (fun cls d _ H => E cls d H) := takes_of rfl rfl rfl rfl
  exact (pss_cons (ps_if (PW.pt (pw_or (pt_not (pt_val (pe_callB call_isi (by rfl) T.f_isinstance (by decide +kernel) (pa_cons (pv 0) (pa_cons (pe_bltn (by rfl) T.f_tuple (by decide +kernel) rfl) pa_nil))))) (pw_or1 (pt_not (pt_val (pe_callB (cr_all rfl) (by rfl) T.f_all (by decide +kernel) (pa_cons (pe_lc (own := [("take", 2)]) (g := (gName 2)) (tt := tYes) (te := (tCallS (spL 3 (sp_is_integer K)) (WE (fun _ _ _ _ => False)) (tCons (tVar 2) (tCons (tC (.int 1)) (tCons (tVar 1) tNil))))) rfl nd (pi_seq (pv 0)) (blkOk_by (own := [("take", 2)]) (N := N_is_row) (sc := (defScope s_is_row)) (by decide +kernel)) (fun _ _ _ _ _ => (pg_name (i := 2) nd rfl (by first | exact Or.inl rfl | exact Or.inr rfl))) (fun _ _ _ _ _ => pts_nil) (fun _ _ _ _ _ => (pe_callO (ok_is_integer T) (hr.mono (by decide)) (by rfl) takes0 (pa_cons (pv 2) (pa_cons pe_int (pa_cons (pv 1) pa_nil)))))) pa_nil))))))) (pss_one (ps_ret pe_bl)) pss_nil)
    (pss_one (ps_ret (pe_callB (cr_all rfl) (by rfl) T.f_all (by decide +kernel) (pa_cons (pe_lc (own := [("one", 3), ("other", 4)]) (g := (gTup K 2 (gCons (gName 3) (gCons (gName 4) gNil)))) (tt := tYes) (te := (tOp (rI0 fun i j => .bl (decide (i < j))) (tVar 3) (tVar 4))) rfl nd (pi_zipA (by rfl) T.f_zip (pa_cons (pv 0) (pa_cons (pe_slice sl_any (pv 0) (po_some pe_int) po_none) pa_nil))) (blkOk_by (own := [("one", 3), ("other", 4)]) (N := N_is_row) (sc := (defScope s_is_row)) (by decide +kernel)) (fun _ _ _ _ _ => (pg_tup rfl (pgs_cons (pg_name (i := 3) nd rfl (by first | exact Or.inl rfl | exact Or.inr rfl)) (pgs_cons (pg_name (i := 4) nd rfl (by first | exact Or.inl rfl | exact Or.inr rfl)) pgs_nil)))) (fun _ _ _ _ _ => pts_nil) (fun _ _ _ _ _ => (pe_cmpR op_lt (pv 3) (pv 4) (nomark _)))) pa_nil)))))
theorem ok_is_row (T : Txt P K mg base) : Ok P w K mg base "is_row" 2 ["thing", "most"] (spL 2 (sp_is_row K)) := ok_mk (T.d_is_row) T.m_is_row sc_is_row (fun _ _ _ _ _ _ us hl => match us, hl with | [_, _], _ => rfl) (fun _ _ _ _ _ _ hr => der_is_row T hr) (pure_is_row)
end
end

section
open PySem PySem.Spec L2 RZ StX
open PyProof.Rows (envOfC)
noncomputable section
variable {P : Program} {w : World} {K : PySem.W.Frag} {mg : Str → Option Value} {base : Heap}
abbrev N_check_rows : List Str := ["rows", "index", "row"]
theorem sc_check_rows : FnScope N_check_rows ["rows"] (defScope s_check_rows) := ⟨rfl, rfl, rfl, by decide +kernel, rfl, by decide +kernel, by decide +kernel⟩
def t_check_rows (K : PySem.W.Frag) (E : XK) : TS :=
    (tSeq (tIfS (tOr (tNot (tB (tCB (rIsi K) (tCons (tVar 0) (tCons (tC (.ty "tuple")) tNil))))) (tNot (tTest (tChain (rI0 fun i j => .bl (decide (i ≤ j))) (rI0 fun i j => .bl (decide (i ≤ j))) (tC (.int 2)) (tCB (rLenA K) (tCons (tVar 0) tNil)) (tOp (rAddA K) (tC (.int 3)) (tC (.int 1))))))) (tRaise1 (He.ga K "InvalidRows") "index" (fun cls d _ H => E cls d H) (tCons (tC .non) tNil)) tNext)
    (tFor (iEnumA K (tCons (tVar 0) tNil)) (gTup K 2 (gCons (gName 1) (gCons (gName 2) gNil))) (tIfS (tNot (tB (tCallS (spL 2 (sp_is_row K)) (WE (fun cls d _ H => E cls d H)) (tCons (tVar 2) (tCons (tOp (rI0 fun i j => .int (i - j)) (tCB (rLenA K) (tCons (tVar 0) tNil)) (tC (.int 1))) tNil))))) (tRaise1 (He.ga K "InvalidRows") "index" (fun cls d _ H => E cls d H) (tCons (tVar 1) tNil)) tNext)))
end
def sp_check_rows (K : PySem.W.Frag) : Sp := fun vs H Q E => ∃ (x : V) (d : PyData), vs = [x] ∧ Da K H x d ∧ smallD d ∧ (badRows d = none → ∀ H', Fr [] H H' → Q .non H') ∧
  ∀ v, badRows d = some v → ∀ e H', Fr [] H H' → H' e = some (.xd [("index", v)]) → E (.ref (He.ga K "InvalidRows")) (some e) H'
theorem pure_check_rows {K : PySem.W.Frag} (vs : List V) (H : Hp) (Q : VK) (E : XK) (hl : vs.length = 1) (h : sp_check_rows K vs H Q E) : t_check_rows K E { nx := fun _ H' => Q .non H', rt := Q } (start N_check_rows vs) H := by
  obtain ⟨x, d, rfl, hx, hz, q, qE⟩ := h
  show t_check_rows K E _ [some x, none, none] H
  unfold t_check_rows
  cases hx with
  | @tup a xs ds h t =>
    have tl := t.length
    k_clsL
    refine iteD (fun h1 => ?_) (fun h1 => ?_)
    · k_clsL
      refine iteDN (fun h2 => ?_) (fun h2 => ?_)
      · k_clsL
        refine ⟨_, rfl, fun e hn => qE _ (if_neg (by omega)) e _ (Fr.new hn) upd_same⟩
      · k_clsL
        have hb : badRows (.tuple ds) = (ds.findIdx? (fun d => !isRowD d ((ds.length : Int) - 1))).map (fun i => V.int (i : Nat)) := if_pos (by omega)
        rw [hb] at q qE
        refine for_fm walk_enumT ds tl.symm (fun i σ' H' => ∃ s1 s2, σ' = [some (.ref a), s1, s2] ∧ Fr [] H H' ∧ ∀ j d, j < i → ds[j]? = some d → isRowD d ((ds.length : Int) - 1) = true) ⟨_, _, rfl, Fr.refl, fun j d hj => absurd hj (Nat.not_lt_zero _)⟩ (fun i σ' H' ⟨s1, s2, e, F, r⟩ => F.sqt h) ?_ ?_
        · rintro i d x σ' H1 H2 hd ⟨s1, s2, rfl, F1, r⟩ ⟨T, x1, x2, rfl, hT, rfl, e1, e2⟩
          obtain ⟨d', hd', hxd⟩ := t.get' e2
          rw [hd] at hd'
          cases hd'
          cases e1
          have F2 : Fr [] H (upd H1 T (.tup [.int (i : Nat), x2])) := F1.trans (Fr.new hT)
          have h' := F2.sqt h
          k_clsL
          refine ⟨rfl, x2, d, (xs.length : Int) - 1, rfl, hxd.fr F2, fun es e => hz d (List.mem_of_getElem? hd) es e, fun H3 F3 => ?_⟩
          rw [tl]
          cases e : isRowD d ((ds.length : Int) - 1) with
          | true =>
            k_clsL
            refine ⟨_, _, rfl, F2.trans F3, fun j d2 hj hd2 => ?_⟩
            rcases Nat.lt_succ_iff_lt_or_eq.mp hj with hj | rfl
            · exact r j d2 hj hd2
            · rw [hd] at hd2
              cases hd2
              exact e
          | false =>
            k_clsL
            refine ⟨_, rfl, fun e0 hn => qE (.int (i : Nat)) ?_ e0 _ ((F2.trans F3).trans (Fr.new hn)) upd_same⟩
            have hf : ds.findIdx? (fun d => !isRowD d ((ds.length : Int) - 1)) = some i := by
              rw [List.findIdx?_eq_some_iff_getElem]
              obtain ⟨hi, hi2⟩ := List.getElem?_eq_some_iff.mp hd
              refine ⟨hi, by rw [hi2, e]; rfl, fun j hj => ?_⟩
              have := r j ds[j] hj (List.getElem?_eq_getElem _)
              rw [this]
              exact Bool.noConfusion
            rw [hf]
            rfl
        · rintro σ' H' ⟨s1, s2, rfl, F1, r⟩
          refine q ?_ H' F1
          have hf : ds.findIdx? (fun d => !isRowD d ((ds.length : Int) - 1)) = none := by
            rw [List.findIdx?_eq_none_iff]
            intro d hd
            obtain ⟨j, hj⟩ := List.getElem?_of_mem hd
            obtain ⟨hj2, _⟩ := List.getElem?_eq_some_iff.mp hj
            rw [r j d hj2 hj]
            rfl
          rw [hf]
          rfl
    · k_clsL
      refine ⟨_, rfl, fun e hn => qE _ (if_neg (by omega)) e _ (Fr.new hn) upd_same⟩
  | _ =>
    k_clsL
    refine ⟨_, rfl, fun e hn => qE _ rfl e _ (Fr.new hn) upd_same⟩

noncomputable section
variable {P : Program} {w : World} {K : PySem.W.Frag} {mg : Str → Option Value} {base : Heap}
theorem der_check_rows (T : Txt P K mg base) {cdv : Value} {A : Around} {outer : List Env} {s : Shared} {H : Hp} {E : XK} (hr : Room 2 (A.deeper (envOfC "check_rows" (defScope s_check_rows) s.heap.objs.size (He.ga K "check_rows") cdv))) :
    PSs (cxOf (L2.CX P w) P w K mg base N_check_rows "check_rows" (defScope s_check_rows) (He.ga K "check_rows") cdv A outer s H E) (defBody s_check_rows) (t_check_rows K E) := by
  have nd := (sc_check_rows).nd
  have tk : Takes (cxOf (L2.CX P w) P w K mg base N_check_rows "check_rows" (defScope s_check_rows) (He.ga K "check_rows") cdv A outer s H E) (fun cls d _ H => E cls d H) := takes_of rfl rfl rfl rfl
  exact (pss_cons (ps_if (PW.pt (pw_or (pt_not (pt_val (pe_callB call_isi (by rfl) T.f_isinstance (by decide +kernel) (pa_cons (pv 0) (pa_cons (pe_bltn (by rfl) T.f_tuple (by decide +kernel) rfl) pa_nil))))) (pw_or1 (pt_not (pt_chain op_le op_le pe_int (pe_callB call_lenA (by rfl) T.f_len (by decide +kernel) (pa_cons (pv 0) pa_nil)) (pe_op op_addA (pe_gint (by rfl) T.m_MOST_TAKE) pe_int)))))) (pss_one (ps_raise1 rfl T.x_InvalidRows hr tk (pa_cons pe_non pa_nil))) pss_nil)
    (pss_one (ps_for (passes_of rfl) rfl (pi_enumA (by rfl) T.f_enumerate (pa_cons (pv 0) pa_nil)) (pg_tup rfl (pgs_cons (pg_name (i := 1) nd rfl (by first | exact Or.inl rfl | exact Or.inr rfl)) (pgs_cons (pg_name (i := 2) nd rfl (by first | exact Or.inl rfl | exact Or.inr rfl)) pgs_nil))) (pss_one (ps_if (pt_not (pt_val (pe_callO (ok_is_row T) (hr.mono (by decide)) (by rfl) tk (pa_cons (pv 2) (pa_cons (pe_op op_sub (pe_callB call_lenA (by rfl) T.f_len (by decide +kernel) (pa_cons (pv 0) pa_nil)) pe_int) pa_nil))))) (pss_one (ps_raise1 rfl T.x_InvalidRows hr tk (pa_cons (pv 1) pa_nil))) pss_nil)))))
theorem ok_check_rows (T : Txt P K mg base) : Ok P w K mg base "check_rows" 3 ["rows"] (spL 1 (sp_check_rows K)) := ok_mk (T.d_check_rows) T.m_check_rows sc_check_rows (fun _ _ _ _ _ _ us hl => match us, hl with | [_], _ => rfl) (fun _ _ _ _ _ _ hr => der_check_rows T hr) (pure_check_rows)
end
end

section
open PySem PySem.Spec L2 RZ StX
open PyProof.Rows (envOfC)
noncomputable section
variable {P : Program} {w : World} {K : PySem.W.Frag} {mg : Str → Option Value} {base : Heap}
abbrev N_Table___init__ : List Str := ["self", "rows", "passes", "stuck"]
theorem sc_Table___init__ : FnScope N_Table___init__ ["self", "rows", "passes", "stuck"] (defScope s_Table___init__) := ⟨rfl, rfl, rfl, by decide +kernel, rfl, by decide +kernel, by decide +kernel⟩
def t_Table___init__ (K : PySem.W.Frag) (E : XK) : TS :=
    (tSeq (tDrop (tCallS (spL 1 (sp_check_rows K)) (WE (fun cls d _ H => E cls d H)) (tCons (tVar 1) tNil)))
    (tSeq (tIfS (tNot (tB (tCallS (spL 3 (sp_is_integer K)) (WE (fun cls d _ H => E cls d H)) (tCons (tVar 2) (tCons (tC (.int 0)) (tCons (tC (.int 1)) tNil)))))) (tRaise0 (He.ga K "InvalidPasses") (fun cls d _ H => E cls d H)) tNext)
    (tSeq (tIfS (tOr (tNot (tB (tCB (rIsi K) (tCons (tVar 3) (tCons (tC (.ty "str")) tNil))))) (tTest (tOp (rNotInA K) (tVar 3) (tC (.ref (He.ga K "STUCK")))))) (tRaise0 (He.ga K "InvalidStuck") (fun cls d _ H => E cls d H)) tNext)
    (tSeq (tFldSO K "Table" (tVar 0) (tVar 1) "allowed")
    (tSeq (tFldSO K "Table" (tVar 0) (tVar 2) "spare")
    (tFldSO K "Table" (tVar 0) (tVar 3) "fate"))))))
end
def sp_Table___init__ (K : PySem.W.Frag) : Sp := spInit K
theorem pure_Table___init__ {P : Program} {K : PySem.W.Frag} {mg : Str → Option Value} {base : Heap} (T : Txt P K mg base) (vs : List V) (H : Hp) (Q : VK) (E : XK) (hl : vs.length = 4) (h : sp_Table___init__ K vs H Q E) : t_Table___init__ K E { nx := fun _ H' => Q .non H', rt := Q } (start N_Table___init__ vs) H := by
  obtain ⟨a, dx, x, y, z, r, p, s, rfl, ha, hx, hy, hz, hs, q⟩ := h
  show t_Table___init__ K E _ [some (.ref a), some x, some y, some z] H
  unfold t_Table___init__
  k_clsL
  refine ⟨rfl, x, r, rfl, hx, hs, fun e H1 F1 => ?_, fun v e e0 H1 F1 h1 => ?_⟩
  · unfold tabOf at q
    rw [e] at q
    k_clsL
    obtain ⟨n, hn⟩ := (hy.fr F1).any
    refine ⟨rfl, _, _, _, n, rfl, hn, ?_⟩
    k_clsL
    rw [hy.isInt]
    refine iteBN (fun h1 => ?_) (fun h1 => ?_)
    · k_clsL
      rw [h1] at q
      exact q _ F1
    · k_clsL
      rw [h1] at q
      have hz1 := hz.fr F1
      cases hz1 with
      | str z =>
        k_clsL
        refine r_notInTs (ns := ["loses", "wins"]) (T.q_STUCK _) ?_
        k_clsL
        refine iteDN (fun h2 => ?_) (fun h2 => ?_)
        · k_clsL
          have e2 : isFateD (.str z) = false := by
            show (decide (z = "loses") || decide (z = "wins")) = false
            simp only [List.mem_cons, List.not_mem_nil, or_false] at h2
            rw [decide_eq_false (fun z => h2 (.inl z)), decide_eq_false (fun z => h2 (.inr z))]
            rfl
          rw [e2] at q
          exact q _ F1
        · have e2 : isFateD (.str z) = true := by
            show (decide (z = "loses") || decide (z = "wins")) = true
            simp only [List.mem_cons, List.not_mem_nil, or_false] at h2
            rcases h2 with h2 | h2
            · rw [decide_eq_true h2]; rfl
            · rw [decide_eq_true h2, Bool.or_true]
          rw [e2] at q
          obtain ⟨i, rfl, hi⟩ := isIntD_int h1
          cases hy
          have ha1 := F1.ins0 ha
          k_clsL
          refine ⟨a, dx, [], rfl, ha1, by decide, ?_⟩
          rw [put1]
          k_clsL
          refine ⟨a, dx, _, rfl, upd_same, (show 1 < 1000 by decide), ?_⟩
          rw [upd_upd, put2]
          k_clsL
          refine ⟨a, dx, _, rfl, upd_same, (show 2 < 1000 by decide), ?_⟩
          rw [upd_upd, put3]
          have F2 : Fr [a] H (upd H1 a (.ins (He.ga K "Table") dx (tabFs x ⟨rowsOf r, i, z⟩))) := (F1.nil).trans (Fr.put ha1 (fun _ z => by cases z) (fun _ _ z => by cases z) (by simp))
          exact q _ F2 ⟨dx, x, upd_same, (badRows_tp hx e).fr F2⟩
      | _ =>
        k_clsL
        exact q _ F1
  · unfold tabOf at q
    rw [e] at q
    exact q e0 H1 F1 h1

noncomputable section
variable {P : Program} {w : World} {K : PySem.W.Frag} {mg : Str → Option Value} {base : Heap}
theorem der_Table___init__ (T : Txt P K mg base) {cdv : Value} {A : Around} {outer : List Env} {s : Shared} {H : Hp} {E : XK} (hr : Room 3 (A.deeper (envOfC "Table.__init__" (defScope s_Table___init__) s.heap.objs.size (ini "Table" K) cdv))) :
    PSs (cxOf (L2.CX P w) P w K mg base N_Table___init__ "Table.__init__" (defScope s_Table___init__) (ini "Table" K) cdv A outer s H E) (defBody s_Table___init__) (t_Table___init__ K E) := by
  have nd := (sc_Table___init__).nd
  have tk : Takes (cxOf (L2.CX P w) P w K mg base N_Table___init__ "Table.__init__" (defScope s_Table___init__) (ini "Table" K) cdv A outer s H E) (fun cls d _ H => E cls d H) := takes_of rfl rfl rfl rfl
  exact (pss_cons (ps_expr (pe_callO (ok_check_rows T) (hr.mono (by decide)) (by rfl) tk (pa_cons (pv 1) pa_nil)))
    (pss_cons (ps_if (pt_not (pt_val (pe_callO (ok_is_integer T) (hr.mono (by decide)) (by rfl) tk (pa_cons (pv 2) (pa_cons pe_int (pa_cons (pe_gint (by rfl) T.m_MOST_PASSES) pa_nil)))))) (pss_one (ps_raise0 rfl T.x_InvalidPasses hr tk)) pss_nil)
    (pss_cons (ps_if (PW.pt (pw_or (pt_not (pt_val (pe_callB call_isi (by rfl) T.f_isinstance (by decide +kernel) (pa_cons (pv 3) (pa_cons (pe_bltn (by rfl) T.f_str (by decide +kernel) rfl) pa_nil))))) (pw_or1 (pt_cmpR (op_notInA (units65 hr)) (pv 3) (pe_gref (by rfl) T.m_STUCK) (by rfl))))) (pss_one (ps_raise0 rfl T.x_InvalidStuck hr tk)) pss_nil)
    (pss_cons (ps_fldO T.l_Table_allowed (pv 0) (pv 1))
    (pss_cons (ps_fldO T.l_Table_spare (pv 0) (pv 2))
    (pss_one (ps_fldO T.l_Table_fate (pv 0) (pv 3))))))))
theorem ok_Table___init__ (T : Txt P K mg base) : OkI P w K mg base "Table" 4 ["self", "rows", "passes", "stuck"] (spL 4 (sp_Table___init__ K)) := OkI.mk (fn_mk (f := (ini "Table" K)) (T.d_Table___init__) sc_Table___init__ (fun _ _ _ _ _ _ us hl => match us, hl with | [_, _, _, _], _ => rfl) (fun _ _ _ _ _ _ hr => der_Table___init__ T hr) (pure_Table___init__ T)) T.k_Table T.m_Table
end
end

section
open PySem PySem.Spec L2 RZ StX
open PyProof.Rows (envOfC)
noncomputable section
variable {P : Program} {w : World} {K : PySem.W.Frag} {mg : Str → Option Value} {base : Heap}
abbrev N__law_built : List Str := ["_law_row"]
theorem sc__law_built : FnScope N__law_built ["_law_row"] (defScope s__law_built) := ⟨rfl, rfl, rfl, by decide +kernel, rfl, by decide +kernel, by decide +kernel⟩
def t__law_built (K : PySem.W.Frag) (E : XK) : TS :=
    (tRet (tMakeO K "Table" (spL 4 (sp_Table___init__ K)) (WE (fun cls d _ H => E cls d H)) (tCons (tOp (rIxV K) (tVar 0) (tC (.int 0))) (tCons (tOp (rIxV K) (tVar 0) (tC (.int 1))) (tCons (tOp (rIxV K) (tVar 0) (tC (.int 2))) tNil)))))
def b__law_built : MS :=
    (mRet (mMake (mCons (mOp ixD (mVar 0) (mC (.int 0))) (mCons (mOp ixD (mVar 0) (mC (.int 1))) (mCons (mOp ixD (mVar 0) (mC (.int 2))) mNil)))))
def m__law_built : MF := mFun 1 b__law_built
def sp__law_built (K : PySem.W.Frag) : Sp := spM (kt K) m__law_built
theorem ref__law_built (T : Txt P K mg base) {E : XK} : RS (kt K) [] (fun cls d _ H => E cls d H) (t__law_built K E) b__law_built := by
  unfold t__law_built b__law_built
  exact (rs_ret (RE.ro (re_make (ra_cons (re_op om_ix (RE.ro (re_var (i := 0))) (RE.ro re_int)) (ra_cons (re_op om_ix (RE.ro (re_var (i := 0))) (RE.ro re_int)) (ra_cons (re_op om_ix (RE.ro (re_var (i := 0))) (RE.ro re_int)) ra_nil))))))
theorem bf__law_built : Bf (kt K) 1 m__law_built (sp__law_built K) := bf_M
theorem pure__law_built (T : Txt P K mg base) (vs : List V) (H : Hp) (Q : VK) (E : XK) (hl : vs.length = 1) (h : sp__law_built K vs H Q E) : t__law_built K E { nx := fun _ H' => Q .non H', rt := Q } (start N__law_built vs) H := pure_M (ref__law_built T) (by decide) rfl hl (by decide) h
end
noncomputable section
@[simp] theorem v__law_built {t : Tab} (g : t.Good) : m__law_built [rowL t] = .ret (.tab t) := by
  simp [m__law_built, x_fun, b__law_built, startD, rowL, x_mkTab g]

end
noncomputable section
variable {P : Program} {w : World} {K : PySem.W.Frag} {mg : Str → Option Value} {base : Heap}
theorem der__law_built (T : Txt P K mg base) {cdv : Value} {A : Around} {outer : List Env} {s : Shared} {H : Hp} {E : XK} (hr : Room 5 (A.deeper (envOfC "_law_built" (defScope s__law_built) s.heap.objs.size (He.ga K "_law_built") cdv))) :
    PSs (cxOf (L2.CX P w) P w K mg base N__law_built "_law_built" (defScope s__law_built) (He.ga K "_law_built") cdv A outer s H E) (defBody s__law_built) (t__law_built K E) := by
  have nd := (sc__law_built).nd
  have tk : Takes (cxOf (L2.CX P w) P w K mg base N__law_built "_law_built" (defScope s__law_built) (He.ga K "_law_built") cdv A outer s H E) (fun cls d _ H => E cls d H) := takes_of rfl rfl rfl rfl
  exact (pss_one (ps_ret (pe_makeO (ok_Table___init__ T) (hr.mono (by decide)) (by rfl) tk (pa_cons (pe_ix (ix_V (units65 hr)) (pv 0) pe_int (fun _ _ => rfl)) (pa_cons (pe_ix (ix_V (units65 hr)) (pv 0) pe_int (fun _ _ => rfl)) (pa_cons (pe_ix (ix_V (units65 hr)) (pv 0) pe_int (fun _ _ => rfl)) pa_nil))))))
theorem ok__law_built (T : Txt P K mg base) : Ok P w K mg base "_law_built" 6 ["_law_row"] (spL 1 (sp__law_built K)) := ok_mk (T.d__law_built) T.m__law_built sc__law_built (fun _ _ _ _ _ _ us hl => match us, hl with | [_], _ => rfl) (fun _ _ _ _ _ _ hr => der__law_built T hr) (pure__law_built T)
end
end

section
open PySem PySem.Spec L2 RZ StX
open PyProof.Rows (envOfC)
noncomputable section
variable {P : Program} {w : World} {K : PySem.W.Frag} {mg : Str → Option Value} {base : Heap}
abbrev N_Table_most : List Str := ["self"]
theorem sc_Table_most : FnScope N_Table_most ["self"] (defScope s_Table_most) := ⟨rfl, rfl, rfl, by decide +kernel, rfl, by decide +kernel, by decide +kernel⟩
def t_Table_most (K : PySem.W.Frag) (E : XK) : TS :=
    (tRet (tOp (rI0 fun i j => .int (i - j)) (tCB (rLenA K) (tCons (tFldO K "Table" (tVar 0) "allowed") tNil)) (tC (.int 1))))
def b_Table_most : MS :=
    (mRet (mOp subD (mCB lenD (mCons (mFld (mVar 0) "allowed") mNil)) (mC (.int 1))))
def m_Table_most : MF := mFun 1 b_Table_most
def sp_Table_most (K : PySem.W.Frag) : Sp := spM (kt K) m_Table_most
theorem ref_Table_most (T : Txt P K mg base) {E : XK} : RS (kt K) [] (fun cls d _ H => E cls d H) (t_Table_most K E) b_Table_most := by
  unfold t_Table_most b_Table_most
  exact (rs_ret (RE.ro (re_op om_sub (RE.ro (re_cb cm_len (RA.w (ra_cons (re_fld (RE.ro (re_var (i := 0)))) ra_nil)))) (RE.ro re_int))))
theorem bf_Table_most : Bf (kt K) 1 m_Table_most (sp_Table_most K) := bf_M
theorem pure_Table_most (T : Txt P K mg base) (vs : List V) (H : Hp) (Q : VK) (E : XK) (hl : vs.length = 1) (h : sp_Table_most K vs H Q E) : t_Table_most K E { nx := fun _ H' => Q .non H', rt := Q } (start N_Table_most vs) H := pure_M (ref_Table_most T) (by decide) rfl hl (by decide) h
end
noncomputable section
@[simp] theorem v_Table_most {t : Tab} : m_Table_most [.tab t] = .ret (.int ((t.rows.length : Int) - 1)) := by
  simp [m_Table_most, x_fun, b_Table_most, startD, rowsT]
theorem v_most {t : Tab} (g : t.Good) : m_Table_most [.tab t] = .ret (.int (mostN t : Nat)) := by
  have := g.most
  rw [v_Table_most, show (t.rows.length : Int) - 1 = (mostN t : Nat) by omega]

end
noncomputable section
variable {P : Program} {w : World} {K : PySem.W.Frag} {mg : Str → Option Value} {base : Heap}
theorem der_Table_most (T : Txt P K mg base) {cdv : Value} {A : Around} {outer : List Env} {s : Shared} {H : Hp} {E : XK} (hr : Room 0 (A.deeper (envOfC "Table.most" (defScope s_Table_most) s.heap.objs.size (gt "Table" "most" K) cdv))) :
    PSs (cxOf (L2.CX P w) P w K mg base N_Table_most "Table.most" (defScope s_Table_most) (gt "Table" "most" K) cdv A outer s H E) (defBody s_Table_most) (t_Table_most K E) := by
  have nd := (sc_Table_most).nd
  have tk : Takes (cxOf (L2.CX P w) P w K mg base N_Table_most "Table.most" (defScope s_Table_most) (gt "Table" "most" K) cdv A outer s H E) (fun cls d _ H => E cls d H) := takes_of rfl rfl rfl rfl
  exact (pss_one (ps_ret (pe_op op_sub (pe_callB call_lenA (by rfl) T.f_len (by decide +kernel) (pa_cons (pe_fldO T.l_Table_allowed (pv 0)) pa_nil)) pe_int)))
theorem ok_Table_most (T : Txt P K mg base) : OkP P w K mg base "Table" "most" 1 (spL 1 (sp_Table_most K)) := OkP.mk (fn_mk (f := (gt "Table" "most" K)) (T.d_Table_most) sc_Table_most (fun _ _ _ _ _ _ us hl => match us, hl with | [_], _ => rfl) (fun _ _ _ _ _ _ hr => der_Table_most T hr) (pure_Table_most T)) T.p_Table_most T.c_Table
end
end

section
open PySem PySem.Spec L2 RZ StX
open PyProof.Rows (envOfC)
noncomputable section
variable {P : Program} {w : World} {K : PySem.W.Frag} {mg : Str → Option Value} {base : Heap}
abbrev N_least_pattern : List Str := ["rows", "begin", "period", "shorter", "start"]
theorem sc_least_pattern : FnScope N_least_pattern ["rows", "begin", "period"] (defScope s_least_pattern) := ⟨rfl, rfl, rfl, by decide +kernel, rfl, by decide +kernel, by decide +kernel⟩
def t_least_pattern (K : PySem.W.Frag) (E : XK) : TS :=
    (tSeq (tFor (iRng2 (tCons (tC (.int 1)) (tCons (tOp (rAddA K) (tVar 2) (tC (.int 1))) tNil))) (gName 3) (tIfS (tAnd (tTest (tOp (rEqA K) (tOp (rI (fun _ j => 0 < j) fun i j => .int (i % j)) (tVar 2) (tVar 3)) (tC (.int 0)))) (tTest (tOp (rEqA K) (tSl (rSl K) (tVar 0) (tPart (tVar 1)) (tPart (tOp (rI0 fun i j => .int (i - j)) (tOp (rAddA K) (tVar 1) (tVar 2)) (tVar 3)))) (tSl (rSl K) (tVar 0) (tPart (tOp (rAddA K) (tVar 1) (tVar 3))) (tPart (tOp (rAddA K) (tVar 1) (tVar 2))))))) (tSeq (tAsg (tVar 1) (gName 4))
    (tSeq (tWhile (tAnd (tTest (tOp (rI0 fun i j => .bl (decide (j < i))) (tVar 4) (tC (.int 0)))) (tTest (tOp (rEqA K) (tOp (rIxV K) (tVar 0) (tOp (rI0 fun i j => .int (i - j)) (tVar 4) (tC (.int 1)))) (tOp (rIxV K) (tVar 0) (tOp (rAddA K) (tOp (rI0 fun i j => .int (i - j)) (tVar 4) (tC (.int 1))) (tVar 3)))))) (tAug 4 (tC (.int 1)) (ipI fun i j => i - j)))
    (tRet (tTup (tCons (tVar 4) (tCons (tVar 3) (tCons (tCB (rTupleOf K) (tCons (tSl (rSl K) (tVar 0) tNoPart (tPart (tOp (rAddA K) (tVar 4) (tVar 3)))) tNil)) tNil))))))) tNext))
    (tRet (tTup (tCons (tVar 1) (tCons (tVar 2) (tCons (tCB (rTupleOf K) (tCons (tSl (rSl K) (tVar 0) tNoPart (tPart (tOp (rAddA K) (tVar 1) (tVar 2)))) tNil)) tNil))))))
def c1_least_pattern : MB :=
    (mAnd (mTest (mOp gtD (mVar 4) (mC (.int 0)))) (mTest (mOp eqD (mOp ixD (mVar 0) (mOp subD (mVar 4) (mC (.int 1)))) (mOp ixD (mVar 0) (mOp addD (mOp subD (mVar 4) (mC (.int 1))) (mVar 3))))))
def s1_least_pattern : MS :=
    (mAug 4 (mC (.int 1)) (fun i j => i - j))
def s2_least_pattern : MS :=
    (mIfS (mAnd (mTest (mOp eqD (mOp modD (mVar 2) (mVar 3)) (mC (.int 0)))) (mTest (mOp eqD (mSl (mVar 0) (mPart (mVar 1)) (mPart (mOp subD (mOp addD (mVar 1) (mVar 2)) (mVar 3)))) (mSl (mVar 0) (mPart (mOp addD (mVar 1) (mVar 3))) (mPart (mOp addD (mVar 1) (mVar 2))))))) (mThen (mAsg (mVar 1) 4)
    (mThen (mWhile 100000 c1_least_pattern s1_least_pattern)
    (mRet (mTup (mCons (mVar 4) (mCons (mVar 3) (mCons (mCB tupleD (mCons (mSl (mVar 0) mNo (mPart (mOp addD (mVar 4) (mVar 3)))) mNil)) mNil))))))) mNext)
def b_least_pattern : MS :=
    (mThen (mFor (mRng2 (mCons (mC (.int 1)) (mCons (mOp addD (mVar 2) (mC (.int 1))) mNil))) (mgName 3) s2_least_pattern)
    (mRet (mTup (mCons (mVar 1) (mCons (mVar 2) (mCons (mCB tupleD (mCons (mSl (mVar 0) mNo (mPart (mOp addD (mVar 1) (mVar 2)))) mNil)) mNil))))))
def m_least_pattern : MF := mFun 5 b_least_pattern
def sp_least_pattern (K : PySem.W.Frag) : Sp := spM (kt K) m_least_pattern
theorem ref_least_pattern (T : Txt P K mg base) {E : XK} : RS (kt K) [] (fun cls d _ H => E cls d H) (t_least_pattern K E) b_least_pattern := by
  unfold t_least_pattern b_least_pattern
  exact (rs_seq (rs_for (vs := [3]) (ri_rng2 (RA.w (ra_cons re_int (ra_cons (re_op om_add (RE.ro (re_var (i := 2))) (RE.ro re_int)) ra_nil)))) (rg_name (i := 3)) (rs_if (rt_and (rt_test (RE.ro (re_op om_eq (RE.ro (re_op om_mod (RE.ro (re_var (i := 2))) (RE.ro (re_var (i := 3))))) (RE.ro re_int)))) (rt_test (RE.ro (re_op om_eq (RE.ro (re_sl (RE.ro (re_var (i := 0))) (rp_some (RE.ro (re_var (i := 1)))) (rp_some (RE.ro (re_op om_sub (RE.ro (re_op om_add (RE.ro (re_var (i := 1))) (RE.ro (re_var (i := 2))))) (RE.ro (re_var (i := 3)))))))) (RE.ro (re_sl (RE.ro (re_var (i := 0))) (rp_some (RE.ro (re_op om_add (RE.ro (re_var (i := 1))) (RE.ro (re_var (i := 3)))))) (rp_some (RE.ro (re_op om_add (RE.ro (re_var (i := 1))) (RE.ro (re_var (i := 2)))))))))))) (rs_seq (rs_asg (i := 4) (rc_of (by decide) (re_var (i := 1))))
    (rs_seq (rs_while (rt_and (rt_test (RE.ro (re_op om_gt (RE.ro (re_var (i := 4))) (RE.ro re_int)))) (rt_test (RE.ro (re_op om_eq (RE.ro (re_op om_ix (RE.ro (re_var (i := 0))) (RE.ro (re_op om_sub (RE.ro (re_var (i := 4))) (RE.ro re_int))))) (RE.ro (re_op om_ix (RE.ro (re_var (i := 0))) (RE.ro (re_op om_add (RE.ro (re_op om_sub (RE.ro (re_var (i := 4))) (RE.ro re_int))) (RE.ro (re_var (i := 3))))))))))) (rs_aug (i := 4) (by decide) (RE.ro re_int)))
    (rs_ret (RE.ro (re_tup (ra_cons (re_var (i := 4)) (ra_cons (re_var (i := 3)) (ra_cons (re_cb cm_tuple (RA.w (ra_cons (re_sl (RE.ro (re_var (i := 0))) rp_none (rp_some (RE.ro (re_op om_add (RE.ro (re_var (i := 4))) (RE.ro (re_var (i := 3))))))) ra_nil))) ra_nil)))))))) rs_next))
    (rs_ret (RE.ro (re_tup (ra_cons (re_var (i := 1)) (ra_cons (re_var (i := 2)) (ra_cons (re_cb cm_tuple (RA.w (ra_cons (re_sl (RE.ro (re_var (i := 0))) rp_none (rp_some (RE.ro (re_op om_add (RE.ro (re_var (i := 1))) (RE.ro (re_var (i := 2))))))) ra_nil))) ra_nil)))))))
theorem bf_least_pattern : Bf (kt K) 3 m_least_pattern (sp_least_pattern K) := bf_M
theorem pure_least_pattern (T : Txt P K mg base) (vs : List V) (H : Hp) (Q : VK) (E : XK) (hl : vs.length = 3) (h : sp_least_pattern K vs H Q E) : t_least_pattern K E { nx := fun _ H' => Q .non H', rt := Q } (start N_least_pattern vs) H := pure_M (ref_least_pattern T) (by decide) rfl hl (by decide) h
end
noncomputable section
theorem wh_least {r : Nat → Dt} (c : Cmp r) {n b p s : Nat}  (hn : s + b ≤ n) : ∀ (x F : Nat), x ≤ b → x < F → whGo c1_least_pattern s1_least_pattern F [some (.lst (rowsL r n)), some (.int b), some (.int p), some (.int s), some (.int (x : Nat))] = .ret (.nx [some (.lst (rowsL r n)), some (.int b), some (.int p), some (.int s), some (.int (stOf r s x : Nat))])
  | x, 0, _, h => by omega
  | 0, F + 1, _, _ => by simp [whGo, c1_least_pattern, stOf]
  | x + 1, F + 1, hx, hF => by
    have e1 : L2.atI (rowsL r n) ((x : Nat) : Int) = some (r x) := by rw [atI_nat', rowsL_get (by omega)]
    have e2 : L2.atI (rowsL r n) ((x : Int) + (s : Int)) = some (r (x + s)) := by rw [show (x : Int) + (s : Int) = ((x + s : Nat) : Int) by omega, atI_nat', rowsL_get (by omega)]
    rw [whGo, stOf]
    simp [c1_least_pattern, e1, e2, c.eq1, show (0 : Int) < (x : Int) + 1 by omega]
    cases e : (r x).eqv (r (x + s)) with
    | true =>
      simp [s1_least_pattern]
      exact wh_least c hn x F (by omega) (by omega)
    | false => simp
theorem v_least_pattern {r : Nat → Dt} (c : Cmp r) {b p : Nat} (hp : 1 ≤ p) (hz : b + p < 99000) : m_least_pattern [.lst (rowsL r (b + p)), .int b, .int p] = .ret (lpD r b p) := by
  let rho : Nat → Ev := fun k => [some (.lst (rowsL r (b + p))), some (.int b), some (.int p), lastO k fun k => .int (1 + (k : Int)), none]
  have hf := shOf_find (r := r) (b := b) hp
  have L := for_ix (mg := mgName 3) (s := s2_least_pattern) (f := fun k => .int (1 + (k : Int))) rho (fun k => shOk r b p (1 + k)) (fun k => .rt (patT r (stOf r (1 + k) b) (1 + k))) (fun k ρ => ⟨by simp, by simp, by simp⟩) (m := p) (a := 0) (fun k _ hk => by
    have hk : k < p := by omega
    obtain ⟨m, hm⟩ : ∃ m, p % (1 + k) = m := ⟨_, rfl⟩
    have e1 : modD (.int (p : Int)) (.int (1 + (k : Int))) = some (.int (m : Nat)) := by
      rw [mod_pos (show (0 : Int) < 1 + (k : Int) by omega), ← hm, Int.natCast_emod]; rfl
    have e2 : slD (.lst (rowsL r (b + p))) (some (b : Int)) (some ((b : Int) + (p : Int) - (1 + (k : Int)))) = some (.lst ((List.range' b (p - (1 + k))).map r)) := by
      rw [show (b : Int) + (p : Int) - (1 + (k : Int)) = ((b + p - (1 + k) : Nat) : Int) by omega]
      show some (Dt.lst (cutD _ _ _)) = _
      rw [rows_cut (by omega) (by omega), show b + p - (1 + k) - b = p - (1 + k) by omega]
    have e3 : slD (.lst (rowsL r (b + p))) (some ((b : Int) + (1 + (k : Int)))) (some ((b : Int) + (p : Int))) = some (.lst ((List.range' (b + (1 + k)) (p - (1 + k))).map r)) := by
      rw [show (b : Int) + (1 + (k : Int)) = ((b + (1 + k) : Nat) : Int) by omega, show (b : Int) + (p : Int) = ((b + p : Nat) : Int) by omega]
      show some (Dt.lst (cutD _ _ _)) = _
      rw [rows_cut (by omega) (by omega), show b + p - (b + (1 + k)) = p - (1 + k) by omega]
    have e4 := wh_least c (n := b + p) (b := b) (p := p) (s := 1 + k) (by omega) b 100000 (Nat.le_refl _) (by omega)
    have e5 : slD (.lst (rowsL r (b + p))) none (some ((stOf r (1 + k) b : Nat) + (1 + (k : Int)))) = some (.lst (rowsL r (stOf r (1 + k) b + (1 + k)))) := by
      rw [show ((stOf r (1 + k) b : Nat) : Int) + (1 + (k : Int)) = ((stOf r (1 + k) b + (1 + k) : Nat) : Int) by omega, sl_toL, rows_to (by have := stOf_le (r := r) (s := 1 + k) b; omega)]
    simp at e4
    by_cases h1 : m = 0
    · cases h2 : sameR r b (b + (1 + k)) (p - (1 + k)) with
      | true =>
        simp [forOne, rho, s2_least_pattern, e1, h1, e2, e3, c.eqR, h2, shOk, hm]
        rw [e4]
        simp [e5, tupleD, patT]
      | false => simp [forOne, rho, s2_least_pattern, e1, h1, e2, e3, c.eqR, h2, shOk, hm]
    · simp [forOne, rho, s2_least_pattern, e1, h1, shOk, hm, show ¬ ((m : Int) = 0) by omega])
  have e6 : (List.range' 0 p).find? (fun k => shOk r b p (1 + k)) = some (shOf r b p - 1) := by
    obtain ⟨h1, h2, h3⟩ := shOf_le (r := r) (b := b) hp
    have q := List.find?_range'_eq_some.mp hf
    refine List.find?_range'_eq_some.mpr ⟨by rw [show 1 + (shOf r b p - 1) = shOf r b p by omega]; exact h3, by rw [List.mem_range'_1]; omega, fun j _ hj => q.2.2 (1 + j) (by omega) (by omega)⟩
  rw [e6] at L
  obtain ⟨h1, _, _⟩ := shOf_le (r := r) (b := b) hp
  simp only [show 1 + (shOf r b p - 1) = shOf r b p by omega] at L
  simp [m_least_pattern, x_fun, b_least_pattern, startD, rng_two (show -1000000 < (1 : Int) ∧ (1 : Int) < 1000000 ∧ -1000000 < (p : Int) + 1 ∧ (p : Int) + 1 < 1000000 by omega), rngD_range', show ((p : Int) + 1 - 1).toNat = p by omega]
  rw [show [some (Dt.lst (rowsL r (b + p))), some (.int b), some (.int p), none, none] = rho 0 from rfl, L]
  rfl

end
noncomputable section
variable {P : Program} {w : World} {K : PySem.W.Frag} {mg : Str → Option Value} {base : Heap}
theorem der_least_pattern (T : Txt P K mg base) {cdv : Value} {A : Around} {outer : List Env} {s : Shared} {H : Hp} {E : XK} (hr : Room 0 (A.deeper (envOfC "least_pattern" (defScope s_least_pattern) s.heap.objs.size (He.ga K "least_pattern") cdv))) :
    PSs (cxOf (L2.CX P w) P w K mg base N_least_pattern "least_pattern" (defScope s_least_pattern) (He.ga K "least_pattern") cdv A outer s H E) (defBody s_least_pattern) (t_least_pattern K E) := by
  have nd := (sc_least_pattern).nd
  have tk : Takes (cxOf (L2.CX P w) P w K mg base N_least_pattern "least_pattern" (defScope s_least_pattern) (He.ga K "least_pattern") cdv A outer s H E) (fun cls d _ H => E cls d H) := takes_of rfl rfl rfl rfl
  exact (pss_cons (ps_for (passes_of rfl) rfl (pi_range2 (by rfl) T.f_range (pa_cons pe_int (pa_cons (pe_op op_addA (pv 2) pe_int) pa_nil))) (pg_name (i := 3) nd rfl (by first | exact Or.inl rfl | exact Or.inr rfl)) (pss_one (ps_if (PW.pt (pw_and (pt_cmpR (op_eqA (units64 hr)) (pe_op op_mod (pv 2) (pv 3)) pe_int (nomark _)) (pw_and1 (pt_cmpR (op_eqA (units64 hr)) (pe_slice sl_any (pv 0) (po_some (pv 1)) (po_some (pe_op op_sub (pe_op op_addA (pv 1) (pv 2)) (pv 3)))) (pe_slice sl_any (pv 0) (po_some (pe_op op_addA (pv 1) (pv 3))) (po_some (pe_op op_addA (pv 1) (pv 2)))) (nomark _))))) (pss_cons (ps_set (i := 4) nd rfl (by first | exact Or.inl rfl | exact Or.inr rfl) (pv 1))
    (pss_cons (ps_while (passes_of rfl) (PW.pt (pw_and (pt_cmpR op_gt (pv 4) pe_int (nomark _)) (pw_and1 (pt_cmpR (op_eqA (units64 hr)) (pe_ix (ix_V (units65 hr)) (pv 0) (pe_op op_sub (pv 4) pe_int) (fun _ _ => rfl)) (pe_ix (ix_V (units65 hr)) (pv 0) (pe_op op_addA (pe_op op_sub (pv 4) pe_int) (pv 3)) (fun _ _ => rfl)) (nomark _))))) (pss_one (ps_aug (i := 4) nd rfl (by first | exact Or.inl rfl | exact Or.inr rfl) pe_int ip_sub)))
    (pss_one (ps_ret (pe_tup (pa_cons (pv 4) (pa_cons (pv 3) (pa_cons (pe_callTy call_tupleOf (by rfl) T.f_tuple (by decide +kernel) (pa_cons (pe_slice sl_any (pv 0) po_none (po_some (pe_op op_addA (pv 4) (pv 3)))) pa_nil)) pa_nil)))))))) pss_nil)))
    (pss_one (ps_ret (pe_tup (pa_cons (pv 1) (pa_cons (pv 2) (pa_cons (pe_callTy call_tupleOf (by rfl) T.f_tuple (by decide +kernel) (pa_cons (pe_slice sl_any (pv 0) po_none (po_some (pe_op op_addA (pv 1) (pv 2)))) pa_nil)) pa_nil)))))))
theorem ok_least_pattern (T : Txt P K mg base) : Ok P w K mg base "least_pattern" 1 ["rows", "begin", "period"] (spL 3 (sp_least_pattern K)) := ok_mk (T.d_least_pattern) T.m_least_pattern sc_least_pattern (fun _ _ _ _ _ _ us hl => match us, hl with | [_, _, _], _ => rfl) (fun _ _ _ _ _ _ hr => der_least_pattern T hr) (pure_least_pattern T)
end
end

section
open PySem PySem.Spec L2 RZ StX
open PyProof.Rows (envOfC)
noncomputable section
variable {P : Program} {w : World} {K : PySem.W.Frag} {mg : Str → Option Value} {base : Heap}
abbrev N_come_round : List Str := ["most", "step", "window", "rows", "known", "recent", "mark"]
theorem sc_come_round : FnScope N_come_round ["most", "step", "window"] (defScope s_come_round) := ⟨rfl, rfl, rfl, by decide +kernel, rfl, by decide +kernel, by decide +kernel⟩
def t_come_round (K : PySem.W.Frag)  (La1 : Lm) (La2 : Lm) (sp1 : Sp) (sp2 : Sp) (E : XK) : TS :=
    (tSeq (tPar 3 4 (tCons (tLst tNil) (tCons tDNewN tNil)))
    (tWhile (tB (tC (.bl true))) (tSeq (tAsg (tSl (rSl K) (tRevL K (tVar 3)) tNoPart (tPart (tVar 0))) (gName 5))
    (tSeq (tIfS (tTest (tOp (rI0 fun i j => .bl (decide (j ≤ i))) (tCB (rLenA K) (tCons (tVar 3) tNil)) (tVar 0))) (tSeq (tAsg (tLoc 2 La2.f La2.g La2.q 1 La2.v sp2 (tCons (tVar 5) tNil)) (gName 6))
    (tSeq (tIfS (tTest (tOp (rInN K) (tVar 6) (tVar 4))) (tRet (tCallS (spL 3 (sp_least_pattern K)) (WE (fun cls d _ H => E cls d H)) (tCons (tVar 3) (tCons (tOp (rIxN K) (tVar 4) (tVar 6)) (tCons (tOp (rI0 fun i j => .int (i - j)) (tCB (rLenA K) (tCons (tVar 3) tNil)) (tOp (rIxN K) (tVar 4) (tVar 6))) tNil))))) tNext)
    (tAsg (tCB (rLenA K) (tCons (tVar 3) tNil)) (gSub (tVar 4) (tVar 6) (rSetN K))))) tNext)
    (tDrop (tBM K "list" rAppend (tVar 3) (tCons (tLoc 1 La1.f La1.g La1.q 2 La1.v sp1 (tCons (tVar 5) (tCons (tCB (rLenA K) (tCons (tVar 3) tNil)) tNil))) tNil)))))))
def c1_come_round (La1 La2 : Lm) (m1 m2 : MF) : MB :=
    (mTest (mC (.bl true)))
def s1_come_round (La1 La2 : Lm) (m1 m2 : MF) : MS :=
    (mThen (mAsg (mSl (mRev (mVar 3)) mNo (mPart (mVar 0))) 5)
    (mThen (mIfS (mTest (mOp geD (mCB lenD (mCons (mVar 3) mNil)) (mVar 0))) (mThen (mAsg (mLoc La2 m2 2 1 (mCons (mVar 5) mNil)) 6)
    (mThen (mIfS (mTest (mOp inN (mVar 6) (mVar 4))) (mRet (mCallW 3 m_least_pattern (mCons (mVar 3) (mCons (mOp ixNk (mVar 4) (mVar 6)) (mCons (mOp subD (mCB lenD (mCons (mVar 3) mNil)) (mOp ixNk (mVar 4) (mVar 6))) mNil))))) mNext)
    (mSetN 4 (mVar 6) (mCB lenD (mCons (mVar 3) mNil))))) mNext)
    (mAppend 3 (mLoc La1 m1 1 2 (mCons (mVar 5) (mCons (mCB lenD (mCons (mVar 3) mNil)) mNil))))))
def b_come_round (La1 La2 : Lm) (m1 m2 : MF) : MS :=
    (mThen (mPar 3 4 (mLst mNil) (mC (.dN [])))
    (mWhile 100000 (c1_come_round La1 La2 m1 m2) (s1_come_round La1 La2 m1 m2)))
def m_come_round (La1 La2 : Lm) (m1 m2 : MF) : MF := mFun 7 (b_come_round La1 La2 m1 m2)
theorem ref_come_round (T : Txt P K mg base) {La1 La2 : Lm} {m1 m2 : MF} {sp1 sp2 : Sp} (hB1 : Bf (kt K) 3 m1 sp1) (hB2 : Bf (kt K) 2 m2 sp2) {E : XK} : RS (kt K) [3, 4] (fun cls d _ H => E cls d H) (t_come_round K La1 La2 sp1 sp2 E) (b_come_round La1 La2 m1 m2) := by
  unfold t_come_round b_come_round
  exact (rs_seq (rs_par (i := 3) (j := 4) (rc_lst (by decide) ra_nil) (rc_dN (by decide)) (by decide))
    (rs_while (rt_b (RE.ro re_bl)) (rs_seq (rs_asg (i := 5) (rc_of (by decide) (re_sl (RE.ro (re_rev ro_var)) rp_none (rp_some (RE.ro (re_var (i := 0)))))))
    (rs_seq (rs_if (rt_test (RE.ro (re_op om_ge (RE.ro (re_cb cm_len (ra_consW ro_var ra_nilW))) (RE.ro (re_var (i := 0)))))) (rs_seq (rs_asg (i := 6) (rc_of (by decide) (re_loc (n := 1) (by decide) hB2 (ra_cons (re_var (i := 5)) ra_nil))))
    (rs_seq (rs_if (rt_test (RE.ro (re_op om_inN (RE.ro (re_var (i := 6))) ro_var))) (rs_ret (RE.ro (re_callW bf_least_pattern (ra_consW ro_var (ra_consW (RE.ro (re_op om_ixN ro_var (RE.ro (re_var (i := 6))))) (ra_consW (RE.ro (re_op om_sub (RE.ro (re_cb cm_len (ra_consW ro_var ra_nilW))) (RE.ro (re_op om_ixN ro_var (RE.ro (re_var (i := 6))))))) ra_nilW)))))) rs_next)
    (rs_setN (i := 4) (by decide) (RE.ro (re_var (i := 6))) (re_cb cm_len (ra_consW ro_var ra_nilW))))) rs_next)
    (rs_append (i := 3) (by decide) (re_loc (n := 2) (by decide) hB1 (ra_cons (re_var (i := 5)) (ra_cons (re_cb cm_len (ra_consW ro_var ra_nilW)) ra_nil))))))))
theorem pure_come_round (T : Txt P K mg base) {La1 La2 : Lm} {m1 m2 : MF} {sp1 sp2 : Sp} (hB1 : Bf (kt K) 3 m1 sp1) (hB2 : Bf (kt K) 2 m2 sp2) (vs : List V) (H : Hp) (Q : VK) (E : XK) (hl : vs.length = 3) (h : spM (kt K) (m_come_round La1 La2 m1 m2) vs H Q E) : t_come_round K La1 La2 sp1 sp2 E { nx := fun _ H' => Q .non H', rt := Q } (start N_come_round vs) H := pure_M (ref_come_round T hB1 hB2) (by decide) rfl hl (by decide) h
end
noncomputable section
theorem v_come_round {m1 m2 : MF} {d : Dt} {most N j : Nat} {r kd : Nat → Dt} {key : Nat → NestedKey} (M : Made m1 m2 d most r kd key) (hm : 1 ≤ most) (h1 : ∀ k, k < N → fstK key most k = none) (h2 : fstK key most N = some j) (hN : N < 90000) {L1 L2 : Lm} :
    m_come_round L1 L2 m1 m2 [.int most, .fn L1.f L1.g L1.q L1.v d, .fn L2.f L2.g L2.q L2.v d] = .ret (lpD r j (N - j)) := by
  have hj := List.mem_of_find?_eq_some h2
  rw [List.mem_range'_1] at hj
  let rho : Nat → Ev := fun k => [some (.int most), some (.fn L1.f L1.g L1.q L1.v d), some (.fn L2.f L2.g L2.q L2.v d), some (.lst (rowsL r k)), some (.dN (kvK key most k)), lastO k (recD r most), markO kd most k]
  have hsl : ∀ k, slD (.lst (rowsL r k).reverse) none (some (most : Int)) = some (recD r most k) := fun k => sl_toL
  have L := wh_till (mt := c1_come_round L1 L2 m1 m2) (mb := s1_come_round L1 L2 m1 m2) rho (o := .rt (lpD r j (N - j))) (fun ρ => ⟨by simp, by simp, by simp⟩) (fun k => by simp [c1_come_round]) N 0 100000 (by omega) (fun k _ hk => by
    have hk : k < N := by omega
    by_cases hm2 : most ≤ k
    · have e1 := M.win k hm2
      have e2 := M.row k
      have e3 := inN_kv (most := most) (M.ky k hm2)
      rw [h1 k hk] at e3
      have e4 : putK (kvK key most k) (key k) (V.int (k : Nat)) = kvK key most (k + 1) := by
        rw [putK_new _ (by rw [kvK_val, h1 k hk]; rfl), kvK_succ hm2]
      simp [s1_come_round, rho, hsl, hm2, e1, e2, e3, M.ky k hm2, kvK_len, show k - most < 16777216 by omega, show k < 16777216 by omega, e4, rowsL_succ, markO, show ¬ k + 1 ≤ most by omega]
    · have e2 := M.row k
      simp [s1_come_round, rho, hsl, hm2, e2, show k < 16777216 by omega, rowsL_succ, markO, show k ≤ most by omega, show k + 1 ≤ most by omega, kvK_nil]) (by
    have hm2 : most ≤ N := by omega
    have e1 := M.win N hm2
    have e3 := inN_kv (most := most) (M.ky N hm2)
    have e5 := ixN_kv (most := most) (M.ky N hm2) h2
    rw [h2] at e3
    have e6 := v_least_pattern M.cmp (b := j) (p := N - j) (by omega) (by omega)
    rw [show j + (N - j) = N by omega] at e6
    have e7 : Dt.int ((N : Int) - (j : Int)) = .int ((N - j : Nat) : Int) := by congr 1; omega
    have e8 : flatQ (lpD r j (N - j)) = .ret (lpD r j (N - j)) := x_flatQ (patT_flat M.cmp)
    simp [s1_come_round, rho, hsl, hm2, e1, e3, e5, e7, e6, e8])
  simp [m_come_round, x_fun, b_come_round, startD]
  rw [show [some (Dt.int (most : Int)), some (.fn L1.f L1.g L1.q L1.v d), some (.fn L2.f L2.g L2.q L2.v d), some (.lst []), some (.dN []), none, none] = rho 0 by simp [rho, rowsL, kvK_nil, markO]; rfl, L]
  rfl

end
noncomputable section
variable {P : Program} {w : World} {K : PySem.W.Frag} {mg : Str → Option Value} {base : Heap}
theorem der_come_round (T : Txt P K mg base) {La1 La2 : Lm} {sp1 sp2 : Sp} {cdv : Value} {A : Around} {outer : List Env} {s : Shared} {H : Hp} {E : XK} (hr : Room 1 (A.deeper (envOfC "come_round" (defScope s_come_round) s.heap.objs.size (He.ga K "come_round") cdv))) (hL1 : LCall (cxOf (L2.CX P w) P w K mg base N_come_round "come_round" (defScope s_come_round) (He.ga K "come_round") cdv A outer s H E) La1.f La1.g La1.q 2 La1.v sp1) (hL2 : LCall (cxOf (L2.CX P w) P w K mg base N_come_round "come_round" (defScope s_come_round) (He.ga K "come_round") cdv A outer s H E) La2.f La2.g La2.q 1 La2.v sp2) :
    PSs (cxOf (L2.CX P w) P w K mg base N_come_round "come_round" (defScope s_come_round) (He.ga K "come_round") cdv A outer s H E) (defBody s_come_round) (t_come_round K La1 La2 sp1 sp2 E) := by
  have nd := (sc_come_round).nd
  have tk : Takes (cxOf (L2.CX P w) P w K mg base N_come_round "come_round" (defScope s_come_round) (He.ga K "come_round") cdv A outer s H E) (fun cls d _ H => E cls d H) := takes_of rfl rfl rfl rfl
  exact (pss_cons (ps_par (i := 3) (j := 4) rfl nd rfl rfl (by decide) rfl rfl (pa_cons (pe_lst pa_nil) (pa_cons pe_dnewN pa_nil)) rfl)
    (pss_one (ps_while (passes_of rfl) (pt_val pe_bl) (pss_cons (ps_set (i := 5) nd rfl (by first | exact Or.inl rfl | exact Or.inr rfl) (pe_slice sl_any (pe_revL (pv 3)) po_none (po_some (pv 0))))
    (pss_cons (ps_if (pt_cmpR op_ge (pe_callB call_lenA (by rfl) T.f_len (by decide +kernel) (pa_cons (pv 3) pa_nil)) (pv 0) (nomark _)) (pss_cons (ps_set (i := 6) nd rfl (by first | exact Or.inl rfl | exact Or.inr rfl) (pe_loc hL2 rfl (by first | exact Or.inl rfl | exact Or.inr (Or.inl rfl)) (pa_cons (pv 5) pa_nil)))
    (pss_cons (ps_if (pt_cmpR (op_inN (units65 hr)) (pv 6) (pv 4) (by rfl)) (pss_one (ps_ret (pe_callO (ok_least_pattern T) (hr.mono (by decide)) (by rfl) tk (pa_cons (pv 3) (pa_cons (pe_ix (ix_N (units65 hr)) (pv 4) (pv 6) (fun _ _ => rfl)) (pa_cons (pe_op op_sub (pe_callB call_lenA (by rfl) T.f_len (by decide +kernel) (pa_cons (pv 3) pa_nil)) (pe_ix (ix_N (units65 hr)) (pv 4) (pv 6) (fun _ _ => rfl))) pa_nil)))))) pss_nil)
    (pss_one (ps_asg (pe_callB call_lenA (by rfl) T.f_len (by decide +kernel) (pa_cons (pv 3) pa_nil)) (pg_sub (pv 4) (pv 6) (set_N (units65 hr))))))) pss_nil)
    (pss_one (ps_expr (pe_bm PySem.F.plainAttrs_list PySem.F.slot_list_append PySem.F.type_list_append mt_append (pv 3) (pa_cons (pe_loc hL1 rfl (by first | exact Or.inl rfl | exact Or.inr (Or.inl rfl)) (pa_cons (pv 5) (pa_cons (pe_callB call_lenA (by rfl) T.f_len (by decide +kernel) (pa_cons (pv 3) pa_nil)) pa_nil))) pa_nil)))))))))
end
end

section
open PySem PySem.Spec L2 RZ StX
open PyProof.Rows (envOfC)
noncomputable section
variable {P : Program} {w : World} {K : PySem.W.Frag} {mg : Str → Option Value} {base : Heap}
abbrev N_options : List Str := ["table", "size", "last", "left", "found", "take"]
theorem sc_options : FnScope N_options ["table", "size", "last", "left"] (defScope s_options) := ⟨rfl, rfl, rfl, by decide +kernel, rfl, by decide +kernel, by decide +kernel⟩
def t_options (K : PySem.W.Frag) (E : XK) : TS :=
    (tSeq (tAsg (tIf (tAnd (tTest (tOp (rI0 fun i j => .bl (decide (j < i))) (tVar 3) (tC (.int 0)))) (tTest (tOp (rI0 fun i j => .bl (decide (j < i))) (tVar 1) (tC (.int 0))))) (tLst (tCons (tTup (tCons (tC (.int 0)) (tCons (tVar 1) (tCons (tVar 2) (tCons (tOp (rI0 fun i j => .int (i - j)) (tVar 3) (tC (.int 1))) tNil))))) tNil)) (tLst tNil)) (gName 4))
    (tRet (tOp (rAddA K) (tVar 4) (tLc (iSeq K (tOp (rIxV K) (tFldO K "Table" (tVar 0) "allowed") (tVar 2))) (gName 5) (tTest (tOp (rI0 fun i j => .bl (decide (i ≤ j))) (tVar 5) (tVar 1))) (tTup (tCons (tVar 5) (tCons (tOp (rI0 fun i j => .int (i - j)) (tVar 1) (tVar 5)) (tCons (tVar 5) (tCons (tVar 3) tNil))))) [5]))))
def c1_options : MB :=
    (mTest (mOp leD (mVar 5) (mVar 1)))
def e1_options : ME :=
    (mTup (mCons (mVar 5) (mCons (mOp subD (mVar 1) (mVar 5)) (mCons (mVar 5) (mCons (mVar 3) mNil)))))
def b_options : MS :=
    (mThen (mAsg (mIf (mAnd (mTest (mOp gtD (mVar 3) (mC (.int 0)))) (mTest (mOp gtD (mVar 1) (mC (.int 0))))) (mLst (mCons (mTup (mCons (mC (.int 0)) (mCons (mVar 1) (mCons (mVar 2) (mCons (mOp subD (mVar 3) (mC (.int 1))) mNil))))) mNil)) (mLst mNil)) 4)
    (mRet (mOp addD (mVar 4) (mLc (mSeq (mOp ixD (mFld (mVar 0) "allowed") (mVar 2))) (mgName 5) c1_options e1_options [5]))))
def m_options : MF := mFun 6 b_options
def sp_options (K : PySem.W.Frag) : Sp := spM (kt K) m_options
theorem ref_options (T : Txt P K mg base) {E : XK} : RS (kt K) [] (fun cls d _ H => E cls d H) (t_options K E) b_options := by
  unfold t_options b_options
  exact (rs_seq (rs_asg (i := 4) (rc_of (by decide) (re_if (rt_and (rt_test (RE.ro (re_op om_gt (RE.ro (re_var (i := 3))) (RE.ro re_int)))) (rt_test (RE.ro (re_op om_gt (RE.ro (re_var (i := 1))) (RE.ro re_int))))) (re_lst (ra_cons (re_tup (ra_cons re_int (ra_cons (re_var (i := 1)) (ra_cons (re_var (i := 2)) (ra_cons (re_op om_sub (RE.ro (re_var (i := 3))) (RE.ro re_int)) ra_nil))))) ra_nil)) (re_lst ra_nil))))
    (rs_ret (RE.ro (re_op om_add (RE.ro (re_var (i := 4))) (RE.ro (re_lc (vs := [5]) (ws := [5]) (ri_seq (re_op om_ix (RE.ro (re_fld (RE.ro (re_var (i := 0))))) (RE.ro (re_var (i := 2))))) (rg_name (i := 5)) (fun _ h => h) (rt_test (RE.ro (re_op om_le (RE.ro (re_var (i := 5))) (RE.ro (re_var (i := 1)))))) (re_tup (ra_cons (re_var (i := 5)) (ra_cons (re_op om_sub (RE.ro (re_var (i := 1))) (RE.ro (re_var (i := 5)))) (ra_cons (re_var (i := 5)) (ra_cons (re_var (i := 3)) ra_nil)))))))))))
theorem bf_options : Bf (kt K) 4 m_options (sp_options K) := bf_M
theorem pure_options (T : Txt P K mg base) (vs : List V) (H : Hp) (Q : VK) (E : XK) (hl : vs.length = 4) (h : sp_options K vs H Q E) : t_options K E { nx := fun _ H' => Q .non H', rt := Q } (start N_options vs) H := pure_M (ref_options T) (by decide) rfl hl (by decide) h
end
noncomputable section
theorem v_options {t : Tab} (g : t.Good) {s l p : Nat} (h : l ≤ mostN t) : m_options [.tab t, .int s, .int l, .int p] = .ret (.lst ((optS t s l p).map optD)) := by
  have e := lc_fmap (mg := mgName 5) (t := c1_options) (a := e1_options) (f := fun x : Nat => .int (x : Nat)) (ρ := [some (.tab t), some (.int s), some (.int l), some (.int p), some (.lst ((passO s l p).map optD)), none]) (fun x => if x ≤ s then some (optD ⟨x, s - x, x, p⟩) else none) (xs := tk t l) (fun x _ => by
    by_cases e : x ≤ s
    · simp [lcOne, c1_options, e1_options, e, optD, show (x : Int) ≤ (s : Int) by omega, show (s : Int) - (x : Int) = ((s - x : Nat) : Int) by omega]
    · simp [lcOne, c1_options, e1_options, e, show ¬ (x : Int) ≤ (s : Int) by omega])
  rw [takes_map g] at e
  have e2 := ix_row g h
  have hl := tk_len g (l := l)
  have ho := opt_len g (s := s) (l := l) (p := p)
  unfold optS at ho ⊢
  rw [List.length_append] at ho
  by_cases hc : 0 < p ∧ 0 < s
  · have ep : passO s l p = [⟨0, s, l, p - 1⟩] := if_pos hc
    rw [ep] at e ho
    simp [optD] at e
    simp [m_options, x_fun, b_options, startD, hc.1, hc.2, e2, rowN, show (tk t l).length ≤ 16777216 by omega, wipeD, ep, optD, show (p : Int) - 1 = ((p - 1 : Nat) : Int) by omega, show ¬ (p : Int) ≤ 0 by omega]
    rw [e]
    simp at ho
    simp [optD, show 1 + (takeO t s l p).length ≤ 16777216 by omega]
  · have ep : passO s l p = [] := if_neg hc
    rw [ep] at e ho
    simp at e ho
    by_cases h1 : 0 < p
    · have h2 : s = 0 := by omega
      subst h2
      simp [m_options, x_fun, b_options, startD, h1, e2, rowN, show (tk t l).length ≤ 16777216 by omega, wipeD, ep]
      simp at e
      rw [e]
      simp [show (takeO t 0 l p).length ≤ 16777216 by omega]
    · have h2 : p = 0 := by omega
      subst h2
      simp [m_options, x_fun, b_options, startD, e2, rowN, show (tk t l).length ≤ 16777216 by omega, wipeD, ep]
      simp at e
      rw [e]
      simp [show (takeO t s l 0).length ≤ 16777216 by omega]

end
noncomputable section
variable {P : Program} {w : World} {K : PySem.W.Frag} {mg : Str → Option Value} {base : Heap}
theorem der_options (T : Txt P K mg base) {cdv : Value} {A : Around} {outer : List Env} {s : Shared} {H : Hp} {E : XK} (hr : Room 0 (A.deeper (envOfC "options" (defScope s_options) s.heap.objs.size (He.ga K "options") cdv))) :
    PSs (cxOf (L2.CX P w) P w K mg base N_options "options" (defScope s_options) (He.ga K "options") cdv A outer s H E) (defBody s_options) (t_options K E) := by
  have nd := (sc_options).nd
  have tk : Takes (cxOf (L2.CX P w) P w K mg base N_options "options" (defScope s_options) (He.ga K "options") cdv A outer s H E) (fun cls d _ H => E cls d H) := takes_of rfl rfl rfl rfl
  exact (pss_cons (ps_set (i := 4) nd rfl (by first | exact Or.inl rfl | exact Or.inr rfl) (pe_ifExp (PW.pt (pw_and (pt_cmpR op_gt (pv 3) pe_int (nomark _)) (pw_and1 (pt_cmpR op_gt (pv 1) pe_int (nomark _))))) (pe_lst (pa_cons (pe_tup (pa_cons (pe_gint (by rfl) T.m_PASS) (pa_cons (pv 1) (pa_cons (pv 2) (pa_cons (pe_op op_sub (pv 3) pe_int) pa_nil))))) pa_nil)) (pe_lst pa_nil)))
    (pss_one (ps_ret (pe_op op_addA (pv 4) (pe_lc (own := [("take", 5)]) (g := (gName 5)) (tt := (tTest (tOp (rI0 fun i j => .bl (decide (i ≤ j))) (tVar 5) (tVar 1)))) (te := (tTup (tCons (tVar 5) (tCons (tOp (rI0 fun i j => .int (i - j)) (tVar 1) (tVar 5)) (tCons (tVar 5) (tCons (tVar 3) tNil)))))) rfl nd (pi_seq (pe_ix (ix_V (units65 hr)) (pe_fldO T.l_Table_allowed (pv 0)) (pv 2) (fun _ _ => rfl))) (blkOk_by (own := [("take", 5)]) (N := N_options) (sc := (defScope s_options)) (by decide +kernel)) (fun _ _ _ _ _ => (pg_name (i := 5) nd rfl (by first | exact Or.inl rfl | exact Or.inr rfl))) (fun _ _ _ _ _ => (pts_one (pt_cmpR op_le (pv 5) (pv 1) (nomark _)))) (fun _ _ _ _ _ => (pe_tup (pa_cons (pv 5) (pa_cons (pe_op op_sub (pv 1) (pv 5)) (pa_cons (pv 5) (pa_cons (pv 3) pa_nil)))))))))))
theorem ok_options (T : Txt P K mg base) : Ok P w K mg base "options" 1 ["table", "size", "last", "left"] (spL 4 (sp_options K)) := ok_mk (T.d_options) T.m_options sc_options (fun _ _ _ _ _ _ us hl => match us, hl with | [_, _, _, _], _ => rfl) (fun _ _ _ _ _ _ hr => der_options T hr) (pure_options T)
end
end

section
open PySem PySem.Spec L2 RZ StX
open PyProof.Rows (envOfC)
noncomputable section
variable {P : Program} {w : World} {K : PySem.W.Frag} {mg : Str → Option Value} {base : Heap}
abbrev N_is_won_by : List Str := ["table", "recent", "line", "stand", "size", "last", "left", "some", "move", "rest", "take", "spare", "lower"]
theorem sc_is_won_by : FnScope N_is_won_by ["table", "recent", "line", "stand"] (defScope s_is_won_by) := ⟨rfl, rfl, rfl, by decide +kernel, rfl, by decide +kernel, by decide +kernel⟩
def t_is_won_by (K : PySem.W.Frag) (E : XK) : TS :=
    (tSeq (tAsg (tVar 3) (gTup K 3 (gCons (gName 4) (gCons (gName 5) (gCons (gName 6) gNil)))))
    (tSeq (tAsg (tCallS (spL 4 (sp_options K)) (WE (fun cls d _ H => E cls d H)) (tCons (tVar 0) (tCons (tVar 4) (tCons (tVar 5) (tCons (tVar 6) tNil))))) (gName 7))
    (tSeq (tIfS (tTest (tOp (rEqA K) (tVar 7) (tLst tNil))) (tRet (tOp (rEqA K) (tFldO K "Table" (tVar 0) "fate") (tC (.str "wins")))) tNext)
    (tSeq (tFor (iSeq K (tVar 7)) (gTup K 4 (gCons (gName 8) (gCons (gName 9) (gCons (gName 10) (gCons (gName 11) gNil))))) (tSeq (tAsg (tIf (tTest (tOp (rEqA K) (tVar 8) (tC (.int 0)))) (tOp (rIxV K) (tVar 2) (tVar 11)) (tOp (rIxV K) (tOp (rIxV K) (tOp (rIxV K) (tVar 1) (tOp (rI0 fun i j => .int (i - j)) (tVar 8) (tC (.int 1)))) (tVar 10)) (tVar 11))) (gName 12))
    (tIfS (tNot (tB (tVar 12))) (tRet (tC (.bl true))) tNext)))
    (tRet (tC (.bl false)))))))
def s1_is_won_by : MS :=
    (mThen (mAsg (mIf (mTest (mOp eqD (mVar 8) (mC (.int 0)))) (mOp ixD (mVar 2) (mVar 11)) (mOp ixD (mOp ixD (mOp ixD (mVar 1) (mOp subD (mVar 8) (mC (.int 1)))) (mVar 10)) (mVar 11))) 12)
    (mIfS (mNot (mTest (mVar 12))) (mRet (mC (.bl true))) mNext))
def b_is_won_by : MS :=
    (mThen (mAsgG (mVar 3) (mgTup 3 (mgCons (mgName 4) (mgCons (mgName 5) (mgCons (mgName 6) mgNil)))))
    (mThen (mAsg (mCall 4 m_options (mCons (mVar 0) (mCons (mVar 4) (mCons (mVar 5) (mCons (mVar 6) mNil))))) 7)
    (mThen (mIfS (mTest (mOp eqD (mVar 7) (mLst mNil))) (mRet (mOp eqD (mFld (mVar 0) "fate") (mC (.str "wins")))) mNext)
    (mThen (mFor (mSeq (mVar 7)) (mgTup 4 (mgCons (mgName 8) (mgCons (mgName 9) (mgCons (mgName 10) (mgCons (mgName 11) mgNil))))) s1_is_won_by)
    (mRet (mC (.bl false)))))))
def m_is_won_by : MF := mFun 13 b_is_won_by
def sp_is_won_by (K : PySem.W.Frag) : Sp := spM (kt K) m_is_won_by
theorem ref_is_won_by (T : Txt P K mg base) {E : XK} : RS (kt K) [] (fun cls d _ H => E cls d H) (t_is_won_by K E) b_is_won_by := by
  unfold t_is_won_by b_is_won_by
  exact (rs_seq (rs_asgG (vs := [4, 5, 6]) (re_var (i := 3)) (rg_tup (rg_cons (rg_name (i := 4)) (rg_cons (rg_name (i := 5)) (rg_cons (rg_name (i := 6)) rg_nil)))))
    (rs_seq (rs_asg (i := 7) (rc_of (by decide) (re_call bf_options (ra_cons (re_var (i := 0)) (ra_cons (re_var (i := 4)) (ra_cons (re_var (i := 5)) (ra_cons (re_var (i := 6)) ra_nil)))))))
    (rs_seq (rs_if (rt_test (RE.ro (re_op om_eq (RE.ro (re_var (i := 7))) (RE.ro (re_lst ra_nil))))) (rs_ret (RE.ro (re_op om_eq (RE.ro (re_fld (RE.ro (re_var (i := 0))))) (RE.ro re_str)))) rs_next)
    (rs_seq (rs_for (vs := [8, 9, 10, 11]) (ri_seq (re_var (i := 7))) (rg_tup (rg_cons (rg_name (i := 8)) (rg_cons (rg_name (i := 9)) (rg_cons (rg_name (i := 10)) (rg_cons (rg_name (i := 11)) rg_nil))))) (rs_seq (rs_asg (i := 12) (rc_of (by decide) (re_if (rt_test (RE.ro (re_op om_eq (RE.ro (re_var (i := 8))) (RE.ro re_int)))) (re_op om_ix (RE.ro (re_var (i := 2))) (RE.ro (re_var (i := 11)))) (re_op om_ix (RE.ro (re_op om_ix (RE.ro (re_op om_ix (RE.ro (re_var (i := 1))) (RE.ro (re_op om_sub (RE.ro (re_var (i := 8))) (RE.ro re_int))))) (RE.ro (re_var (i := 10))))) (RE.ro (re_var (i := 11)))))))
    (rs_if (rt_not (rt_b (RE.ro (re_var (i := 12))))) (rs_ret (RE.ro re_bl)) rs_next)))
    (rs_ret (RE.ro re_bl))))))
theorem bf_is_won_by : Bf (kt K) 4 m_is_won_by (sp_is_won_by K) := bf_M
theorem pure_is_won_by (T : Txt P K mg base) (vs : List V) (H : Hp) (Q : VK) (E : XK) (hl : vs.length = 4) (h : sp_is_won_by K vs H Q E) : t_is_won_by K E { nx := fun _ H' => Q .non H', rt := Q } (start N_is_won_by vs) H := pure_M (ref_is_won_by T) (by decide) rfl hl (by decide) h
end
noncomputable section
theorem v_is_won_by {t : Tab} (g : t.Good) {k l p : Nat} (hl : l ≤ mostN t) (hp : p ≤ spN t) : m_is_won_by [.tab t, recD (rowDt t) (mostN t) k, boolsL (W t k l) p, .tup [.int k, .int l, .int p]] = .ret (.bl (W t k l p)) := by
  have gm := g.most
  let rho : Option Opt → Ev := fun o => [some (.tab t), some (recD (rowDt t) (mostN t) k), some (boolsL (W t k l) p), some (.tup [.int k, .int l, .int p]), some (.int k), some (.int l), some (.int p), some (.lst ((optS t k l p).map optD)), opt1 o fun o => .int o.m, opt1 o fun o => .int o.s, opt1 o fun o => .int o.l, opt1 o fun o => .int o.p, opt1 o fun o => .bl (W t o.s o.l o.p)]
  have L := for_any (mg := mgTup 4 (mgCons (mgName 8) (mgCons (mgName 9) (mgCons (mgName 10) (mgCons (mgName 11) mgNil))))) (s := s1_is_won_by) (f := optD) rho (fun o => !W t o.s o.l o.p) (R := .rt (.bl true)) (fun ρ => ⟨by simp, by simp, by simp⟩) (xs := optS t k l p) (o := none) (fun o ho o' => by
    rcases optS_mem ho with ⟨h1, h2, h3, h4⟩ | ⟨h1, h2, h3, h4⟩
    · have e1 := boolsL_at (f := W t k l) (n := p) (p := p - 1) (by omega)
      rw [h4]
      cases e : W t k l (p - 1) <;> rw [e] at e1 <;> simp [forOne, optD, rho, s1_is_won_by, e1, e]
    · obtain ⟨m, os, ol, op⟩ := o
      simp at h1 h2 h3
      have hx := tk_most g h1
      have h4 : os = k - m ∧ ol = m ∧ op = p := by simpa using h4
      obtain ⟨rfl, rfl, rfl⟩ := h4
      have e1 := rec_at (r := rowDt t) (most := mostN t) (k := k) (i := ol - 1) (by omega) (by omega)
      rw [show k - 1 - (ol - 1) = k - ol by omega] at e1
      have e2 := rowDt_at (k := k - ol) hx.2
      have e3 := bools_at (f := W t (k - ol) ol) (n := spN t + 1) (p := op) (by omega)
      rw [show ((ol - 1 : Nat) : Int) = (ol : Int) - 1 by omega] at e1
      have ne : ¬ ol = 0 := by omega
      cases e : W t (k - ol) ol op <;> rw [e] at e3 <;> simp [forOne, optD, rho, s1_is_won_by, e1, e2, e3, e, ne])
  have e0 := v_options g (s := k) (p := p) hl
  have e1 := opt_eqn (l := optS t k l p)
  have e2 := fate_eq g
  rw [W_eq]
  by_cases hc : optS t k l p = []
  · rw [hc] at e0 e1
    simp at e1
    simp [m_is_won_by, x_fun, b_is_won_by, startD, e0, hc, e1, e2]
  · rw [if_neg hc]
    simp [m_is_won_by, x_fun, b_is_won_by, startD, e0, hc, e1]
    rw [show [some (Dt.tab t), some (recD (rowDt t) (mostN t) k), some (boolsL (W t k l) p), some (.tup [.int k, .int l, .int p]), some (.int k), some (.int l), some (.int p), some (.lst ((optS t k l p).map optD)), none, none, none, none, none] = rho none from rfl]
    cases e : (optS t k l p).any fun o => !W t o.s o.l o.p with
    | true =>
      rw [L.1 e]
      rfl
    | false =>
      obtain ⟨o', h⟩ := L.2 e
      rw [h]
      rfl

end
noncomputable section
variable {P : Program} {w : World} {K : PySem.W.Frag} {mg : Str → Option Value} {base : Heap}
theorem der_is_won_by (T : Txt P K mg base) {cdv : Value} {A : Around} {outer : List Env} {s : Shared} {H : Hp} {E : XK} (hr : Room 1 (A.deeper (envOfC "is_won_by" (defScope s_is_won_by) s.heap.objs.size (He.ga K "is_won_by") cdv))) :
    PSs (cxOf (L2.CX P w) P w K mg base N_is_won_by "is_won_by" (defScope s_is_won_by) (He.ga K "is_won_by") cdv A outer s H E) (defBody s_is_won_by) (t_is_won_by K E) := by
  have nd := (sc_is_won_by).nd
  have tk : Takes (cxOf (L2.CX P w) P w K mg base N_is_won_by "is_won_by" (defScope s_is_won_by) (He.ga K "is_won_by") cdv A outer s H E) (fun cls d _ H => E cls d H) := takes_of rfl rfl rfl rfl
  exact (pss_cons (ps_asg (pv 3) (pg_tup rfl (pgs_cons (pg_name (i := 4) nd rfl (by first | exact Or.inl rfl | exact Or.inr rfl)) (pgs_cons (pg_name (i := 5) nd rfl (by first | exact Or.inl rfl | exact Or.inr rfl)) (pgs_cons (pg_name (i := 6) nd rfl (by first | exact Or.inl rfl | exact Or.inr rfl)) pgs_nil)))))
    (pss_cons (ps_set (i := 7) nd rfl (by first | exact Or.inl rfl | exact Or.inr rfl) (pe_callO (ok_options T) (hr.mono (by decide)) (by rfl) tk (pa_cons (pv 0) (pa_cons (pv 4) (pa_cons (pv 5) (pa_cons (pv 6) pa_nil))))))
    (pss_cons (ps_if (pt_cmpR (op_eqA (units64 hr)) (pv 7) (pe_lst pa_nil) (nomark _)) (pss_one (ps_ret (pe_cmpR (op_eqA (units64 hr)) (pe_fldO T.l_Table_fate (pv 0)) pe_str (nomark _)))) pss_nil)
    (pss_cons (ps_for (passes_of rfl) rfl (pi_seq (pv 7)) (pg_tup rfl (pgs_cons (pg_name (i := 8) nd rfl (by first | exact Or.inl rfl | exact Or.inr rfl)) (pgs_cons (pg_name (i := 9) nd rfl (by first | exact Or.inl rfl | exact Or.inr rfl)) (pgs_cons (pg_name (i := 10) nd rfl (by first | exact Or.inl rfl | exact Or.inr rfl)) (pgs_cons (pg_name (i := 11) nd rfl (by first | exact Or.inl rfl | exact Or.inr rfl)) pgs_nil))))) (pss_cons (ps_set (i := 12) nd rfl (by first | exact Or.inl rfl | exact Or.inr rfl) (pe_ifExp (pt_cmpR (op_eqA (units64 hr)) (pv 8) (pe_gint (by rfl) T.m_PASS) (nomark _)) (pe_ix (ix_V (units65 hr)) (pv 2) (pv 11) (fun _ _ => rfl)) (pe_ix (ix_V (units65 hr)) (pe_ix (ix_V (units65 hr)) (pe_ix (ix_V (units65 hr)) (pv 1) (pe_op op_sub (pv 8) pe_int) (fun _ _ => rfl)) (pv 10) (fun _ _ => rfl)) (pv 11) (fun _ _ => rfl))))
    (pss_one (ps_if (pt_not (pt_val (pv 12))) (pss_one (ps_ret pe_bl)) pss_nil))))
    (pss_one (ps_ret pe_bl))))))
theorem ok_is_won_by (T : Txt P K mg base) : Ok P w K mg base "is_won_by" 2 ["table", "recent", "line", "stand"] (spL 4 (sp_is_won_by K)) := ok_mk (T.d_is_won_by) T.m_is_won_by sc_is_won_by (fun _ _ _ _ _ _ us hl => match us, hl with | [_, _, _, _], _ => rfl) (fun _ _ _ _ _ _ hr => der_is_won_by T hr) (pure_is_won_by T)
end
end

section
open PySem PySem.Spec L2 RZ StX
open PyProof.Rows (envOfC)
noncomputable section
variable {P : Program} {w : World} {K : PySem.W.Frag} {mg : Str → Option Value} {base : Heap}
abbrev N_next_row : List Str := ["table", "recent", "size", "found", "last", "line", "left"]
theorem sc_next_row : FnScope N_next_row ["table", "recent", "size"] (defScope s_next_row) := ⟨rfl, rfl, rfl, by decide +kernel, rfl, by decide +kernel, by decide +kernel⟩
def t_next_row (K : PySem.W.Frag) (E : XK) : TS :=
    (tSeq (tAsg (tLst tNil) (gName 3))
    (tSeq (tFor (iRng1 (tCons (tOp (rAddA K) (tPropO K "Table" (spL 1 (sp_Table_most K)) (tVar 0)) (tC (.int 1))) tNil)) (gName 4) (tSeq (tAsg (tLst tNil) (gName 5))
    (tSeq (tFor (iRng1 (tCons (tOp (rAddA K) (tFldO K "Table" (tVar 0) "spare") (tC (.int 1))) tNil)) (gName 6) (tDrop (tBM K "list" rAppend (tVar 5) (tCons (tCallS (spL 4 (sp_is_won_by K)) (WE (fun cls d _ H => E cls d H)) (tCons (tVar 0) (tCons (tVar 1) (tCons (tVar 5) (tCons (tTup (tCons (tVar 2) (tCons (tVar 4) (tCons (tVar 6) tNil)))) tNil))))) tNil))))
    (tDrop (tBM K "list" rAppend (tVar 3) (tCons (tCB (rTupleOf K) (tCons (tVar 5) tNil)) tNil))))))
    (tRet (tCB (rTupleOf K) (tCons (tVar 3) tNil)))))
def s1_next_row : MS :=
    (mAppend 5 (mCallW 4 m_is_won_by (mCons (mVar 0) (mCons (mVar 1) (mCons (mVar 5) (mCons (mTup (mCons (mVar 2) (mCons (mVar 4) (mCons (mVar 6) mNil)))) mNil))))))
def s2_next_row : MS :=
    (mThen (mAsg (mLst mNil) 5)
    (mThen (mFor (mRng1 (mCons (mOp addD (mFld (mVar 0) "spare") (mC (.int 1))) mNil)) (mgName 6) s1_next_row)
    (mAppend 3 (mCB tupleD (mCons (mVar 5) mNil)))))
def b_next_row : MS :=
    (mThen (mAsg (mLst mNil) 3)
    (mThen (mFor (mRng1 (mCons (mOp addD (mProp m_Table_most (mVar 0)) (mC (.int 1))) mNil)) (mgName 4) s2_next_row)
    (mRet (mCB tupleD (mCons (mVar 3) mNil)))))
def m_next_row : MF := mFun 7 b_next_row
def sp_next_row (K : PySem.W.Frag) : Sp := spM (kt K) m_next_row
theorem ref_next_row (T : Txt P K mg base) {E : XK} : RS (kt K) [3, 5] (fun cls d _ H => E cls d H) (t_next_row K E) b_next_row := by
  unfold t_next_row b_next_row
  exact (rs_seq (rs_asg (i := 3) (rc_lst (by decide) ra_nil))
    (rs_seq (rs_for (vs := [4]) (ri_rng1 (RA.w (ra_cons (re_op om_add (RE.ro (re_prop bf_Table_most (re_var (i := 0)))) (RE.ro re_int)) ra_nil))) (rg_name (i := 4)) (rs_seq (rs_asg (i := 5) (rc_lst (by decide) ra_nil))
    (rs_seq (rs_for (vs := [6]) (ri_rng1 (RA.w (ra_cons (re_op om_add (RE.ro (re_fld (RE.ro (re_var (i := 0))))) (RE.ro re_int)) ra_nil))) (rg_name (i := 6)) (rs_append (i := 5) (by decide) (re_callW bf_is_won_by (ra_consW (RE.ro (re_var (i := 0))) (ra_consW (RE.ro (re_var (i := 1))) (ra_consW ro_var (ra_consW (RE.ro (re_tup (ra_cons (re_var (i := 2)) (ra_cons (re_var (i := 4)) (ra_cons (re_var (i := 6)) ra_nil))))) ra_nilW)))))))
    (rs_append (i := 3) (by decide) (re_cb cm_tuple (ra_consW ro_var ra_nilW))))))
    (rs_ret (RE.ro (re_cb cm_tuple (ra_consW ro_var ra_nilW))))))
theorem bf_next_row : Bf (kt K) 3 m_next_row (sp_next_row K) := bf_M
theorem pure_next_row (T : Txt P K mg base) (vs : List V) (H : Hp) (Q : VK) (E : XK) (hl : vs.length = 3) (h : sp_next_row K vs H Q E) : t_next_row K E { nx := fun _ H' => Q .non H', rt := Q } (start N_next_row vs) H := pure_M (ref_next_row T) (by decide) rfl hl (by decide) h
end
noncomputable section
theorem v_next_row {t : Tab} (g : t.Good) {k : Nat} : m_next_row [.tab t, recD (rowDt t) (mostN t) k, .int k] = .ret (rowDt t k) := by
  have gm := g.most
  have gs := g.spa
  have e1 := rngA_n1 (n := mostN t) (by omega)
  have e2 := rngA_n1 (n := spN t) (by omega)
  have hm : m_Table_most [.tab t] = .ret (.int (mostN t : Nat)) := v_most g
  let cell : Nat → Dt := fun l => boolsD (W t k l) (spN t + 1)
  let rho : List Nat → Ev := fun ys => [some (.tab t), some (recD (rowDt t) (mostN t) k), some (.int k), some (.lst (ys.map cell)), lastL ys fun x => .int (x : Nat), lastL ys fun l => boolsL (W t k l) (spN t + 1), lastL ys fun _ => .int (spN t : Nat)]
  have L := for_all (mg := mgName 4) (s := s2_next_row) (f := fun x : Nat => .int (x : Nat)) rho (xs := List.range (mostN t + 1)) [] (fun ys l zs e _ => by
    obtain ⟨hl, rfl⟩ := range_split ((List.nil_append _).symm.trans e)
    let rh2 : List Nat → Ev := fun zs => [some (.tab t), some (recD (rowDt t) (mostN t) k), some (.int k), some (.lst ((List.range l).map cell)), some (.int l), some (.lst (zs.map fun p => .bl (W t k l p))), if zs = [] then lastL (List.range l) fun _ => .int (spN t : Nat) else lastL zs fun x => .int (x : Nat)]
    have L2 := for_all (mg := mgName 6) (s := s1_next_row) (f := fun x : Nat => .int (x : Nat)) rh2 (xs := List.range (spN t + 1)) [] (fun zs p us e _ => by
      obtain ⟨hp, rfl⟩ := range_split ((List.nil_append _).symm.trans e)
      have e3 := v_is_won_by g (k := k) (l := l) (p := p) (by omega) (by omega)
      unfold boolsL at e3
      simp [forOne, rh2, s1_next_row, e3, show p < 16777216 by omega])
    simp only [List.nil_append] at L2
    simp [forOne, rho, s2_next_row, g.spa.2, e2]
    rw [show [some (Dt.tab t), some (recD (rowDt t) (mostN t) k), some (.int k), some (.lst ((List.range l).map cell)), some (.int l), some (.lst []), lastL (List.range l) fun _ => .int (spN t : Nat)] = rh2 [] from rfl, L2]
    simp [rh2, show l < 16777216 by omega]
    simp [List.range_succ, cell, boolsD, boolsL])
  simp only [List.nil_append] at L
  simp [m_next_row, x_fun, b_next_row, startD, hm, e1, -v_Table_most]
  rw [show [some (Dt.tab t), some (recD (rowDt t) (mostN t) k), some (.int k), some (.lst []), none, none, none] = rho [] from rfl, L]
  simp [rho, rowDt, cell]

end
noncomputable section
variable {P : Program} {w : World} {K : PySem.W.Frag} {mg : Str → Option Value} {base : Heap}
theorem der_next_row (T : Txt P K mg base) {cdv : Value} {A : Around} {outer : List Env} {s : Shared} {H : Hp} {E : XK} (hr : Room 2 (A.deeper (envOfC "next_row" (defScope s_next_row) s.heap.objs.size (He.ga K "next_row") cdv))) :
    PSs (cxOf (L2.CX P w) P w K mg base N_next_row "next_row" (defScope s_next_row) (He.ga K "next_row") cdv A outer s H E) (defBody s_next_row) (t_next_row K E) := by
  have nd := (sc_next_row).nd
  have tk : Takes (cxOf (L2.CX P w) P w K mg base N_next_row "next_row" (defScope s_next_row) (He.ga K "next_row") cdv A outer s H E) (fun cls d _ H => E cls d H) := takes_of rfl rfl rfl rfl
  exact (pss_cons (ps_set (i := 3) nd rfl (by first | exact Or.inl rfl | exact Or.inr rfl) (pe_lst pa_nil))
    (pss_cons (ps_for (passes_of rfl) rfl (pi_range1 (by rfl) T.f_range (pa_cons (pe_op op_addA (pe_propO (ok_Table_most T) (hr.mono (by decide)) (pv 0)) pe_int) pa_nil)) (pg_name (i := 4) nd rfl (by first | exact Or.inl rfl | exact Or.inr rfl)) (pss_cons (ps_set (i := 5) nd rfl (by first | exact Or.inl rfl | exact Or.inr rfl) (pe_lst pa_nil))
    (pss_cons (ps_for (passes_of rfl) rfl (pi_range1 (by rfl) T.f_range (pa_cons (pe_op op_addA (pe_fldO T.l_Table_spare (pv 0)) pe_int) pa_nil)) (pg_name (i := 6) nd rfl (by first | exact Or.inl rfl | exact Or.inr rfl)) (pss_one (ps_expr (pe_bm PySem.F.plainAttrs_list PySem.F.slot_list_append PySem.F.type_list_append mt_append (pv 5) (pa_cons (pe_callO (ok_is_won_by T) (hr.mono (by decide)) (by rfl) tk (pa_cons (pv 0) (pa_cons (pv 1) (pa_cons (pv 5) (pa_cons (pe_tup (pa_cons (pv 2) (pa_cons (pv 4) (pa_cons (pv 6) pa_nil)))) pa_nil))))) pa_nil)))))
    (pss_one (ps_expr (pe_bm PySem.F.plainAttrs_list PySem.F.slot_list_append PySem.F.type_list_append mt_append (pv 3) (pa_cons (pe_callTy call_tupleOf (by rfl) T.f_tuple (by decide +kernel) (pa_cons (pv 5) pa_nil)) pa_nil)))))))
    (pss_one (ps_ret (pe_callTy call_tupleOf (by rfl) T.f_tuple (by decide +kernel) (pa_cons (pv 3) pa_nil))))))
theorem ok_next_row (T : Txt P K mg base) : Ok P w K mg base "next_row" 3 ["table", "recent", "size"] (spL 3 (sp_next_row K)) := ok_mk (T.d_next_row) T.m_next_row sc_next_row (fun _ _ _ _ _ _ us hl => match us, hl with | [_, _, _], _ => rfl) (fun _ _ _ _ _ _ hr => der_next_row T hr) (pure_next_row T)
end
end

section
open PySem PySem.Spec L2 RZ StX
open PyProof.Rows (envOfC)
noncomputable section
variable {P : Program} {w : World} {K : PySem.W.Frag} {mg : Str → Option Value} {base : Heap}
abbrev N_window_of : List Str := ["table", "recent", "found", "take", "row"]
theorem sc_window_of : FnScope N_window_of ["table", "recent"] (defScope s_window_of) := ⟨rfl, rfl, rfl, by decide +kernel, rfl, by decide +kernel, by decide +kernel⟩
def t_window_of (K : PySem.W.Frag) (E : XK) : TS :=
    (tSeq (tAsg (tLst tNil) (gName 2))
    (tSeq (tFor (iRng2 (tCons (tC (.int 1)) (tCons (tOp (rAddA K) (tPropO K "Table" (spL 1 (sp_Table_most K)) (tVar 0)) (tC (.int 1))) tNil))) (gName 3) (tDrop (tBM K "list" rAppend (tVar 2) (tCons (tCB (rTupleOf K) (tCons (tLc (iSeq K (tSl (rSl K) (tVar 1) tNoPart (tPart (tVar 3)))) (gName 4) tYes (tOp (rIxV K) (tVar 4) (tVar 3)) [4]) tNil)) tNil))))
    (tRet (tCB (rTupleOf K) (tCons (tVar 2) tNil)))))
def e1_window_of : ME :=
    (mOp ixD (mVar 4) (mVar 3))
def s1_window_of : MS :=
    (mAppend 2 (mCB tupleD (mCons (mLc (mSeq (mSl (mVar 1) mNo (mPart (mVar 3)))) (mgName 4) (fun _ => .ret true) e1_window_of [4]) mNil)))
def b_window_of : MS :=
    (mThen (mAsg (mLst mNil) 2)
    (mThen (mFor (mRng2 (mCons (mC (.int 1)) (mCons (mOp addD (mProp m_Table_most (mVar 0)) (mC (.int 1))) mNil))) (mgName 3) s1_window_of)
    (mRet (mCB tupleD (mCons (mVar 2) mNil)))))
def m_window_of : MF := mFun 5 b_window_of
def sp_window_of (K : PySem.W.Frag) : Sp := spM (kt K) m_window_of
theorem ref_window_of (T : Txt P K mg base) {E : XK} : RS (kt K) [2] (fun cls d _ H => E cls d H) (t_window_of K E) b_window_of := by
  unfold t_window_of b_window_of
  exact (rs_seq (rs_asg (i := 2) (rc_lst (by decide) ra_nil))
    (rs_seq (rs_for (vs := [3]) (ri_rng2 (RA.w (ra_cons re_int (ra_cons (re_op om_add (RE.ro (re_prop bf_Table_most (re_var (i := 0)))) (RE.ro re_int)) ra_nil)))) (rg_name (i := 3)) (rs_append (i := 2) (by decide) (re_cb cm_tuple (RA.w (ra_cons (re_lc (vs := [4]) (ws := [4]) (ri_seq (re_sl (RE.ro (re_var (i := 1))) rp_none (rp_some (RE.ro (re_var (i := 3)))))) (rg_name (i := 4)) (fun _ h => h) rt_yes (re_op om_ix (RE.ro (re_var (i := 4))) (RE.ro (re_var (i := 3))))) ra_nil)))))
    (rs_ret (RE.ro (re_cb cm_tuple (ra_consW ro_var ra_nilW))))))
theorem bf_window_of : Bf (kt K) 2 m_window_of (sp_window_of K) := bf_M
theorem pure_window_of (T : Txt P K mg base) (vs : List V) (H : Hp) (Q : VK) (E : XK) (hl : vs.length = 2) (h : sp_window_of K vs H Q E) : t_window_of K E { nx := fun _ H' => Q .non H', rt := Q } (start N_window_of vs) H := pure_M (ref_window_of T) (by decide) rfl hl (by decide) h
end
noncomputable section
theorem v_window_of {t : Tab} (g : t.Good) {k : Nat} (h : mostN t ≤ k) : m_window_of [.tab t, recD (rowDt t) (mostN t) k] = .ret (winD t k) := by
  have gm := g.most
  let cell : Nat → Dt := fun x => .tup ((List.range x).map fun i => boolsD (W t (k - 1 - i) x) (spN t + 1))
  let rho : List Nat → Ev := fun ys => [some (.tab t), some (recD (rowDt t) (mostN t) k), some (.lst (ys.map cell)), lastL ys fun x => .int (x : Nat), none]
  have L := for_all (mg := mgName 3) (s := s1_window_of) (f := fun x : Nat => .int (x : Nat)) rho (xs := List.range' 1 (mostN t)) [] (fun ys x zs e _ => by
    have e := (List.nil_append _).symm.trans e
    have hx : x ∈ List.range' 1 (mostN t) := by rw [show List.range' 1 (mostN t) = ys ++ x :: zs by simpa using e]; simp
    have hx := List.mem_range'_1.mp hx
    have hy : ys.length ≤ mostN t := by
      have := congrArg List.length e
      simp at this
      omega
    have e1 := rec_to (r := rowDt t) (most := mostN t) (k := k) (x := x) (by omega) (by omega)
    have e2 := lc_map (mg := mgName 4) (t := fun _ => Pm.ret true) (a := e1_window_of) (f := fun i => rowDt t (k - 1 - i)) (ρ := [some (.tab t), some (recD (rowDt t) (mostN t) k), some (.lst (ys.map cell)), some (.int x), none]) (fun i => boolsD (W t (k - 1 - i) x) (spN t + 1)) (xs := List.range x) (fun i hi => by
      have := rowDt_at (t := t) (k := k - 1 - i) (l := x) (by omega)
      simp [lcOne, e1_window_of, this])
    simp [forOne, rho, s1_window_of, e1, show x ≤ 16777216 by omega, wipeD, e2, show ys.length < 16777216 by omega, lastL_snoc, cell])
  have hm : m_Table_most [.tab t] = .ret (.int (mostN t : Nat)) := v_most g
  have e1 := rngA_12 (n := mostN t) (by omega)
  simp only [List.nil_append] at L
  simp [m_window_of, x_fun, b_window_of, startD, hm, e1, -v_Table_most]
  rw [show [some (Dt.tab t), some (recD (rowDt t) (mostN t) k), some (.lst []), none, none] = rho [] from rfl, L]
  simp [rho, lastL, winD, cell]

end
noncomputable section
variable {P : Program} {w : World} {K : PySem.W.Frag} {mg : Str → Option Value} {base : Heap}
theorem der_window_of (T : Txt P K mg base) {cdv : Value} {A : Around} {outer : List Env} {s : Shared} {H : Hp} {E : XK} (hr : Room 2 (A.deeper (envOfC "window_of" (defScope s_window_of) s.heap.objs.size (He.ga K "window_of") cdv))) :
    PSs (cxOf (L2.CX P w) P w K mg base N_window_of "window_of" (defScope s_window_of) (He.ga K "window_of") cdv A outer s H E) (defBody s_window_of) (t_window_of K E) := by
  have nd := (sc_window_of).nd
  have tk : Takes (cxOf (L2.CX P w) P w K mg base N_window_of "window_of" (defScope s_window_of) (He.ga K "window_of") cdv A outer s H E) (fun cls d _ H => E cls d H) := takes_of rfl rfl rfl rfl
  exact (pss_cons (ps_set (i := 2) nd rfl (by first | exact Or.inl rfl | exact Or.inr rfl) (pe_lst pa_nil))
    (pss_cons (ps_for (passes_of rfl) rfl (pi_range2 (by rfl) T.f_range (pa_cons pe_int (pa_cons (pe_op op_addA (pe_propO (ok_Table_most T) (hr.mono (by decide)) (pv 0)) pe_int) pa_nil))) (pg_name (i := 3) nd rfl (by first | exact Or.inl rfl | exact Or.inr rfl)) (pss_one (ps_expr (pe_bm PySem.F.plainAttrs_list PySem.F.slot_list_append PySem.F.type_list_append mt_append (pv 2) (pa_cons (pe_callTy call_tupleOf (by rfl) T.f_tuple (by decide +kernel) (pa_cons (pe_lc (own := [("row", 4)]) (g := (gName 4)) (tt := tYes) (te := (tOp (rIxV K) (tVar 4) (tVar 3))) rfl nd (pi_seq (pe_slice sl_any (pv 1) po_none (po_some (pv 3)))) (blkOk_by (own := [("row", 4)]) (N := N_window_of) (sc := (defScope s_window_of)) (by decide +kernel)) (fun _ _ _ _ _ => (pg_name (i := 4) nd rfl (by first | exact Or.inl rfl | exact Or.inr rfl))) (fun _ _ _ _ _ => pts_nil) (fun _ _ _ _ _ => (pe_ix (ix_V (units65 hr)) (pv 4) (pv 3) (fun _ _ => rfl)))) pa_nil)) pa_nil)))))
    (pss_one (ps_ret (pe_callTy call_tupleOf (by rfl) T.f_tuple (by decide +kernel) (pa_cons (pv 2) pa_nil))))))
theorem ok_window_of (T : Txt P K mg base) : Ok P w K mg base "window_of" 3 ["table", "recent"] (spL 2 (sp_window_of K)) := ok_mk (T.d_window_of) T.m_window_of sc_window_of (fun _ _ _ _ _ _ us hl => match us, hl with | [_, _], _ => rfl) (fun _ _ _ _ _ _ hr => der_window_of T hr) (pure_window_of T)
end
end

section
open PySem PySem.Spec L2 RZ StX
open PyProof.Rows (envOfC)
noncomputable section
variable {P : Program} {w : World} {K : PySem.W.Frag} {mg : Str → Option Value} {base : Heap}
abbrev N_pattern_of : List Str := ["table"]
theorem sc_pattern_of : FnScope N_pattern_of ["table"] (defScope s_pattern_of) := ⟨rfl, rfl, rfl, by decide +kernel, rfl, by decide +kernel, by decide +kernel⟩
def tl1_pattern_of (K : PySem.W.Frag) : TE := (tCallS (spL 3 (sp_next_row K)) (WE (fun _ _ _ _ => False)) (tCons (tVar 2) (tCons (tVar 0) (tCons (tVar 1) tNil))))
def ml1_pattern_of : ME := (mCall 3 m_next_row (mCons (mVar 2) (mCons (mVar 0) (mCons (mVar 1) mNil))))
theorem refl1_pattern_of (T : Txt P K mg base) : RE (kt K) [] (fun _ _ _ _ => False) (tl1_pattern_of K) ml1_pattern_of := by
  unfold tl1_pattern_of ml1_pattern_of
  exact (re_call bf_next_row (ra_cons (re_var (i := 2)) (ra_cons (re_var (i := 0)) (ra_cons (re_var (i := 1)) ra_nil))))
abbrev sp1_pattern_of (K : PySem.W.Frag) : Sp := fun us H Q _ => tl1_pattern_of K (us.map some) H Q
abbrev m1_pattern_of : MF := fun ds => (ml1_pattern_of (ds.map some)).nox
def tl2_pattern_of (K : PySem.W.Frag) : TE := (tCallS (spL 2 (sp_window_of K)) (WE (fun _ _ _ _ => False)) (tCons (tVar 1) (tCons (tVar 0) tNil)))
def ml2_pattern_of : ME := (mCall 2 m_window_of (mCons (mVar 1) (mCons (mVar 0) mNil)))
theorem refl2_pattern_of (T : Txt P K mg base) : RE (kt K) [] (fun _ _ _ _ => False) (tl2_pattern_of K) ml2_pattern_of := by
  unfold tl2_pattern_of ml2_pattern_of
  exact (re_call bf_window_of (ra_cons (re_var (i := 1)) (ra_cons (re_var (i := 0)) ra_nil)))
abbrev sp2_pattern_of (K : PySem.W.Frag) : Sp := fun us H Q _ => tl2_pattern_of K (us.map some) H Q
abbrev m2_pattern_of : MF := fun ds => (ml2_pattern_of (ds.map some)).nox
def t_pattern_of (K : PySem.W.Frag) (E : XK) : TS :=
    (tRet (tLam2 (cTab K "pattern_of").2 "pattern_of.<locals>.<lambda>" 0 (tPropO K "Table" (spL 1 (sp_Table_most K)) (tVar 0)) fun v f1 g1 f2 g2 vs H Q => t_come_round K ⟨f1, g1, "pattern_of.<locals>.<lambda>", v⟩ ⟨f2, g2, "pattern_of.<locals>.<lambda>", v⟩ (sp1_pattern_of K) (sp2_pattern_of K) E0 { nx := fun _ H' => Q .non H', rt := Q } (L2.start N_come_round vs) H))
def b_pattern_of : MS :=
    (mRet (mLam2 "pattern_of.<locals>.<lambda>" 0 (mProp m_Table_most (mVar 0)) fun L1 L2 => m_come_round L1 L2 m1_pattern_of m2_pattern_of))
def m_pattern_of : MF := mFun 1 b_pattern_of
def sp_pattern_of (K : PySem.W.Frag) : Sp := spM (kt K) m_pattern_of
theorem ref_pattern_of (T : Txt P K mg base) {E : XK} : RS (kt K) [] (fun cls d _ H => E cls d H) (t_pattern_of K E) b_pattern_of := by
  unfold t_pattern_of b_pattern_of
  exact (rs_ret (RE.ro (re_lam2 (by decide) T.tm_pattern_of T.tu_pattern_of (re_prop bf_Table_most (re_var (i := 0))) (fun v f1 g1 f2 g2 vs H Q hl h => pure_come_round T (bf_lam (refl1_pattern_of T)) (bf_lam (refl2_pattern_of T)) vs H Q E0 hl h))))
theorem bf_pattern_of : Bf (kt K) 1 m_pattern_of (sp_pattern_of K) := bf_M
theorem pure_pattern_of (T : Txt P K mg base) (vs : List V) (H : Hp) (Q : VK) (E : XK) (hl : vs.length = 1) (h : sp_pattern_of K vs H Q E) : t_pattern_of K E { nx := fun _ H' => Q .non H', rt := Q } (start N_pattern_of vs) H := pure_M (ref_pattern_of T) (by decide) rfl hl (by decide) h
end
noncomputable section
theorem v_pattern_of {t : Tab} (g : t.Good) : m_pattern_of [.tab t] = .ret (patD t) := by
  have gm := g.most
  have hm : m_Table_most [.tab t] = .ret (.int (mostN t : Nat)) := v_most g
  have M : Made m1_pattern_of m2_pattern_of (.tab t) (mostN t) (rowDt t) (winD t) (winK t) := made_of g
    (fun k => by simp [m1_pattern_of, ml1_pattern_of, v_next_row g])
    (fun k hk => by simp [m2_pattern_of, ml2_pattern_of, v_window_of g hk])
  obtain ⟨h1, h2, h3⟩ := rN_spec g
  have e := x_lam2 (q := "pattern_of.<locals>.<lambda>") (j := 0) (e := mProp m_Table_most (mVar 0)) (m := fun L1 L2 => m_come_round L1 L2 m1_pattern_of m2_pattern_of) (ρ := [some (.tab t)]) (d := .int (mostN t : Nat)) (tb := t) (r := patD t) (by simp [hm, -v_Table_most]) rfl (fun f1 g1 f2 g2 v => v_come_round M gm.1 h1 h2 (by omega) (L1 := ⟨f1, g1, _, v⟩) (L2 := ⟨f2, g2, _, v⟩))
  simp [m_pattern_of, x_fun, b_pattern_of, startD, e]

end
noncomputable section
variable {P : Program} {w : World} {K : PySem.W.Frag} {mg : Str → Option Value} {base : Heap}
theorem der_pattern_of (T : Txt P K mg base) {A : Around} {outer : List Env} {s : Shared} {H : Hp} {E : XK} (hr : Room 6 (A.deeper (envOfC "pattern_of" (defScope s_pattern_of) s.heap.objs.size (He.ga K "pattern_of") (.ref (cTab K "pattern_of").1)))) :
    PSs (cxOf (L2.CX P w) P w K mg base N_pattern_of "pattern_of" (defScope s_pattern_of) (He.ga K "pattern_of") (.ref (cTab K "pattern_of").1) A outer s H E) (defBody s_pattern_of) (t_pattern_of K E) := by
  have nd := (sc_pattern_of).nd
  have tk : Takes (cxOf (L2.CX P w) P w K mg base N_pattern_of "pattern_of" (defScope s_pattern_of) (He.ga K "pattern_of") (.ref (cTab K "pattern_of").1) A outer s H E) (fun cls d _ H => E cls d H) := takes_of rfl rfl rfl rfl
  exact (pss_one (ps_ret (pe_lam2 (k := 3) (y := "table") (j := 0) (N3 := N_come_round) (tc := fun v f1 g1 f2 g2 E => t_come_round K ⟨f1, g1, "pattern_of.<locals>.<lambda>", v⟩ ⟨f2, g2, "pattern_of.<locals>.<lambda>", v⟩ (sp1_pattern_of K) (sp2_pattern_of K) E) T.d_come_round T.m_come_round sc_come_round rfl (fun _ _ _ _ _ _ us hl => match us, hl with | [_, _, _], _ => rfl) (by rfl) (hr.mono (by decide)) (pe_propO (ok_Table_most T) (hr.mono (by decide)) (pv 0)) (T.tbs_pattern_of) rfl rfl rfl (LamOk.mk (N := ["recent", "size", "table"]) (ps := ["recent", "size"]) (t := tl1_pattern_of K) (sp := sp1_pattern_of K) (NdefX.nscope_by (by decide +kernel)) (by show NdefX.ndefB (defScope s_pattern_of) _ _ = true; decide +kernel) rfl (fun _ _ _ _ us hl => match us, hl with | [_, _], _ => rfl) (fun cl g f A outer s H hr => (pe_callO (ok_next_row T) (hr.mono (by decide)) (by rfl) takes0 (pa_cons (pv 2) (pa_cons (pv 0) (pa_cons (pv 1) pa_nil))))) (fun vs v H Q E hl hs => match vs, hl with | [_, _], _ => hs)) (LamOk.mk (N := ["recent", "table"]) (ps := ["recent"]) (t := tl2_pattern_of K) (sp := sp2_pattern_of K) (NdefX.nscope_by (by decide +kernel)) (by show NdefX.ndefB (defScope s_pattern_of) _ _ = true; decide +kernel) rfl (fun _ _ _ _ us hl => match us, hl with | [_], _ => rfl) (fun cl g f A outer s H hr => (pe_callO (ok_window_of T) (hr.mono (by decide)) (by rfl) takes0 (pa_cons (pv 1) (pa_cons (pv 0) pa_nil)))) (fun vs v H Q E hl hs => match vs, hl with | [_], _ => hs)) (fun _ A outer s H f1 g1 f2 g2 v hr h1 h2 => der_come_round T (hr.mono (by decide)) (La1 := ⟨f1, g1, "pattern_of.<locals>.<lambda>", v⟩) (La2 := ⟨f2, g2, "pattern_of.<locals>.<lambda>", v⟩) h1 h2))))
theorem ok_pattern_of (T : Txt P K mg base) : Ok P w K mg base "pattern_of" 7 ["table"] (spL 1 (sp_pattern_of K)) := ok_mkT (T.d_pattern_of) T.m_pattern_of sc_pattern_of (T.tin _ (by decide)) (fun _ _ _ _ _ _ us hl => match us, hl with | [_], _ => rfl) (fun _ _ _ _ _ hr => der_pattern_of T hr) (pure_pattern_of T)
end
end

section
open PySem PySem.Spec L2 RZ StX
open PyProof.Rows (envOfC)
noncomputable section
variable {P : Program} {w : World} {K : PySem.W.Frag} {mg : Str → Option Value} {base : Heap}
abbrev N_pattern : List Str := ["table"]
theorem sc_pattern : FnScope N_pattern ["table"] (defScope s_pattern) := ⟨rfl, rfl, rfl, by decide +kernel, rfl, by decide +kernel, by decide +kernel⟩
def t_pattern (K : PySem.W.Frag) (E : XK) : TS :=
    (tRet (tCallS (spL 1 (sp_pattern_of K)) (WE (fun cls d _ H => E cls d H)) (tCons (tVar 0) tNil)))
def b_pattern : MS :=
    (mRet (mCall 1 m_pattern_of (mCons (mVar 0) mNil)))
def m_pattern : MF := mFun 1 b_pattern
def sp_pattern (K : PySem.W.Frag) : Sp := spM (kt K) m_pattern
theorem ref_pattern (T : Txt P K mg base) {E : XK} : RS (kt K) [] (fun cls d _ H => E cls d H) (t_pattern K E) b_pattern := by
  unfold t_pattern b_pattern
  exact (rs_ret (RE.ro (re_call bf_pattern_of (ra_cons (re_var (i := 0)) ra_nil))))
theorem bf_pattern : Bf (kt K) 1 m_pattern (sp_pattern K) := bf_M
theorem pure_pattern (T : Txt P K mg base) (vs : List V) (H : Hp) (Q : VK) (E : XK) (hl : vs.length = 1) (h : sp_pattern K vs H Q E) : t_pattern K E { nx := fun _ H' => Q .non H', rt := Q } (start N_pattern vs) H := pure_M (ref_pattern T) (by decide) rfl hl (by decide) h
end
noncomputable section
theorem v_pattern {t : Tab} (g : t.Good) : m_pattern [.tab t] = .ret (patD t) := by
  simp [m_pattern, x_fun, b_pattern, startD, v_pattern_of g]

end
noncomputable section
variable {P : Program} {w : World} {K : PySem.W.Frag} {mg : Str → Option Value} {base : Heap}
theorem der_pattern (T : Txt P K mg base) {cdv : Value} {A : Around} {outer : List Env} {s : Shared} {H : Hp} {E : XK} (hr : Room 7 (A.deeper (envOfC "pattern" (defScope s_pattern) s.heap.objs.size (He.ga K "pattern") cdv))) :
    PSs (cxOf (L2.CX P w) P w K mg base N_pattern "pattern" (defScope s_pattern) (He.ga K "pattern") cdv A outer s H E) (defBody s_pattern) (t_pattern K E) := by
  have nd := (sc_pattern).nd
  have tk : Takes (cxOf (L2.CX P w) P w K mg base N_pattern "pattern" (defScope s_pattern) (He.ga K "pattern") cdv A outer s H E) (fun cls d _ H => E cls d H) := takes_of rfl rfl rfl rfl
  exact (pss_one (ps_ret (pe_callO (ok_pattern_of T) (hr.mono (by decide)) (by rfl) tk (pa_cons (pv 0) pa_nil))))
theorem ok_pattern (T : Txt P K mg base) : Ok P w K mg base "pattern" 8 ["table"] (spL 1 (sp_pattern K)) := ok_mk (T.d_pattern) T.m_pattern sc_pattern (fun _ _ _ _ _ _ us hl => match us, hl with | [_], _ => rfl) (fun _ _ _ _ _ _ hr => der_pattern T hr) (pure_pattern T)
end
end

section
open PySem PySem.Spec L2 RZ StX
open PyProof.Rows (envOfC)
noncomputable section
variable {P : Program} {w : World} {K : PySem.W.Frag} {mg : Str → Option Value} {base : Heap}
abbrev N_first_unlike : List Str := ["one", "other", "rows", "known", "size", "recent", "mark", "here", "there", "some", "last", "line", "left", "told"]
theorem sc_first_unlike : FnScope N_first_unlike ["one", "other"] (defScope s_first_unlike) := ⟨rfl, rfl, rfl, by decide +kernel, rfl, by decide +kernel, by decide +kernel⟩
def t_first_unlike (K : PySem.W.Frag) (E : XK) : TS :=
    (tSeq (tPar 2 3 (tCons (tTup (tCons (tLst tNil) (tCons (tLst tNil) tNil))) (tCons tDNewN tNil)))
    (tWhile (tB (tC (.bl true))) (tSeq (tAsg (tCB (rLenA K) (tCons (tOp (rIxV K) (tVar 2) (tC (.int 0))) tNil)) (gName 4))
    (tSeq (tAsg (tLc (iSeq K (tVar 2)) (gName 9) tYes (tSl (rSl K) (tRevL K (tVar 9)) tNoPart (tPart (tPropO K "Table" (spL 1 (sp_Table_most K)) (tVar 0)))) [9]) (gName 5))
    (tSeq (tIfS (tTest (tOp (rI0 fun i j => .bl (decide (j ≤ i))) (tVar 4) (tPropO K "Table" (spL 1 (sp_Table_most K)) (tVar 0)))) (tSeq (tAsg (tTup (tCons (tCallS (spL 2 (sp_window_of K)) (WE (fun cls d _ H => E cls d H)) (tCons (tVar 0) (tCons (tOp (rIxV K) (tVar 5) (tC (.int 0))) tNil))) (tCons (tCallS (spL 2 (sp_window_of K)) (WE (fun cls d _ H => E cls d H)) (tCons (tVar 1) (tCons (tOp (rIxV K) (tVar 5) (tC (.int 1))) tNil))) tNil))) (gName 6))
    (tSeq (tIfS (tTest (tOp (rInN K) (tVar 6) (tVar 3))) (tRet (tC .non)) tNext)
    (tAsg (tC (.bl true)) (gSub (tVar 3) (tVar 6) (rSetN K))))) tNext)
    (tSeq (tAsg (tTup (tCons (tCallS (spL 3 (sp_next_row K)) (WE (fun cls d _ H => E cls d H)) (tCons (tVar 0) (tCons (tOp (rIxV K) (tVar 5) (tC (.int 0))) (tCons (tVar 4) tNil)))) (tCons (tCallS (spL 3 (sp_next_row K)) (WE (fun cls d _ H => E cls d H)) (tCons (tVar 1) (tCons (tOp (rIxV K) (tVar 5) (tC (.int 1))) (tCons (tVar 4) tNil)))) tNil))) (gTup K 2 (gCons (gName 7) (gCons (gName 8) gNil))))
    (tSeq (tIfS (tTest (tOp (rNeA K) (tVar 7) (tVar 8))) (tRet (tOp (rIxV K) (tLc2 (iEnumA K (tCons (tVar 7) tNil)) (gTup K 2 (gCons (gName 10) (gCons (gName 11) gNil))) tYes (iEnumA K (tCons (tVar 11) tNil)) (gTup K 2 (gCons (gName 12) (gCons (gName 13) gNil))) (tTest (tOp (rNeA K) (tVar 13) (tOp (rIxV K) (tOp (rIxV K) (tVar 8) (tVar 10)) (tVar 12)))) (tTup (tCons (tVar 4) (tCons (tVar 10) (tCons (tVar 12) tNil)))) [10, 11, 12, 13] [12, 13]) (tC (.int 0)))) tNext)
    (tSeq (tDrop (tBM K "list" rAppend (tOp (rIxV K) (tVar 2) (tC (.int 0))) (tCons (tVar 7) tNil)))
    (tDrop (tBM K "list" rAppend (tOp (rIxV K) (tVar 2) (tC (.int 1))) (tCons (tVar 8) tNil)))))))))))
def c1_first_unlike : MB :=
    (mTest (mOp neD (mVar 13) (mOp ixD (mOp ixD (mVar 8) (mVar 10)) (mVar 12))))
def e1_first_unlike : ME :=
    (mTup (mCons (mVar 4) (mCons (mVar 10) (mCons (mVar 12) mNil))))
def c2_first_unlike : MB :=
    (mTest (mC (.bl true)))
def s1_first_unlike : MS :=
    (mThen (mAsg (mLen2 2) 4)
    (mThen (mAsg (mRec2 2 9 (mPart (mProp m_Table_most (mVar 0)))) 5)
    (mThen (mIfS (mTest (mOp geD (mVar 4) (mProp m_Table_most (mVar 0)))) (mThen (mAsg (mTup (mCons (mCall 2 m_window_of (mCons (mVar 0) (mCons (mOp ixD (mVar 5) (mC (.int 0))) mNil))) (mCons (mCall 2 m_window_of (mCons (mVar 1) (mCons (mOp ixD (mVar 5) (mC (.int 1))) mNil))) mNil))) 6)
    (mThen (mIfS (mTest (mOp inN (mVar 6) (mVar 3))) (mRet (mC .non)) mNext)
    (mSetN 3 (mVar 6) (mC (.bl true))))) mNext)
    (mThen (mAsgG (mTup (mCons (mCall 3 m_next_row (mCons (mVar 0) (mCons (mOp ixD (mVar 5) (mC (.int 0))) (mCons (mVar 4) mNil)))) (mCons (mCall 3 m_next_row (mCons (mVar 1) (mCons (mOp ixD (mVar 5) (mC (.int 1))) (mCons (mVar 4) mNil)))) mNil))) (mgTup 2 (mgCons (mgName 7) (mgCons (mgName 8) mgNil))))
    (mThen (mIfS (mTest (mOp neD (mVar 7) (mVar 8))) (mRet (mOp ixD (mLc2 (mEnum (mCons (mVar 7) mNil)) (mgTup 2 (mgCons (mgName 10) (mgCons (mgName 11) mgNil))) (fun _ => .ret true) (mEnum (mCons (mVar 11) mNil)) (mgTup 2 (mgCons (mgName 12) (mgCons (mgName 13) mgNil))) c1_first_unlike e1_first_unlike [10, 11, 12, 13] [12, 13]) (mC (.int 0)))) mNext)
    (mThen (mApp2 2 0 (mVar 7))
    (mApp2 2 1 (mVar 8))))))))
def b_first_unlike : MS :=
    (mThen (mPar 2 3 (mC (.two [] [])) (mC (.dN [])))
    (mWhile 100000 c2_first_unlike s1_first_unlike))
def m_first_unlike : MF := mFun 14 b_first_unlike
def sp_first_unlike (K : PySem.W.Frag) : Sp := spM (kt K) m_first_unlike
theorem ref_first_unlike (T : Txt P K mg base) {E : XK} : RS (kt K) [2, 3] (fun cls d _ H => E cls d H) (t_first_unlike K E) b_first_unlike := by
  unfold t_first_unlike b_first_unlike
  exact (rs_seq (rs_par (i := 2) (j := 3) (rc_two (by decide)) (rc_dN (by decide)) (by decide))
    (rs_while (rt_b (RE.ro re_bl)) (rs_seq (rs_asg (i := 4) (rc_of (by decide) (re_len2 (by decide))))
    (rs_seq (rs_asg (i := 5) (rc_of (by decide) (re_rec2 (by decide) (rp_some (RE.ro (re_prop bf_Table_most (re_var (i := 0))))))))
    (rs_seq (rs_if (rt_test (RE.ro (re_op om_ge (RE.ro (re_var (i := 4))) (RE.ro (re_prop bf_Table_most (re_var (i := 0))))))) (rs_seq (rs_asg (i := 6) (rc_of (by decide) (re_tup (ra_cons (re_call bf_window_of (ra_cons (re_var (i := 0)) (ra_cons (re_op om_ix (RE.ro (re_var (i := 5))) (RE.ro re_int)) ra_nil))) (ra_cons (re_call bf_window_of (ra_cons (re_var (i := 1)) (ra_cons (re_op om_ix (RE.ro (re_var (i := 5))) (RE.ro re_int)) ra_nil))) ra_nil)))))
    (rs_seq (rs_if (rt_test (RE.ro (re_op om_inN (RE.ro (re_var (i := 6))) ro_var))) (rs_ret (RE.ro re_non)) rs_next)
    (rs_setN (i := 3) (by decide) (RE.ro (re_var (i := 6))) re_bl))) rs_next)
    (rs_seq (rs_asgG (vs := [7, 8]) (re_tup (ra_cons (re_call bf_next_row (ra_cons (re_var (i := 0)) (ra_cons (re_op om_ix (RE.ro (re_var (i := 5))) (RE.ro re_int)) (ra_cons (re_var (i := 4)) ra_nil)))) (ra_cons (re_call bf_next_row (ra_cons (re_var (i := 1)) (ra_cons (re_op om_ix (RE.ro (re_var (i := 5))) (RE.ro re_int)) (ra_cons (re_var (i := 4)) ra_nil)))) ra_nil))) (rg_tup (rg_cons (rg_name (i := 7)) (rg_cons (rg_name (i := 8)) rg_nil))))
    (rs_seq (rs_if (rt_test (RE.ro (re_op om_ne (RE.ro (re_var (i := 7))) (RE.ro (re_var (i := 8)))))) (rs_ret (RE.ro (re_op om_ix (RE.ro (re_lc2 (vs := [10, 11, 12, 13]) (ws := [10, 11]) (vs1 := [12, 13]) (ws1 := [12, 13]) (ri_enum (ra_cons (re_var (i := 7)) ra_nil)) (rg_tup (rg_cons (rg_name (i := 10)) (rg_cons (rg_name (i := 11)) rg_nil))) (by decide) rt_yes (ri_enum (ra_cons (re_var (i := 11)) ra_nil)) (rg_tup (rg_cons (rg_name (i := 12)) (rg_cons (rg_name (i := 13)) rg_nil))) (by decide) (rt_test (RE.ro (re_op om_ne (RE.ro (re_var (i := 13))) (RE.ro (re_op om_ix (RE.ro (re_op om_ix (RE.ro (re_var (i := 8))) (RE.ro (re_var (i := 10))))) (RE.ro (re_var (i := 12)))))))) (re_tup (ra_cons (re_var (i := 4)) (ra_cons (re_var (i := 10)) (ra_cons (re_var (i := 12)) ra_nil)))))) (RE.ro re_int)))) rs_next)
    (rs_seq (rs_app20 (by decide) (re_var (i := 7)))
    (rs_app21 (by decide) (re_var (i := 8)))))))))))
theorem bf_first_unlike : Bf (kt K) 2 m_first_unlike (sp_first_unlike K) := bf_M
theorem pure_first_unlike (T : Txt P K mg base) (vs : List V) (H : Hp) (Q : VK) (E : XK) (hl : vs.length = 2) (h : sp_first_unlike K vs H Q E) : t_first_unlike K E { nx := fun _ H' => Q .non H', rt := Q } (start N_first_unlike vs) H := pure_M (ref_first_unlike T) (by decide) rfl hl (by decide) h
end
noncomputable section
theorem v_rec2 {t : Tab} (g : t.Good) {r r' : Nat → Dt} {k : Nat} {a s3 s4 s5 s6 s7 s8 s9 s10 s11 s12 s13 : Option Dt} : mRec2 2 9 (mPart (mProp m_Table_most (mVar 0))) [some (.tab t), a, some (.two (rowsL r k) (rowsL r' k)), s3, s4, s5, s6, s7, s8, s9, s10, s11, s12, s13] = .ret (.lst [recD r (mostN t) k, recD r' (mostN t) k]) := by
  have hm : m_Table_most [.tab t] = .ret (.int (mostN t : Nat)) := v_most g
  simp [mRec2, recGo, wipeD, hm, -v_Table_most, cutD_to, recD]
theorem v_dif {t u : Tab} (T : Twin t u) {k : Nat} {r q : Option Dt} {s0 s1 s2 s3 s5 s6 : Option Dt} : lc2Go (mgTup 2 (mgCons (mgName 10) (mgCons (mgName 11) mgNil))) (fun _ => .ret true) (mEnum (mCons (mVar 11) mNil)) (mgTup 2 (mgCons (mgName 12) (mgCons (mgName 13) mgNil))) c1_first_unlike e1_first_unlike [12, 13] [s0, s1, s2, s3, some (.int (k : Nat)), s5, s6, some (rowDt t k), some (rowDt u k), none, none, none, none, none] ((List.range (mostN t + 1)).map fun l => .tup [.int (l : Nat), boolsD (W t k l) (spN t + 1)]) = .ret ((difL t u k).map fun q => stD q.1 q.2.1 q.2.2) := by
  have gm := T.g.most
  have gs := T.g.spa
  have e := lc2_flat (mg := mgTup 2 (mgCons (mgName 10) (mgCons (mgName 11) mgNil))) (mt := fun _ => .ret true) (mi1 := mEnum (mCons (mVar 11) mNil)) (mg1 := mgTup 2 (mgCons (mgName 12) (mgCons (mgName 13) mgNil))) (mt1 := c1_first_unlike) (me := e1_first_unlike) (vs1 := [12, 13]) (ρ := [s0, s1, s2, s3, some (.int (k : Nat)), s5, s6, some (rowDt t k), some (rowDt u k), none, none, none, none, none]) (f := fun l : Nat => .tup [.int (l : Nat), boolsD (W t k l) (spN t + 1)])
    (fun l => ((List.range (spN t + 1)).filter fun p => W t k l p != W u k l p).map fun p => stD k l p) (xs := List.range (mostN t + 1)) (fun l hl => by
      have hl := List.mem_range.mp hl
      refine ⟨[s0, s1, s2, s3, some (.int (k : Nat)), s5, s6, some (rowDt t k), some (rowDt u k), none, some (.int (l : Nat)), some (boolsD (W t k l) (spN t + 1)), none, none], (List.range (spN t + 1)).map fun p : Nat => .tup [.int (p : Nat), .bl (W t k l p)], by simp, rfl, ?_, by simp; omega, ?_⟩
      · simp [boolsD, -List.map_map]
        rw [enum_range]
      · have e := lc_fmap (mg := mgTup 2 (mgCons (mgName 12) (mgCons (mgName 13) mgNil))) (t := c1_first_unlike) (a := e1_first_unlike) (f := fun p : Nat => .tup [.int (p : Nat), .bl (W t k l p)]) (ρ := [s0, s1, s2, s3, some (.int (k : Nat)), s5, s6, some (rowDt t k), some (rowDt u k), none, some (.int (l : Nat)), some (boolsD (W t k l) (spN t + 1)), none, none]) (fun p => if (W t k l p != W u k l p) = true then some (stD k l p) else none) (xs := List.range (spN t + 1)) (fun p hp => by
          have hp := List.mem_range.mp hp
          have e1 := rowDt_at (t := u) (k := k) (l := l) (by rw [← T.m]; omega)
          have e2 := bools_at (f := W u k l) (n := spN u + 1) (p := p) (by rw [← T.s]; omega)
          cases e3 : W t k l p <;> cases e4 : W u k l p <;> rw [e4] at e2 <;> simp [lcOne, c1_first_unlike, e1_first_unlike, e1, e2, stD])
        rw [filterMap_if] at e
        simpa [wipeD] using e)
  rw [e]
  congr 1
  unfold difL plL
  rw [List.filter_flatMap, List.map_flatMap]
  congr 1
  funext l
  rw [List.filter_map, List.map_map]
  rfl
theorem v_first_unlike {t u : Tab} (T : Twin t u) : ∃ d, m_first_unlike [.tab t, .tab u] = .ret d ∧ ((d = .non ∧ ∀ k, rowDt t k = rowDt u k) ∨ ∃ k q r, (∀ i, i < k → rowDt t i = rowDt u i) ∧ difL t u k = q :: r ∧ d = stD q.1 q.2.1 q.2.2) := by
  obtain ⟨E, hE, hs, hn⟩ := T.stop
  have gm := T.g.most
  have hm : m_Table_most [.tab t] = .ret (.int (mostN t : Nat)) := v_most T.g
  have rows : ∀ i, i < E → rowDt t i = rowDt u i := fun i hi => by
    have := hn i hi
    unfold stopB at this
    cases e : (rowDt t i).eqv (rowDt u i) with
    | true => exact (T.eqv i).mp e
    | false => exact (this (.inr e)).elim
  let rho : Nat → Ev := fun k => [some (.tab t), some (.tab u), some (.two (rowsL (rowDt t) k) (rowsL (rowDt u) k)), some (.dN (kvB (K2 t u) (mostN t) k)), lastO k fun k => .int (k : Nat), lastO k fun k => .lst [recD (rowDt t) (mostN t) k, recD (rowDt u) (mostN t) k], markO (fun k => .tup [winD t k, winD u k]) (mostN t) k, lastO k (rowDt t), lastO k (rowDt u), none, none, none, none, none]
  have w1 : ∀ k, mostN t ≤ k → m_window_of [.tab t, recD (rowDt t) (mostN t) k] = .ret (winD t k) := fun k hk => v_window_of T.g hk
  have w2 : ∀ k, mostN t ≤ k → m_window_of [.tab u, recD (rowDt u) (mostN t) k] = .ret (winD u k) := fun k hk => by rw [T.m] at hk ⊢; exact v_window_of T.g2 hk
  have n1 : ∀ k : Nat, m_next_row [.tab t, recD (rowDt t) (mostN t) k, .int k] = .ret (rowDt t k) := fun k => v_next_row T.g
  have n2 : ∀ k : Nat, m_next_row [.tab u, recD (rowDt u) (mostN t) k, .int k] = .ret (rowDt u k) := fun k => by rw [T.m]; exact v_next_row T.g2
  have step : ∀ k, 0 ≤ k → k < 0 + E → s1_first_unlike (rho k) = .ret (.nx (rho (k + 1))) := fun k _ hk => by
    have hk : k < E := by omega
    have hnk := hn k hk
    unfold stopB at hnk
    have hf : fstK (K2 t u) (mostN t) k = none := by
      cases e : fstK (K2 t u) (mostN t) k with
      | none => rfl
      | some j => rw [e] at hnk; exact (hnk (.inl rfl)).elim
    have e5 := T.ne k
    rw [(T.eqv k).mpr (rows k hk)] at e5
    by_cases hm2 : mostN t ≤ k
    · have e3 := inB_kv (most := mostN t) (key2 (t := t) (u := u) (k := k))
      rw [hf] at e3
      have e4 : putK (kvB (K2 t u) (mostN t) k) (K2 t u k) (V.bl true) = kvB (K2 t u) (mostN t) (k + 1) := by
        rw [putK_new _ (by rw [kvB_val, hf]; rfl), kvB_succ hm2]
      simp [s1_first_unlike, rho, mLen2, v_rec2 T.g, hm, -v_Table_most, hm2, w1 k hm2, w2 k hm2, e3, key2, kvB_len, show k - mostN t < 16777216 by omega, e4, n1, n2, e5, mApp2, show k < 16777216 by omega, show k < 16777215 by omega, rowsL_succ, markO, show ¬ k + 1 ≤ mostN t by omega]
    · simp [s1_first_unlike, rho, mLen2, v_rec2 T.g, hm, -v_Table_most, hm2, n1, n2, e5, mApp2, show k < 16777216 by omega, show k < 16777215 by omega, rowsL_succ, markO, show k ≤ mostN t by omega, show k + 1 ≤ mostN t by omega, kvB_nil]
  have fin : ∀ d, s1_first_unlike (rho E) = .ret (.rt d) → m_first_unlike [.tab t, .tab u] = .ret d := fun d hd => by
    have L := wh_till (mt := c2_first_unlike) (mb := s1_first_unlike) rho (o := .rt d) (fun ρ => ⟨by simp, by simp, by simp⟩) (fun k => by simp [c2_first_unlike]) E 0 100000 (by omega) step (by rw [Nat.zero_add]; exact hd)
    simp [m_first_unlike, x_fun, b_first_unlike, startD]
    rw [show [some (Dt.tab t), some (.tab u), some (.two [] []), some (.dN []), none, none, none, none, none, none, none, none, none, none] = rho 0 by simp [rho, rowsL, kvB_nil, markO]; exact ⟨rfl, rfl, rfl, rfl⟩, L]
    rfl
  cases hf : fstK (K2 t u) (mostN t) E with
  | some j =>
    have hj := List.mem_range'_1.mp (List.mem_of_find?_eq_some hf)
    have hk0 := List.find?_some hf
    have hk := of_decide_eq_true hk0
    refine ⟨.non, fin _ ?_, .inl ⟨rfl, T.ever rows hj.1 (by omega) hk⟩⟩
    have hm2 : mostN t ≤ E := by omega
    have e3 := inB_kv (most := mostN t) (key2 (t := t) (u := u) (k := E))
    rw [hf] at e3
    simp [s1_first_unlike, rho, mLen2, v_rec2 T.g, hm, -v_Table_most, hm2, w1 E hm2, w2 E hm2, e3]
  | none =>
    have hd : (rowDt t E).eqv (rowDt u E) = false := by
      unfold stopB at hs
      rw [hf] at hs
      rcases hs with h | h
      · cases h
      · exact h
    have e5 := T.ne E
    rw [hd] at e5
    cases hL : difL t u E with
    | nil =>
      have := (T.eqv E).mpr (T.dif hL)
      rw [hd] at this
      cases this
    | cons q r =>
      refine ⟨stD q.1 q.2.1 q.2.2, fin _ ?_, .inr ⟨E, q, r, rows, hL, rfl⟩⟩
      have eD : ∀ s0 s1 s2 s3 s5 s6, _ := fun s0 s1 s2 s3 s5 s6 => v_dif T (k := E) (r := none) (q := none) (s0 := s0) (s1 := s1) (s2 := s2) (s3 := s3) (s5 := s5) (s6 := s6)
      rw [hL] at eD
      have eE : enumD ((List.range (mostN t + 1)).map fun l => boolsD (W t E l) (spN t + 1)) = (List.range (mostN t + 1)).map fun l => .tup [.int (l : Nat), boolsD (W t E l) (spN t + 1)] := enum_range
      have hseq : seqD (rowDt t E) = some ((List.range (mostN t + 1)).map fun l => boolsD (W t E l) (spN t + 1)) := rfl
      by_cases hm2 : mostN t ≤ E
      · have e3 := inB_kv (most := mostN t) (key2 (t := t) (u := u) (k := E))
        rw [hf] at e3
        simp [s1_first_unlike, rho, mLen2, v_rec2 T.g, hm, -v_Table_most, hm2, w1 E hm2, w2 E hm2, e3, key2, kvB_len, show E - mostN t < 16777216 by omega, n1, n2, e5, hseq, eE, show mostN t + 1 ≤ 4000 by omega, wipeD, eD]
      · simp [s1_first_unlike, rho, mLen2, v_rec2 T.g, hm, -v_Table_most, hm2, n1, n2, e5, hseq, eE, show mostN t + 1 ≤ 4000 by omega, wipeD, eD]

end
noncomputable section
variable {P : Program} {w : World} {K : PySem.W.Frag} {mg : Str → Option Value} {base : Heap}
theorem der_first_unlike (T : Txt P K mg base) {cdv : Value} {A : Around} {outer : List Env} {s : Shared} {H : Hp} {E : XK} (hr : Room 3 (A.deeper (envOfC "first_unlike" (defScope s_first_unlike) s.heap.objs.size (He.ga K "first_unlike") cdv))) :
    PSs (cxOf (L2.CX P w) P w K mg base N_first_unlike "first_unlike" (defScope s_first_unlike) (He.ga K "first_unlike") cdv A outer s H E) (defBody s_first_unlike) (t_first_unlike K E) := by
  have nd := (sc_first_unlike).nd
  have tk : Takes (cxOf (L2.CX P w) P w K mg base N_first_unlike "first_unlike" (defScope s_first_unlike) (He.ga K "first_unlike") cdv A outer s H E) (fun cls d _ H => E cls d H) := takes_of rfl rfl rfl rfl
  exact (pss_cons (ps_par (i := 2) (j := 3) rfl nd rfl rfl (by decide) rfl rfl (pa_cons (pe_tup (pa_cons (pe_lst pa_nil) (pa_cons (pe_lst pa_nil) pa_nil))) (pa_cons pe_dnewN pa_nil)) rfl)
    (pss_one (ps_while (passes_of rfl) (pt_val pe_bl) (pss_cons (ps_set (i := 4) nd rfl (by first | exact Or.inl rfl | exact Or.inr rfl) (pe_callB call_lenA (by rfl) T.f_len (by decide +kernel) (pa_cons (pe_ix (ix_V (units65 hr)) (pv 2) pe_int (fun _ _ => rfl)) pa_nil)))
    (pss_cons (ps_setLc (i := 5) (own := [("some", 9)]) (g := (gName 9)) (tt := tYes) (te := (tSl (rSl K) (tRevL K (tVar 9)) tNoPart (tPart (tPropO K "Table" (spL 1 (sp_Table_most K)) (tVar 0))))) rfl nd rfl rfl (sw_true rfl rfl rfl (by decide +kernel)) (pi_seq (pv 2)) (blkOk_by (own := [("some", 9)]) (N := N_first_unlike) (sc := (defScope s_first_unlike)) (by decide +kernel)) (fun _ _ _ _ _ => (pg_name (i := 9) nd rfl (by first | exact Or.inl rfl | exact Or.inr rfl))) (fun _ _ _ _ _ => pts_nil) (fun _ _ _ _ _ => (pe_slice sl_any (pe_revL (pv 9)) po_none (po_some (pe_propO (ok_Table_most T) (hr.mono (by decide)) (pv 0))))))
    (pss_cons (ps_if (pt_cmpR op_ge (pv 4) (pe_propO (ok_Table_most T) (hr.mono (by decide)) (pv 0)) (nomark _)) (pss_cons (ps_set (i := 6) nd rfl (by first | exact Or.inl rfl | exact Or.inr rfl) (pe_tup (pa_cons (pe_callO (ok_window_of T) (hr.mono (by decide)) (by rfl) tk (pa_cons (pv 0) (pa_cons (pe_ix (ix_V (units65 hr)) (pv 5) pe_int (fun _ _ => rfl)) pa_nil))) (pa_cons (pe_callO (ok_window_of T) (hr.mono (by decide)) (by rfl) tk (pa_cons (pv 1) (pa_cons (pe_ix (ix_V (units65 hr)) (pv 5) pe_int (fun _ _ => rfl)) pa_nil))) pa_nil))))
    (pss_cons (ps_if (pt_cmpR (op_inN (units65 hr)) (pv 6) (pv 3) (by rfl)) (pss_one (ps_ret pe_non)) pss_nil)
    (pss_one (ps_asg pe_bl (pg_sub (pv 3) (pv 6) (set_N (units65 hr))))))) pss_nil)
    (pss_cons (ps_asg (pe_tup (pa_cons (pe_callO (ok_next_row T) (hr.mono (by decide)) (by rfl) tk (pa_cons (pv 0) (pa_cons (pe_ix (ix_V (units65 hr)) (pv 5) pe_int (fun _ _ => rfl)) (pa_cons (pv 4) pa_nil)))) (pa_cons (pe_callO (ok_next_row T) (hr.mono (by decide)) (by rfl) tk (pa_cons (pv 1) (pa_cons (pe_ix (ix_V (units65 hr)) (pv 5) pe_int (fun _ _ => rfl)) (pa_cons (pv 4) pa_nil)))) pa_nil))) (pg_tup rfl (pgs_cons (pg_name (i := 7) nd rfl (by first | exact Or.inl rfl | exact Or.inr rfl)) (pgs_cons (pg_name (i := 8) nd rfl (by first | exact Or.inl rfl | exact Or.inr rfl)) pgs_nil))))
    (pss_cons (ps_if (pt_cmpR (op_neA (units64 hr)) (pv 7) (pv 8) (nomark _)) (pss_one (ps_ret (pe_ix (ix_V (units65 hr)) (pe_lc2 (own := [("last", 10), ("line", 11), ("left", 12), ("told", 13)]) (vs1 := [12, 13]) (g := (gTup K 2 (gCons (gName 10) (gCons (gName 11) gNil)))) (tt := tYes) (wi1 := (iEnumA K (tCons (tVar 11) tNil))) (g1 := (gTup K 2 (gCons (gName 12) (gCons (gName 13) gNil)))) (tt1 := (tTest (tOp (rNeA K) (tVar 13) (tOp (rIxV K) (tOp (rIxV K) (tVar 8) (tVar 10)) (tVar 12))))) (te := (tTup (tCons (tVar 4) (tCons (tVar 10) (tCons (tVar 12) tNil))))) rfl nd (pi_enumA (by rfl) T.f_enumerate (pa_cons (pv 7) pa_nil)) (blkOk_by (own := [("last", 10), ("line", 11), ("left", 12), ("told", 13)]) (N := N_first_unlike) (sc := (defScope s_first_unlike)) (by decide +kernel)) (by decide) (fun _ _ _ _ _ => (pg_tup rfl (pgs_cons (pg_name (i := 10) nd rfl (by first | exact Or.inl rfl | exact Or.inr rfl)) (pgs_cons (pg_name (i := 11) nd rfl (by first | exact Or.inl rfl | exact Or.inr rfl)) pgs_nil)))) (fun _ _ _ _ _ => pts_nil) (fun _ _ _ _ _ => (pi_enumA (by rfl) T.f_enumerate (pa_cons (pv 11) pa_nil))) (fun _ _ _ _ _ => (pg_tup rfl (pgs_cons (pg_name (i := 12) nd rfl (by first | exact Or.inl rfl | exact Or.inr rfl)) (pgs_cons (pg_name (i := 13) nd rfl (by first | exact Or.inl rfl | exact Or.inr rfl)) pgs_nil)))) (fun _ _ _ _ _ => (pts_one (pt_cmpR (op_neA (units64 hr)) (pv 13) (pe_ix (ix_V (units65 hr)) (pe_ix (ix_V (units65 hr)) (pv 8) (pv 10) (fun _ _ => rfl)) (pv 12) (fun _ _ => rfl)) (nomark _)))) (fun _ _ _ _ _ => (pe_tup (pa_cons (pv 4) (pa_cons (pv 10) (pa_cons (pv 12) pa_nil)))))) pe_int (fun _ _ => rfl)))) pss_nil)
    (pss_cons (ps_expr (pe_bm PySem.F.plainAttrs_list PySem.F.slot_list_append PySem.F.type_list_append mt_append (pe_ix (ix_V (units65 hr)) (pv 2) pe_int (fun _ _ => rfl)) (pa_cons (pv 7) pa_nil)))
    (pss_one (ps_expr (pe_bm PySem.F.plainAttrs_list PySem.F.slot_list_append PySem.F.type_list_append mt_append (pe_ix (ix_V (units65 hr)) (pv 2) pe_int (fun _ _ => rfl)) (pa_cons (pv 8) pa_nil)))))))))))))
theorem ok_first_unlike (T : Txt P K mg base) : Ok P w K mg base "first_unlike" 4 ["one", "other"] (spL 2 (sp_first_unlike K)) := ok_mk (T.d_first_unlike) T.m_first_unlike sc_first_unlike (fun _ _ _ _ _ _ us hl => match us, hl with | [_, _], _ => rfl) (fun _ _ _ _ _ _ hr => der_first_unlike T hr) (pure_first_unlike T)
end
end

section
open PySem PySem.Spec L2 RZ StX
open PyProof.Rows (envOfC)
noncomputable section
variable {P : Program} {w : World} {K : PySem.W.Frag} {mg : Str → Option Value} {base : Heap}
abbrev N_parting : List Str := ["one", "other"]
theorem sc_parting : FnScope N_parting ["one", "other"] (defScope s_parting) := ⟨rfl, rfl, rfl, by decide +kernel, rfl, by decide +kernel, by decide +kernel⟩
def t_parting (K : PySem.W.Frag) (E : XK) : TS :=
    (tSeq (tIfS (tOr (tTest (tOp (rNeA K) (tPropO K "Table" (spL 1 (sp_Table_most K)) (tVar 0)) (tPropO K "Table" (spL 1 (sp_Table_most K)) (tVar 1)))) (tOr (tTest (tOp (rNeA K) (tFldO K "Table" (tVar 0) "spare") (tFldO K "Table" (tVar 1) "spare"))) (tTest (tOp (rNeA K) (tFldO K "Table" (tVar 0) "fate") (tFldO K "Table" (tVar 1) "fate"))))) (tRaise0 (He.ga K "NotComparable") (fun cls d _ H => E cls d H)) tNext)
    (tRet (tCallS (spL 2 (sp_first_unlike K)) (WE (fun cls d _ H => E cls d H)) (tCons (tVar 0) (tCons (tVar 1) tNil)))))
def b_parting : MS :=
    (mThen (mIfS (mOr (mTest (mOp neD (mProp m_Table_most (mVar 0)) (mProp m_Table_most (mVar 1)))) (mOr (mTest (mOp neD (mFld (mVar 0) "spare") (mFld (mVar 1) "spare"))) (mTest (mOp neD (mFld (mVar 0) "fate") (mFld (mVar 1) "fate"))))) (mRaise0 "NotComparable") mNext)
    (mRet (mCall 2 m_first_unlike (mCons (mVar 0) (mCons (mVar 1) mNil)))))
def m_parting : MF := mFun 2 b_parting
def sp_parting (K : PySem.W.Frag) : Sp := spM (kt K) m_parting
theorem ref_parting (T : Txt P K mg base) {E : XK} : RS (kt K) [] (fun cls d _ H => E cls d H) (t_parting K E) b_parting := by
  unfold t_parting b_parting
  exact (rs_seq (rs_if (rt_or (rt_test (RE.ro (re_op om_ne (RE.ro (re_prop bf_Table_most (re_var (i := 0)))) (RE.ro (re_prop bf_Table_most (re_var (i := 1))))))) (rt_or (rt_test (RE.ro (re_op om_ne (RE.ro (re_fld (RE.ro (re_var (i := 0))))) (RE.ro (re_fld (RE.ro (re_var (i := 1)))))))) (rt_test (RE.ro (re_op om_ne (RE.ro (re_fld (RE.ro (re_var (i := 0))))) (RE.ro (re_fld (RE.ro (re_var (i := 1)))))))))) rs_raise0 rs_next)
    (rs_ret (RE.ro (re_call bf_first_unlike (ra_cons (re_var (i := 0)) (ra_cons (re_var (i := 1)) ra_nil))))))
theorem bf_parting : Bf (kt K) 2 m_parting (sp_parting K) := bf_M
theorem pure_parting (T : Txt P K mg base) (vs : List V) (H : Hp) (Q : VK) (E : XK) (hl : vs.length = 2) (h : sp_parting K vs H Q E) : t_parting K E { nx := fun _ H' => Q .non H', rt := Q } (start N_parting vs) H := pure_M (ref_parting T) (by decide) rfl hl (by decide) h
end
noncomputable section
theorem v_parting {t u : Tab} (T : Twin t u) (hf : t.fate = u.fate) : m_parting [.tab t, .tab u] = m_first_unlike [.tab t, .tab u] := by
  obtain ⟨d, h1, _⟩ := v_first_unlike T
  have hm : m_Table_most [.tab t] = .ret (.int (mostN t : Nat)) := v_most T.g
  have hm2 : m_Table_most [.tab u] = .ret (.int (mostN u : Nat)) := v_most T.g2
  have hs1 := T.g.spa.2
  have hs2 := T.g2.spa.2
  have ns : neD (.str t.fate) (.str u.fate) = some (.bl false) := by
    rw [hf]
    have o : PyData.strOk u.fate = true := by rcases T.g2.fate with e | e <;> rw [e] <;> decide +kernel
    rw [ne_str o o]
    simp
  simp [m_parting, x_fun, b_parting, startD, hm, hm2, -v_Table_most, T.m, hs1, hs2, T.s, ns, h1]
theorem n_parting {t u : Tab} (g : t.Good) (g2 : u.Good) (h : mostN t ≠ mostN u ∨ spN t ≠ spN u ∨ t.fate ≠ u.fate) : m_parting [.tab t, .tab u] = .exc "NotComparable" none := by
  have hm : m_Table_most [.tab t] = .ret (.int (mostN t : Nat)) := v_most g
  have hm2 : m_Table_most [.tab u] = .ret (.int (mostN u : Nat)) := v_most g2
  have hs1 := g.spa.2
  have hs2 := g2.spa.2
  have o1 : PyData.strOk t.fate = true := by rcases g.fate with e | e <;> rw [e] <;> decide +kernel
  have o2 : PyData.strOk u.fate = true := by rcases g2.fate with e | e <;> rw [e] <;> decide +kernel
  have ns := ne_str o1 o2
  by_cases h1 : mostN t = mostN u
  · by_cases h2 : spN t = spN u
    · have h3 : t.fate ≠ u.fate := by rcases h with h | h | h; exact (h h1).elim; exact (h h2).elim; exact h
      simp [m_parting, x_fun, b_parting, startD, hm, hm2, -v_Table_most, hs1, hs2, h1, h2, ns, h3]
    · simp [m_parting, x_fun, b_parting, startD, hm, hm2, -v_Table_most, hs1, hs2, h1, show ¬ (spN t : Int) = (spN u : Int) by omega]
  · simp [m_parting, x_fun, b_parting, startD, hm, hm2, -v_Table_most, hs1, hs2, show ¬ (mostN t : Int) = (mostN u : Int) by omega]

end
noncomputable section
variable {P : Program} {w : World} {K : PySem.W.Frag} {mg : Str → Option Value} {base : Heap}
theorem der_parting (T : Txt P K mg base) {cdv : Value} {A : Around} {outer : List Env} {s : Shared} {H : Hp} {E : XK} (hr : Room 4 (A.deeper (envOfC "parting" (defScope s_parting) s.heap.objs.size (He.ga K "parting") cdv))) :
    PSs (cxOf (L2.CX P w) P w K mg base N_parting "parting" (defScope s_parting) (He.ga K "parting") cdv A outer s H E) (defBody s_parting) (t_parting K E) := by
  have nd := (sc_parting).nd
  have tk : Takes (cxOf (L2.CX P w) P w K mg base N_parting "parting" (defScope s_parting) (He.ga K "parting") cdv A outer s H E) (fun cls d _ H => E cls d H) := takes_of rfl rfl rfl rfl
  exact (pss_cons (ps_if (PW.pt (pw_or (pt_cmpR (op_neA (units64 hr)) (pe_propO (ok_Table_most T) (hr.mono (by decide)) (pv 0)) (pe_propO (ok_Table_most T) (hr.mono (by decide)) (pv 1)) (nomark _)) (pw_or (pt_cmpR (op_neA (units64 hr)) (pe_fldO T.l_Table_spare (pv 0)) (pe_fldO T.l_Table_spare (pv 1)) (nomark _)) (pw_or1 (pt_cmpR (op_neA (units64 hr)) (pe_fldO T.l_Table_fate (pv 0)) (pe_fldO T.l_Table_fate (pv 1)) (nomark _)))))) (pss_one (ps_raise0 rfl T.x_NotComparable hr tk)) pss_nil)
    (pss_one (ps_ret (pe_callO (ok_first_unlike T) (hr.mono (by decide)) (by rfl) tk (pa_cons (pv 0) (pa_cons (pv 1) pa_nil))))))
theorem ok_parting (T : Txt P K mg base) : Ok P w K mg base "parting" 5 ["one", "other"] (spL 2 (sp_parting K)) := ok_mk (T.d_parting) T.m_parting sc_parting (fun _ _ _ _ _ _ us hl => match us, hl with | [_, _], _ => rfl) (fun _ _ _ _ _ _ hr => der_parting T hr) (pure_parting T)
end
end

section
open PySem PySem.Spec L2 RZ StX
open PyProof.Rows (envOfC)
noncomputable section
variable {P : Program} {w : World} {K : PySem.W.Frag} {mg : Str → Option Value} {base : Heap}
abbrev N__law_moves : List Str := ["_law_row", "_law_size", "_law_last", "_law_left", "_law_found", "_law_take"]
theorem sc__law_moves : FnScope N__law_moves ["_law_row", "_law_size", "_law_last", "_law_left"] (defScope s__law_moves) := ⟨rfl, rfl, rfl, by decide +kernel, rfl, by decide +kernel, by decide +kernel⟩
def t__law_moves (K : PySem.W.Frag) (E : XK) : TS :=
    (tSeq (tAsg (tIf (tAnd (tTest (tOp (rI0 fun i j => .bl (decide (j < i))) (tVar 3) (tC (.int 0)))) (tTest (tOp (rI0 fun i j => .bl (decide (j < i))) (tVar 1) (tC (.int 0))))) (tLst (tCons (tC (.int 0)) tNil)) (tLst tNil)) (gName 4))
    (tRet (tOp (rAddA K) (tVar 4) (tLc (iSeq K (tOp (rIxV K) (tOp (rIxV K) (tVar 0) (tC (.int 0))) (tVar 2))) (gName 5) (tTest (tOp (rI0 fun i j => .bl (decide (i ≤ j))) (tVar 5) (tVar 1))) (tVar 5) [5]))))
def c1__law_moves : MB :=
    (mTest (mOp leD (mVar 5) (mVar 1)))
def e1__law_moves : ME :=
    (mVar 5)
def b__law_moves : MS :=
    (mThen (mAsg (mIf (mAnd (mTest (mOp gtD (mVar 3) (mC (.int 0)))) (mTest (mOp gtD (mVar 1) (mC (.int 0))))) (mLst (mCons (mC (.int 0)) mNil)) (mLst mNil)) 4)
    (mRet (mOp addD (mVar 4) (mLc (mSeq (mOp ixD (mOp ixD (mVar 0) (mC (.int 0))) (mVar 2))) (mgName 5) c1__law_moves e1__law_moves [5]))))
def m__law_moves : MF := mFun 6 b__law_moves
def sp__law_moves (K : PySem.W.Frag) : Sp := spM (kt K) m__law_moves
theorem ref__law_moves (T : Txt P K mg base) {E : XK} : RS (kt K) [] (fun cls d _ H => E cls d H) (t__law_moves K E) b__law_moves := by
  unfold t__law_moves b__law_moves
  exact (rs_seq (rs_asg (i := 4) (rc_of (by decide) (re_if (rt_and (rt_test (RE.ro (re_op om_gt (RE.ro (re_var (i := 3))) (RE.ro re_int)))) (rt_test (RE.ro (re_op om_gt (RE.ro (re_var (i := 1))) (RE.ro re_int))))) (re_lst (ra_cons re_int ra_nil)) (re_lst ra_nil))))
    (rs_ret (RE.ro (re_op om_add (RE.ro (re_var (i := 4))) (RE.ro (re_lc (vs := [5]) (ws := [5]) (ri_seq (re_op om_ix (RE.ro (re_op om_ix (RE.ro (re_var (i := 0))) (RE.ro re_int))) (RE.ro (re_var (i := 2))))) (rg_name (i := 5)) (fun _ h => h) (rt_test (RE.ro (re_op om_le (RE.ro (re_var (i := 5))) (RE.ro (re_var (i := 1)))))) (re_var (i := 5))))))))
theorem bf__law_moves : Bf (kt K) 4 m__law_moves (sp__law_moves K) := bf_M
theorem pure__law_moves (T : Txt P K mg base) (vs : List V) (H : Hp) (Q : VK) (E : XK) (hl : vs.length = 4) (h : sp__law_moves K vs H Q E) : t__law_moves K E { nx := fun _ H' => Q .non H', rt := Q } (start N__law_moves vs) H := pure_M (ref__law_moves T) (by decide) rfl hl (by decide) h
end
noncomputable section
theorem v__law_moves {t : Tab} (g : t.Good) {s l p : Nat} (h : l ≤ mostN t) : m__law_moves [rowL t, .int s, .int l, .int p] = .ret (.lst ((optS t s l p).map fun o => .int o.m)) := by
  have e := lc_fmap (mg := mgName 5) (t := c1__law_moves) (a := e1__law_moves) (f := fun x : Nat => .int (x : Nat)) (ρ := [some (rowL t), some (.int s), some (.int l), some (.int p), some (.lst ((passO s l p).map fun o => .int o.m)), none]) (fun x => if x ≤ s then some ((fun o : Opt => Dt.int (o.m : Nat)) ⟨x, s - x, x, p⟩) else none) (xs := tk t l) (fun x _ => by
    by_cases e : x ≤ s
    · simp [lcOne, c1__law_moves, e1__law_moves, e, show (x : Int) ≤ (s : Int) by omega]
    · simp [lcOne, c1__law_moves, e1__law_moves, e, show ¬ (x : Int) ≤ (s : Int) by omega])
  rw [takes_map g (f := fun o : Opt => Dt.int (o.m : Nat))] at e
  have e2 := ix_row g h
  have hl := tk_len g (l := l)
  have ho := opt_len g (s := s) (l := l) (p := p)
  unfold optS at ho ⊢
  rw [List.length_append] at ho
  by_cases hc : 0 < p ∧ 0 < s
  · have ep : passO s l p = [⟨0, s, l, p - 1⟩] := if_pos hc
    rw [ep] at e ho
    simp at e
    simp [m__law_moves, x_fun, b__law_moves, startD, hc.1, hc.2, e2, rowN, show (tk t l).length ≤ 16777216 by omega, wipeD, ep, show ¬ (p : Int) ≤ 0 by omega]
    rw [e]
    simp at ho
    simp [show 1 + (takeO t s l p).length ≤ 16777216 by omega]
  · have ep : passO s l p = [] := if_neg hc
    rw [ep] at e ho
    simp at e ho
    by_cases h1 : 0 < p
    · have h2 : s = 0 := by omega
      subst h2
      simp [m__law_moves, x_fun, b__law_moves, startD, h1, e2, rowN, show (tk t l).length ≤ 16777216 by omega, wipeD, ep]
      simp at e
      rw [e]
      simp [show (takeO t 0 l p).length ≤ 16777216 by omega]
    · have h2 : p = 0 := by omega
      subst h2
      simp [m__law_moves, x_fun, b__law_moves, startD, e2, rowN, show (tk t l).length ≤ 16777216 by omega, wipeD, ep]
      simp at e
      rw [e]
      simp [show (takeO t s l 0).length ≤ 16777216 by omega]

end
noncomputable section
variable {P : Program} {w : World} {K : PySem.W.Frag} {mg : Str → Option Value} {base : Heap}
theorem der__law_moves (T : Txt P K mg base) {cdv : Value} {A : Around} {outer : List Env} {s : Shared} {H : Hp} {E : XK} (hr : Room 0 (A.deeper (envOfC "_law_moves" (defScope s__law_moves) s.heap.objs.size (He.ga K "_law_moves") cdv))) :
    PSs (cxOf (L2.CX P w) P w K mg base N__law_moves "_law_moves" (defScope s__law_moves) (He.ga K "_law_moves") cdv A outer s H E) (defBody s__law_moves) (t__law_moves K E) := by
  have nd := (sc__law_moves).nd
  have tk : Takes (cxOf (L2.CX P w) P w K mg base N__law_moves "_law_moves" (defScope s__law_moves) (He.ga K "_law_moves") cdv A outer s H E) (fun cls d _ H => E cls d H) := takes_of rfl rfl rfl rfl
  exact (pss_cons (ps_set (i := 4) nd rfl (by first | exact Or.inl rfl | exact Or.inr rfl) (pe_ifExp (PW.pt (pw_and (pt_cmpR op_gt (pv 3) pe_int (nomark _)) (pw_and1 (pt_cmpR op_gt (pv 1) pe_int (nomark _))))) (pe_lst (pa_cons pe_int pa_nil)) (pe_lst pa_nil)))
    (pss_one (ps_ret (pe_op op_addA (pv 4) (pe_lc (own := [("_law_take", 5)]) (g := (gName 5)) (tt := (tTest (tOp (rI0 fun i j => .bl (decide (i ≤ j))) (tVar 5) (tVar 1)))) (te := (tVar 5)) rfl nd (pi_seq (pe_ix (ix_V (units65 hr)) (pe_ix (ix_V (units65 hr)) (pv 0) pe_int (fun _ _ => rfl)) (pv 2) (fun _ _ => rfl))) (blkOk_by (own := [("_law_take", 5)]) (N := N__law_moves) (sc := (defScope s__law_moves)) (by decide +kernel)) (fun _ _ _ _ _ => (pg_name (i := 5) nd rfl (by first | exact Or.inl rfl | exact Or.inr rfl))) (fun _ _ _ _ _ => (pts_one (pt_cmpR op_le (pv 5) (pv 1) (nomark _)))) (fun _ _ _ _ _ => (pv 5)))))))
theorem ok__law_moves (T : Txt P K mg base) : Ok P w K mg base "_law_moves" 1 ["_law_row", "_law_size", "_law_last", "_law_left"] (spL 4 (sp__law_moves K)) := ok_mk (T.d__law_moves) T.m__law_moves sc__law_moves (fun _ _ _ _ _ _ us hl => match us, hl with | [_, _, _, _], _ => rfl) (fun _ _ _ _ _ _ hr => der__law_moves T hr) (pure__law_moves T)
end
end

section
open PySem PySem.Spec L2 RZ StX
open PyProof.Rows (envOfC)
noncomputable section
variable {P : Program} {w : World} {K : PySem.W.Frag} {mg : Str → Option Value} {base : Heap}
abbrev N__law_behind : List Str := ["_law_size", "_law_last", "_law_left", "_law_move"]
theorem sc__law_behind : FnScope N__law_behind ["_law_size", "_law_last", "_law_left", "_law_move"] (defScope s__law_behind) := ⟨rfl, rfl, rfl, by decide +kernel, rfl, by decide +kernel, by decide +kernel⟩
def t__law_behind (K : PySem.W.Frag) (E : XK) : TS :=
    (tRet (tIf (tTest (tOp (rEqA K) (tVar 3) (tC (.int 0)))) (tTup (tCons (tVar 0) (tCons (tVar 1) (tCons (tOp (rI0 fun i j => .int (i - j)) (tVar 2) (tC (.int 1))) tNil)))) (tTup (tCons (tOp (rI0 fun i j => .int (i - j)) (tVar 0) (tVar 3)) (tCons (tVar 3) (tCons (tVar 2) tNil))))))
def b__law_behind : MS :=
    (mRet (mIf (mTest (mOp eqD (mVar 3) (mC (.int 0)))) (mTup (mCons (mVar 0) (mCons (mVar 1) (mCons (mOp subD (mVar 2) (mC (.int 1))) mNil)))) (mTup (mCons (mOp subD (mVar 0) (mVar 3)) (mCons (mVar 3) (mCons (mVar 2) mNil))))))
def m__law_behind : MF := mFun 4 b__law_behind
def sp__law_behind (K : PySem.W.Frag) : Sp := spM (kt K) m__law_behind
theorem ref__law_behind (T : Txt P K mg base) {E : XK} : RS (kt K) [] (fun cls d _ H => E cls d H) (t__law_behind K E) b__law_behind := by
  unfold t__law_behind b__law_behind
  exact (rs_ret (RE.ro (re_if (rt_test (RE.ro (re_op om_eq (RE.ro (re_var (i := 3))) (RE.ro re_int)))) (re_tup (ra_cons (re_var (i := 0)) (ra_cons (re_var (i := 1)) (ra_cons (re_op om_sub (RE.ro (re_var (i := 2))) (RE.ro re_int)) ra_nil)))) (re_tup (ra_cons (re_op om_sub (RE.ro (re_var (i := 0))) (RE.ro (re_var (i := 3)))) (ra_cons (re_var (i := 3)) (ra_cons (re_var (i := 2)) ra_nil)))))))
theorem bf__law_behind : Bf (kt K) 4 m__law_behind (sp__law_behind K) := bf_M
theorem pure__law_behind (T : Txt P K mg base) (vs : List V) (H : Hp) (Q : VK) (E : XK) (hl : vs.length = 4) (h : sp__law_behind K vs H Q E) : t__law_behind K E { nx := fun _ H' => Q .non H', rt := Q } (start N__law_behind vs) H := pure_M (ref__law_behind T) (by decide) rfl hl (by decide) h
end
noncomputable section
theorem v__law_behind {t : Tab} (g : t.Good) {s l p : Nat} {o : Opt} (ho : o ∈ optS t s l p) : m__law_behind [.int s, .int l, .int p, .int o.m] = .ret (stD o.s o.l o.p) := by
  obtain ⟨m, os, ol, op⟩ := o
  rcases optS_mem ho with ⟨h1, h2, h3, h4⟩ | ⟨h1, h2, h3, h4⟩
  · simp at h4
    obtain ⟨rfl, rfl, rfl, rfl⟩ := h4
    simp [m__law_behind, x_fun, b__law_behind, startD, stD]
    omega
  · simp at h2 h3 h4
    obtain ⟨rfl, rfl, rfl⟩ := h4
    simp [m__law_behind, x_fun, b__law_behind, startD, stD, show ¬ ol = 0 by omega]
    omega

end
noncomputable section
variable {P : Program} {w : World} {K : PySem.W.Frag} {mg : Str → Option Value} {base : Heap}
theorem der__law_behind (T : Txt P K mg base) {cdv : Value} {A : Around} {outer : List Env} {s : Shared} {H : Hp} {E : XK} (hr : Room 0 (A.deeper (envOfC "_law_behind" (defScope s__law_behind) s.heap.objs.size (He.ga K "_law_behind") cdv))) :
    PSs (cxOf (L2.CX P w) P w K mg base N__law_behind "_law_behind" (defScope s__law_behind) (He.ga K "_law_behind") cdv A outer s H E) (defBody s__law_behind) (t__law_behind K E) := by
  have nd := (sc__law_behind).nd
  have tk : Takes (cxOf (L2.CX P w) P w K mg base N__law_behind "_law_behind" (defScope s__law_behind) (He.ga K "_law_behind") cdv A outer s H E) (fun cls d _ H => E cls d H) := takes_of rfl rfl rfl rfl
  exact (pss_one (ps_ret (pe_ifExp (pt_cmpR (op_eqA (units64 hr)) (pv 3) pe_int (nomark _)) (pe_tup (pa_cons (pv 0) (pa_cons (pv 1) (pa_cons (pe_op op_sub (pv 2) pe_int) pa_nil)))) (pe_tup (pa_cons (pe_op op_sub (pv 0) (pv 3)) (pa_cons (pv 3) (pa_cons (pv 2) pa_nil)))))))
theorem ok__law_behind (T : Txt P K mg base) : Ok P w K mg base "_law_behind" 1 ["_law_size", "_law_last", "_law_left", "_law_move"] (spL 4 (sp__law_behind K)) := ok_mk (T.d__law_behind) T.m__law_behind sc__law_behind (fun _ _ _ _ _ _ us hl => match us, hl with | [_, _, _, _], _ => rfl) (fun _ _ _ _ _ _ hr => der__law_behind T hr) (pure__law_behind T)
end
end

section
open PySem PySem.Spec L2 RZ StX
open PyProof.Rows (envOfC)
noncomputable section
variable {P : Program} {w : World} {K : PySem.W.Frag} {mg : Str → Option Value} {base : Heap}
abbrev N__law_outcomes : List Str := ["_law_row", "_law_top", "_law_found", "_law_size", "_law_last", "_law_left", "_law_some", "_law_won", "_law_move"]
theorem sc__law_outcomes : FnScope N__law_outcomes ["_law_row", "_law_top"] (defScope s__law_outcomes) := ⟨rfl, rfl, rfl, by decide +kernel, rfl, by decide +kernel, by decide +kernel⟩
def t__law_outcomes (K : PySem.W.Frag) (E : XK) : TS :=
    (tSeq (tAsg tDNewT (gName 2))
    (tSeq (tFor (iRng1 (tCons (tOp (rAddA K) (tVar 1) (tC (.int 1))) tNil)) (gName 3) (tFor (iRng1 (tCons (tCB (rLenA K) (tCons (tOp (rIxV K) (tVar 0) (tC (.int 0))) tNil)) tNil)) (gName 4) (tFor (iRng1 (tCons (tOp (rAddA K) (tOp (rIxV K) (tVar 0) (tC (.int 1))) (tC (.int 1))) tNil)) (gName 5) (tSeq (tAsg (tCallS (spL 4 (sp__law_moves K)) (WE (fun cls d _ H => E cls d H)) (tCons (tVar 0) (tCons (tVar 3) (tCons (tVar 4) (tCons (tVar 5) tNil))))) (gName 6))
    (tSeq (tAsg (tIf (tTest (tOp (rEqA K) (tVar 6) (tLst tNil))) (tOp (rEqA K) (tOp (rIxV K) (tVar 0) (tC (.int 2))) (tC (.str "wins"))) (tC (.bl false))) (gName 7))
    (tSeq (tFor (iSeq K (tVar 6)) (gName 8) (tAsg (tOrV (tVar 7) (tNotV (tOp (rIxV K) (tVar 2) (tCallS (spL 4 (sp__law_behind K)) (WE (fun cls d _ H => E cls d H)) (tCons (tVar 3) (tCons (tVar 4) (tCons (tVar 5) (tCons (tVar 8) tNil)))))))) (gName 7)))
    (tAsg (tVar 7) (gSub (tVar 2) (tTup (tCons (tVar 3) (tCons (tVar 4) (tCons (tVar 5) tNil)))) rSetV))))))))
    (tRet (tVar 2))))
def s1__law_outcomes : MS :=
    (mAsg (mOrV (mVar 7) (mNotV (mOp ixD (mVar 2) (mCall 4 m__law_behind (mCons (mVar 3) (mCons (mVar 4) (mCons (mVar 5) (mCons (mVar 8) mNil)))))))) 7)
def s2__law_outcomes : MS :=
    (mThen (mAsg (mCall 4 m__law_moves (mCons (mVar 0) (mCons (mVar 3) (mCons (mVar 4) (mCons (mVar 5) mNil))))) 6)
    (mThen (mAsg (mIf (mTest (mOp eqD (mVar 6) (mLst mNil))) (mOp eqD (mOp ixD (mVar 0) (mC (.int 2))) (mC (.str "wins"))) (mC (.bl false))) 7)
    (mThen (mFor (mSeq (mVar 6)) (mgName 8) s1__law_outcomes)
    (mSetT 2 (mCons (mVar 3) (mCons (mVar 4) (mCons (mVar 5) mNil))) (mVar 7)))))
def s3__law_outcomes : MS :=
    (mFor (mRng1 (mCons (mOp addD (mOp ixD (mVar 0) (mC (.int 1))) (mC (.int 1))) mNil)) (mgName 5) s2__law_outcomes)
def s4__law_outcomes : MS :=
    (mFor (mRng1 (mCons (mCB lenD (mCons (mOp ixD (mVar 0) (mC (.int 0))) mNil)) mNil)) (mgName 4) s3__law_outcomes)
def b__law_outcomes : MS :=
    (mThen (mAsg (mC (.dT [])) 2)
    (mThen (mFor (mRng1 (mCons (mOp addD (mVar 1) (mC (.int 1))) mNil)) (mgName 3) s4__law_outcomes)
    (mRet (mVar 2))))
def m__law_outcomes : MF := mFun 9 b__law_outcomes
def sp__law_outcomes (K : PySem.W.Frag) : Sp := spM (kt K) m__law_outcomes
theorem ref__law_outcomes (T : Txt P K mg base) {E : XK} : RS (kt K) [2] (fun cls d _ H => E cls d H) (t__law_outcomes K E) b__law_outcomes := by
  unfold t__law_outcomes b__law_outcomes
  exact (rs_seq (rs_asg (i := 2) (rc_dT (by decide)))
    (rs_seq (rs_for (vs := [3]) (ri_rng1 (RA.w (ra_cons (re_op om_add (RE.ro (re_var (i := 1))) (RE.ro re_int)) ra_nil))) (rg_name (i := 3)) (rs_for (vs := [4]) (ri_rng1 (RA.w (ra_cons (re_cb cm_len (RA.w (ra_cons (re_op om_ix (RE.ro (re_var (i := 0))) (RE.ro re_int)) ra_nil))) ra_nil))) (rg_name (i := 4)) (rs_for (vs := [5]) (ri_rng1 (RA.w (ra_cons (re_op om_add (RE.ro (re_op om_ix (RE.ro (re_var (i := 0))) (RE.ro re_int))) (RE.ro re_int)) ra_nil))) (rg_name (i := 5)) (rs_seq (rs_asg (i := 6) (rc_of (by decide) (re_call bf__law_moves (ra_cons (re_var (i := 0)) (ra_cons (re_var (i := 3)) (ra_cons (re_var (i := 4)) (ra_cons (re_var (i := 5)) ra_nil)))))))
    (rs_seq (rs_asg (i := 7) (rc_of (by decide) (re_if (rt_test (RE.ro (re_op om_eq (RE.ro (re_var (i := 6))) (RE.ro (re_lst ra_nil))))) (re_op om_eq (RE.ro (re_op om_ix (RE.ro (re_var (i := 0))) (RE.ro re_int))) (RE.ro re_str)) re_bl)))
    (rs_seq (rs_for (vs := [8]) (ri_seq (re_var (i := 6))) (rg_name (i := 8)) (rs_asg (i := 7) (rc_of (by decide) (re_or (RE.ro (re_var (i := 7))) (re_not (RE.ro (re_op om_ix ro_var (RE.ro (re_call bf__law_behind (ra_cons (re_var (i := 3)) (ra_cons (re_var (i := 4)) (ra_cons (re_var (i := 5)) (ra_cons (re_var (i := 8)) ra_nil)))))))))))))
    (rs_setT (i := 2) (by decide) (ra_cons (re_var (i := 3)) (ra_cons (re_var (i := 4)) (ra_cons (re_var (i := 5)) ra_nil))) (re_var (i := 7)))))))))
    (rs_ret ro_var)))
theorem bf__law_outcomes : Bf (kt K) 2 m__law_outcomes (sp__law_outcomes K) := bf_M
theorem pure__law_outcomes (T : Txt P K mg base) (vs : List V) (H : Hp) (Q : VK) (E : XK) (hl : vs.length = 2) (h : sp__law_outcomes K vs H Q E) : t__law_outcomes K E { nx := fun _ H' => Q .non H', rt := Q } (start N__law_outcomes vs) H := pure_M (ref__law_outcomes T) (by decide) rfl hl (by decide) h
end
noncomputable section
def wV (t : Tab) (q : Pl) : V := .bl (W t q.1 q.2.1 q.2.2)
def toldD (t : Tab) (top : Nat) : Dt := .dT (kvT (wV t) (plS (mostN t + 1) (spN t + 1) (top + 1)))
theorem v__law_outcomes {t : Tab} (g : t.Good) {top : Nat} (ht : top ≤ 100000) : m__law_outcomes [rowL t, .int top] = .ret (toldD t top) := by
  have gm := g.most
  have gs := g.spa
  have r1 := rngA_n1 (n := top) (by omega)
  have r2 := rngA_n (n := mostN t + 1) (by omega)
  have r3 := rngA_n1 (n := spN t) (by omega)
  have hlen : ((t.rows.length : Nat) : Int) = ((mostN t + 1 : Nat) : Int) := by omega
  have hlen' : ((t.rows.length : Nat) : Int) = (mostN t : Int) + 1 := by omega
  have r2' := rngA_n1 (n := mostN t) (by omega)
  -- one stand
  have step3 : ∀ s l p, s < top + 1 → l < mostN t + 1 → p < spN t + 1 → ∀ s6 s7 s8 s5 : Option Dt, ∃ r6 r7 r8 : Option Dt, forOne (mgName 5) s2__law_outcomes (.int (p : Nat)) [some (rowL t), some (.int top), some (.dT (kvT (wV t) (plS (mostN t + 1) (spN t + 1) s ++ plL (spN t + 1) s l ++ plP s l p))), some (.int (s : Nat)), some (.int (l : Nat)), s5, s6, s7, s8] = .ret (.nx [some (rowL t), some (.int top), some (.dT (kvT (wV t) (plS (mostN t + 1) (spN t + 1) s ++ plL (spN t + 1) s l ++ plP s l (p + 1)))), some (.int (s : Nat)), some (.int (l : Nat)), some (.int (p : Nat)), r6, r7, r8]) := by
    intro s l p hs hl hp s6 s7 s8 s5
    have e0 := v__law_moves g (s := s) (p := p) (show l ≤ mostN t by omega)
    generalize hL : plS (mostN t + 1) (spN t + 1) s ++ plL (spN t + 1) s l ++ plP s l p = L
    have hnot : (s, l, p) ∉ L := by
      rw [← hL]
      simp [plS_mem, plL_mem, plP_mem]
    have hlen2 : L.length ≤ 900000 := by
      rw [← hL, List.length_append, List.length_append, plS_len, plL_len, plP_len]
      have b1 : s * ((mostN t + 1) * (spN t + 1)) ≤ 100000 * (4 * 2) := Nat.mul_le_mul (by omega) (Nat.mul_le_mul (by omega) (by omega))
      have b2 : l * (spN t + 1) ≤ 4 * 2 := Nat.mul_le_mul (by omega) (by omega)
      omega
    have hput : putK (kvT (wV t) L) (plK (s, l, p)) (wV t (s, l, p)) = kvT (wV t) (plS (mostN t + 1) (spN t + 1) s ++ plL (spN t + 1) s l ++ plP s l (p + 1)) := by
      rw [kvT_put hnot, plP_succ, ← List.append_assoc, hL]
    have e1 := eqn_ints (l := optS t s l p) (f := fun o : Opt => (o.m : Nat))
    let wb0 : Bool := if optS t s l p = [] then winsB t else false
    let I : List Opt → Ev → Prop := fun ys ρ => ∃ s8, ρ = [some (rowL t), some (.int top), some (.dT (kvT (wV t) L)), some (.int (s : Nat)), some (.int (l : Nat)), some (.int (p : Nat)), some (.lst ((optS t s l p).map fun o => .int o.m)), some (.bl (wb0 || ys.any fun o => !W t o.s o.l o.p)), s8]
    have hI : I [] [some (rowL t), some (.int top), some (.dT (kvT (wV t) L)), some (.int (s : Nat)), some (.int (l : Nat)), some (.int (p : Nat)), some (.lst ((optS t s l p).map fun o => .int o.m)), some (.bl wb0), s8] := ⟨s8, by simp⟩
    obtain ⟨ρ', L1, s8', rfl⟩ := for_inv (mg := mgName 8) (s := s1__law_outcomes) (f := fun o : Opt => .int (o.m : Nat)) I (xs := optS t s l p) (done := []) hI (fun ys o zs e ρ ⟨s8, hρ⟩ => by
      subst hρ
      have ho : o ∈ optS t s l p := by rw [show optS t s l p = ys ++ o :: zs by simpa using e]; simp
      have hm : (o.s, o.l, o.p) ∈ L := by
        rw [← hL]
        rcases optS_mem ho with ⟨h1, h2, h3, h4⟩ | ⟨h1, h2, h3, h4⟩
        · rw [h4]
          simp [plP_mem]
          omega
        · rw [h4]
          have := tk_most g h1
          simp [plS_mem]
          omega
      have e2 := v__law_behind g ho
      have e3 := ix_kvT (w := wV t) hm
      refine ⟨_, ?_, some (.int (o.m : Nat)), rfl⟩
      cases e4 : (wb0 || ys.any fun o => !W t o.s o.l o.p) with
      | true =>
        rw [List.any_append, ← Bool.or_assoc, e4]
        simp [forOne, s1__law_outcomes]
      | false =>
        rw [List.any_append, ← Bool.or_assoc, e4]
        simp [forOne, s1__law_outcomes, e2, e3, wV])
    have hW : (wb0 || (optS t s l p).any fun o => !W t o.s o.l o.p) = W t s l p := by
      rw [W_eq]
      by_cases hc : optS t s l p = []
      · simp [wb0, hc]
      · simp [wb0, hc]
    rw [List.nil_append, hW] at L1
    refine ⟨some (.lst ((optS t s l p).map fun o => .int o.m)), some (.bl (W t s l p)), s8', ?_⟩
    have hwb : (if optS t s l p = [] then Pm.ret (Dt.bl (winsB t)) else Pm.ret (.bl false)) = Pm.ret (.bl wb0) := by
      by_cases hc : optS t s l p = []
      · simp [wb0, hc]
      · simp [wb0, hc]
    simp [forOne, s2__law_outcomes, e0, e1, fate_eq g, hwb, L1, keys_st, kvT_len, show L.length < 16777216 by omega]
    rw [← List.append_assoc]
    exact hput
  have step2 : ∀ s l, s < top + 1 → l < mostN t + 1 → ∀ s6 s7 s8 s5 s4 : Option Dt, ∃ r5 r6 r7 r8 : Option Dt, forOne (mgName 4) s3__law_outcomes (.int (l : Nat)) [some (rowL t), some (.int top), some (.dT (kvT (wV t) (plS (mostN t + 1) (spN t + 1) s ++ plL (spN t + 1) s l))), some (.int (s : Nat)), s4, s5, s6, s7, s8] = .ret (.nx [some (rowL t), some (.int top), some (.dT (kvT (wV t) (plS (mostN t + 1) (spN t + 1) s ++ plL (spN t + 1) s (l + 1)))), some (.int (s : Nat)), some (.int (l : Nat)), r5, r6, r7, r8]) := by
    intro s l hs hl s6 s7 s8 s5 s4
    let I : List Nat → Ev → Prop := fun ys ρ => ∃ s5 s6 s7 s8 : Option Dt, ρ = [some (rowL t), some (.int top), some (.dT (kvT (wV t) (plS (mostN t + 1) (spN t + 1) s ++ plL (spN t + 1) s l ++ plP s l ys.length))), some (.int (s : Nat)), some (.int (l : Nat)), s5, s6, s7, s8]
    obtain ⟨ρ', L1, s5', s6', s7', s8', rfl⟩ := for_inv (mg := mgName 5) (s := s2__law_outcomes) (f := fun x : Nat => .int (x : Nat)) I (xs := List.range (spN t + 1)) (done := []) (ρ := [some (rowL t), some (.int top), some (.dT (kvT (wV t) (plS (mostN t + 1) (spN t + 1) s ++ plL (spN t + 1) s l))), some (.int (s : Nat)), some (.int (l : Nat)), s5, s6, s7, s8]) ⟨s5, s6, s7, s8, by simp [plP]⟩ (fun ys p zs e ρ ⟨s5, s6, s7, s8, hρ⟩ => by
      subst hρ
      obtain ⟨hp, rfl⟩ := range_split ((List.nil_append _).symm.trans e)
      rw [List.length_range]
      obtain ⟨s6', s7', s8', h⟩ := step3 s l p hs hl hp s6 s7 s8 s5
      exact ⟨_, h, _, s6', s7', s8', by simp; rfl⟩)
    refine ⟨s5', s6', s7', s8', ?_⟩
    rw [List.nil_append, List.length_range, List.append_assoc, ← plL_succ] at L1
    simp [forOne, s3__law_outcomes, gs.2, r3]
    exact L1
  have step1 : ∀ s, s < top + 1 → ∀ s6 s7 s8 s5 s4 s3 : Option Dt, ∃ r4 r5 r6 r7 r8 : Option Dt, forOne (mgName 3) s4__law_outcomes (.int (s : Nat)) [some (rowL t), some (.int top), some (.dT (kvT (wV t) (plS (mostN t + 1) (spN t + 1) s))), s3, s4, s5, s6, s7, s8] = .ret (.nx [some (rowL t), some (.int top), some (.dT (kvT (wV t) (plS (mostN t + 1) (spN t + 1) (s + 1)))), some (.int (s : Nat)), r4, r5, r6, r7, r8]) := by
    intro s hs s6 s7 s8 s5 s4 s3
    let I : List Nat → Ev → Prop := fun ys ρ => ∃ s4 s5 s6 s7 s8 : Option Dt, ρ = [some (rowL t), some (.int top), some (.dT (kvT (wV t) (plS (mostN t + 1) (spN t + 1) s ++ plL (spN t + 1) s ys.length))), some (.int (s : Nat)), s4, s5, s6, s7, s8]
    obtain ⟨ρ', L1, s4', s5', s6', s7', s8', rfl⟩ := for_inv (mg := mgName 4) (s := s3__law_outcomes) (f := fun x : Nat => .int (x : Nat)) I (xs := List.range (mostN t + 1)) (done := []) (ρ := [some (rowL t), some (.int top), some (.dT (kvT (wV t) (plS (mostN t + 1) (spN t + 1) s))), some (.int (s : Nat)), s4, s5, s6, s7, s8]) ⟨s4, s5, s6, s7, s8, by simp [plL]⟩ (fun ys l zs e ρ ⟨s4, s5, s6, s7, s8, hρ⟩ => by
      subst hρ
      obtain ⟨hl, rfl⟩ := range_split ((List.nil_append _).symm.trans e)
      rw [List.length_range]
      obtain ⟨s5', s6', s7', s8', h⟩ := step2 s l hs hl s6 s7 s8 s5 s4
      exact ⟨_, h, _, s5', s6', s7', s8', by simp; rfl⟩)
    refine ⟨s4', s5', s6', s7', s8', ?_⟩
    rw [List.nil_append, List.length_range, ← plS_succ] at L1
    simp [forOne, s4__law_outcomes, hlen', r2']
    exact L1
  let I : List Nat → Ev → Prop := fun ys ρ => ∃ s3 s4 s5 s6 s7 s8 : Option Dt, ρ = [some (rowL t), some (.int top), some (.dT (kvT (wV t) (plS (mostN t + 1) (spN t + 1) ys.length))), s3, s4, s5, s6, s7, s8]
  obtain ⟨ρ', L1, s3', s4', s5', s6', s7', s8', rfl⟩ := for_inv (mg := mgName 3) (s := s4__law_outcomes) (f := fun x : Nat => .int (x : Nat)) I (xs := List.range (top + 1)) (done := []) (ρ := [some (rowL t), some (.int top), some (.dT (kvT (wV t) [])), none, none, none, none, none, none]) ⟨none, none, none, none, none, none, by simp [plS]⟩ (fun ys s zs e ρ ⟨s3, s4, s5, s6, s7, s8, hρ⟩ => by
    subst hρ
    obtain ⟨hl, rfl⟩ := range_split ((List.nil_append _).symm.trans e)
    rw [List.length_range]
    obtain ⟨s4', s5', s6', s7', s8', h⟩ := step1 s hl s6 s7 s8 s5 s4 s3
    exact ⟨_, h, _, s4', s5', s6', s7', s8', by simp; rfl⟩)
  rw [List.nil_append, List.length_range] at L1
  simp [m__law_outcomes, x_fun, b__law_outcomes, startD, r1]
  rw [show kvT (wV t) [] = [] from rfl] at L1
  rw [L1]
  simp [toldD]

end
noncomputable section
variable {P : Program} {w : World} {K : PySem.W.Frag} {mg : Str → Option Value} {base : Heap}
theorem der__law_outcomes (T : Txt P K mg base) {cdv : Value} {A : Around} {outer : List Env} {s : Shared} {H : Hp} {E : XK} (hr : Room 1 (A.deeper (envOfC "_law_outcomes" (defScope s__law_outcomes) s.heap.objs.size (He.ga K "_law_outcomes") cdv))) :
    PSs (cxOf (L2.CX P w) P w K mg base N__law_outcomes "_law_outcomes" (defScope s__law_outcomes) (He.ga K "_law_outcomes") cdv A outer s H E) (defBody s__law_outcomes) (t__law_outcomes K E) := by
  have nd := (sc__law_outcomes).nd
  have tk : Takes (cxOf (L2.CX P w) P w K mg base N__law_outcomes "_law_outcomes" (defScope s__law_outcomes) (He.ga K "_law_outcomes") cdv A outer s H E) (fun cls d _ H => E cls d H) := takes_of rfl rfl rfl rfl
  exact (pss_cons (ps_set (i := 2) nd rfl (by first | exact Or.inl rfl | exact Or.inr rfl) pe_dnewT)
    (pss_cons (ps_for (passes_of rfl) rfl (pi_range1 (by rfl) T.f_range (pa_cons (pe_op op_addA (pv 1) pe_int) pa_nil)) (pg_name (i := 3) nd rfl (by first | exact Or.inl rfl | exact Or.inr rfl)) (pss_one (ps_for (passes_of rfl) rfl (pi_range1 (by rfl) T.f_range (pa_cons (pe_callB call_lenA (by rfl) T.f_len (by decide +kernel) (pa_cons (pe_ix (ix_V (units65 hr)) (pv 0) pe_int (fun _ _ => rfl)) pa_nil)) pa_nil)) (pg_name (i := 4) nd rfl (by first | exact Or.inl rfl | exact Or.inr rfl)) (pss_one (ps_for (passes_of rfl) rfl (pi_range1 (by rfl) T.f_range (pa_cons (pe_op op_addA (pe_ix (ix_V (units65 hr)) (pv 0) pe_int (fun _ _ => rfl)) pe_int) pa_nil)) (pg_name (i := 5) nd rfl (by first | exact Or.inl rfl | exact Or.inr rfl)) (pss_cons (ps_set (i := 6) nd rfl (by first | exact Or.inl rfl | exact Or.inr rfl) (pe_callO (ok__law_moves T) (hr.mono (by decide)) (by rfl) tk (pa_cons (pv 0) (pa_cons (pv 3) (pa_cons (pv 4) (pa_cons (pv 5) pa_nil))))))
    (pss_cons (ps_set (i := 7) nd rfl (by first | exact Or.inl rfl | exact Or.inr rfl) (pe_ifExp (pt_cmpR (op_eqA (units64 hr)) (pv 6) (pe_lst pa_nil) (nomark _)) (pe_cmpR (op_eqA (units64 hr)) (pe_ix (ix_V (units65 hr)) (pv 0) pe_int (fun _ _ => rfl)) pe_str (nomark _)) pe_bl))
    (pss_cons (ps_for (passes_of rfl) rfl (pi_seq (pv 6)) (pg_name (i := 8) nd rfl (by first | exact Or.inl rfl | exact Or.inr rfl)) (pss_one (ps_set (i := 7) nd rfl (by first | exact Or.inl rfl | exact Or.inr rfl) (pe_or (pv 7) (pe_one (pe_not (pe_ix (ix_V (units65 hr)) (pv 2) (pe_callO (ok__law_behind T) (hr.mono (by decide)) (by rfl) tk (pa_cons (pv 3) (pa_cons (pv 4) (pa_cons (pv 5) (pa_cons (pv 8) pa_nil))))) (fun _ _ => rfl))))))))
    (pss_one (ps_asg (pv 7) (pg_sub (pv 2) (pe_tup (pa_cons (pv 3) (pa_cons (pv 4) (pa_cons (pv 5) pa_nil)))) (set_V (units65 hr)))))))))))))
    (pss_one (ps_ret (pv 2)))))
theorem ok__law_outcomes (T : Txt P K mg base) : Ok P w K mg base "_law_outcomes" 2 ["_law_row", "_law_top"] (spL 2 (sp__law_outcomes K)) := ok_mk (T.d__law_outcomes) T.m__law_outcomes sc__law_outcomes (fun _ _ _ _ _ _ us hl => match us, hl with | [_, _], _ => rfl) (fun _ _ _ _ _ _ hr => der__law_outcomes T hr) (pure__law_outcomes T)
end
end

section
open PySem PySem.Spec L2 RZ StX
open PyProof.Rows (envOfC)
noncomputable section
variable {P : Program} {w : World} {K : PySem.W.Frag} {mg : Str → Option Value} {base : Heap}
abbrev N__law_least : List Str := ["_law_row", "_law_other", "_law_top", "_law_here", "_law_there", "_law_found", "_law_stand"]
theorem sc__law_least : FnScope N__law_least ["_law_row", "_law_other", "_law_top"] (defScope s__law_least) := ⟨rfl, rfl, rfl, by decide +kernel, rfl, by decide +kernel, by decide +kernel⟩
def t__law_least (K : PySem.W.Frag) (E : XK) : TS :=
    (tSeq (tAsg (tTup (tCons (tCallS (spL 2 (sp__law_outcomes K)) (WE (fun cls d _ H => E cls d H)) (tCons (tVar 0) (tCons (tVar 2) tNil))) (tCons (tCallS (spL 2 (sp__law_outcomes K)) (WE (fun cls d _ H => E cls d H)) (tCons (tVar 1) (tCons (tVar 2) tNil))) tNil))) (gTup K 2 (gCons (gName 3) (gCons (gName 4) gNil))))
    (tSeq (tAsg (tLockE (tLc (iKeys (tVar 3)) (gName 6) (tTest (tOp (rNeA K) (tOp (rIxV K) (tVar 3) (tVar 6)) (tOp (rIxV K) (tVar 4) (tVar 6)))) (tVar 6) [6])) (gName 5))
    (tRet (tIf (tTest (tOp (rNeA K) (tVar 5) (tLst tNil))) (tOp (rIxV K) (tVar 5) (tC (.int 0))) (tC .non)))))
def b__law_least : MS :=
    (mThen (mAsgG (mTup (mCons (mCall 2 m__law_outcomes (mCons (mVar 0) (mCons (mVar 2) mNil))) (mCons (mCall 2 m__law_outcomes (mCons (mVar 1) (mCons (mVar 2) mNil))) mNil))) (mgTup 2 (mgCons (mgName 3) (mgCons (mgName 4) mgNil))))
    (mThen (mAsg (mLs 3 4 6) 5)
    (mRet (mIf (mTest (mOp neD (mVar 5) (mLst mNil))) (mOp ixD (mVar 5) (mC (.int 0))) (mC .non)))))
def m__law_least : MF := mFun 7 b__law_least
def sp__law_least (K : PySem.W.Frag) : Sp := spM (kt K) m__law_least
theorem ref__law_least (T : Txt P K mg base) {E : XK} : RS (kt K) [] (fun cls d _ H => E cls d H) (t__law_least K E) b__law_least := by
  unfold t__law_least b__law_least
  exact (rs_seq (rs_asgG (vs := [3, 4]) (re_tup (ra_cons (re_call bf__law_outcomes (ra_cons (re_var (i := 0)) (ra_cons (re_var (i := 2)) ra_nil))) (ra_cons (re_call bf__law_outcomes (ra_cons (re_var (i := 1)) (ra_cons (re_var (i := 2)) ra_nil))) ra_nil))) (rg_tup (rg_cons (rg_name (i := 3)) (rg_cons (rg_name (i := 4)) rg_nil))))
    (rs_seq (rs_asg (i := 5) (rc_of (by decide) (re_ls (by decide) (by decide))))
    (rs_ret (RE.ro (re_if (rt_test (RE.ro (re_op om_ne (RE.ro (re_var (i := 5))) (RE.ro (re_lst ra_nil))))) (re_op om_ix (RE.ro (re_var (i := 5))) (RE.ro re_int)) re_non)))))
theorem bf__law_least : Bf (kt K) 3 m__law_least (sp__law_least K) := bf_M
theorem pure__law_least (T : Txt P K mg base) (vs : List V) (H : Hp) (Q : VK) (E : XK) (hl : vs.length = 3) (h : sp__law_least K vs H Q E) : t__law_least K E { nx := fun _ H' => Q .non H', rt := Q } (start N__law_least vs) H := pure_M (ref__law_least T) (by decide) rfl hl (by decide) h
end
noncomputable section
def unL (t u : Tab) (top : Nat) : List Pl := (plS (mostN t + 1) (spN t + 1) (top + 1)).filter fun q => W t q.1 q.2.1 q.2.2 != W u q.1 q.2.1 q.2.2
theorem ls_go {t u : Tab} {L : List Pl} : ∀ {R : List Pl}, (∀ q ∈ R, q ∈ L) → lsGo (kvT (wV t) L) (kvT (wV u) L) (kvT (wV t) R) = .ret ((R.filter fun q => W t q.1 q.2.1 q.2.2 != W u q.1 q.2.1 q.2.2).map fun q => stD q.1 q.2.1 q.2.2)
  | [], _ => rfl
  | q :: R, h => by
    have ih := ls_go (t := t) (u := u) (L := L) (R := R) fun x hx => h x (List.mem_cons_of_mem _ hx)
    have hq := h q (List.mem_cons_self ..)
    show lsGo _ _ ((plK q, wV t q) :: kvT (wV t) R) = _
    rw [lsGo]
    simp only [kvT_val, if_pos hq, wV]
    rw [ih]
    cases e1 : W t q.1 q.2.1 q.2.2 <;> cases e2 : W u q.1 q.2.1 q.2.2 <;> simp [e1, e2, stD, plK, kD]
theorem v__law_least {t u : Tab} (T : Twin t u) {top : Nat} (ht : top ≤ 100000) : m__law_least [rowL t, rowL u, .int top] = .ret (match unL t u top with
    | [] => .non
    | q :: _ => stD q.1 q.2.1 q.2.2) := by
  have e1 := v__law_outcomes T.g ht
  have e2 := v__law_outcomes T.g2 ht
  have e3 : toldD u top = .dT (kvT (wV u) (plS (mostN t + 1) (spN t + 1) (top + 1))) := by unfold toldD; rw [T.m, T.s]
  rw [e3] at e2
  unfold toldD at e1
  have e4 := ls_go (t := t) (u := u) (L := plS (mostN t + 1) (spN t + 1) (top + 1)) (R := plS (mostN t + 1) (spN t + 1) (top + 1)) fun _ h => h
  have hl : (kvT (wV t) (plS (mostN t + 1) (spN t + 1) (top + 1))).length < 16777216 := by
    rw [kvT_len, plS_len]
    have gm := T.g.most
    have gs := T.g.spa
    have := Nat.mul_le_mul (show top + 1 ≤ 100001 by omega) (Nat.mul_le_mul (show mostN t + 1 ≤ 4 by omega) (show spN t + 1 ≤ 2 by omega))
    omega
  have n1 : ∀ X : List Pl, neD (.lst (X.map fun q => stD q.1 q.2.1 q.2.2)) (.lst []) = some (.bl (!decide (X = []))) := fun X => by
    refine neD_of ?_ (by rw [cmp_lst, Dt.cmpL]) ?_
    · rw [cmp_lst]
      refine cmpL_map fun q _ => ?_
      unfold stD
      rw [cmp_tup]
      simp [Dt.cmpL, Dt.cmp]
    · rw [eqv_lstD]
      cases X <;> simp [Dt.eqvL]
  have hu : ((plS (mostN t + 1) (spN t + 1) (top + 1)).filter fun q => W t q.1 q.2.1 q.2.2 != W u q.1 q.2.1 q.2.2) = unL t u top := rfl
  rw [hu] at e4
  have n2 := n1 (unL t u top)
  cases hU : unL t u top with
  | nil =>
    rw [hU] at e4 n2
    simp at e4 n2
    simp [m__law_least, x_fun, b__law_least, startD, e1, e2, mLs, hl, e4, n2]
  | cons q r =>
    rw [hU] at e4 n2
    simp at e4 n2
    simp [m__law_least, x_fun, b__law_least, startD, e1, e2, mLs, hl, e4, n2]

end
noncomputable section
variable {P : Program} {w : World} {K : PySem.W.Frag} {mg : Str → Option Value} {base : Heap}
theorem der__law_least (T : Txt P K mg base) {cdv : Value} {A : Around} {outer : List Env} {s : Shared} {H : Hp} {E : XK} (hr : Room 2 (A.deeper (envOfC "_law_least" (defScope s__law_least) s.heap.objs.size (He.ga K "_law_least") cdv))) :
    PSs (cxOf (L2.CX P w) P w K mg base N__law_least "_law_least" (defScope s__law_least) (He.ga K "_law_least") cdv A outer s H E) (defBody s__law_least) (t__law_least K E) := by
  have nd := (sc__law_least).nd
  have tk : Takes (cxOf (L2.CX P w) P w K mg base N__law_least "_law_least" (defScope s__law_least) (He.ga K "_law_least") cdv A outer s H E) (fun cls d _ H => E cls d H) := takes_of rfl rfl rfl rfl
  exact (pss_cons (ps_asg (pe_tup (pa_cons (pe_callO (ok__law_outcomes T) (hr.mono (by decide)) (by rfl) tk (pa_cons (pv 0) (pa_cons (pv 2) pa_nil))) (pa_cons (pe_callO (ok__law_outcomes T) (hr.mono (by decide)) (by rfl) tk (pa_cons (pv 1) (pa_cons (pv 2) pa_nil))) pa_nil))) (pg_tup rfl (pgs_cons (pg_name (i := 3) nd rfl (by first | exact Or.inl rfl | exact Or.inr rfl)) (pgs_cons (pg_name (i := 4) nd rfl (by first | exact Or.inl rfl | exact Or.inr rfl)) pgs_nil))))
    (pss_cons (ps_lock (ps_setLc (i := 5) (own := [("_law_stand", 6)]) (g := (gName 6)) (tt := (tTest (tOp (rNeA K) (tOp (rIxV K) (tVar 3) (tVar 6)) (tOp (rIxV K) (tVar 4) (tVar 6))))) (te := (tVar 6)) rfl nd rfl rfl (sw_true rfl rfl rfl (by decide +kernel)) (pi_keys (pv 3)) (blkOk_by (own := [("_law_stand", 6)]) (N := N__law_least) (sc := (defScope s__law_least)) (by decide +kernel)) (fun _ _ _ _ _ => (pg_name (i := 6) nd rfl (by first | exact Or.inl rfl | exact Or.inr rfl))) (fun _ _ _ _ _ => (pts_one (pt_cmpR (op_neA (units64 hr)) (pe_ix (ix_V (units65 hr)) (pv 3) (pv 6) (fun _ _ => rfl)) (pe_ix (ix_V (units65 hr)) (pv 4) (pv 6) (fun _ _ => rfl)) (nomark _)))) (fun _ _ _ _ _ => (pv 6))))
    (pss_one (ps_ret (pe_ifExp (pt_cmpR (op_neA (units64 hr)) (pv 5) (pe_lst pa_nil) (nomark _)) (pe_ix (ix_V (units65 hr)) (pv 5) pe_int (fun _ _ => rfl)) pe_non)))))
theorem ok__law_least (T : Txt P K mg base) : Ok P w K mg base "_law_least" 3 ["_law_row", "_law_other", "_law_top"] (spL 3 (sp__law_least K)) := ok_mk (T.d__law_least) T.m__law_least sc__law_least (fun _ _ _ _ _ _ us hl => match us, hl with | [_, _, _], _ => rfl) (fun _ _ _ _ _ _ hr => der__law_least T hr) (pure__law_least T)
end
end

section
open PySem PySem.Spec L2 RZ StX
open PyProof.Rows (envOfC)
noncomputable section
variable {P : Program} {w : World} {K : PySem.W.Frag} {mg : Str → Option Value} {base : Heap}
abbrev N__law_alike : List Str := ["_law_found", "_law_due", "_law_k"]
theorem sc__law_alike : FnScope N__law_alike ["_law_found", "_law_due"] (defScope s__law_alike) := ⟨rfl, rfl, rfl, by decide +kernel, rfl, by decide +kernel, by decide +kernel⟩
def t__law_alike (K : PySem.W.Frag) (R : Sp) (E : XK) : TS :=
    (tSeq (tIfS (tB (tCB (rIsi K) (tCons (tVar 1) (tCons (tC (.ty "dict")) tNil)))) (tRet (tAndV (tCB (rIsi K) (tCons (tVar 0) (tCons (tC (.ty "dict")) tNil))) (tAndV (tCallS R (WE (fun cls d _ H => E cls d H)) (tCons (tCB (rListOf K) (tCons (tVar 0) tNil)) (tCons (tCB (rListOf K) (tCons (tVar 1) tNil)) tNil))) (tOp (rEqA K) (tVar 0) (tVar 1))))) tNext)
    (tSeq (tIfS (tB (tCB (rIsiT K) (tCons (tVar 1) (tCons (tTup (tCons (tC (.ty "tuple")) (tCons (tC (.ty "list")) tNil))) tNil)))) (tSeq (tIfS (tOr (tNot (tB (tCB (rIsiT K) (tCons (tVar 0) (tCons (tTup (tCons (tC (.ty "tuple")) (tCons (tC (.ty "list")) tNil))) tNil))))) (tTest (tOp (rNeA K) (tCB (rIsi K) (tCons (tVar 0) (tCons (tC (.ty "list")) tNil))) (tCB (rIsi K) (tCons (tVar 1) (tCons (tC (.ty "list")) tNil)))))) (tRet (tC (.bl false))) tNext)
    (tSeq (tIfS (tTest (tOp (rNeA K) (tCB (rLenA K) (tCons (tVar 0) tNil)) (tCB (rLenA K) (tCons (tVar 1) tNil)))) (tRet (tC (.bl false))) tNext)
    (tRet (tOp (rEqA K) (tLc (iRng1 (tCons (tCB (rLenA K) (tCons (tVar 1) tNil)) tNil)) (gName 2) (tNot (tB (tCallS R (WE (fun _ _ _ _ => False)) (tCons (tOp (rIx K) (tVar 0) (tVar 2)) (tCons (tOp (rIx K) (tVar 1) (tVar 2)) tNil))))) (tVar 2) [2]) (tLst tNil))))) tNext)
    (tSeq (tIfS (tOr (tTest (tOp (fun x y H Q => y = V.non ∧ Q (.bl (decide (x = .non))) H) (tVar 1) (tC .non))) (tB (tCB (rIsi K) (tCons (tVar 1) (tCons (tC (.ty "str")) tNil))))) (tRet (tAndV (tOp (rEqA K) (tVar 0) (tVar 1)) (tOp (rEqA K) (tCB (rIsi K) (tCons (tVar 0) (tCons (tC (.ty "str")) tNil))) (tCB (rIsi K) (tCons (tVar 1) (tCons (tC (.ty "str")) tNil)))))) tNext)
    (tRet (tAndV (tCB (rIsi K) (tCons (tVar 0) (tCons (tC (.ty "int")) tNil))) (tAndV (tOp (rEqA K) (tCB (rIsi K) (tCons (tVar 0) (tCons (tC (.ty "bool")) tNil))) (tCB (rIsi K) (tCons (tVar 1) (tCons (tC (.ty "bool")) tNil)))) (tOp (rEqA K) (tVar 0) (tVar 1))))))))
end
def sp__law_alike : Nat → PySem.W.Frag → Sp
  | 0, _ => fun _ _ _ _ => False
  | d + 1, K => fun vs H Q _ => ∃ (x y : V) (D : PyData), vs = [x, y] ∧ Da K H x D ∧ Da K H y D ∧ OkA (d + 1) D ∧ ∀ H', Fr [] H H' → Q (.bl true) H'
theorem pure__law_alike {K : PySem.W.Frag} (d : Nat) (vs : List V) (H : Hp) (Q : VK) (E : XK) (hl : vs.length = 2) (h : sp__law_alike (d + 1) K vs H Q E) : t__law_alike K (spL 2 (sp__law_alike d K)) E { nx := fun _ H' => Q .non H', rt := Q } (start N__law_alike vs) H := by
  obtain ⟨x, y, D, rfl, hx, hy, hD, q⟩ := h
  show t__law_alike K _ E _ [some x, some y, none] H
  unfold t__law_alike
  cases hD with
  | non =>
    cases hx
    cases hy
    k_clsL
    refine g_nT fun p n1 F1 h1 => ?_
    k_clsL
    refine ⟨rfl, ?_⟩
    k_clsL
    rw [show decide (V.non = V.non) = true from decide_eq_true rfl]
    k_clsL
    refine r_eqD .non .non (Shp.non (n := 0)).ok (Shp.non (n := 0)).ok ?_
    rw [show PyData.eqv .none .none = true by simp [PyData.eqv]]
    k_clsL
    exact q _ F1
  | bool b =>
    cases hx
    cases hy
    k_clsL
    refine g_nT fun p n1 F1 h1 => ?_
    k_clsL
    refine ⟨rfl, ?_⟩
    k_clsL
    rw [show decide (V.bl b = V.non) = false from decide_eq_false (fun h => by cases h)]
    k_clsL
    rw [show (true == true) = true from rfl]
    k_clsL
    rw [beq_self_eq_true b]
    exact q _ F1
  | int i =>
    cases hx
    cases hy
    k_clsL
    refine g_nT fun p n1 F1 h1 => ?_
    k_clsL
    refine ⟨rfl, ?_⟩
    k_clsL
    rw [show decide (V.int i = V.non) = false from decide_eq_false (fun h => by cases h)]
    k_clsL
    rw [show (false == false) = true from rfl]
    k_clsL
    rw [decide_eq_true (rfl : i = i)]
    exact q _ F1
  | str z =>
    cases hx
    cases hy
    k_clsL
    refine g_nT fun p n1 F1 h1 => ?_
    k_clsL
    refine ⟨rfl, ?_⟩
    k_clsL
    rw [show decide (V.str z = V.non) = false from decide_eq_false (fun h => by cases h)]
    k_clsL
    rw [decide_eq_true (rfl : z = z)]
    k_clsL
    exact q _ F1
  | @tup _ ds hl h =>
    cases hx with
    | @tup a xs _ hxs tx =>
      cases hy with
      | @tup b ys _ hys ty =>
        k_clsL
        refine g_nT fun p n1 F1 h1 => ?_
        have hx1 := F1.sqt hxs
        have hy1 := F1.sqt hys
        k_clsL
        refine g_nT fun p2 n2 F2 h2 => ?_
        have hx2 := F2.sqt hx1
        have hy2 := F2.sqt hy1
        k_clsL
        rw [show (!(false == false)) = false from rfl]
        have lx := tx.length
        have ly := ty.length
        k_clsL
        rw [lx, ly, decide_eq_true (rfl : (ds.length : Int) = ds.length)]
        k_clsL
        refine r_rng1 (by omega) (by omega) ?_
        rw [Int.toNat_natCast]
        refine lc_fm (K := K) (walk_range (n := ys.length)) ds (fun _ => none) ly.symm (by omega) (fun _ _ => trivial) ?_ ?_
        · rintro i e x H1 H3 R Rn he F3 ⟨rfl, rfl⟩ k1 k2
          obtain ⟨u, hu, du⟩ := tx.get he
          obtain ⟨w, hw, dw⟩ := ty.get he
          have F13 := (F1.trans F2).trans F3
          k_clsL
          refine ⟨rfl, ?_⟩
          k_clsL
          rw [show (0 + (i : Int)) = (i : Int) by omega]
          refine r_ixT (F3.sqt hx2) hu ?_
          k_clsL
          refine r_ixT (F3.sqt hy2) hw ?_
          k_clsL
          have oe := h e (List.mem_of_getElem? he)
          refine ⟨rfl, ?_⟩
          cases d with
          | zero => cases oe
          | succ d =>
            refine ⟨u, w, e, rfl, du.fr F13, dw.fr F13, oe, fun H' F => ?_⟩
            k_clsL
            exact k2 _ rfl F
        · intro D H3 nD F3 hD
          rw [show (ds.filterMap fun _ => (none : Option PyData)) = [] by simp] at hD
          k_clsL
          refine g_nL fun p4 n4 F4 h4 => ?_
          refine r_eqL (hD.fr0 F4) (e := []) ⟨_, h4, .nil⟩ (Shp.lst (n := 0) (fun _ h => by cases h)).ok (Shp.lst (n := 0) (fun _ h => by cases h)).ok ?_
          rw [show PyData.eqvAll [] [] = true by simp [PyData.eqvAll]]
          exact q _ (((F1.trans F2).trans F3).trans F4)
  | @lst _ ds hl h =>
    cases hx with
    | @lst a xs _ hxs tx =>
      cases hy with
      | @lst b ys _ hys ty =>
        k_clsL
        refine g_nT fun p n1 F1 h1 => ?_
        have hx1 := F1.sql0 hxs
        have hy1 := F1.sql0 hys
        k_clsL
        refine g_nT fun p2 n2 F2 h2 => ?_
        have hx2 := F2.sql0 hx1
        have hy2 := F2.sql0 hy1
        k_clsL
        rw [show (!(true == true)) = false from rfl]
        have lx := tx.length
        have ly := ty.length
        k_clsL
        rw [lx, ly, decide_eq_true (rfl : (ds.length : Int) = ds.length)]
        k_clsL
        refine r_rng1 (by omega) (by omega) ?_
        rw [Int.toNat_natCast]
        refine lc_fm (K := K) (walk_range (n := ys.length)) ds (fun _ => none) ly.symm (by omega) (fun _ _ => trivial) ?_ ?_
        · rintro i e x H1 H3 R Rn he F3 ⟨rfl, rfl⟩ k1 k2
          obtain ⟨u, hu, du⟩ := tx.get he
          obtain ⟨w, hw, dw⟩ := ty.get he
          have F13 := (F1.trans F2).trans F3
          k_clsL
          refine ⟨rfl, ?_⟩
          k_clsL
          rw [show (0 + (i : Int)) = (i : Int) by omega]
          refine r_ixL (F3.sql0 hx2) hu ?_
          k_clsL
          refine r_ixL (F3.sql0 hy2) hw ?_
          k_clsL
          have oe := h e (List.mem_of_getElem? he)
          refine ⟨rfl, ?_⟩
          cases d with
          | zero => cases oe
          | succ d =>
            refine ⟨u, w, e, rfl, du.fr F13, dw.fr F13, oe, fun H' F => ?_⟩
            k_clsL
            exact k2 _ rfl F
        · intro D H3 nD F3 hD
          rw [show (ds.filterMap fun _ => (none : Option PyData)) = [] by simp] at hD
          k_clsL
          refine g_nL fun p4 n4 F4 h4 => ?_
          refine r_eqL (hD.fr0 F4) (e := []) ⟨_, h4, .nil⟩ (Shp.lst (n := 0) (fun _ h => by cases h)).ok (Shp.lst (n := 0) (fun _ h => by cases h)).ok ?_
          rw [show PyData.eqvAll [] [] = true by simp [PyData.eqvAll]]
          exact q _ (((F1.trans F2).trans F3).trans F4)
def m__law_alike (n : Nat) : MF := fun ds => match ds with
  | [x, y] => if Dt.same n x y then .ret (.bl true) else .bad
  | _ => .bad
theorem bf__law_alike {K : PySem.W.Frag} : ∀ n, Bf (kt K) 2 (m__law_alike n) (sp__law_alike n K) := by
  intro n vs H Q E hl h
  obtain ⟨S, hd, ds, hT, r, ok, tb, w⟩ := h
  unfold m__law_alike at w
  split at w
  · split at w
    · rename_i hs
      cases n with
      | zero => simp [Dt.same] at hs
      | succ n =>
        obtain ⟨D, h1, h2, h3⟩ := same_ok _ _ _ hs
        cases r with
        | cons r1 t => cases t with
          | cons r2 t =>
            cases t
            exact ⟨_, _, D, rfl, r1.da h1, r2.da h2, h3, fun H' F => w _ H' (Fh.of0 F) (.bl _)⟩
    · exact w.elim
  · exact w.elim
theorem alike_self {n : Nat} {x : Dt} (h : Dt.same n x x = true) : m__law_alike n [x, x] = .ret (.bl true) := by
  unfold m__law_alike
  simp only [h, if_true]

noncomputable section
variable {P : Program} {w : World} {K : PySem.W.Frag} {mg : Str → Option Value} {base : Heap}
theorem der__law_alike (T : Txt P K mg base) {R : Sp} {d : Nat} (rec : Ok P w K mg base "_law_alike" (1 + d) ["_law_found", "_law_due"] R) {cdv : Value} {A : Around} {outer : List Env} {s : Shared} {H : Hp} {E : XK} (hr : Room (1 + d) (A.deeper (envOfC "_law_alike" (defScope s__law_alike) s.heap.objs.size (He.ga K "_law_alike") cdv))) :
    PSs (cxOf (L2.CX P w) P w K mg base N__law_alike "_law_alike" (defScope s__law_alike) (He.ga K "_law_alike") cdv A outer s H E) (defBody s__law_alike) (t__law_alike K R E) := by
  have nd := (sc__law_alike).nd
  have tk : Takes (cxOf (L2.CX P w) P w K mg base N__law_alike "_law_alike" (defScope s__law_alike) (He.ga K "_law_alike") cdv A outer s H E) (fun cls d _ H => E cls d H) := takes_of rfl rfl rfl rfl
  exact (pss_cons (ps_if (pt_val (pe_callB call_isi (by rfl) T.f_isinstance (by decide +kernel) (pa_cons (pv 1) (pa_cons (pe_bltn (by rfl) T.f_dict (by decide +kernel) rfl) pa_nil)))) (pss_one (ps_ret (pe_and (pe_callB call_isi (by rfl) T.f_isinstance (by decide +kernel) (pa_cons (pv 0) (pa_cons (pe_bltn (by rfl) T.f_dict (by decide +kernel) rfl) pa_nil))) (pe_and (pe_callO rec (hr.mono (by omega)) (by rfl) tk (pa_cons (pe_callTy call_listOf (by rfl) T.f_list (by decide +kernel) (pa_cons (pv 0) pa_nil)) (pa_cons (pe_callTy call_listOf (by rfl) T.f_list (by decide +kernel) (pa_cons (pv 1) pa_nil)) pa_nil))) (pe_one (pe_cmpR (op_eqA (units64 hr)) (pv 0) (pv 1) (nomark _))))))) pss_nil)
    (pss_cons (ps_if (pt_val (pe_callB call_isiT (by rfl) T.f_isinstance (by decide +kernel) (pa_cons (pv 1) (pa_cons (pe_tup (pa_cons (pe_bltn (by rfl) T.f_tuple (by decide +kernel) rfl) (pa_cons (pe_bltn (by rfl) T.f_list (by decide +kernel) rfl) pa_nil))) pa_nil)))) (pss_cons (ps_if (PW.pt (pw_or (pt_not (pt_val (pe_callB call_isiT (by rfl) T.f_isinstance (by decide +kernel) (pa_cons (pv 0) (pa_cons (pe_tup (pa_cons (pe_bltn (by rfl) T.f_tuple (by decide +kernel) rfl) (pa_cons (pe_bltn (by rfl) T.f_list (by decide +kernel) rfl) pa_nil))) pa_nil))))) (pw_or1 (pt_cmpR (op_neA (units64 hr)) (pe_callB call_isi (by rfl) T.f_isinstance (by decide +kernel) (pa_cons (pv 0) (pa_cons (pe_bltn (by rfl) T.f_list (by decide +kernel) rfl) pa_nil))) (pe_callB call_isi (by rfl) T.f_isinstance (by decide +kernel) (pa_cons (pv 1) (pa_cons (pe_bltn (by rfl) T.f_list (by decide +kernel) rfl) pa_nil))) (nomark _))))) (pss_one (ps_ret pe_bl)) pss_nil)
    (pss_cons (ps_if (pt_cmpR (op_neA (units64 hr)) (pe_callB call_lenA (by rfl) T.f_len (by decide +kernel) (pa_cons (pv 0) pa_nil)) (pe_callB call_lenA (by rfl) T.f_len (by decide +kernel) (pa_cons (pv 1) pa_nil)) (nomark _)) (pss_one (ps_ret pe_bl)) pss_nil)
    (pss_one (ps_ret (pe_cmpR (op_eqA (units64 hr)) (pe_lc (own := [("_law_k", 2)]) (g := (gName 2)) (tt := (tNot (tB (tCallS R (WE (fun _ _ _ _ => False)) (tCons (tOp (rIx K) (tVar 0) (tVar 2)) (tCons (tOp (rIx K) (tVar 1) (tVar 2)) tNil)))))) (te := (tVar 2)) rfl nd (pi_range1 (by rfl) T.f_range (pa_cons (pe_callB call_lenA (by rfl) T.f_len (by decide +kernel) (pa_cons (pv 1) pa_nil)) pa_nil)) (blkOk_by (own := [("_law_k", 2)]) (N := N__law_alike) (sc := (defScope s__law_alike)) (by decide +kernel)) (fun _ _ _ _ _ => (pg_name (i := 2) nd rfl (by first | exact Or.inl rfl | exact Or.inr rfl))) (fun _ _ _ _ _ => (pts_one (pt_not (pt_val (pe_callO rec (hr.mono (by omega)) (by rfl) takes0 (pa_cons (pe_ix ix_seq (pv 0) (pv 2) (fun _ _ => rfl)) (pa_cons (pe_ix ix_seq (pv 1) (pv 2) (fun _ _ => rfl)) pa_nil))))))) (fun _ _ _ _ _ => (pv 2))) (pe_lst pa_nil) (nomark _)))))) pss_nil)
    (pss_cons (ps_if (PW.pt (pw_or (pt_cmpR op_isN (pv 1) pe_non (nomark _)) (pw_or1 (pt_val (pe_callB call_isi (by rfl) T.f_isinstance (by decide +kernel) (pa_cons (pv 1) (pa_cons (pe_bltn (by rfl) T.f_str (by decide +kernel) rfl) pa_nil))))))) (pss_one (ps_ret (pe_and (pe_cmpR (op_eqA (units64 hr)) (pv 0) (pv 1) (nomark _)) (pe_one (pe_cmpR (op_eqA (units64 hr)) (pe_callB call_isi (by rfl) T.f_isinstance (by decide +kernel) (pa_cons (pv 0) (pa_cons (pe_bltn (by rfl) T.f_str (by decide +kernel) rfl) pa_nil))) (pe_callB call_isi (by rfl) T.f_isinstance (by decide +kernel) (pa_cons (pv 1) (pa_cons (pe_bltn (by rfl) T.f_str (by decide +kernel) rfl) pa_nil))) (nomark _)))))) pss_nil)
    (pss_one (ps_ret (pe_and (pe_callB call_isi (by rfl) T.f_isinstance (by decide +kernel) (pa_cons (pv 0) (pa_cons (pe_bltn (by rfl) T.f_int (by decide +kernel) rfl) pa_nil))) (pe_and (pe_cmpR (op_eqA (units64 hr)) (pe_callB call_isi (by rfl) T.f_isinstance (by decide +kernel) (pa_cons (pv 0) (pa_cons (pe_bltn (by rfl) T.f_bool (by decide +kernel) rfl) pa_nil))) (pe_callB call_isi (by rfl) T.f_isinstance (by decide +kernel) (pa_cons (pv 1) (pa_cons (pe_bltn (by rfl) T.f_bool (by decide +kernel) rfl) pa_nil))) (nomark _)) (pe_one (pe_cmpR (op_eqA (units64 hr)) (pv 0) (pv 1) (nomark _))))))))))
theorem ok__law_alike (T : Txt P K mg base) : ∀ d : Nat, Ok P w K mg base "_law_alike" (1 + d) ["_law_found", "_law_due"] (spL 2 (sp__law_alike d K))
  | 0 => ok_none (ps := ["_law_found", "_law_due"]) (T.d__law_alike) T.m__law_alike (fun _ _ _ _ _ _ us hl => match us, hl with | [_, _], _ => rfl)
  | d + 1 => ok_mk (k := 1 + d) (T.d__law_alike) T.m__law_alike sc__law_alike (fun _ _ _ _ _ _ us hl => match us, hl with | [_, _], _ => rfl) (fun _ _ _ _ _ _ hr => der__law_alike T (ok__law_alike T d) hr) (pure__law_alike d)
end
end

section
open PySem PySem.Spec L2 RZ StX
open PyProof.Rows (envOfC)
noncomputable section
variable {P : Program} {w : World} {K : PySem.W.Frag} {mg : Str → Option Value} {base : Heap}
abbrev N_alike : List Str := ["one", "other"]
theorem sc_alike : FnScope N_alike ["one", "other"] (defScope s_alike) := ⟨rfl, rfl, rfl, by decide +kernel, rfl, by decide +kernel, by decide +kernel⟩
def t_alike (K : PySem.W.Frag) (E : XK) : TS :=
    (tRet (tOp (fun x y H Q => y = V.non ∧ Q (.bl (decide (x = .non))) H) (tCallS (spL 2 (sp_parting K)) (WE (fun cls d _ H => E cls d H)) (tCons (tVar 0) (tCons (tVar 1) tNil))) (tC .non)))
def b_alike : MS :=
    (mRet (mOp isD (mCall 2 m_parting (mCons (mVar 0) (mCons (mVar 1) mNil))) (mC .non)))
def m_alike : MF := mFun 2 b_alike
def sp_alike (K : PySem.W.Frag) : Sp := spM (kt K) m_alike
theorem ref_alike (T : Txt P K mg base) {E : XK} : RS (kt K) [] (fun cls d _ H => E cls d H) (t_alike K E) b_alike := by
  unfold t_alike b_alike
  exact (rs_ret (RE.ro (re_op om_is (RE.ro (re_call bf_parting (ra_cons (re_var (i := 0)) (ra_cons (re_var (i := 1)) ra_nil)))) (RE.ro re_non))))
theorem bf_alike : Bf (kt K) 2 m_alike (sp_alike K) := bf_M
theorem pure_alike (T : Txt P K mg base) (vs : List V) (H : Hp) (Q : VK) (E : XK) (hl : vs.length = 2) (h : sp_alike K vs H Q E) : t_alike K E { nx := fun _ H' => Q .non H', rt := Q } (start N_alike vs) H := pure_M (ref_alike T) (by decide) rfl hl (by decide) h
end
noncomputable section
theorem v_alike {t u : Tab} (T : Twin t u) (hf : t.fate = u.fate) {d : Dt} (h : m_first_unlike [.tab t, .tab u] = .ret d) {b : Bool} (hb : isD d .non = some (.bl b)) : m_alike [.tab t, .tab u] = .ret (.bl b) := by
  simp [m_alike, x_fun, b_alike, startD, v_parting T hf, h, hb]
theorem n_alike {t u : Tab} (g : t.Good) (g2 : u.Good) (h : mostN t ≠ mostN u ∨ spN t ≠ spN u ∨ t.fate ≠ u.fate) : m_alike [.tab t, .tab u] = .exc "NotComparable" none := by
  simp [m_alike, x_fun, b_alike, startD, n_parting g g2 h]

end
noncomputable section
variable {P : Program} {w : World} {K : PySem.W.Frag} {mg : Str → Option Value} {base : Heap}
theorem der_alike (T : Txt P K mg base) {cdv : Value} {A : Around} {outer : List Env} {s : Shared} {H : Hp} {E : XK} (hr : Room 5 (A.deeper (envOfC "alike" (defScope s_alike) s.heap.objs.size (He.ga K "alike") cdv))) :
    PSs (cxOf (L2.CX P w) P w K mg base N_alike "alike" (defScope s_alike) (He.ga K "alike") cdv A outer s H E) (defBody s_alike) (t_alike K E) := by
  have nd := (sc_alike).nd
  have tk : Takes (cxOf (L2.CX P w) P w K mg base N_alike "alike" (defScope s_alike) (He.ga K "alike") cdv A outer s H E) (fun cls d _ H => E cls d H) := takes_of rfl rfl rfl rfl
  exact (pss_one (ps_ret (pe_cmpR op_isN (pe_callO (ok_parting T) (hr.mono (by decide)) (by rfl) tk (pa_cons (pv 0) (pa_cons (pv 1) pa_nil))) pe_non (nomark _))))
theorem ok_alike (T : Txt P K mg base) : Ok P w K mg base "alike" 6 ["one", "other"] (spL 2 (sp_alike K)) := ok_mk (T.d_alike) T.m_alike sc_alike (fun _ _ _ _ _ _ us hl => match us, hl with | [_, _], _ => rfl) (fun _ _ _ _ _ _ hr => der_alike T hr) (pure_alike T)
end
end

section
open PySem PySem.Spec L2 RZ StX
open PyProof.Rows (envOfC)
noncomputable section
variable {P : Program} {w : World} {K : PySem.W.Frag} {mg : Str → Option Value} {base : Heap}
abbrev N__law_refused : List Str := ["_law_one", "_law_other", "_law_found"]
theorem sc__law_refused : FnScope N__law_refused ["_law_one", "_law_other"] (defScope s__law_refused) := ⟨rfl, rfl, rfl, by decide +kernel, rfl, by decide +kernel, by decide +kernel⟩
def t__law_refused (K : PySem.W.Frag) (E : XK) : TS :=
    (tSeq (tAsg (tC (.int 0)) (gName 2))
    (tSeq (tTryO K "NotComparable" (fun W => (tDrop (tCallS (spL 2 (sp_parting K)) (WE W) (tCons (tVar 0) (tCons (tVar 1) tNil))))) (fun _ _ _ => (tAsg (tOp (rAddA K) (tVar 2) (tC (.int 1))) (gName 2))) (fun cls d _ H => E cls d H))
    (tSeq (tTryO K "NotComparable" (fun W => (tDrop (tCallS (spL 2 (sp_alike K)) (WE W) (tCons (tVar 0) (tCons (tVar 1) tNil))))) (fun _ _ _ => (tAsg (tOp (rAddA K) (tVar 2) (tC (.int 1))) (gName 2))) (fun cls d _ H => E cls d H))
    (tRet (tVar 2)))))
def b__law_refused : MS :=
    (mThen (mAsg (mC (.int 0)) 2)
    (mThen (mTry sub_NotComparable (mDrop (mCall 2 m_parting (mCons (mVar 0) (mCons (mVar 1) mNil)))) (mAsg (mOp addD (mVar 2) (mC (.int 1))) 2))
    (mThen (mTry sub_NotComparable (mDrop (mCall 2 m_alike (mCons (mVar 0) (mCons (mVar 1) mNil)))) (mAsg (mOp addD (mVar 2) (mC (.int 1))) 2))
    (mRet (mVar 2)))))
def m__law_refused : MF := mFun 3 b__law_refused
def sp__law_refused (K : PySem.W.Frag) : Sp := spM (kt K) m__law_refused
theorem ref__law_refused (T : Txt P K mg base) {E : XK} : RS (kt K) [] (fun cls d _ H => E cls d H) (t__law_refused K E) b__law_refused := by
  unfold t__law_refused b__law_refused
  exact (rs_seq (rs_asg (i := 2) (rc_of (by decide) re_int))
    (rs_seq (rs_try T.sub_NotComparable (fun _ => (rs_drop (RE.ro (re_call bf_parting (ra_cons (re_var (i := 0)) (ra_cons (re_var (i := 1)) ra_nil)))))) (rs_asg (i := 2) (rc_of (by decide) (re_op om_add (RE.ro (re_var (i := 2))) (RE.ro re_int)))))
    (rs_seq (rs_try T.sub_NotComparable (fun _ => (rs_drop (RE.ro (re_call bf_alike (ra_cons (re_var (i := 0)) (ra_cons (re_var (i := 1)) ra_nil)))))) (rs_asg (i := 2) (rc_of (by decide) (re_op om_add (RE.ro (re_var (i := 2))) (RE.ro re_int)))))
    (rs_ret (RE.ro (re_var (i := 2)))))))
theorem bf__law_refused : Bf (kt K) 2 m__law_refused (sp__law_refused K) := bf_M
theorem pure__law_refused (T : Txt P K mg base) (vs : List V) (H : Hp) (Q : VK) (E : XK) (hl : vs.length = 2) (h : sp__law_refused K vs H Q E) : t__law_refused K E { nx := fun _ H' => Q .non H', rt := Q } (start N__law_refused vs) H := pure_M (ref__law_refused T) (by decide) rfl hl (by decide) h
end
noncomputable section
theorem v__law_refused {t u : Tab} (g : t.Good) (g2 : u.Good) (h : mostN t ≠ mostN u ∨ spN t ≠ spN u ∨ t.fate ≠ u.fate) : m__law_refused [.tab t, .tab u] = .ret (.int 2) := by
  simp [m__law_refused, x_fun, b__law_refused, startD, n_parting g g2 h, n_alike g g2 h]

end
noncomputable section
variable {P : Program} {w : World} {K : PySem.W.Frag} {mg : Str → Option Value} {base : Heap}
theorem der__law_refused (T : Txt P K mg base) {cdv : Value} {A : Around} {outer : List Env} {s : Shared} {H : Hp} {E : XK} (hr : Room 6 (A.deeper (envOfC "_law_refused" (defScope s__law_refused) s.heap.objs.size (He.ga K "_law_refused") cdv))) :
    PSs (cxOf (L2.CX P w) P w K mg base N__law_refused "_law_refused" (defScope s__law_refused) (He.ga K "_law_refused") cdv A outer s H E) (defBody s__law_refused) (t__law_refused K E) := by
  have nd := (sc__law_refused).nd
  have tk : Takes (cxOf (L2.CX P w) P w K mg base N__law_refused "_law_refused" (defScope s__law_refused) (He.ga K "_law_refused") cdv A outer s H E) (fun cls d _ H => E cls d H) := takes_of rfl rfl rfl rfl
  exact (pss_cons (ps_set (i := 2) nd rfl (by first | exact Or.inl rfl | exact Or.inr rfl) pe_int)
    (pss_cons (ps_tryO rfl rfl (by rfl) T.m_NotComparable tk (fun W pn xe tk2 hp2 => (pss_one (ps_expr (pe_callO (ok_parting T) (hr.mono (by decide)) (by rfl) tk2 (pa_cons (pv 0) (pa_cons (pv 1) pa_nil)))))) (fun a oe cls d pn hz hf => (pss_one (ps_set (i := 2) nd rfl (by first | exact Or.inl rfl | exact Or.inr rfl) (pe_op op_addA (pv 2) pe_int)))))
    (pss_cons (ps_tryO rfl rfl (by rfl) T.m_NotComparable tk (fun W pn xe tk2 hp2 => (pss_one (ps_expr (pe_callO (ok_alike T) (hr.mono (by decide)) (by rfl) tk2 (pa_cons (pv 0) (pa_cons (pv 1) pa_nil)))))) (fun a oe cls d pn hz hf => (pss_one (ps_set (i := 2) nd rfl (by first | exact Or.inl rfl | exact Or.inr rfl) (pe_op op_addA (pv 2) pe_int)))))
    (pss_one (ps_ret (pv 2))))))
theorem ok__law_refused (T : Txt P K mg base) : Ok P w K mg base "_law_refused" 7 ["_law_one", "_law_other"] (spL 2 (sp__law_refused K)) := ok_mk (T.d__law_refused) T.m__law_refused sc__law_refused (fun _ _ _ _ _ _ us hl => match us, hl with | [_, _], _ => rfl) (fun _ _ _ _ _ _ hr => der__law_refused T hr) (pure__law_refused T)
end
end

section
open PySem PySem.Spec L2 RZ StX
open PyProof.Rows (envOfC)
noncomputable section
variable {P : Program} {w : World} {K : PySem.W.Frag} {mg : Str → Option Value} {base : Heap}
abbrev N_law : List Str := ["_law_script", "_law_h", "_law_row", "_law_other", "_law_turn", "_law_one", "_law_two", "_law_mine", "_law_theirs", "_law_top", "_law_due", "_law_found", "_law_word", "_law_strange"]
theorem sc_law : FnScope N_law ["_law_script"] (defScope s_law) := ⟨rfl, rfl, rfl, by decide +kernel, rfl, by decide +kernel, by decide +kernel⟩
def tr_law (K : PySem.W.Frag) (E : XK) : TS :=
    (tSeq (tAsg (tCallS (spL 2 (sp__law_draw K)) (WE (fun cls d _ H => E cls d H)) (tCons (tVar 1) (tCons (tC (.int 3)) tNil))) (gName 2))
    (tSeq (tAsg (tVar 2) (gName 3))
    (tSeq (tFor (iRng1 (tCons (tOp (rAddA K) (tC (.int 1)) (tCallS (spL 2 (sp__law_next K)) (WE (fun cls d _ H => E cls d H)) (tCons (tVar 1) (tCons (tC (.int 3)) tNil)))) tNil)) (gName 4) (tAsg (tCallS (spL 2 (sp__law_turned K)) (WE (fun cls d _ H => E cls d H)) (tCons (tVar 3) (tCons (tCallS (spL 2 (sp__law_pick K)) (WE (fun cls d _ H => E cls d H)) (tCons (tVar 1) (tCons (tCallS (spL 1 (sp__law_entries K)) (WE (fun cls d _ H => E cls d H)) (tCons (tVar 2) tNil)) tNil))) tNil))) (gName 3)))
    (tSeq (tPar 5 6 (tCons (tCallS (spL 1 (sp__law_built K)) (WE (fun cls d _ H => E cls d H)) (tCons (tVar 2) tNil)) (tCons (tCallS (spL 1 (sp__law_built K)) (WE (fun cls d _ H => E cls d H)) (tCons (tVar 3) tNil)) tNil)))
    (tSeq (tPar 7 8 (tCons (tCallS (spL 1 (sp_pattern K)) (WE (fun cls d _ H => E cls d H)) (tCons (tVar 5) tNil)) (tCons (tCallS (spL 1 (sp_pattern K)) (WE (fun cls d _ H => E cls d H)) (tCons (tVar 6) tNil)) tNil)))
    (tSeq (tAsg (tOp (rAddA K) (tCB rMax2 (tCons (tOp (rIxV K) (tVar 7) (tC (.int 0))) (tCons (tOp (rIxV K) (tVar 8) (tC (.int 0))) tNil))) (tCB rMin2 (tCons (tOp (rMulA K) (tOp (rIxV K) (tVar 7) (tC (.int 1))) (tOp (rIxV K) (tVar 8) (tC (.int 1)))) (tCons (tC (.int 2000)) tNil)))) (gName 9))
    (tSeq (tPar 10 11 (tCons (tCallS (spL 3 (sp__law_least K)) (WE (fun cls d _ H => E cls d H)) (tCons (tVar 2) (tCons (tVar 3) (tCons (tCB rMin2 (tCons (tVar 9) (tCons (tC (.int 400)) tNil))) tNil)))) (tCons (tCallS (spL 2 (sp_parting K)) (WE (fun cls d _ H => E cls d H)) (tCons (tVar 5) (tCons (tVar 6) tNil))) tNil)))
    (tSeq (tIfS (tOr (tTest (tOp (fun x y H Q => y = V.non ∧ Q (.bl (!decide (x = .non))) H) (tVar 10) (tC .non))) (tTest (tOp (rI0 fun i j => .bl (decide (i ≤ j))) (tVar 9) (tC (.int 400))))) (tIfS (tNot (tB (tCallS (spL 2 (sp__law_alike 6 K)) (WE (fun cls d _ H => E cls d H)) (tCons (tVar 11) (tCons (tVar 10) tNil))))) (tRet (tC (.bl false))) tNext) (tIfS (tAnd (tTest (tOp (fun x y H Q => y = V.non ∧ Q (.bl (!decide (x = .non))) H) (tVar 11) (tC .non))) (tTest (tOp (rI0 fun i j => .bl (decide (i ≤ j))) (tOp (rIxV K) (tVar 11) (tC (.int 0))) (tC (.int 400))))) (tRet (tC (.bl false))) tNext))
    (tSeq (tIfS (tOr (tTest (tOp (rNeA K) (tCallS (spL 2 (sp_parting K)) (WE (fun cls d _ H => E cls d H)) (tCons (tVar 6) (tCons (tVar 5) tNil))) (tVar 11))) (tOr (tTest (tOp (rNeA K) (tCallS (spL 2 (sp_alike K)) (WE (fun cls d _ H => E cls d H)) (tCons (tVar 5) (tCons (tVar 6) tNil))) (tOp (fun x y H Q => y = V.non ∧ Q (.bl (decide (x = .non))) H) (tVar 11) (tC .non)))) (tNot (tB (tCallS (spL 2 (sp_alike K)) (WE (fun cls d _ H => E cls d H)) (tCons (tVar 5) (tCons (tVar 5) tNil))))))) (tRet (tC (.bl false))) tNext)
    (tSeq (tAsg (tIf (tTest (tOp (rEqA K) (tOp (rIxV K) (tVar 2) (tC (.int 2))) (tC (.str "loses")))) (tC (.str "wins")) (tC (.str "loses"))) (gName 12))
    (tSeq (tFor (iSeq K (tLst (tCons (tMakeO K "Table" (spL 4 (sp_Table___init__ K)) (WE (fun cls d _ H => E cls d H)) (tCons (tOp (rIxV K) (tVar 2) (tC (.int 0))) (tCons (tOp (rI0 fun i j => .int (i - j)) (tC (.int 1)) (tOp (rIxV K) (tVar 2) (tC (.int 1)))) (tCons (tOp (rIxV K) (tVar 2) (tC (.int 2))) tNil)))) (tCons (tMakeO K "Table" (spL 4 (sp_Table___init__ K)) (WE (fun cls d _ H => E cls d H)) (tCons (tOp (rIxV K) (tVar 2) (tC (.int 0))) (tCons (tOp (rIxV K) (tVar 2) (tC (.int 1))) (tCons (tVar 12) tNil)))) tNil)))) (gName 13) (tIfS (tTest (tOp (rNeA K) (tCallS (spL 2 (sp__law_refused K)) (WE (fun cls d _ H => E cls d H)) (tCons (tVar 5) (tCons (tVar 13) tNil))) (tC (.int 2)))) (tRet (tC (.bl false))) tNext))
    (tRet (tOp (rEqA K) (tCallS (spL 2 (sp__law_refused K)) (WE (fun cls d _ H => E cls d H)) (tCons (tVar 5) (tCons (tMakeO K "Table" (spL 4 (sp_Table___init__ K)) (WE (fun cls d _ H => E cls d H)) (tCons (tOp (rMulA K) (tTup (tCons (tTup tNil) tNil)) (tOp (rI0 fun i j => .int (i - j)) (tC (.int 5)) (tCB rMin2 (tCons (tCB (rLenA K) (tCons (tOp (rIxV K) (tVar 2) (tC (.int 0))) tNil)) (tCons (tC (.int 3)) tNil))))) (tCons (tOp (rIxV K) (tVar 2) (tC (.int 1))) (tCons (tOp (rIxV K) (tVar 2) (tC (.int 2))) tNil)))) tNil))) (tC (.int 2)))))))))))))))
def t_law (K : PySem.W.Frag) (E : XK) : TS := (tSeq (tAsg (tCallS (spL 2 (sp__law_mix K)) (WE (fun cls d _ H => E cls d H)) (tCons (tVar 0) (tCons (tC (.int 7)) tNil))) (gName 1)) (tr_law K E))
def s1_law : MS :=
    (mAsg (mCall 2 m__law_turned (mCons (mVar 3) (mCons (mCall 2 m__law_pick (mCons (mVar 1) (mCons (mCall 1 m__law_entries (mCons (mVar 2) mNil)) mNil))) mNil))) 3)
def s2_law : MS :=
    (mIfS (mTest (mOp neD (mCall 2 m__law_refused (mCons (mVar 5) (mCons (mVar 13) mNil))) (mC (.int 2)))) (mRet (mC (.bl false))) mNext)
def b_law : MS :=
    (mThen (mAsg (mCall 2 m__law_draw (mCons (mVar 1) (mCons (mC (.int 3)) mNil))) 2)
    (mThen (mAsg (mVar 2) 3)
    (mThen (mFor (mRng1 (mCons (mOp addD (mC (.int 1)) (mCall 2 m__law_next (mCons (mVar 1) (mCons (mC (.int 3)) mNil)))) mNil)) (mgName 4) s1_law)
    (mThen (mPar 5 6 (mCall 1 m__law_built (mCons (mVar 2) mNil)) (mCall 1 m__law_built (mCons (mVar 3) mNil)))
    (mThen (mPar 7 8 (mCall 1 m_pattern (mCons (mVar 5) mNil)) (mCall 1 m_pattern (mCons (mVar 6) mNil)))
    (mThen (mAsg (mOp addD (mCB maxD (mCons (mOp ixD (mVar 7) (mC (.int 0))) (mCons (mOp ixD (mVar 8) (mC (.int 0))) mNil))) (mCB minD (mCons (mOp mulD (mOp ixD (mVar 7) (mC (.int 1))) (mOp ixD (mVar 8) (mC (.int 1)))) (mCons (mC (.int 2000)) mNil)))) 9)
    (mThen (mPar 10 11 (mCall 3 m__law_least (mCons (mVar 2) (mCons (mVar 3) (mCons (mCB minD (mCons (mVar 9) (mCons (mC (.int 400)) mNil))) mNil)))) (mCall 2 m_parting (mCons (mVar 5) (mCons (mVar 6) mNil))))
    (mThen (mIfS (mOr (mTest (mOp isNotD (mVar 10) (mC .non))) (mTest (mOp leD (mVar 9) (mC (.int 400))))) (mIfS (mNot (mTest (mCall 2 (m__law_alike 6) (mCons (mVar 11) (mCons (mVar 10) mNil))))) (mRet (mC (.bl false))) mNext) (mIfS (mAnd (mTest (mOp isNotD (mVar 11) (mC .non))) (mTest (mOp leD (mOp ixD (mVar 11) (mC (.int 0))) (mC (.int 400))))) (mRet (mC (.bl false))) mNext))
    (mThen (mIfS (mOr (mTest (mOp neD (mCall 2 m_parting (mCons (mVar 6) (mCons (mVar 5) mNil))) (mVar 11))) (mOr (mTest (mOp neD (mCall 2 m_alike (mCons (mVar 5) (mCons (mVar 6) mNil))) (mOp isD (mVar 11) (mC .non)))) (mNot (mTest (mCall 2 m_alike (mCons (mVar 5) (mCons (mVar 5) mNil))))))) (mRet (mC (.bl false))) mNext)
    (mThen (mAsg (mIf (mTest (mOp eqD (mOp ixD (mVar 2) (mC (.int 2))) (mC (.str "loses")))) (mC (.str "wins")) (mC (.str "loses"))) 12)
    (mThen (mFor (mSeq (mLst (mCons (mMake (mCons (mOp ixD (mVar 2) (mC (.int 0))) (mCons (mOp subD (mC (.int 1)) (mOp ixD (mVar 2) (mC (.int 1)))) (mCons (mOp ixD (mVar 2) (mC (.int 2))) mNil)))) (mCons (mMake (mCons (mOp ixD (mVar 2) (mC (.int 0))) (mCons (mOp ixD (mVar 2) (mC (.int 1))) (mCons (mVar 12) mNil)))) mNil)))) (mgName 13) s2_law)
    (mRet (mOp eqD (mCall 2 m__law_refused (mCons (mVar 5) (mCons (mMake (mCons (mOp mulD (mTup (mCons (mTup mNil) mNil)) (mOp subD (mC (.int 5)) (mCB minD (mCons (mCB lenD (mCons (mOp ixD (mVar 2) (mC (.int 0))) mNil)) (mCons (mC (.int 3)) mNil))))) (mCons (mOp ixD (mVar 2) (mC (.int 1))) (mCons (mOp ixD (mVar 2) (mC (.int 2))) mNil)))) mNil))) (mC (.int 2)))))))))))))))
theorem ref_law (T : Txt P K mg base) {E : XK} : RS (kt K) [] (fun cls d _ H => E cls d H) (tr_law K E) b_law := by
  unfold tr_law b_law
  exact (rs_seq (rs_asg (i := 2) (rc_of (by decide) (re_call bf__law_draw (ra_cons (re_var (i := 1)) (ra_cons re_int ra_nil)))))
    (rs_seq (rs_asg (i := 3) (rc_of (by decide) (re_var (i := 2))))
    (rs_seq (rs_for (vs := [4]) (ri_rng1 (RA.w (ra_cons (re_op om_add (RE.ro re_int) (RE.ro (re_call bf__law_next (ra_cons (re_var (i := 1)) (ra_cons re_int ra_nil))))) ra_nil))) (rg_name (i := 4)) (rs_asg (i := 3) (rc_of (by decide) (re_call bf__law_turned (ra_cons (re_var (i := 3)) (ra_cons (re_call bf__law_pick (ra_cons (re_var (i := 1)) (ra_cons (re_call bf__law_entries (ra_cons (re_var (i := 2)) ra_nil)) ra_nil))) ra_nil))))))
    (rs_seq (rs_par (i := 5) (j := 6) (rc_of (by decide) (re_call bf__law_built (ra_cons (re_var (i := 2)) ra_nil))) (rc_of (by decide) (re_call bf__law_built (ra_cons (re_var (i := 3)) ra_nil))) (by decide))
    (rs_seq (rs_par (i := 7) (j := 8) (rc_of (by decide) (re_call bf_pattern (ra_cons (re_var (i := 5)) ra_nil))) (rc_of (by decide) (re_call bf_pattern (ra_cons (re_var (i := 6)) ra_nil))) (by decide))
    (rs_seq (rs_asg (i := 9) (rc_of (by decide) (re_op om_add (RE.ro (re_cb cm_max (RA.w (ra_cons (re_op om_ix (RE.ro (re_var (i := 7))) (RE.ro re_int)) (ra_cons (re_op om_ix (RE.ro (re_var (i := 8))) (RE.ro re_int)) ra_nil))))) (RE.ro (re_cb cm_min (RA.w (ra_cons (re_op om_mul (RE.ro (re_op om_ix (RE.ro (re_var (i := 7))) (RE.ro re_int))) (RE.ro (re_op om_ix (RE.ro (re_var (i := 8))) (RE.ro re_int)))) (ra_cons re_int ra_nil))))))))
    (rs_seq (rs_par (i := 10) (j := 11) (rc_of (by decide) (re_call bf__law_least (ra_cons (re_var (i := 2)) (ra_cons (re_var (i := 3)) (ra_cons (re_cb cm_min (RA.w (ra_cons (re_var (i := 9)) (ra_cons re_int ra_nil)))) ra_nil))))) (rc_of (by decide) (re_call bf_parting (ra_cons (re_var (i := 5)) (ra_cons (re_var (i := 6)) ra_nil)))) (by decide))
    (rs_seq (rs_if (rt_or (rt_test (RE.ro (re_op om_isNot (RE.ro (re_var (i := 10))) (RE.ro re_non)))) (rt_test (RE.ro (re_op om_le (RE.ro (re_var (i := 9))) (RE.ro re_int))))) (rs_if (rt_not (rt_b (RE.ro (re_call (bf__law_alike 6) (ra_cons (re_var (i := 11)) (ra_cons (re_var (i := 10)) ra_nil)))))) (rs_ret (RE.ro re_bl)) rs_next) (rs_if (rt_and (rt_test (RE.ro (re_op om_isNot (RE.ro (re_var (i := 11))) (RE.ro re_non)))) (rt_test (RE.ro (re_op om_le (RE.ro (re_op om_ix (RE.ro (re_var (i := 11))) (RE.ro re_int))) (RE.ro re_int))))) (rs_ret (RE.ro re_bl)) rs_next))
    (rs_seq (rs_if (rt_or (rt_test (RE.ro (re_op om_ne (RE.ro (re_call bf_parting (ra_cons (re_var (i := 6)) (ra_cons (re_var (i := 5)) ra_nil)))) (RE.ro (re_var (i := 11)))))) (rt_or (rt_test (RE.ro (re_op om_ne (RE.ro (re_call bf_alike (ra_cons (re_var (i := 5)) (ra_cons (re_var (i := 6)) ra_nil)))) (RE.ro (re_op om_is (RE.ro (re_var (i := 11))) (RE.ro re_non)))))) (rt_not (rt_b (RE.ro (re_call bf_alike (ra_cons (re_var (i := 5)) (ra_cons (re_var (i := 5)) ra_nil)))))))) (rs_ret (RE.ro re_bl)) rs_next)
    (rs_seq (rs_asg (i := 12) (rc_of (by decide) (re_if (rt_test (RE.ro (re_op om_eq (RE.ro (re_op om_ix (RE.ro (re_var (i := 2))) (RE.ro re_int))) (RE.ro re_str)))) re_str re_str)))
    (rs_seq (rs_for (vs := [13]) (ri_seq (re_lst (ra_cons (re_make (ra_cons (re_op om_ix (RE.ro (re_var (i := 2))) (RE.ro re_int)) (ra_cons (re_op om_sub (RE.ro re_int) (RE.ro (re_op om_ix (RE.ro (re_var (i := 2))) (RE.ro re_int)))) (ra_cons (re_op om_ix (RE.ro (re_var (i := 2))) (RE.ro re_int)) ra_nil)))) (ra_cons (re_make (ra_cons (re_op om_ix (RE.ro (re_var (i := 2))) (RE.ro re_int)) (ra_cons (re_op om_ix (RE.ro (re_var (i := 2))) (RE.ro re_int)) (ra_cons (re_var (i := 12)) ra_nil)))) ra_nil)))) (rg_name (i := 13)) (rs_if (rt_test (RE.ro (re_op om_ne (RE.ro (re_call bf__law_refused (ra_cons (re_var (i := 5)) (ra_cons (re_var (i := 13)) ra_nil)))) (RE.ro re_int)))) (rs_ret (RE.ro re_bl)) rs_next))
    (rs_ret (RE.ro (re_op om_eq (RE.ro (re_call bf__law_refused (ra_cons (re_var (i := 5)) (ra_cons (re_make (ra_cons (re_op om_mul (RE.ro (re_tup (ra_cons (re_tup ra_nil) ra_nil))) (RE.ro (re_op om_sub (RE.ro re_int) (RE.ro (re_cb cm_min (RA.w (ra_cons (re_cb cm_len (RA.w (ra_cons (re_op om_ix (RE.ro (re_var (i := 2))) (RE.ro re_int)) ra_nil))) (ra_cons re_int ra_nil)))))))) (ra_cons (re_op om_ix (RE.ro (re_var (i := 2))) (RE.ro re_int)) (ra_cons (re_op om_ix (RE.ro (re_var (i := 2))) (RE.ro re_int)) ra_nil)))) ra_nil)))) (RE.ro re_int)))))))))))))))
abbrev ev_law : Ev := lawEv 14 1
def sp_law (K : PySem.W.Frag) : Sp := fun vs H Q _ => ∃ (a : Addr) (ns : List Int), vs = [.ref a] ∧ SqL K H a (ns.map V.int) ∧ ns.length ≤ 63 ∧ (∀ p ∈ (kt K).T, LamX.TabS H p.1 p.2) ∧ ∀ H', Q (.bl true) H'
end
noncomputable section
theorem next_n {n : Nat} (h : 0 < n ∧ n < 1073741824) : m__law_next [.hnd, .int (n : Nat)] = .draw n fun k => .ret (.int (k : Nat)) := by
  unfold m__law_next
  simp only
  rw [if_pos (by omega), Int.toNat_natCast]
theorem Twin.symm {t u : Tab} (T : Twin t u) : Twin u t := ⟨T.g2, T.g, T.m.symm, T.s.symm⟩
theorem dif_symm {t u : Tab} (T : Twin t u) {k : Nat} : difL u t k = difL t u k := by
  unfold difL
  rw [T.m, T.s]
  congr 1
  funext q
  cases W t q.1 q.2.1 q.2.2 <;> cases W u q.1 q.2.1 q.2.2 <;> rfl
theorem dif_row {t u : Tab} (T : Twin t u) {k : Nat} (h : rowDt t k = rowDt u k) : difL t u k = [] := by
  unfold difL
  rw [List.filter_eq_nil_iff]
  intro q hq
  rw [plL_mem] at hq
  have := T.cell (i := q.1) (by rw [hq.1]; exact h) (l := q.2.1) (p := q.2.2) (by omega) (by omega)
  rw [this]
  simp
/-- the first unlike stand up to a size -/
def unS (t u : Tab) : Nat → List Pl
  | 0 => []
  | k + 1 => unS t u k ++ difL t u k
theorem unL_eq {t u : Tab} (top : Nat) : unL t u top = unS t u (top + 1) := by
  unfold unL
  generalize top + 1 = n
  induction n with
  | zero => rfl
  | succ n ih => rw [plS_succ, List.filter_append, ih, unS]; rfl
theorem unS_nil {t u : Tab} (T : Twin t u) : ∀ n, (∀ k, k < n → rowDt t k = rowDt u k) → unS t u n = []
  | 0, _ => rfl
  | n + 1, h => by rw [unS, unS_nil T n fun k hk => h k (by omega), dif_row T (h n (by omega))]; rfl
theorem unS_at {t u : Tab} (T : Twin t u) {k : Nat} {q : Pl} {r : List Pl} (h : ∀ i, i < k → rowDt t i = rowDt u i) (hL : difL t u k = q :: r) : ∀ n, k < n → ∃ r', unS t u n = q :: r'
  | 0, hn => by omega
  | n + 1, hn => by
    rw [unS]
    rcases Nat.lt_or_ge k n with z | z
    · obtain ⟨r', e⟩ := unS_at T h hL n z
      exact ⟨r' ++ difL t u n, by rw [e]; rfl⟩
    · have : n = k := by omega
      subst this
      rw [unS_nil T n h, hL]
      exact ⟨r, rfl⟩
theorem same_ever {t u : Tab} (T : Twin t u) {c p : Nat} (hc : pC t ≤ c) (hc2 : pC u ≤ c) (hp : p = pS t * pS u) (h : ∀ k, k ≤ c + p → rowDt t k = rowDt u k) : ∀ k, rowDt t k = rowDt u k := by
  have P1 := (pat_is T.g).1
  have P2 := (pat_is T.g2).1
  have hp1 : 1 ≤ p := by rw [hp]; exact Nat.mul_le_mul P1.pos P2.pos
  have q1 : ∀ i, c ≤ i → rowDt t (i + p) = rowDt t i := fun i hi => by rw [hp]; exact per_mul P1.per _ i (by omega)
  have q2 : ∀ i, c ≤ i → rowDt u (i + p) = rowDt u i := fun i hi => by rw [hp, Nat.mul_comm]; exact per_mul P2.per _ i (by omega)
  intro k
  induction k using Nat.strongRecOn with
  | _ k ih =>
    by_cases hk : k ≤ c + p
    · exact h k hk
    · have a1 := q1 (k - p) (by omega)
      have a2 := q2 (k - p) (by omega)
      rw [show k - p + p = k by omega] at a1 a2
      rw [a1, a2]
      exact ih _ (by omega)
/-- what first_unlike tells, once -/
theorem un_two {t u : Tab} (T : Twin t u) : ∃ d, m_first_unlike [.tab t, .tab u] = .ret d ∧ m_first_unlike [.tab u, .tab t] = .ret d ∧ ((d = .non ∧ ∀ k, rowDt t k = rowDt u k) ∨ ∃ k q r, (∀ i, i < k → rowDt t i = rowDt u i) ∧ difL t u k = q :: r ∧ q.1 = k ∧ d = stD q.1 q.2.1 q.2.2) := by
  obtain ⟨d, h1, h2⟩ := v_first_unlike T
  obtain ⟨d', h3, h4⟩ := v_first_unlike T.symm
  have hd : d' = d := by
    rcases h2 with ⟨rfl, a⟩ | ⟨k, q, r, a, b, rfl⟩ <;> rcases h4 with ⟨rfl, a'⟩ | ⟨k', q', r', a', b', rfl⟩
    · rfl
    · rw [dif_symm T, dif_row T (a k')] at b'
      cases b'
    · rw [dif_row T (a' k).symm] at b
      cases b
    · rw [dif_symm T] at b'
      have hk : k = k' := by
        rcases Nat.lt_trichotomy k k' with z | z | z
        · rw [dif_row T (a' k z).symm] at b
          cases b
        · exact z
        · rw [dif_row T (a k' z)] at b'
          cases b'
      subst hk
      rw [b] at b'
      cases b'
      rfl
  subst hd
  refine ⟨d', h1, h3, ?_⟩
  rcases h2 with h | ⟨k, q, r, a, b, e⟩
  · exact .inl h
  · refine .inr ⟨k, q, r, a, b, ?_, e⟩
    have hq : q ∈ difL t u k := by rw [b]; exact List.mem_cons_self ..
    unfold difL at hq
    exact (plL_mem.mp (List.mem_filter.mp hq).1).1
theorem max_nat (i j : Nat) : ∃ c : Nat, i ≤ c ∧ j ≤ c ∧ (c = i ∨ c = j) ∧ maxD [.int (i : Nat), .int (j : Nat)] = some (.int (c : Nat)) := by
  by_cases h : j > i
  · refine ⟨j, by omega, by omega, .inr rfl, ?_⟩
    show some (Dt.int (if (j : Int) > (i : Int) then _ else _)) = _
    rw [if_pos (by omega)]
  · refine ⟨i, by omega, by omega, .inl rfl, ?_⟩
    show some (Dt.int (if (j : Int) > (i : Int) then _ else _)) = _
    rw [if_neg (by omega)]
theorem min_nat (i j : Int) : ∃ c : Int, (c = i ∧ i ≤ j ∨ c = j ∧ j < i) ∧ minD [.int i, .int j] = some (.int c) := by
  by_cases h : j < i
  · refine ⟨j, .inr ⟨rfl, h⟩, ?_⟩
    show some (Dt.int (if (j : Int) < (i : Int) then _ else _)) = _
    rw [if_pos h]
  · refine ⟨i, .inl ⟨rfl, by omega⟩, ?_⟩
    show some (Dt.int (if (j : Int) < (i : Int) then _ else _)) = _
    rw [if_neg h]
theorem ne_std {k l p : Nat} : neD (stD k l p) (stD k l p) = some (.bl false) := by
  refine neD_of (b := true) ?_ ?_ ?_
  · unfold stD
    rw [cmp_tup]
    simp [Dt.cmpL, Dt.cmp]
  · unfold stD
    rw [cmp_tup]
    simp [Dt.cmpL, Dt.cmp]
  · unfold stD
    simp [Dt.eqvL]
theorem same_std {n k l p : Nat} : Dt.same (n + 2) (stD k l p) (stD k l p) = true := same_tup (by simp) fun d hd => by
  simp only [List.mem_cons, List.not_mem_nil, or_false] at hd
  rcases hd with rfl | rfl | rfl <;> exact same_int
/-- the least stand by both accounts, and what parting tells -/
theorem due_of {t u : Tab} (T : Twin t u) {d : Dt} (hc : (d = .non ∧ ∀ k, rowDt t k = rowDt u k) ∨ ∃ k q r, (∀ i, i < k → rowDt t i = rowDt u i) ∧ difL t u k = q :: r ∧ q.1 = k ∧ d = stD q.1 q.2.1 q.2.2)
    {c m p w : Nat} (hc1 : pC t ≤ c) (hc2 : pC u ≤ c) (hp : pS t * pS u = p) (hm : m = p ∧ p ≤ 2000 ∨ m = 2000 ∧ 2000 < p) (hw : w = c + m ∧ c + m ≤ 400 ∨ w = 400 ∧ 400 < c + m) :
    ∃ due, m__law_least [rowL t, rowL u, .int (w : Nat)] = .ret due ∧ ((d = .non ∧ due = .non) ∨ ∃ k l p : Nat, d = stD k l p ∧ (due = d ∨ due = .non ∧ 400 < k ∧ 400 < c + m)) := by
  have eL := v__law_least T (top := w) (by omega)
  rw [unL_eq] at eL
  rcases hc with ⟨rfl, h⟩ | ⟨k, q, r, h1, h2, h3, rfl⟩
  · rw [unS_nil T _ fun k _ => h k] at eL
    exact ⟨_, eL, .inl ⟨rfl, rfl⟩⟩
  · rcases Nat.lt_or_ge w k with z | z
    · rw [unS_nil T _ fun i hi => h1 i (by omega)] at eL
      refine ⟨_, eL, .inr ⟨q.1, q.2.1, q.2.2, rfl, .inr ⟨rfl, ?_⟩⟩⟩
      rcases hw with ⟨hw, hw2⟩ | ⟨hw, hw2⟩
      · have : m = p := by omega
        have e := same_ever T hc1 hc2 hp.symm fun i hi => h1 i (by omega)
        rw [dif_row T (e k)] at h2
        cases h2
      · exact ⟨by omega, hw2⟩
    · obtain ⟨r', e⟩ := unS_at T h1 h2 (w + 1) (by omega)
      rw [e] at eL
      exact ⟨_, eL, .inr ⟨q.1, q.2.1, q.2.2, rfl, .inl rfl⟩⟩
theorem other_good {t : Tab} (g : t.Good) : ∃ w, eqD (.str t.fate) (.str "loses") = some (.bl (decide (w = "wins"))) ∧ (w = "wins" ∨ w = "loses") ∧ t.fate ≠ w ∧ (⟨t.rows, t.spare, w⟩ : Tab).Good := by
  rcases g.fate with h | h
  · exact ⟨"wins", by rw [h, eq_str (by decide +kernel) (by decide +kernel)]; rfl, .inl rfl, by rw [h]; decide, ⟨g.len, g.row, g.spare, .inr rfl⟩⟩
  · exact ⟨"loses", by rw [h, eq_str (by decide +kernel) (by decide +kernel)]; rfl, .inr rfl, by rw [h]; decide, ⟨g.len, g.row, g.spare, .inl rfl⟩⟩
theorem law_true : LawOk b_law ev_law := by
  constructor
  have n3 : m__law_next [.hnd, .int 3] = .draw 3 fun k => .ret (.int (k : Nat)) := next_n (n := 3) (by decide)
  simp [b_law, lawEv, m__law_draw, n3]
  intro t ht n hn
  have g := ht.good (by decide)
  have gm := g.most
  have gs := g.spa
  have h12 : (entsOf t).length ≤ 12 := by
    rw [ents_len, ← gm.2.2]
    have : (mostN t + 1) * (mostN t + 1 - 1) ≤ 4 * 3 := Nat.mul_le_mul (by omega) (by omega)
    exact this
  have h1 : 0 < (entsOf t).length := by
    rw [ents_len, ← gm.2.2]
    exact Nat.mul_pos (by omega) (by omega)
  have eE : m__law_entries [rowL t] = .ret (.lst ((entsOf t).map pairT)) := v__law_entries g
  have r1 : rngA [.int (1 + (n : Int))] = some ((List.range (1 + n)).map fun x : Nat => .int (x : Nat)) := by
    have := rngA_n (n := 1 + n) (by omega)
    rw [← this]
    congr 1
  simp [r1, -List.map_map]
  rw [wp_bind]
  refine wp_forM (fun ρ => ∃ s4 u, Twin t u ∧ t.fate = u.fate ∧ ρ = [none, some .hnd, some (rowL t), some (rowL u), s4, none, none, none, none, none, none, none, none, none]) ⟨_, t, ⟨g, g, rfl, rfl⟩, rfl, rfl⟩ (fun k hk ρ ⟨s4, u, T, hf, e⟩ => ?_) (fun ρ ⟨s4, u, T, hf, e⟩ => ?_)
  · subst e
    simp [forOne, s1_law, eE, m__law_pick, h1, show (entsOf t).length ≤ 1000 by omega]
    intro i hi
    obtain ⟨e, he⟩ : ∃ e, (entsOf t)[i]? = some e := ⟨_, List.getElem?_eq_getElem hi⟩
    have ho := ents_ok (List.mem_of_getElem? he)
    have gl : u.rows.length = t.rows.length := by
      have := T.m
      have := T.g2.most
      omega
    have h6 : m__law_turned [rowL u, pairT e] = .ret (rowL (turnTab u e.1 e.2)) := by
      obtain ⟨e1, e2⟩ := e
      obtain ⟨k, rfl⟩ : ∃ k : Nat, e1 = (k : Int) := Int.eq_ofNat_of_zero_le ho.1
      exact v__law_turned T.g2 (by have := ho.2.1; simp at this; omega)
    simp [he, h6]
    refine ⟨some (.int (k : Nat)), turnTab u e.1 e.2, ⟨g, T.g2.turn ho.2.2.1 (by rw [gl]; exact ho.2.2.2), ?_, T.s⟩, hf, by simp⟩
    rw [T.m]
    unfold mostN
    rw [turn_rows]
  · subst e
    have gs2 := T.g2.spa
    have gm2 := T.g2.most
    obtain ⟨d, hd1, hd2, hc⟩ := un_two T
    obtain ⟨P1, b1⟩ := pat_is T.g
    obtain ⟨P2, b2⟩ := pat_is T.g2
    obtain ⟨c, hc1, hc2, hc3, eMax⟩ := max_nat (pC t) (pC u)
    obtain ⟨p, hp⟩ : ∃ p, pS t * pS u = p := ⟨_, rfl⟩
    have eMu : mulD (.int (pS t : Nat)) (.int (pS u : Nat)) = some (.int (p : Nat)) := by rw [mul_int (by omega), ← hp, Int.natCast_mul]
    obtain ⟨m, hm, eMin⟩ := min_nat (p : Nat) 2000
    obtain ⟨m, rfl⟩ : ∃ k : Nat, m = (k : Int) := Int.eq_ofNat_of_zero_le (by omega)
    obtain ⟨w, hw, eMin2⟩ := min_nat ((c : Int) + (m : Int)) 400
    obtain ⟨w, rfl⟩ : ∃ k : Nat, w = (k : Int) := Int.eq_ofNat_of_zero_le (by omega)
    obtain ⟨due, eL, hdue⟩ := due_of T hc (c := c) (m := m) (p := p) (w := w) hc1 hc2 hp (by omega) (by omega)
    have ePt : m_pattern [.tab t] = .ret (.tup [.int (pC t : Nat), .int (pS t : Nat), .tup (rowsL (rowDt t) (pC t + pS t))]) := v_pattern T.g
    have ePu : m_pattern [.tab u] = .ret (.tup [.int (pC u : Nat), .int (pS u : Nat), .tup (rowsL (rowDt u) (pC u + pS u))]) := v_pattern T.g2
    have ePar : m_parting [.tab t, .tab u] = .ret d := by rw [v_parting T hf]; exact hd1
    have ePar2 : m_parting [.tab u, .tab t] = .ret d := by rw [v_parting T.symm hf.symm]; exact hd2
    have Tt : Twin t t := ⟨g, g, rfl, rfl⟩
    obtain ⟨d0, h01, h02⟩ := v_first_unlike Tt
    have eA0 : m_alike [.tab t, .tab t] = .ret (.bl true) := by
      rcases h02 with ⟨rfl, _⟩ | ⟨k, q, r, _, h03, _⟩
      · exact v_alike Tt rfl h01 rfl
      · rw [dif_row Tt rfl] at h03
        cases h03
    obtain ⟨wd, eW, hwd, hne, gw⟩ := other_good g
    have e1 := x_mkTab g.flip
    simp at e1
    have e2 := x_mkTab gw
    simp at e2
    have R1 : m__law_refused [.tab t, .tab ⟨t.rows, 1 - t.spare, t.fate⟩] = .ret (.int 2) := v__law_refused g g.flip (.inr (.inl (by
      have := g.spare
      show t.spare.toNat ≠ (1 - t.spare).toNat
      omega)))
    have R2 : m__law_refused [.tab t, .tab ⟨t.rows, t.spare, wd⟩] = .ret (.int 2) := v__law_refused g gw (.inr (.inr hne))
    obtain ⟨k5, u5, h51, h52, h53, h54, h55⟩ : ∃ (k5 : Int) (u5 : Tab), minD [.int (t.rows.length : Nat), .int 3] = some (.int k5) ∧ mulD (.tup [.tup []]) (.int (5 - k5)) = some (rowsT u5.rows) ∧ (u5.spare = t.spare ∧ u5.fate = t.fate) ∧ u5.Good ∧ mostN t ≠ mostN u5 := by
      have gl := g.len
      obtain ⟨k5, h5, e5⟩ := min_nat (t.rows.length : Nat) 3
      refine ⟨k5, ?_⟩
      by_cases h : t.rows.length = 2
      · have : k5 = 2 := by omega
        subst this
        refine ⟨⟨[[], [], []], t.spare, t.fate⟩, e5, rfl, ⟨rfl, rfl⟩, ⟨by simp, by simp [ascB], g.spare, g.fate⟩, ?_⟩
        show t.rows.length - 1 ≠ 3 - 1
        omega
      · have : k5 = 3 := by omega
        subst this
        refine ⟨⟨[[], []], t.spare, t.fate⟩, e5, rfl, ⟨rfl, rfl⟩, ⟨by simp, by simp [ascB], g.spare, g.fate⟩, ?_⟩
        show t.rows.length - 1 ≠ 2 - 1
        omega
    have x5 := x_mkTab h54
    rw [h53.1, h53.2] at x5
    have R5 : m__law_refused [.tab t, .tab u5] = .ret (.int 2) := v__law_refused g h54 (.inl h55)
    rcases hdue with ⟨rfl, rfl⟩ | ⟨k, l, q, rfl, hdue⟩
    · have eA : m_alike [.tab t, .tab u] = .ret (.bl true) := v_alike T hf hd1 rfl
      have aN : m__law_alike 6 [.non, .non] = .ret (.bl true) := alike_self same_non
      have nN : neD .non .non = some (.bl false) := by rfl
      rcases hwd with rfl | rfl <;> simp [T.g, T.g2, ePt, ePu, eMax, eMu, eMin, eMin2, eL, ePar, ePar2, eA, eA0, aN, nN, isNotD, isD, eW, forOne, s2_law, e1, e2, R1, R2, R5, h51, h52, x5]
    · have eA : m_alike [.tab t, .tab u] = .ret (.bl false) := v_alike T hf hd1 rfl
      have aN : m__law_alike 6 [stD k l q, stD k l q] = .ret (.bl true) := alike_self same_std
      have nN : neD (stD k l q) (stD k l q) = some (.bl false) := ne_std
      have i1 : isNotD (stD k l q) .non = some (.bl true) := rfl
      have i2 : isD (stD k l q) .non = some (.bl false) := rfl
      have i3 : ixD (stD k l q) (.int 0) = some (.int (k : Nat)) := rfl
      rcases hdue with rfl | ⟨rfl, hk, hcm⟩
      · rcases hwd with rfl | rfl <;> simp [T.g, T.g2, ePt, ePu, eMax, eMu, eMin, eMin2, eL, ePar, ePar2, eA, eA0, aN, nN, i1, i2, eW, forOne, s2_law, e1, e2, R1, R2, R5, h51, h52, x5]
      · have n4 : ¬ ((c : Int) + (m : Int) ≤ 400) := by omega
        have n5 : ¬ ((k : Int) ≤ 400) := by omega
        have i4 : isNotD .non .non = some (.bl false) := rfl
        rcases hwd with rfl | rfl <;> simp [T.g, T.g2, ePt, ePu, eMax, eMu, eMin, eMin2, eL, ePar, ePar2, eA, eA0, aN, nN, i1, i2, i3, i4, n4, n5, eW, forOne, s2_law, e1, e2, R1, R2, R5, h51, h52, x5]

end
noncomputable section
variable {P : Program} {w : World} {K : PySem.W.Frag} {mg : Str → Option Value} {base : Heap}
theorem pure_law (T : Txt P K mg base) (vs : List V) (H : Hp) (Q : VK) (E : XK) (hl : vs.length = 1) (h : sp_law K vs H Q E) : t_law K E { nx := fun _ H' => Q .non H', rt := Q } (start N_law vs) H := by
  obtain ⟨a, ns, rfl, ha, hn, tb, q⟩ := h
  unfold t_law
  exact law_M (κ := kt K) (N := N_law) (ts := tr_law K E) (ms := b_law) (E := E) (k := 14) (i := 1) (sp := sp__law_mix K) (ref_law T) (by decide) rfl (by decide) (by decide) (by decide) (fun a ns s0 H Q E h1 h2 h3 => ⟨a, ns, s0, rfl, h1, h2, h3⟩) law_true ha hn tb q
theorem der_law (T : Txt P K mg base) {cdv : Value} {A : Around} {outer : List Env} {s : Shared} {H : Hp} {E : XK} (hr : Room 8 (A.deeper (envOfC "law" (defScope s_law) s.heap.objs.size (He.ga K "law") cdv))) :
    PSs (cxOf (L2.CX P w) P w K mg base N_law "law" (defScope s_law) (He.ga K "law") cdv A outer s H E) (defBody s_law) (t_law K E) := by
  have nd := (sc_law).nd
  have tk : Takes (cxOf (L2.CX P w) P w K mg base N_law "law" (defScope s_law) (He.ga K "law") cdv A outer s H E) (fun cls d _ H => E cls d H) := takes_of rfl rfl rfl rfl
  exact (pss_cons (ps_set (i := 1) nd rfl (by first | exact Or.inl rfl | exact Or.inr rfl) (pe_callO (ok__law_mix T) (hr.mono (by decide)) (by rfl) tk (pa_cons (pv 0) (pa_cons pe_int pa_nil))))
    (pss_cons (ps_set (i := 2) nd rfl (by first | exact Or.inl rfl | exact Or.inr rfl) (pe_callO (ok__law_draw T) (hr.mono (by decide)) (by rfl) tk (pa_cons (pv 1) (pa_cons pe_int pa_nil))))
    (pss_cons (ps_set (i := 3) nd rfl (by first | exact Or.inl rfl | exact Or.inr rfl) (pv 2))
    (pss_cons (ps_for (passes_of rfl) rfl (pi_range1 (by rfl) T.f_range (pa_cons (pe_op op_addA pe_int (pe_callO (ok__law_next T) (hr.mono (by decide)) (by rfl) tk (pa_cons (pv 1) (pa_cons pe_int pa_nil)))) pa_nil)) (pg_name (i := 4) nd rfl (by first | exact Or.inl rfl | exact Or.inr rfl)) (pss_one (ps_set (i := 3) nd rfl (by first | exact Or.inl rfl | exact Or.inr rfl) (pe_callO (ok__law_turned T) (hr.mono (by decide)) (by rfl) tk (pa_cons (pv 3) (pa_cons (pe_callO (ok__law_pick T) (hr.mono (by decide)) (by rfl) tk (pa_cons (pv 1) (pa_cons (pe_callO (ok__law_entries T) (hr.mono (by decide)) (by rfl) tk (pa_cons (pv 2) pa_nil)) pa_nil))) pa_nil))))))
    (pss_cons (ps_par (i := 5) (j := 6) rfl nd rfl rfl (by decide) rfl rfl (pa_cons (pe_callO (ok__law_built T) (hr.mono (by decide)) (by rfl) tk (pa_cons (pv 2) pa_nil)) (pa_cons (pe_callO (ok__law_built T) (hr.mono (by decide)) (by rfl) tk (pa_cons (pv 3) pa_nil)) pa_nil)) rfl)
    (pss_cons (ps_par (i := 7) (j := 8) rfl nd rfl rfl (by decide) rfl rfl (pa_cons (pe_callO (ok_pattern T) (hr.mono (by decide)) (by rfl) tk (pa_cons (pv 5) pa_nil)) (pa_cons (pe_callO (ok_pattern T) (hr.mono (by decide)) (by rfl) tk (pa_cons (pv 6) pa_nil)) pa_nil)) rfl)
    (pss_cons (ps_set (i := 9) nd rfl (by first | exact Or.inl rfl | exact Or.inr rfl) (pe_op op_addA (pe_callB (call_max2A rfl) (by rfl) T.f_max (by decide +kernel) (pa_cons (pe_ix (ix_V (units65 hr)) (pv 7) pe_int (fun _ _ => rfl)) (pa_cons (pe_ix (ix_V (units65 hr)) (pv 8) pe_int (fun _ _ => rfl)) pa_nil))) (pe_callB (call_min2A rfl) (by rfl) T.f_min (by decide +kernel) (pa_cons (pe_op op_mulA (pe_ix (ix_V (units65 hr)) (pv 7) pe_int (fun _ _ => rfl)) (pe_ix (ix_V (units65 hr)) (pv 8) pe_int (fun _ _ => rfl))) (pa_cons pe_int pa_nil)))))
    (pss_cons (ps_par (i := 10) (j := 11) rfl nd rfl rfl (by decide) rfl rfl (pa_cons (pe_callO (ok__law_least T) (hr.mono (by decide)) (by rfl) tk (pa_cons (pv 2) (pa_cons (pv 3) (pa_cons (pe_callB (call_min2A rfl) (by rfl) T.f_min (by decide +kernel) (pa_cons (pv 9) (pa_cons pe_int pa_nil))) pa_nil)))) (pa_cons (pe_callO (ok_parting T) (hr.mono (by decide)) (by rfl) tk (pa_cons (pv 5) (pa_cons (pv 6) pa_nil))) pa_nil)) rfl)
    (pss_cons (ps_if (PW.pt (pw_or (pt_cmpR op_notN (pv 10) pe_non (nomark _)) (pw_or1 (pt_cmpR op_le (pv 9) pe_int (nomark _))))) (pss_one (ps_if (pt_not (pt_val (pe_callO (ok__law_alike T 6) (hr.mono (by decide)) (by rfl) tk (pa_cons (pv 11) (pa_cons (pv 10) pa_nil))))) (pss_one (ps_ret pe_bl)) pss_nil)) (pss_one (ps_if (PW.pt (pw_and (pt_cmpR op_notN (pv 11) pe_non (nomark _)) (pw_and1 (pt_cmpR op_le (pe_ix (ix_V (units65 hr)) (pv 11) pe_int (fun _ _ => rfl)) pe_int (nomark _))))) (pss_one (ps_ret pe_bl)) pss_nil)))
    (pss_cons (ps_if (PW.pt (pw_or (pt_cmpR (op_neA (units64 hr)) (pe_callO (ok_parting T) (hr.mono (by decide)) (by rfl) tk (pa_cons (pv 6) (pa_cons (pv 5) pa_nil))) (pv 11) (nomark _)) (pw_or (pt_cmpR (op_neA (units64 hr)) (pe_callO (ok_alike T) (hr.mono (by decide)) (by rfl) tk (pa_cons (pv 5) (pa_cons (pv 6) pa_nil))) (pe_cmpR op_isN (pv 11) pe_non (nomark _)) (nomark _)) (pw_or1 (pt_not (pt_val (pe_callO (ok_alike T) (hr.mono (by decide)) (by rfl) tk (pa_cons (pv 5) (pa_cons (pv 5) pa_nil))))))))) (pss_one (ps_ret pe_bl)) pss_nil)
    (pss_cons (ps_set (i := 12) nd rfl (by first | exact Or.inl rfl | exact Or.inr rfl) (pe_ifExp (pt_cmpR (op_eqA (units64 hr)) (pe_ix (ix_V (units65 hr)) (pv 2) pe_int (fun _ _ => rfl)) pe_str (nomark _)) pe_str pe_str))
    (pss_cons (ps_for (passes_of rfl) rfl (pi_seq (pe_lst (pa_cons (pe_makeO (ok_Table___init__ T) (hr.mono (by decide)) (by rfl) tk (pa_cons (pe_ix (ix_V (units65 hr)) (pv 2) pe_int (fun _ _ => rfl)) (pa_cons (pe_op op_sub pe_int (pe_ix (ix_V (units65 hr)) (pv 2) pe_int (fun _ _ => rfl))) (pa_cons (pe_ix (ix_V (units65 hr)) (pv 2) pe_int (fun _ _ => rfl)) pa_nil)))) (pa_cons (pe_makeO (ok_Table___init__ T) (hr.mono (by decide)) (by rfl) tk (pa_cons (pe_ix (ix_V (units65 hr)) (pv 2) pe_int (fun _ _ => rfl)) (pa_cons (pe_ix (ix_V (units65 hr)) (pv 2) pe_int (fun _ _ => rfl)) (pa_cons (pv 12) pa_nil)))) pa_nil)))) (pg_name (i := 13) nd rfl (by first | exact Or.inl rfl | exact Or.inr rfl)) (pss_one (ps_if (pt_cmpR (op_neA (units64 hr)) (pe_callO (ok__law_refused T) (hr.mono (by decide)) (by rfl) tk (pa_cons (pv 5) (pa_cons (pv 13) pa_nil))) pe_int (nomark _)) (pss_one (ps_ret pe_bl)) pss_nil)))
    (pss_one (ps_ret (pe_cmpR (op_eqA (units64 hr)) (pe_callO (ok__law_refused T) (hr.mono (by decide)) (by rfl) tk (pa_cons (pv 5) (pa_cons (pe_makeO (ok_Table___init__ T) (hr.mono (by decide)) (by rfl) tk (pa_cons (pe_op op_mulA (pe_tup (pa_cons (pe_tup pa_nil) pa_nil)) (pe_op op_sub pe_int (pe_callB (call_min2A rfl) (by rfl) T.f_min (by decide +kernel) (pa_cons (pe_callB call_lenA (by rfl) T.f_len (by decide +kernel) (pa_cons (pe_ix (ix_V (units65 hr)) (pv 2) pe_int (fun _ _ => rfl)) pa_nil)) (pa_cons pe_int pa_nil))))) (pa_cons (pe_ix (ix_V (units65 hr)) (pv 2) pe_int (fun _ _ => rfl)) (pa_cons (pe_ix (ix_V (units65 hr)) (pv 2) pe_int (fun _ _ => rfl)) pa_nil)))) pa_nil))) pe_int (nomark _))))))))))))))))
theorem ok_law (T : Txt P K mg base) : Ok P w K mg base "law" 9 ["_law_script"] (spL 1 (sp_law K)) := ok_mk (T.d_law) T.m_law sc_law (fun _ _ _ _ _ _ us hl => match us, hl with | [_], _ => rfl) (fun _ _ _ _ _ _ hr => der_law T hr) (pure_law T)
end
end

end Tk
end
set_option maxHeartbeats 0
section
namespace Tk
open PySem PySem.Spec PyProof.Rows L2
def names0 : List PySem.Str := ["TakeError", "InvalidRows", "InvalidPasses", "InvalidStuck", "UnknownEntry", "NotComparable", "MOST_TAKE", "MOST_PASSES", "STUCK", "is_integer", "is_row", "check_rows", "Table", "turned_row", "turned_table", "PASS", "options", "next_row", "is_won_by", "window_of", "least_pattern", "come_round", "pattern_of", "first_unlike", "parting", "alike", "pattern", "_law_mix", "_law_next", "_law_alike"]
def names1 : List PySem.Str := ["_law_pick", "_law_line", "_law_draw", "_law_built", "_law_entries", "_law_turned", "_law_moves", "_law_behind", "_law_outcomes", "_law_least", "_law_refused"]
abbrev names : List PySem.Str := names0 ++ names1
abbrev Rr : PySem.W.OpenRow := PySem.W.OpenLaw.row PySem.Challenge.rw_takesmemory_k07_whole_partings
abbrev hk : PySem.W.Hook := hookT 5 fa fn da moreL ts
def ob (s : PySem.W.SharedT) : AlT := obsTG 5 fa fn da moreL ts (HandSHeadRun.getT s)
theorem ob_eq (s : PySem.W.SharedT) : ob s = hk.obs s.abs := obsTG_eq (HandSHeadRun.getT_eq s)
theorem run (w : World) : HandSHeadRun.RunEq Rr (PySem.W.view Rr.prog [47]) hk ob 4000 names w := by
  intro os
  kernel_rfl
theorem FnOk.cx0 {P : Program} {w : World} {K : PySem.W.Frag} {mg : Str → Option Value} {base : Heap} {k : Nat} {f : Addr} {fd : FuncData} {ps : List Str} {sp : Sp} (F : FnOk P w K mg base (L2.CX P w) k f fd ps sp)
    (h : ∀ vs H Q E, sp vs H Q E → sp vs H Q (fun _ _ _ => False)) : FnOk P w K mg base L2.CX0 k f fd ps sp :=
  ⟨F.len, fun A outer s H args us vs Q E hr he hb hv hs => codeAny_mono (F.run A outer s H args us vs Q _ hr he hb hv (h _ _ _ _ hs)) fun r s' hq => by
    cases r with
    | error e =>
      obtain ⟨_, _, _, _, _, _, _, _, _, _, _, _, z⟩ := hq
      exact z.elim
    | ok fl => cases fl <;> exact hq⟩
theorem facts {P : Program} {w : World} {K : PySem.W.Frag} {h : Heap} {mg : Str → Option Value} {f : Addr} (hp : P = PySem.Challenge.pw_takesmemory_k07_whole_partings) (X : K.In h) (G : h.Ns mainGlobals mg) (hfa : mg ("law" : Str) = some (.ref f)) (c : SaysO fa fn da moreL K) (tf : TabsFact ts h K) :
    ∃ fd : FuncData, (∀ (s : Shared) (v : Value), BindsTo s fd ⟨[v], []⟩ [("_law_script", v)]) ∧ ∀ base : Heap, K.In base → base.Ns mainGlobals mg → (∀ p ∈ ts.map (cTab K), LamX.TabB base mg p.1 p.2) → FnOk P w K mg base L2.CX0 9 f fd ["_law_script"] (spL 1 (sp_law K)) := by
  subst hp
  have T : ∀ base : Heap, K.In base → base.Ns mainGlobals mg → (∀ p ∈ ts.map (cTab K), LamX.TabB base mg p.1 p.2) → Txt PySem.Challenge.pw_takesmemory_k07_whole_partings K mg base := fun base X G B => ⟨X, G, c.says, c.moreAll, fun i d h => c.daAt i h, rfl, by decide +kernel, fun x hx => (tf.1 x hx).1, tf.2, fun x hx => B _ (List.mem_map_of_mem hx)⟩
  obtain ⟨fd, F⟩ : ∃ fd, FunD K "law" "law" (defArgs s_law) (defBody s_law) (defScope s_law) [] [] (He.fAd K ("law", none)) fd := c.says.def_ 33 (d := ⟨("law", none), "law", "law", defArgs s_law, defBody s_law, defScope s_law, [], []⟩) rfl
  have e := hfa.symm.trans (He.glo_ok X G (c.says.fact 21 (f := .glo "law") rfl))
  cases e
  have b := FunD.bindsA (ps := ["_law_script"]) F fun _ _ _ _ _ _ us hl => match us, hl with | [_], _ => rfl
  exact ⟨fd, fun s v => b s [v] rfl, fun base X G B => FnOk.cx0 (FunD.ok F sc_law (fun vs H Q E h => h.1) (fun cdv A outer s H vs Q E hr h => ⟨t_law K E, der_law (T base X G B) hr, pure_law (T base X G B) vs H Q E h.1 h.2⟩)) fun _ _ _ _ h => h⟩
theorem tb_of {K : PySem.W.Frag} {H : Hp} (hT : ∀ p ∈ ts.map (cTab K), H p.2 = some (.tbl #[])) : ∀ p ∈ (kt K).T, LamX.TabS H p.1 p.2 := by
  intro p hp
  have hm : ∃ x ∈ ts, (cTab K x).2 = p.1 := by
    simp [kt] at hp
    all_goals simp [ts]
    all_goals (subst hp; rfl)
  obtain ⟨x, hx, e⟩ := hm
  rw [← e]
  exact LamX.TabS.nil (hT _ (List.mem_map_of_mem hx))
end Tk
end
open PySem PySem.W PySem.Calls PyProof.Rows
theorem PySem.Challenge.cw_takesmemory_k07_whole_partings_holds : PySem.Challenge.rw_takesmemory_k07_whole_partings.Holds := by
  w_on; o_law
  refine HandSHeadRun.head_any (r := OpenLaw.row PySem.Challenge.rw_takesmemory_k07_whole_partings) (q := view (OpenLaw.row PySem.Challenge.rw_takesmemory_k07_whole_partings).prog [47]) (H := Tk.hk) (ob := Tk.ob) (M := 4000) (loose := Tk.names) (d := HandSHeadRun.topDef (OpenLaw.row PySem.Challenge.rw_takesmemory_k07_whole_partings).prog 47) (kwd := []) Tk.ob_eq
    (by kernel_rfl) (fun s => by kernel_rfl) Tk.run (by kernel_rfl) (by kernel_rfl) (by kernel_rfl) (by rfl) (by first | assumption | decide +kernel) (by decide +kernel) ⟨rfl, rfl, rfl, rfl, rfl, by decide +kernel⟩ ?hw ?hc
  case hw => w_witness2
  case hc =>
    refine Tk.walk_ofTE (l := PySem.Challenge.rw_takesmemory_k07_whole_partings) (n := 63) (k := 9) (x := "_law_script") (CX := L2.CX0) rfl (by decide) (by kernel_rfl) ⟨rfl, by decide, by decide⟩ ?F (fun _ _ _ _ z => z)
    intro w mg fa h Y G hmg0
    obtain ⟨K, KX, c, tf⟩ := Y
    have hmg : mg ("law" : PySem.Str) = some (.ref fa) := by
      have e : (HandSHeadRun.topDef (OpenLaw.row PySem.Challenge.rw_takesmemory_k07_whole_partings).prog 47).name = ("law" : PySem.Str) := by kernel_rfl
      rw [← e]
      exact hmg0
    obtain ⟨fd, hb, hF⟩ := Tk.facts (P := (PySem.Challenge.rw_takesmemory_k07_whole_partings).prog) (w := w) rfl KX G hmg c tf
    have at_ : ∀ p ∈ Tk.ts.map (Tk.cTab K), ∃ x ∈ Tk.ts, Tk.cTab K x = p := fun p hp => List.mem_map.mp hp
    exact ⟨K, fd, Tk.ts.map (Tk.cTab K), Tk.spL 1 (Tk.sp_law K), KX, (fun p hp => let ⟨x, hx, e⟩ := at_ p hp; by rw [← e]; exact (tf.1 x hx).2.2.1), (fun p hp => let ⟨x, hx, e⟩ := at_ p hp; by rw [← e]; exact (tf.1 x hx).2.1), (fun p hp => let ⟨x, hx, e⟩ := at_ p hp; by rw [← e]; exact (tf.1 x hx).2.2.2), hb,
      fun H a ns hl hT hS => ⟨rfl, a, ns, rfl, hS, hl, Tk.tb_of hT, fun _ => rfl⟩, hF⟩
