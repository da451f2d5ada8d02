import PyProof.Rows.All
import Wide.All
import OpenK.AllK
import Wide.FinOn
import KE.KStateDown
import Lean
import HandS.Base
import HandS.Call
import HandS.List
import HandS.Ends
import HandS.More
import HandS.Words
import HandS.WordsExc
import HandS.Defaults
import HandS.Head0
import HandS.Head1
import HandS.Head2
import HandS.HeadEnd
import HandS.HeadHook1
import HandS.HeadHook2
import KE.KDictKeyed
import HandS.ForMost
import HandS.Exc
import HandS.TryOnly
import HandS.TryMany
import HandS.ExcOwn
import HandS.ExcInit
import HandS.ExcSuper
import HandS.Property
import HandS.IsInst
import HandS.TupAny
import HandS.TupMul
import HandS.Deep
import HandS.Style
import HandS.Flow
import HandS.Wide
import HandS.WideBits
import HandS.SortInts
import HandS.Star
import HandS.Lambda
import HandS.EndBits
import HandS.EndTab
import HandS.Walk
import HandS.Zip
import KE.GoesMore
import PyProof.EnumMake
import KE.KExcSuper
import HandS.OwnEq
import PySem.Challenge.RW_takesmemory_k14_whole_texts
set_option Elab.async false
set_option linter.all false
set_option maxRecDepth 100000
set_option maxHeartbeats 4000000
section
namespace Tk
open PySem PySem.Spec L2
/-! ### frames between abstract heaps: all but the objects at S stays (code tables may grow); tuples and locked things always stay -/
structure Fr (S : List Addr) (H H' : Hp) : Prop where
  keep : ∀ b o, b ∉ S → (∀ ps, o ≠ .tbl ps) → H b = some o → H' b = some o
  tup : ∀ b xs, H b = some (.tup xs) → H' b = some (.tup xs)
  frz : ∀ b o u, H b = some (.frz o u) → H' b = some (.frz o u)
  dom : ∀ b, H b ≠ none → H' b ≠ none
theorem upd_dom {H : Hp} {p b : Addr} {o : HO} (h : H b ≠ none) : upd H p o b ≠ none := by
  by_cases e : b = p
  · rw [e, upd_same]
    exact fun z => by cases z
  · rw [upd_ne e]
    exact h
theorem Fr.refl {S : List Addr} {H : Hp} : Fr S H H := ⟨fun _ _ _ _ h => h, fun _ _ h => h, fun _ _ _ h => h, fun _ h => h⟩
theorem Fr.trans {S : List Addr} {H H1 H2 : Hp} (a : Fr S H H1) (b : Fr S H1 H2) : Fr S H H2 :=
  ⟨fun c o n t h => b.keep c o n t (a.keep c o n t h), fun c xs h => b.tup c xs (a.tup c xs h), fun c o u h => b.frz c o u (a.frz c o u h), fun c h => b.dom c (a.dom c h)⟩
theorem Fr.mono {S S' : List Addr} {H H' : Hp} (a : Fr S H H') (h : ∀ b, b ∈ S → b ∈ S') : Fr S' H H' :=
  ⟨fun c o n t e => a.keep c o (fun z => n (h c z)) t e, a.tup, a.frz, a.dom⟩
theorem Fr.nil {S : List Addr} {H H' : Hp} (a : Fr [] H H') : Fr S H H' := a.mono fun _ z => absurd z List.not_mem_nil
theorem Fr.new {S : List Addr} {H : Hp} {p : Addr} {o : HO} (n : H p = none) : Fr S H (upd H p o) :=
  ⟨fun c u _ _ h => by rw [upd_ne (ne_of_none h n)]; exact h, fun c u h => by rw [upd_ne (ne_of_none h n)]; exact h, fun c u v h => by rw [upd_ne (ne_of_none h n)]; exact h, fun _ h => upd_dom h⟩
/-- an object that is no tuple, no locked thing is written -/
theorem Fr.put {S : List Addr} {H : Hp} {p : Addr} {o u : HO} (e : H p = some u) (ht : ∀ xs, u ≠ .tup xs) (hf : ∀ a v, u ≠ .frz a v) (m : p ∈ S) : Fr S H (upd H p o) :=
  ⟨fun c u' n _ h => by rw [upd_ne (show c ≠ p from fun z => n (by rw [z]; exact m))]; exact h,
   fun c xs h => by rw [upd_ne (show c ≠ p from fun z => ht xs (by rw [z, e] at h; exact Option.some.inj h))]; exact h,
   fun c a v h => by rw [upd_ne (show c ≠ p from fun z => hf a v (by rw [z, e] at h; exact Option.some.inj h))]; exact h, fun _ h => upd_dom h⟩
theorem Fr.lst {S : List Addr} {H H' : Hp} {b : Addr} {xs : List V} (F : Fr S H H') (n : b ∉ S) (h : H b = some (.lst xs)) : H' b = some (.lst xs) := F.keep b _ n (fun _ z => by cases z) h
theorem Fr.lst0 {H H' : Hp} {b : Addr} {xs : List V} (F : Fr [] H H') (h : H b = some (.lst xs)) : H' b = some (.lst xs) := F.lst List.not_mem_nil h
theorem Fr.ins {S : List Addr} {H H' : Hp} {b C d : Addr} {fs : List (Str × V)} (F : Fr S H H') (n : b ∉ S) (h : H b = some (.ins C d fs)) : H' b = some (.ins C d fs) := F.keep b _ n (fun _ z => by cases z) h
theorem Fr.ins0 {H H' : Hp} {b C d : Addr} {fs : List (Str × V)} (F : Fr [] H H') (h : H b = some (.ins C d fs)) : H' b = some (.ins C d fs) := F.ins List.not_mem_nil h
theorem Fr.dK {S : List Addr} {H H' : Hp} {b : Addr} {kvs : List (Key × V)} (F : Fr S H H') (n : b ∉ S) (h : H b = some (.dK kvs)) : H' b = some (.dK kvs) := F.keep b _ n (fun _ z => by cases z) h
theorem Fr.ext {S : List Addr} {H H' : Hp} {b : Addr} {φ : Heap → Prop} (F : Fr S H H') (n : b ∉ S) (h : H b = some (.ext φ)) : H' b = some (.ext φ) := F.keep b _ n (fun _ z => by cases z) h
theorem Fr.sqt {K : PySem.W.Frag} {S : List Addr} {H H' : Hp} {a : Addr} {xs : List V} (F : Fr S H H') (h : SqT K H a xs) : SqT K H' a xs := by
  rcases h with (h | ⟨o, h⟩) | h
  · exact .inl (.inl (F.tup _ _ h))
  · exact .inl (.inr ⟨o, F.frz _ _ _ h⟩)
  · exact .inr h
theorem Fr.sql {K : PySem.W.Frag} {S : List Addr} {H H' : Hp} {a : Addr} {xs : List V} (F : Fr S H H') (n : a ∉ S) (h : SqL K H a xs) : SqL K H' a xs := by
  rcases h with (h | ⟨o, h⟩) | h
  · exact .inl (.inl (F.lst n h))
  · exact .inl (.inr ⟨o, F.frz _ _ _ h⟩)
  · exact .inr h
theorem Fr.sql0 {K : PySem.W.Frag} {H H' : Hp} {a : Addr} {xs : List V} (F : Fr [] H H') (h : SqL K H a xs) : SqL K H' a xs := F.sql List.not_mem_nil h
/-- what is free behind was free ahead -/
theorem Fr.free {S : List Addr} {H H' : Hp} {l : Addr} (F : Fr S H H') (h : H' l = none) : H l = none := by
  cases q : H l with
  | none => rfl
  | some o => exact absurd h (F.dom l (by rw [q]; exact fun z => by cases z))

/-! ### data without change: None, bools, ints, texts, tuples of such -/
mutual
inductive Tp (K : PySem.W.Frag) (H : Hp) : V → PyData → Prop
  | non : Tp K H .non .none
  | bl (b : Bool) : Tp K H (.bl b) (.bool b)
  | int (i : Int) : Tp K H (.int i) (.int i)
  | str (x : Str) : Tp K H (.str x) (.str x)
  | tup {a : Addr} {xs : List V} {ds : List PyData} : SqT K H a xs → TpL K H xs ds → Tp K H (.ref a) (.tuple ds)
inductive TpL (K : PySem.W.Frag) (H : Hp) : List V → List PyData → Prop
  | nil : TpL K H [] []
  | cons {v : V} {vs : List V} {d : PyData} {ds : List PyData} : Tp K H v d → TpL K H vs ds → TpL K H (v :: vs) (d :: ds)
end
section
variable {K : PySem.W.Frag} {S : List Addr} {H H' : Hp}
mutual
theorem Tp.fr (F : Fr S H H') : ∀ {v : V} {d : PyData}, Tp K H v d → Tp K H' v d
  | _, _, .non => .non
  | _, _, .bl b => .bl b
  | _, _, .int i => .int i
  | _, _, .str x => .str x
  | _, _, .tup h t => .tup (F.sqt h) (TpL.fr F t)
theorem TpL.fr (F : Fr S H H') : ∀ {vs : List V} {ds : List PyData}, TpL K H vs ds → TpL K H' vs ds
  | _, _, .nil => .nil
  | _, _, .cons h t => .cons (Tp.fr F h) (TpL.fr F t)
end
mutual
theorem Tp.dp : ∀ {v : V} {d : PyData}, Tp K H v d → Dp K H v d
  | _, _, .non => .non
  | _, _, .bl b => .bl b
  | _, _, .int i => .int i
  | _, _, .str x => .str x
  | _, _, .tup h t => .tup h (TpL.dp t)
theorem TpL.dp : ∀ {vs : List V} {ds : List PyData}, TpL K H vs ds → DpAll K H vs ds
  | _, _, .nil => .nil
  | _, _, .cons h t => .cons (Tp.dp h) (TpL.dp t)
end
theorem TpL.length : ∀ {vs : List V} {ds : List PyData}, TpL K H vs ds → vs.length = ds.length
  | _, _, .nil => rfl
  | _, _, .cons _ t => congrArg Nat.succ (TpL.length t)
theorem TpL.get : ∀ {vs : List V} {ds : List PyData} {i : Nat} {d : PyData}, TpL K H vs ds → ds[i]? = some d → ∃ v, vs[i]? = some v ∧ Tp K H v d
  | _, _, _, _, .nil, e => by simp at e
  | _, _, 0, _, .cons h _, e => by simp at e; subst e; exact ⟨_, rfl, h⟩
  | _, _, i + 1, d, .cons _ t, e => by
    obtain ⟨v, h1, h2⟩ := TpL.get (i := i) (d := d) t (by simpa using e)
    exact ⟨v, by simpa using h1, h2⟩
theorem TpL.get' : ∀ {vs : List V} {ds : List PyData} {i : Nat} {v : V}, TpL K H vs ds → vs[i]? = some v → ∃ d, ds[i]? = some d ∧ Tp K H v d
  | _, _, _, _, .nil, e => by simp at e
  | _, _, 0, _, .cons h _, e => by simp at e; subst e; exact ⟨_, rfl, h⟩
  | _, _, i + 1, d, .cons _ t, e => by
    obtain ⟨v, h1, h2⟩ := TpL.get' (i := i) (v := d) t (by simpa using e)
    exact ⟨v, by simpa using h1, h2⟩
theorem TpL.app : ∀ {vs us : List V} {ds es : List PyData}, TpL K H vs ds → TpL K H us es → TpL K H (vs ++ us) (ds ++ es)
  | _, _, _, _, .nil, h => h
  | _, _, _, _, .cons h t, g => .cons h (TpL.app t g)
theorem TpL.one {v : V} {d : PyData} (h : Tp K H v d) : TpL K H [v] [d] := .cons h .nil
theorem TpL.snoc {vs : List V} {ds : List PyData} {v : V} {d : PyData} (t : TpL K H vs ds) (h : Tp K H v d) : TpL K H (vs ++ [v]) (ds ++ [d]) := t.app (.one h)
theorem TpL.drop : ∀ {vs : List V} {ds : List PyData} (n : Nat), TpL K H vs ds → TpL K H (vs.drop n) (ds.drop n)
  | _, _, 0, h => h
  | _, _, _ + 1, .nil => .nil
  | _, _, n + 1, .cons _ t => TpL.drop n t
theorem TpL.take : ∀ {vs : List V} {ds : List PyData} (n : Nat), TpL K H vs ds → TpL K H (vs.take n) (ds.take n)
  | _, _, 0, _ => .nil
  | _, _, _ + 1, .nil => .nil
  | _, _, n + 1, .cons h t => .cons h (TpL.take n t)
theorem TpL.rev : ∀ {vs : List V} {ds : List PyData}, TpL K H vs ds → TpL K H vs.reverse ds.reverse
  | _, _, .nil => .nil
  | _, _, .cons h t => by rw [List.reverse_cons, List.reverse_cons]; exact (TpL.rev t).snoc h
theorem TpL.set : ∀ {vs : List V} {ds : List PyData} {v : V} {d : PyData} (n : Nat), TpL K H vs ds → Tp K H v d → TpL K H (vs.set n v) (ds.set n d)
  | _, _, _, _, _, .nil, _ => .nil
  | _, _, _, _, 0, .cons _ t, h => .cons h t
  | _, _, _, _, n + 1, .cons g t, h => .cons g (TpL.set n t h)
theorem TpL.ints : ∀ (ns : List Int), TpL K H (ns.map V.int) (ns.map PyData.int)
  | [] => .nil
  | n :: ns => .cons (.int n) (TpL.ints ns)
theorem TpL.bls : ∀ (ns : List Bool), TpL K H (ns.map V.bl) (ns.map PyData.bool)
  | [] => .nil
  | n :: ns => .cons (.bl n) (TpL.bls ns)
theorem TpL.strs : ∀ (ns : List Str), TpL K H (ns.map V.str) (ns.map PyData.str)
  | [] => .nil
  | n :: ns => .cons (.str n) (TpL.strs ns)
theorem TpL.of_ints : ∀ {ns : List Int} {vs : List V}, TpL K H vs (ns.map PyData.int) → vs = ns.map V.int
  | [], _, .nil => rfl
  | n :: ns, _, .cons (.int _) t => by rw [TpL.of_ints t]; rfl
theorem TpL.of_bls : ∀ {ns : List Bool} {vs : List V}, TpL K H vs (ns.map PyData.bool) → vs = ns.map V.bl
  | [], _, .nil => rfl
  | n :: ns, _, .cons (.bl _) t => by rw [TpL.of_bls t]; rfl
theorem TpL.of_strs : ∀ {ns : List Str} {vs : List V}, TpL K H vs (ns.map PyData.str) → vs = ns.map V.str
  | [], _, .nil => rfl
  | n :: ns, _, .cons (.str _) t => by rw [TpL.of_strs t]; rfl
theorem Tp.tupi {v : V} {ds : List PyData} (h : Tp K H v (.tuple ds)) : ∃ a xs, v = .ref a ∧ SqT K H a xs ∧ TpL K H xs ds := by
  cases h with
  | tup h t => exact ⟨_, _, rfl, h, t⟩
end
/-- at a: a list of the data ds -/
def LsD (K : PySem.W.Frag) (H : Hp) (a : Addr) (ds : List PyData) : Prop := ∃ xs, H a = some (.lst xs) ∧ TpL K H xs ds
theorem LsD.fr {K : PySem.W.Frag} {S : List Addr} {H H' : Hp} {a : Addr} {ds : List PyData} (F : Fr S H H') (n : a ∉ S) : LsD K H a ds → LsD K H' a ds
  | ⟨xs, h, t⟩ => ⟨xs, F.lst n h, t.fr F⟩
theorem LsD.fr0 {K : PySem.W.Frag} {H H' : Hp} {a : Addr} {ds : List PyData} (F : Fr [] H H') (h : LsD K H a ds) : LsD K H' a ds := h.fr F List.not_mem_nil
end Tk

end

section
namespace Tk
open PySem PySem.Spec L2
/-! ### operators by values: one rule each, several kinds of values -/
theorem OpR.orr {X : Cx} {f : Value → Value → Sem Value} {r r' : R2} (h : OpR X f r) (h' : OpR X f r') : OpR X f (fun x y H Q => r x y H Q ∨ r' x y H Q) := by
  intro pins s σ H x y v u Q I rx ry q
  rcases q with q | q
  · exact h pins s σ H x y v u Q I rx ry q
  · exact h' pins s σ H x y v u Q I rx ry q
abbrev rAddI : R2 := rI0 fun i j => .int (i + j)
abbrev rAddS : R2 := fun x y H Q => ∃ i j, x = .str i ∧ y = .str j ∧ i.length + j.length ≤ sizeLine ∧ Q (.str (i ++ j)) H
def rAddA (K : PySem.W.Frag) : R2 := fun x y H Q => rAddI x y H Q ∨ rAddS x y H Q ∨ rCat x y H Q ∨ rCatA K x y H Q
theorem op_addA {X : Cx} : OpR X (binaryOp .Add) (rAddA X.K) := OpR.orr op_add (OpR.orr op_add_str (OpR.orr op_cat op_catA))
abbrev rMulI : R2 := rI CMul fun i j => .int (i * j)
def rMulA (K : PySem.W.Frag) : R2 := fun x y H Q => rMulI x y H Q ∨ rRep x y H Q ∨ rRepT K x y H Q
theorem op_mulA {X : Cx} : OpR X (binaryOp .Mult) (rMulA X.K) := OpR.orr op_mul (OpR.orr op_rep op_repT)
def rEqA (K : PySem.W.Frag) : R2 := fun x y H Q => rEq x y H Q ∨ rEqD K x y H Q
def rNeA (K : PySem.W.Frag) : R2 := fun x y H Q => rNe x y H Q ∨ rNeD K x y H Q
theorem op_eqA {X : Cx} (hu : X.A.units + 64 < cLine) : OpR X (compareOp .Eq) (rEqA X.K) := OpR.orr op_eq (op_eqD hu)
theorem op_neA {X : Cx} (hu : X.A.units + 64 < cLine) : OpR X (compareOp .NotEq) (rNeA X.K) := OpR.orr op_ne (op_neD hu)
def rInA (K : PySem.W.Frag) : R2 := fun x y H Q => rIn K false x y H Q ∨ rInD K x y H Q
def rNotInA (K : PySem.W.Frag) : R2 := fun x y H Q => rIn K true x y H Q ∨ rNotInD K x y H Q
theorem op_inA {X : Cx} (hu : X.A.units + 65 < cLine) : OpR X (compareOp .In) (rInA X.K) := OpR.orr op_in_seq (op_inD hu)
theorem op_notInA {X : Cx} (hu : X.A.units + 65 < cLine) : OpR X (compareOp .NotIn) (rNotInA X.K) := OpR.orr op_notIn_seq (op_notInD hu)
def rSl (K : PySem.W.Frag) : V → Option Int → Option Int → Hp → VK → Prop := fun x lo hi H Q => rSlL K x lo hi H Q ∨ rSlA K x lo hi H Q
theorem sl_any {X : Cx} : SlR X (rSl X.K) := SlR.or sl_list sl_tupA
theorem units64 {k : Nat} {A : Around} (r : Room k A) : A.units + 64 < cLine := r.units
theorem units65 {k : Nat} {A : Around} (r : Room k A) : A.units + 65 < cLine := by have := r.un; omega

/-! ### what is known of a def: its promise, by its name -/
def Ok (P : Program) (w : World) (K : PySem.W.Frag) (mg : Str → Option Value) (base : Heap) (x : Str) (k : Nat) (ps : List Str) (sp : Sp) : Prop :=
  ∃ fd, FnOk P w K mg base (L2.CX P w) k (He.ga K x) fd ps sp ∧ PySem.W.keepIn K (.ref (He.ga K x)) = true ∧ Binds K fd ps [] ∧ mg x = some (.ref (He.ga K x))
section
variable {X : Cx} {W : WX} {k : Nat} {ps : List Str} {sp : Sp} {x : Str} {p pos : Pos} {e : Expr} {es : List Expr} {t : TA}
theorem pe_callO (F : Ok X.prog X.w X.K X.mg X.base x k ps sp) (hr : Room k X.A) (hg : Gl X x) (tk : Takes X W)
    (ha : PA X (e :: es) t) (hdb : (x == ("__debug__" : Str)) = false := by decide) (he : starEach (e :: es) X.env = (false, eval e X.env) :: starEach es X.env := by rfl) (hpl : (backTo pos (starEach es X.env)).any (·.1) = false := by rfl) :
    PE X (.Call (.Name x p) (e :: es) [] pos) (tCallS sp (WE W) t) := by
  refine ⟨fun pins s σ H Q I h => ?_⟩
  obtain ⟨fd, G, hk, hb, hm⟩ := F
  exact (pe_callS G hr hg hm hk hb (fun σ => passAt tk σ) ha hdb he hpl).run pins s σ H Q I h
theorem pe_gint {i : Int} (hg : Gl X x) (h : ∃ t, X.mg x = some (.int i t)) (hd : (x == ("__debug__" : Str)) = false := by decide) : PE X (.Name x pos) (tC (.int i)) := by
  obtain ⟨t, h⟩ := h
  exact pe_glob hg h ⟨t, rfl⟩ hd
theorem pe_gstr {z : Str} (hg : Gl X x) (h : ∃ t, X.mg x = some (.str z t)) (hd : (x == ("__debug__" : Str)) = false := by decide) : PE X (.Name x pos) (tC (.str z)) := by
  obtain ⟨t, h⟩ := h
  exact pe_glob hg h ⟨t, rfl⟩ hd
theorem pe_gref {a : Addr} (hg : Gl X x) (h : X.mg x = some (.ref a)) (hd : (x == ("__debug__" : Str)) = false := by decide) : PE X (.Name x pos) (tC (.ref a)) := pe_glob hg h rfl hd
end

/-! ### reading steps -/
section
variable {σ : St} {H : Hp} {Q : VK} {D : Ends} {K : PySem.W.Frag}
theorem g_seq {t u : TS} (h : t { D with nx := u D } σ H) : tSeq t u D σ H := h
theorem g_asg {te : TE} {g : TG} (h : te σ H fun x H1 => g x σ H1 D.nx) : tAsg te g D σ H := h
theorem g_ret {te : TE} (h : te σ H D.rt) : tRet te D σ H := h
theorem g_retN (h : D.rt .non H) : tRetN D σ H := h
theorem g_drop {te : TE} (h : te σ H fun _ H1 => D.nx σ H1) : tDrop te D σ H := h
theorem g_next (h : D.nx σ H) : tNext D σ H := h
theorem g_brk (h : D.bk σ H) : tBreak D σ H := h
theorem g_cont (h : D.ct σ H) : tCont D σ H := h
theorem g_name {i : Nat} {v : V} {R : St → Hp → Prop} {σ' : St} (e : σ.set i (some v) = σ') (h : R σ' H) : gName i v σ H R := by subst e; exact h
theorem g_var {i : Nat} {v : V} (e : σ[i]? = some (some v)) (h : Q v H) : tVar i σ H Q := ⟨v, e, h⟩
theorem g_c {v : V} (h : Q v H) : tC v σ H Q := h
theorem g_op {r : R2} {ta tb : TE} (h : ta σ H fun x H1 => tb σ H1 fun y H2 => r x y H2 Q) : tOp r ta tb σ H Q := h
theorem g_un {r : V → Hp → VK → Prop} {ta : TE} (h : ta σ H fun x H1 => r x H1 Q) : tUn r ta σ H Q := h
theorem g_cb {r : List V → Hp → VK → Prop} {t : TA} (h : t σ H fun vs H1 => r vs H1 Q) : tCB r t σ H Q := h
theorem g_nil {R : List V → Hp → Prop} (h : R [] H) : tNil σ H R := h
theorem g_cons {ta : TE} {tr : TA} {R : List V → Hp → Prop} (h : ta σ H fun x H1 => tr σ H1 fun xs H2 => R (x :: xs) H2) : tCons ta tr σ H R := h
theorem g_if {c : TT} {t u : TS} (h : c σ H fun b H1 => if b = true then t D σ H1 else u D σ H1) : tIfS c t u D σ H := h
theorem g_ife {c : TT} {ta tb : TE} (h : c σ H fun b H1 => if b = true then ta σ H1 Q else tb σ H1 Q) : tIf c ta tb σ H Q := h
theorem g_test {t : TE} {R : Bool → Hp → Prop} (h : t σ H fun x H' => ∃ k, x = .bl k ∧ R k H') : tTest t σ H R := h
theorem g_tb {t : TE} {R : Bool → Hp → Prop} (h : t σ H fun x H' => ∃ k, x = .bl k ∧ R k H') : tB t σ H R := h
theorem g_bl {k : Bool} {R : Bool → Prop} (h : R k) : ∃ c, V.bl k = .bl c ∧ R c := ⟨k, rfl, h⟩
theorem g_and {t u : TT} {R : Bool → Hp → Prop} (h : t σ H fun c H1 => if c = true then u σ H1 R else R false H1) : tAnd t u σ H R := h
theorem g_or {t u : TT} {R : Bool → Hp → Prop} (h : t σ H fun c H1 => if c = true then R true H1 else u σ H1 R) : tOr t u σ H R := h
theorem g_not {t : TT} {R : Bool → Hp → Prop} (h : t σ H fun c H1 => R (!c) H1) : tNot t σ H R := h
theorem g_andV {ta tb : TE} (h : ta σ H fun x H1 => ∃ c, x = .bl c ∧ if c = true then tb σ H1 Q else Q (.bl false) H1) : tAndV ta tb σ H Q := h
theorem g_orV {ta tb : TE} (h : ta σ H fun x H1 => ∃ c, x = .bl c ∧ if c = true then Q (.bl true) H1 else tb σ H1 Q) : tOrV ta tb σ H Q := h
theorem g_notV {ta : TE} (h : ta σ H fun x H1 => ∃ c, x = .bl c ∧ Q (.bl (!c)) H1) : tNotV ta σ H Q := h
theorem g_yes {R : Bool → Hp → Prop} (h : R true H) : tYes σ H R := h
theorem g_iT {A B : Prop} (h : A) : if true = true then A else B := iteT h
theorem g_iF {A B : Prop} (h : B) : if false = true then A else B := iteF h
theorem g_iNT {A B : Prop} (h : B) : if (!true) = true then A else B := iteF h
theorem g_iNF {A B : Prop} (h : A) : if (!false) = true then A else B := iteT h
theorem g_chain {r r' : R2} {ta tb tc : TE} (h : ta σ H fun x H1 => tb σ H1 fun y H2 => r x y H2 fun z H3 => ∃ k, z = .bl k ∧ (if k = true then tc σ H3 fun w' H4 => r' y w' H4 Q else Q (.bl false) H3)) : tChain r r' ta tb tc σ H Q := h
theorem g_callS {sp : Sp} {E : St → XK} {t : TA} (h : t σ H fun vs H1 => sp vs H1 Q (E σ)) : tCallS sp E t σ H Q := h
theorem g_isN {ta : TE} (h : ta σ H fun x H1 => Q (.bl (decide (x = .non))) H1) : tIsN ta σ H Q := h
theorem g_notN {ta : TE} (h : ta σ H fun x H1 => Q (.bl (!decide (x = .non))) H1) : tNotN ta σ H Q := h
theorem g_tup {t : TA} (h : t σ H fun xs H1 => xs.length ≤ sizeLine ∧ ∀ p, H1 p = none → Q (.ref p) (upd H1 p (.tup xs))) : tTup t σ H Q := h
theorem g_lst {t : TA} (h : t σ H fun xs H1 => xs.length ≤ sizeLine ∧ ∀ p, H1 p = none → Q (.ref p) (upd H1 p (.lst xs))) : tLst t σ H Q := h
theorem g_iList {tl : TE} {R : It → Hp → Prop} (h : tl σ H fun x H1 => ∃ a, x = .ref a ∧ (∃ xs, SqL K H1 a xs) ∧ R (Itl K a) H1) : iList K tl σ H R := h
theorem g_iTup {tl : TE} {R : It → Hp → Prop} (h : tl σ H fun x H1 => ∃ a, x = .ref a ∧ (∃ xs, SqT K H1 a xs) ∧ R (Itt K a) H1) : iTup K tl σ H R := h
theorem g_gTup {n : Nat} {t : TGs} {a : Addr} {xs : List V} {R : St → Hp → Prop} (h : SqT K H a xs) (hl : xs.length = n) (q : t xs σ H R) : gTup K n t (.ref a) σ H R := ⟨a, xs, rfl, h, hl, q⟩
theorem g_gNil {R : St → Hp → Prop} (q : R σ H) : gNil [] σ H R := ⟨rfl, q⟩
theorem g_gCons {t : TG} {u : TGs} {v : V} {r : List V} {R : St → Hp → Prop} (q : t v σ H fun σ' H' => u r σ' H' R) : gCons t u (v :: r) σ H R := ⟨v, r, rfl, q⟩
/-- a new tuple, a new list -/
theorem g_newT {xs : List V} {R : Addr → Prop} (hs : xs.length ≤ sizeLine) (h : ∀ p, H p = none → Fr [] H (upd H p (.tup xs)) → upd H p (.tup xs) p = some (.tup xs) → R p) : xs.length ≤ sizeLine ∧ ∀ p, H p = none → R p :=
  ⟨hs, fun p n => h p n (Fr.new n) upd_same⟩
theorem g_newL {xs : List V} {R : Addr → Prop} (hs : xs.length ≤ sizeLine) (h : ∀ p, H p = none → Fr [] H (upd H p (.lst xs)) → upd H p (.lst xs) p = some (.lst xs) → R p) : xs.length ≤ sizeLine ∧ ∀ p, H p = none → R p :=
  ⟨hs, fun p n => h p n (Fr.new n) upd_same⟩
theorem g_newO {o : HO} {R : Addr → Prop} (h : ∀ p, H p = none → Fr [] H (upd H p o) → upd H p o p = some o → R p) : ∀ p, H p = none → R p :=
  fun p n => h p n (Fr.new n) upd_same
/-! operators -/
theorem r_I0 {g : Int → Int → V} {i j : Int} (h : Q (g i j) H) : rI0 g (.int i) (.int j) H Q := ⟨i, j, rfl, rfl, h⟩
theorem r_I {C : Int → Int → Prop} {g : Int → Int → V} {i j : Int} (c : C i j) (h : Q (g i j) H) : rI C g (.int i) (.int j) H Q := ⟨i, j, rfl, rfl, c, h⟩
theorem r_addI {i j : Int} (h : Q (.int (i + j)) H) : rAddA K (.int i) (.int j) H Q := .inl ⟨i, j, rfl, rfl, h⟩
theorem r_addS {i j : Str} (l : i.length + j.length ≤ sizeLine) (h : Q (.str (i ++ j)) H) : rAddA K (.str i) (.str j) H Q := .inr (.inl ⟨i, j, rfl, rfl, l, h⟩)
theorem r_addL {a b : Addr} {xs ys : List V} (ha : H a = some (.lst xs)) (hb : H b = some (.lst ys)) (l : xs.length + ys.length ≤ sizeLine)
    (h : ∀ p, H p = none → Fr [] H (upd H p (.lst (xs ++ ys))) → upd H p (.lst (xs ++ ys)) p = some (.lst (xs ++ ys)) → Q (.ref p) (upd H p (.lst (xs ++ ys)))) : rAddA K (.ref a) (.ref b) H Q :=
  .inr (.inr (.inl ⟨a, b, xs, ys, rfl, rfl, ha, hb, l, fun p n => h p n (Fr.new n) upd_same⟩))
theorem r_addT {a b : Addr} {xs ys : List V} (ha : SqT K H a xs) (hb : SqT K H b ys) (l : xs.length + ys.length ≤ sizeLine)
    (h : ∀ p H', Fr [] H H' → SqT K H' p (xs ++ ys) → Q (.ref p) H') : rAddA K (.ref a) (.ref b) H Q :=
  .inr (.inr (.inr ⟨a, b, xs, ys, rfl, rfl, ha, hb, l, fun e => h b H Fr.refl (by subst e; exact hb), fun _ e => h a H Fr.refl (by subst e; rw [List.append_nil]; exact ha),
    fun _ _ p n => h p _ (Fr.new n) (SqT.of upd_same)⟩))
theorem r_mulI {i j : Int} (c : CMul i j) (h : Q (.int (i * j)) H) : rMulA K (.int i) (.int j) H Q := .inl ⟨i, j, rfl, rfl, c, h⟩
theorem r_eqI {i j : Int} (h : Q (.bl (decide (i = j))) H) : rEqA K (.int i) (.int j) H Q := .inl ⟨rfl, by
  have e : decide (V.int i = V.int j) = decide (i = j) := by rw [dec_int, Bool.beq_eq_decide_eq]
  rw [e]; exact h⟩
theorem r_neI {i j : Int} (h : Q (.bl (!decide (i = j))) H) : rNeA K (.int i) (.int j) H Q := .inl ⟨rfl, by
  have e : decide (V.int i = V.int j) = decide (i = j) := by rw [dec_int, Bool.beq_eq_decide_eq]
  rw [e]; exact h⟩
theorem r_eqS {i j : Str} (h : Q (.bl (decide (i = j))) H) : rEqA K (.str i) (.str j) H Q := .inl ⟨rfl, by
  have e : decide (V.str i = V.str j) = decide (i = j) := by rw [dec_str, Bool.beq_eq_decide_eq]
  rw [e]; exact h⟩
theorem r_neS {i j : Str} (h : Q (.bl (!decide (i = j))) H) : rNeA K (.str i) (.str j) H Q := .inl ⟨rfl, by
  have e : decide (V.str i = V.str j) = decide (i = j) := by rw [dec_str, Bool.beq_eq_decide_eq]
  rw [e]; exact h⟩
theorem r_eqB {i j : Bool} (h : Q (.bl (i == j)) H) : rEqA K (.bl i) (.bl j) H Q := .inl ⟨rfl, by rw [dec_bl]; exact h⟩
theorem r_neB {i j : Bool} (h : Q (.bl (!(i == j))) H) : rNeA K (.bl i) (.bl j) H Q := .inl ⟨rfl, by rw [dec_bl]; exact h⟩
theorem r_eqD {x y : V} {d e : PyData} (hx : Tp K H x d) (hy : Tp K H y e) (s1 : SeqAt.shaped d = true) (s2 : SeqAt.shaped e = true) (h : Q (.bl (PyData.eqv d e)) H) : rEqA K x y H Q := .inr ⟨d, e, hx.dp, hy.dp, s1, s2, h⟩
theorem r_neD {x y : V} {d e : PyData} (hx : Tp K H x d) (hy : Tp K H y e) (s1 : SeqAt.shaped d = true) (s2 : SeqAt.shaped e = true) (h : Q (.bl (!PyData.eqv d e)) H) : rNeA K x y H Q := .inr ⟨d, e, hx.dp, hy.dp, s1, s2, h⟩
theorem r_eqL {a b : Addr} {d e : List PyData} (hx : LsD K H a d) (hy : LsD K H b e) (s1 : SeqAt.shaped (.list d) = true) (s2 : SeqAt.shaped (.list e) = true) (h : Q (.bl (PyData.eqvAll d e)) H) : rEqA K (.ref a) (.ref b) H Q := by
  obtain ⟨xs, hx, tx⟩ := hx
  obtain ⟨ys, hy, ty⟩ := hy
  exact .inr ⟨.list d, .list e, .lst (SqL.of hx) tx.dp, .lst (SqL.of hy) ty.dp, s1, s2, by rw [PyData.eqv]; exact h⟩
theorem r_neL {a b : Addr} {d e : List PyData} (hx : LsD K H a d) (hy : LsD K H b e) (s1 : SeqAt.shaped (.list d) = true) (s2 : SeqAt.shaped (.list e) = true) (h : Q (.bl (!PyData.eqvAll d e)) H) : rNeA K (.ref a) (.ref b) H Q := by
  obtain ⟨xs, hx, tx⟩ := hx
  obtain ⟨ys, hy, ty⟩ := hy
  exact .inr ⟨.list d, .list e, .lst (SqL.of hx) tx.dp, .lst (SqL.of hy) ty.dp, s1, s2, by rw [PyData.eqv]; exact h⟩
/-- an item of a tuple, of a list -/
theorem r_ixT {a : Addr} {xs : List V} {j : Nat} {v : V} (ha : SqT K H a xs) (e : xs[j]? = some v) (h : Q v H) : rIx K (.ref a) (.int (j : Int)) H Q := .inr (.inl ⟨a, xs, _, v, rfl, rfl, ha, atI_nat e, h⟩)
theorem r_ixL {a : Addr} {xs : List V} {j : Nat} {v : V} (ha : SqL K H a xs) (e : xs[j]? = some v) (h : Q v H) : rIx K (.ref a) (.int (j : Int)) H Q := .inl ⟨a, xs, _, v, rfl, rfl, ha, atI_nat e, h⟩
theorem r_ixTd {x : V} {ds : List PyData} {i : Int} {j : Nat} {d : PyData} (hx : Tp K H x (.tuple ds)) (ei : i = (j : Int)) (e : ds[j]? = some d) (h : ∀ v, Tp K H v d → Q v H) : rIx K x (.int i) H Q := by
  obtain ⟨a, xs, rfl, hs, t⟩ := hx.tupi
  obtain ⟨v, h1, h2⟩ := t.get e
  subst ei
  exact r_ixT hs h1 (h v h2)
theorem r_ixLd {a : Addr} {ds : List PyData} {i : Int} {j : Nat} {d : PyData} (hx : LsD K H a ds) (ei : i = (j : Int)) (e : ds[j]? = some d) (h : ∀ v, Tp K H v d → Q v H) : rIx K (.ref a) (.int i) H Q := by
  obtain ⟨xs, hs, t⟩ := hx
  obtain ⟨v, h1, h2⟩ := t.get e
  subst ei
  exact r_ixL (SqL.of hs) h1 (h v h2)
theorem g_lc {wi : TI} {g : TG} {tt : TT} {te : TE} {vs : List Nat} (h : wi σ H fun J H1 => ∀ D, H1 D = none → ∃ W : Nat → Nat → Hp → Prop, (∃ m, W 0 m (upd H1 D (.lst []))) ∧ ∀ i m H, W i m H →
  (J.stop i H ∧ Q (.ref D) H) ∨ (J.go i H ∧ ∃ Nx : Hp → Prop, (∀ H', Nx H' → ∃ m', m' < m ∧ W (i + 1) m' H') ∧ ∀ x H', J.yld i H x H' → g x (wipe σ vs) H' fun σ2 H2 => wipe σ2 vs = wipe σ vs ∧ tt σ2 H2 fun b H3 =>
    if b = true then te σ2 H3 fun y H4 => ∃ acc, H4 D = some (.lst acc) ∧ acc.length < sizeLine ∧ Nx (upd H4 D (.lst (acc ++ [y]))) else Nx H3)) : tLc wi g tt te vs σ H Q := h
theorem g_sl {r : V → Option Int → Option Int → Hp → VK → Prop} {te : TE} {tl th : TO} (h : te σ H fun x H1 => tl σ H1 fun l H2 => th σ H2 fun u H3 => r x l u H3 Q) : tSl r te tl th σ H Q := h
theorem g_noPart {R : Option Int → Hp → Prop} (h : R none H) : tNoPart σ H R := h
theorem g_part {t : TE} {R : Option Int → Hp → Prop} (h : t σ H fun x H1 => ∃ i, x = .int i ∧ R (some i) H1) : tPart t σ H R := h
theorem g_int {i : Int} {R : Int → Prop} (h : R i) : ∃ j, V.int i = .int j ∧ R j := ⟨i, rfl, h⟩
theorem sIx_none {n d : Nat} : HT.sIx n d none = d := rfl
theorem cut_all {xs : List V} : cutV xs none none = xs := by
  unfold cutV
  simp [HT.sIx]
theorem r_slT {a : Addr} {xs : List V} {lo hi : Option Int} (h : SqT K H a xs) (q : ∀ p H', Fr [] H H' → SqT K H' p (cutV xs lo hi) → Q (.ref p) H') : rSl K (.ref a) lo hi H Q := by
  refine .inr ⟨a, xs, rfl, h, fun ⟨e1, e2⟩ => q a H Fr.refl ?_, fun _ p n => q p _ (Fr.new n) (SqT.of upd_same)⟩
  have e : cutV xs lo hi = xs := by
    unfold cutV
    rw [e1, e2]
    simp
  rw [e]
  exact h
theorem r_slL {a : Addr} {xs : List V} {lo hi : Option Int} (h : SqL K H a xs) (q : ∀ p, H p = none → Fr [] H (upd H p (.lst (cutV xs lo hi))) → upd H p (.lst (cutV xs lo hi)) p = some (.lst (cutV xs lo hi)) → Q (.ref p) (upd H p (.lst (cutV xs lo hi)))) : rSl K (.ref a) lo hi H Q :=
  .inl ⟨a, xs, rfl, h, fun p n => q p n (Fr.new n) upd_same⟩
end
end Tk

end

section
namespace PySem
open PySem.W PyProof.Rows
/-- enumerate(v), v told by its iterator -/
theorem meets_enum_b {v : Value} {o : Obj} {H : Heap → Prop} (B : Begins v o H) :
    Meets (Builtin.«enumerate.__new__» ⟨[.type "enumerate", v], []⟩) (fun _ R s => H s.heap ∧
      R (.ok (.ret (.ref (s.heap.push o).objs.size))) { s with heap := (s.heap.push o).push { cls := .type "enumerate", data := .fields #[.none, .bool false, .ref s.heap.objs.size, rawInt 0, .none, .none] } }) :=
  .of_wp fun prog w A R s h => by
    obtain ⟨hp, gs, d, tk, os⟩ := s
    obtain ⟨h1, h⟩ := h
    have hsub := sub_enumerate
    have q1 : ∀ {A' : Around} {E : Value → Shared → Prop} {Q : Value → Shared → Prop}, Q (.ref hp.objs.size) ⟨hp.push o, gs, d, tk, os⟩ → wpAny (model prog w) A' (pyIter v) Q E ⟨hp, gs, d, tk, os⟩ :=
      fun q => B.iter prog w _ _ ⟨hp, gs, d, tk, os⟩ _ h1 q
    wp_walk using q1
    refine wpAny_stack_any fun st => wpAny_pure ?_
    split
    · rename_i c _ _ _ _ _
      cases (c == Value.type "enumerate")
      · wp_walk using q1
        exact ⟨_, rfl, h⟩
      · wp_walk using q1
        exact ⟨_, rfl, h⟩
    · wp_walk using q1
      exact ⟨_, rfl, h⟩
theorem call_enum_b {prog : Program} {w : World} {A : Around} {E : Value → Shared → Prop} {s : Shared} {v : Value} {o : Obj} {H : Heap → Prop} {Q : Value → Shared → Prop} (B : Begins v o H) (h1 : H s.heap)
    (h : ∀ h', IsEnum h' (s.heap.objs.size + 1) s.heap.objs.size 0 .none → h'.get? s.heap.objs.size = some o → h'.objs.size = s.heap.objs.size + 2 →
      (∀ b o, s.heap.get? b = some o → h'.get? b = some o) → Q (.ref (s.heap.objs.size + 1)) { s with heap := h' }) : wpAny (model prog w) A (call (.type "enumerate") [v]) Q E s := by
  refine callType_new F.called_enumerate (by decide) (F.typeCall_enumerate_1 _) (F.newCall_enumerate_1 _) (fun obj => F.args_object_init_2 obj _) F.entry_enumerate_new
    (meets_enum_b B) ⟨h1, ?_⟩
  have hz : (s.heap.push o).objs.size = s.heap.objs.size + 1 := Heap.size_push ..
  show _ ∧ _
  rw [hz]
  have he : IsEnum ((s.heap.push o).push { cls := .type "enumerate", data := .fields #[.none, .bool false, .ref s.heap.objs.size, rawInt 0, .none, .none] }) (s.heap.objs.size + 1) s.heap.objs.size 0 .none := by
    have q := Heap.get?_push_size (s.heap.push o) (o := { cls := .type "enumerate", data := .fields #[.none, .bool false, .ref s.heap.objs.size, rawInt 0, .none, .none] }) rfl
    rw [hz] at q
    exact q
  exact ⟨⟨_, he, rfl⟩, h _ he (Heap.get?_push_of_some _ (Heap.get?_push_size _ B.free)) (by rw [Heap.size_push, hz]) fun b o x => Heap.get?_push_of_some _ (Heap.get?_push_of_some _ x)⟩
end PySem
namespace Tk
open PySem PySem.Spec L2 RZ
/-! ### walked things: a list or a tuple; enumerate of either -/
def iSeq (K : PySem.W.Frag) (tl : TE) : TI := fun σ H R => tl σ H fun x H1 => ∃ a, x = .ref a ∧ (((∃ xs, SqL K H1 a xs) ∧ R (Itl K a) H1) ∨ ((∃ xs, SqT K H1 a xs) ∧ R (Itt K a) H1))
theorem pi_seq {X : Cx} {tg l : Expr} {tl : TE} (hl : PE X l tl) : PI X tg l (iSeq X.K tl) := by
  refine ⟨fun pins s σ H R I h => ?_⟩
  refine thn (hl.run pins s σ H _ I h) fun v s1 ⟨x, H1, I1, r1, q1⟩ => ?_
  obtain ⟨a, e, q⟩ := q1
  subst e
  cases r1
  have fr : ∀ b ∈ [s1.heap.objs.size], FpOk X pins H1 b := fun b hb => by
    have e : b = s1.heap.objs.size := by simpa using hb
    subst e
    exact I1.fpOk (Nat.le_refl _) (I1.hok.fresh (Nat.le_refl _))
  rcases q with ⟨⟨xs, hq⟩, q⟩ | ⟨⟨xs, hq⟩, q⟩
  · obtain ⟨its, rv, p, hz⟩ := I1.list hq
    refine wpAny_pyIter_list p.isList ?_
    exact ⟨s1.heap.objs.size, [s1.heap.objs.size], _, _, H1, rfl, I1.kept (t' := s1.toks) fun b o e => Heap.get?_push_of_some _ e, turn_list a _, ⟨_, Heap.get?_push_size _ rfl, rfl, rfl⟩, fr, q⟩
  · obtain ⟨its, rv, p, hz⟩ := I1.tuple hq
    refine wpAny_pyIter_tuple (show s1.heap.IsTuple a its.toArray from p) ?_
    exact ⟨s1.heap.objs.size, [s1.heap.objs.size], _, _, H1, rfl, I1.kept (t' := s1.toks) fun b o e => Heap.get?_push_of_some _ e, turn_tuple a _, ⟨_, Heap.get?_push_size _ rfl, rfl, rfl⟩, fr, q⟩
/-- a tuple at a, each item in a new pair -/
def IteT (K : PySem.W.Frag) (a : Addr) : It :=
  ⟨fun i H => ∃ (xs : List V) (x : V), SqT K H a xs ∧ xs[i]? = some x, fun i H v H' => ∃ T x, v = .ref T ∧ H T = none ∧ H' = upd H T (.tup [.int (i : Nat), x]) ∧ ∀ xs, SqT K H a xs → xs[i]? = some x, fun i H => ∃ xs : List V, SqT K H a xs ∧ xs.length ≤ i⟩
theorem turn_enumT {P : Program} {w : World} {K : PySem.W.Frag} {elts : List Expr} {kk : Nat} {tpos : Pos} (a e it : Addr) :
    Turn P w K (.Tuple elts kk tpos) (IteT K a) [e, it] e (fun i h => (∃ old, IsEnum h e it ((i : Nat) : Int) old) ∧ h.IsTupleIter it a i ∧ e ≠ it ∧ a ≠ it ∧ a ≠ e) where
  mem := by simp
  obj := fun i h st b hb => by
    obtain ⟨⟨old, he⟩, ⟨o, ho, hc, hd⟩, _⟩ := st
    have e' : b = e ∨ b = it := by simpa using hb
    rcases e' with z | z
    · rw [z]; exact ⟨_, he, fun v q => nomatch q⟩
    · rw [z]; exact ⟨o, ho, fun v q => by rw [hd] at q; cases q⟩
  keep := fun i h h' st k => let ⟨⟨old, he⟩, hi, hne⟩ := st; ⟨⟨old, k e (by simp) _ he⟩, hi.at fun o q => k it (by simp) o q, hne⟩
  item := by
    intro X hP hw hK hc i pins s σ H E I hf st hg
    subst hP hw hK
    obtain ⟨⟨old, he⟩, hit, hne, nai, nae⟩ := st
    obtain ⟨xs, x, hq, hx⟩ := hg
    obtain ⟨its, rv, p, hz⟩ := I.tuple hq
    obtain ⟨u, hu, ru⟩ := rv.get hx
    have hel : e < s.heap.objs.size := Heap.lt_size he
    have hil : it < s.heap.objs.size := by obtain ⟨_, q, _⟩ := hit; exact Heap.lt_size q
    have D := Draws.tuple (prog := X.prog) (w := X.w) (A := X.A.in1) (I.ok.hd hc) it a nai its.toArray
    have hlt : i < its.toArray.size := by
      have q := (List.getElem?_eq_some_iff.mp hu).1
      simpa using q
    refine wpAny_pyNext_enum_itemD D he ⟨hit, p⟩ hlt hne (by simp [hne, Ne.symm nae]) fun y h' tk hy ho hst' hT hsz hk => ?_
    have ey : y = u := by
      have q : its.toArray[i]? = some y := hy
      rw [show its.toArray[i]? = its[i]? by simp, hu] at q
      exact (Option.some.inj q).symm
    subst ey
    refine ⟨_, rfl, wpAny_letOwnedTupleGo_enum (s := { s with heap := h', toks := tk + 1 }) ho fun h'' he' sb => ?_⟩
    have hT2 : h''.get? s.heap.objs.size = some { cls := .type "tuple", data := .seq #[.int i tk, y] } := (sb.2 _ (Nat.ne_of_gt hel)).trans hT
    have new : ObjOk X.prog X.w (upd H s.heap.objs.size (.tup [.int (i : Nat), x])) h'' s.heap.objs.size (.tup [.int (i : Nat), x]) :=
      ⟨by show 2 ≤ sizeLine; decide, [.int i tk, y], .cons ⟨_, rfl⟩ (.cons ru .nil), ⟨_, hT2, rfl, _, rfl⟩⟩
    have I1 : Inv X pins σ (upd H s.heap.objs.size (.tup [.int (i : Nat), x])) { s with heap := h'', toks := tk + 1 } :=
      I.turnedNew (ch := [e, it]) (fun b ob hb q => (sb.2 b (fun z => hb (by simp [z]))).trans (hk b ob (fun z => hb (by simp [z])) (fun z => hb (by simp [z])) q)) hf (Nat.le_refl _) new
    refine ⟨.ref s.heap.objs.size, _, I1, rfl, ⟨_, x, rfl, I.hok.fresh (Nat.le_refl _), rfl, fun ys hy => by rw [I.tuple_inj hy hq]; exact hx⟩, ⟨⟨y, ?_⟩, hst'.1.at fun o q => (sb.2 it (Ne.symm hne)).trans q, hne, nai, nae⟩, fun b hb => ?_⟩
    · have e1 : ((i + 1 : Nat) : Int) = (i : Int) + 1 := by omega
      rw [e1]; exact he'
    · have hb' : b < s.heap.objs.size := by
        have e' : b = e ∨ b = it := by simpa using hb
        rcases e' with z | z
        · rw [z]; exact hel
        · rw [z]; exact hil
      rw [upd_ne (Nat.ne_of_lt hb')]
      exact (hf b hb).1
  done := by
    intro X hP hw hK hc i pins s σ H E I hf st hg
    subst hP hw hK
    obtain ⟨⟨old, he⟩, hit, hne, nai, nae⟩ := st
    obtain ⟨xs, hq, hx⟩ := hg
    obtain ⟨its, rv, p, hz⟩ := I.tuple hq
    obtain ⟨f0, f1, f2, f3, f4, f5⟩ := hf it (by simp)
    have hl := rv.length
    have hT : s.TypeIs (.ref e) "enumerate" := ⟨_, he, rfl⟩
    unfold pyNext
    refine wpAny_bind (wpAny_attempt (wpAny_callSpecial?_slot (name := Str.ofString "__next__") hT F.slot_enumerate_next
      (wpAny_call_entry F.slot_enumerate_next hT F.entry_enumerate_next ?_ (F.args_enumerate_next_1 _))))
    show wpAny _ _ (field (.ref e) 2 >>= _) _ _ _
    refine wpAny_bind (wpAny_field he rfl (x := .ref it) rfl ?_)
    refine wpAny_bind (wpAny_nextOf_tuple_end (I.ok.hd hc) hit p (by simp; omega) fun h' x he' hx' => ?_)
    obtain ⟨o, ho, hc2⟩ := hx'
    refine wpAny_bind (wpAny_isInstance (T := "StopIteration") (b := true) ⟨o, ho, hc2⟩ isSubtype_stop ?_)
    exact wpAny_pure ⟨rfl, I.turned (t' := s.toks) (fun b o hb q => he' b o hb q) f0 f1 f3 f4 f5⟩
  self := fun A i s Q E st h => let ⟨⟨_, he⟩, _⟩ := st; wpAny_pyIter_enum he h
def iEnumA (K : PySem.W.Frag) (ta : TA) : TI := fun σ H R => ta σ H fun vs H1 => ∃ a, vs = [.ref a] ∧ (((∃ xs, SqL K H1 a xs) ∧ R (Ite K a) H1) ∨ ((∃ xs, SqT K H1 a xs) ∧ R (IteT K a) H1))
theorem pi_enumA {X : Cx} {e : Expr} {ta : TA} {p pos tpos : Pos} {elts : List Expr} {kk : Nat} (hg : Gl X "enumerate") (hm : X.mg "enumerate" = none) (ha : PA X [e] ta) (hs : starEach [e] X.env = [(false, eval e X.env)] := by rfl) :
    PI X (.Tuple elts kk tpos) (.Call (.Name "enumerate" p) [e] [] pos) (iEnumA X.K ta) := by
  refine ⟨fun pins s σ H R I h => ?_⟩
  refine PyProof.Rows.Call_ (ld_blt I hg hm PyProof.Rows.boot_enumerate (PyProof.Rows.callWith_type1 (thn (ha.run pos pins s σ H _ I h) fun us s1 ⟨vs, H1, I1, r1, q1⟩ => ?_) hs rfl))
  obtain ⟨a, ex, q⟩ := q1
  subst ex
  cases r1 with
  | cons r rr =>
    cases rr
    cases r
    have fr : ∀ b ∈ [s1.heap.objs.size + 1, s1.heap.objs.size], FpOk X pins H1 b := fun b hb => by
      have e' : b = s1.heap.objs.size + 1 ∨ b = s1.heap.objs.size := by simpa using hb
      have hle : s1.heap.objs.size ≤ b := by
        rcases e' with z | z
        · rw [z]; exact Nat.le_add_right _ _
        · rw [z]; exact Nat.le_refl _
      exact I1.fpOk hle (I1.hok.fresh hle)
    rcases q with ⟨⟨xs, hq⟩, q⟩ | ⟨⟨xs, hq⟩, q⟩
    · obtain ⟨its, rv, p', hz⟩ := I1.list hq
      refine call_enumerate_list p'.isList fun h' he hit hsz hk => wpAny_pyIter_enum he ?_
      have I2 : Inv X pins σ H1 { s1 with heap := h' } := I1.kept (t' := s1.toks) hk
      exact ⟨s1.heap.objs.size + 1, [s1.heap.objs.size + 1, s1.heap.objs.size], _, _, H1, rfl, I2, turn_enum a (s1.heap.objs.size + 1) s1.heap.objs.size, ⟨⟨.none, he⟩, hit, Nat.succ_ne_self _⟩, fr, q⟩
    · obtain ⟨its, rv, p', hz⟩ := I1.tuple hq
      have hal : a < s1.heap.objs.size := by obtain ⟨_, q, _⟩ := id p'; exact Heap.lt_size q
      refine call_enum_b (begins_tuple a its.toArray) p' fun h' he hit hsz hk => wpAny_pyIter_enum he ?_
      have I2 : Inv X pins σ H1 { s1 with heap := h' } := I1.kept (t' := s1.toks) hk
      exact ⟨s1.heap.objs.size + 1, [s1.heap.objs.size + 1, s1.heap.objs.size], _, _, H1, rfl, I2, turn_enumT a (s1.heap.objs.size + 1) s1.heap.objs.size, ⟨⟨.none, he⟩, ⟨_, hit, rfl, rfl⟩, Nat.succ_ne_self _, Nat.ne_of_lt hal, Nat.ne_of_lt (Nat.lt_succ_of_lt hal)⟩, fr, q⟩
section
variable {K : PySem.W.Frag} {a b : Addr} {xs ys : List V}
theorem walk_enumT : Walk (IteT K a) xs.length (fun H => SqT K H a xs) (YPair (fun i => some (.int (i : Nat))) (fun i => xs[i]?)) := by
  refine ⟨fun i _ hi q => ⟨xs, xs[i], q, by simp [hi]⟩, fun _ q => ⟨xs, q, Nat.le_refl _⟩, fun i H v H' _ q y => ?_⟩
  obtain ⟨T, x, h1, h2, h3, h4⟩ := y
  exact ⟨T, .int (i : Nat), x, h1, h2, h3, rfl, h4 xs q⟩
theorem walk_zipT {n : Nat} (hn : n = min xs.length ys.length) : Walk (ItzT K a b) n (fun H => SqT K H a xs ∧ SqT K H b ys) (YPair (fun i => xs[i]?) (fun i => ys[i]?)) := by
  subst hn
  refine ⟨fun i _ hi q => ?_, fun _ q => ⟨xs, ys, q.1, q.2, by omega⟩, fun i H v H' _ q y => ?_⟩
  · have h1 : i < xs.length := by omega
    have h2 : i < ys.length := by omega
    exact ⟨xs, ys, xs[i], ys[i], q.1, q.2, by simp [h1], by simp [h2]⟩
  · obtain ⟨T, x, z, h1, h2, h3, h4, h5⟩ := y
    exact ⟨T, x, z, h1, h2, h3, h4 xs q.1, h5 ys q.2⟩
end
/-! ### a comprehension that makes data and changes nothing -/
theorem lc_data {K : PySem.W.Frag} {J : It} {n : Nat} {G : Hp → Prop} {Y : Nat → Hp → V → Hp → Prop} (w : Walk J n G Y) (f : Nat → Option PyData) (hn : n < sizeLine) {g : TG} {tt : TT} {te : TE} {vs : List Nat} {σ : L2.St} {H1 : Hp} {Qd : Addr → Hp → Prop}
    (hG : ∀ H', Fr [] H1 H' → G H')
    (hs : ∀ i x H H' (R : V → Hp → Prop) (Rn : Hp → Prop), i < n → Fr [] H1 H → Y i H x H' → (∀ y H4 d, f i = some d → Tp K H4 y d → Fr [] H H4 → R y H4) → (∀ H3, f i = none → Fr [] H H3 → Rn H3) →
      g x (wipe σ vs) H' fun σ2 H2 => wipe σ2 vs = wipe σ vs ∧ tt σ2 H2 fun b H3 => if b = true then te σ2 H3 R else Rn H3)
    (hd : ∀ D H', H1 D = none → Fr [] H1 H' → LsD K H' D ((List.range n).filterMap f) → Qd D H') :
    ∀ D, H1 D = none → ∃ W : Nat → Nat → Hp → Prop, (∃ m, W 0 m (upd H1 D (.lst []))) ∧ ∀ i m H, W i m H →
      (J.stop i H ∧ Qd D H) ∨ (J.go i H ∧ ∃ Nx : Hp → Prop, (∀ H', Nx H' → ∃ m', m' < m ∧ W (i + 1) m' H') ∧ ∀ x H', J.yld i H x H' → g x (wipe σ vs) H' fun σ2 H2 => wipe σ2 vs = wipe σ vs ∧ tt σ2 H2 fun b H3 =>
        if b = true then te σ2 H3 fun y H4 => ∃ acc, H4 D = some (.lst acc) ∧ acc.length < sizeLine ∧ Nx (upd H4 D (.lst (acc ++ [y]))) else Nx H3) := by
  intro D nD
  refine lc_it w (fun i H => Fr [] H1 H ∧ ∃ acc, H D = some (.lst acc) ∧ acc.length ≤ i ∧ TpL K H acc ((List.range i).filterMap f)) ⟨Fr.new nD, [], upd_same, Nat.le_refl _, .nil⟩ (fun i H _ p => hG H p.1) ?_ fun H p => hd D H nD p.1 (let ⟨acc, h1, _, h3⟩ := p.2; ⟨acc, h1, h3⟩)
  rintro i x H H' hi ⟨F1, acc, hD, hl, ht⟩ y
  refine hs i x H H' _ _ hi F1 y (fun v H4 d e1 e2 F4 => ?_) (fun H3 e1 F4 => ?_)
  · have hD4 := F4.lst0 hD
    refine ⟨acc, hD4, by omega, ⟨fun b o _ t h => ?_, fun b xs h => ?_, fun b o u h => ?_, fun b h => upd_dom ((F1.trans F4).dom b h)⟩, acc ++ [v], upd_same, by rw [List.length_append]; simp; omega, ?_⟩
    · have nb : b ≠ D := ne_of_none h nD
      rw [upd_ne nb]
      exact (F1.trans F4).keep b o (by simp) t h
    · have nb : b ≠ D := ne_of_none h nD
      rw [upd_ne nb]
      exact (F1.trans F4).tup b xs h
    · have nb : b ≠ D := ne_of_none h nD
      rw [upd_ne nb]
      exact (F1.trans F4).frz b o u h
    · have FD : Fr [D] H4 (upd H4 D (.lst (acc ++ [v]))) := Fr.put hD4 (fun _ z => by cases z) (fun _ _ z => by cases z) (by simp)
      rw [List.range_succ, List.filterMap_append]
      simp only [List.filterMap_cons, e1, List.filterMap_nil]
      exact ((ht.fr F4).fr FD).snoc (e2.fr FD)
  · refine ⟨F1.trans F4, acc, F4.lst0 hD, by omega, ?_⟩
    rw [List.range_succ, List.filterMap_append]
    simp only [List.filterMap_cons, e1, List.filterMap_nil, List.append_nil]
    exact ht.fr F4
end Tk

end

section
namespace Tk
open PySem PySem.Spec L2 RZ
open PyProof.Rows (envOfC)
/-! ### built-ins, by values -/
def rLenA (K : PySem.W.Frag) : List V → Hp → VK → Prop := fun xs H Q => ∃ x n, xs = [x] ∧ LenV K x H n ∧ Q (.int n) H
def rInt1 : List V → Hp → VK → Prop := fun xs H Q => (∃ i, xs = [.int i] ∧ Q (.int i) H) ∨ ∃ k, xs = [.bl k] ∧ Q (.int (if k then 1 else 0)) H
def rIntS : List V → Hp → VK → Prop := fun xs H Q => ∃ a n, xs = [.str a] ∧ PySem.intText? a = some n ∧ a.length ≤ 640 ∧ Q (.int n) H
def rStrI : List V → Hp → VK → Prop := fun xs H Q => ∃ i, xs = [.int i] ∧ i.natAbs.log2 < 1920 ∧ Q (.str (toString i)) H
def rMax2 : List V → Hp → VK → Prop := fun xs H Q => ∃ i j, xs = [.int i, .int j] ∧ Q (.int (if j > i then j else i)) H
def rMin2 : List V → Hp → VK → Prop := fun xs H Q => ∃ i j, xs = [.int i, .int j] ∧ Q (.int (if j < i then j else i)) H
def rListOf (K : PySem.W.Frag) : List V → Hp → VK → Prop := fun xs H Q => ∃ p ys, xs = [.ref p] ∧ (SqL K H p ys ∨ SqT K H p ys) ∧ ∀ l, H l = none → Q (.ref l) (upd H l (.lst ys))
def rTupleOf (K : PySem.W.Frag) : List V → Hp → VK → Prop := fun xs H Q => ∃ p ys, xs = [.ref p] ∧ ((SqL K H p ys ∧ ∀ l, H l = none → Q (.ref l) (upd H l (.tup ys))) ∨ (SqT K H p ys ∧ Q (.ref p) H))
section
variable {X : Cx}
theorem call_lenA : CallR X (.builtin "len") (rLenA X.K) := call_len
theorem call_int1A : CallR X (.type "int") rInt1 := call_int1
theorem call_intS : CallR X (.type "int") rIntS := call_int_str
theorem call_strI : CallR X (.type "str") rStrI := call_str_int
theorem call_max2A (hc : X.calm = true) : CallR X (.builtin "max") rMax2 := call_max2 hc
theorem call_min2A (hc : X.calm = true) : CallR X (.builtin "min") rMin2 := call_min2 hc
theorem call_listOf : CallR X (.type "list") (rListOf X.K) := call_list_of
theorem call_tupleOf : CallR X (.type "tuple") (rTupleOf X.K) := call_tuple_of
end
section
variable {K : PySem.W.Frag} {H : Hp} {Q : VK}
theorem r_lenT {a : Addr} {xs : List V} (h : SqT K H a xs) (q : Q (.int (xs.length : Nat)) H) : rLenA K [.ref a] H Q := ⟨_, _, rfl, .inr ⟨xs, h, rfl⟩, q⟩
theorem r_lenL {a : Addr} {xs : List V} (h : SqL K H a xs) (q : Q (.int (xs.length : Nat)) H) : rLenA K [.ref a] H Q := ⟨_, _, rfl, .inl ⟨xs, h, rfl⟩, q⟩
theorem r_lenS {z : Str} (h : z.length ≤ sizeLine) (q : Q (.int (z.length : Nat)) H) : rLenA K [.str z] H Q := ⟨_, _, rfl, ⟨h, rfl⟩, q⟩
theorem r_lenTd {v : V} {ds : List PyData} (h : Tp K H v (.tuple ds)) (q : Q (.int (ds.length : Nat)) H) : rLenA K [v] H Q := by
  obtain ⟨a, xs, rfl, hs, t⟩ := h.tupi
  rw [← t.length] at q
  exact r_lenT hs q
theorem r_lenLd {a : Addr} {ds : List PyData} (h : LsD K H a ds) (q : Q (.int (ds.length : Nat)) H) : rLenA K [.ref a] H Q := by
  obtain ⟨xs, hs, t⟩ := h
  rw [← t.length] at q
  exact r_lenL (SqL.of hs) q
theorem r_int1 {i : Int} (q : Q (.int i) H) : rInt1 [.int i] H Q := .inl ⟨i, rfl, q⟩
theorem r_max2 {i j : Int} (q : Q (.int (if j > i then j else i)) H) : rMax2 [.int i, .int j] H Q := ⟨i, j, rfl, q⟩
theorem r_min2 {i j : Int} (q : Q (.int (if j < i then j else i)) H) : rMin2 [.int i, .int j] H Q := ⟨i, j, rfl, q⟩
theorem r_strI {i : Int} (h : i.natAbs.log2 < 1920) (q : Q (.str (toString i)) H) : rStrI [.int i] H Q := ⟨i, rfl, h, q⟩
/-- tuple(list): a new tuple of the same data -/
theorem r_tupOf {a : Addr} {ds : List PyData} (h : LsD K H a ds) (hl : ds.length ≤ sizeLine) (q : ∀ p H', H p = none → Fr [] H H' → Tp K H' (.ref p) (.tuple ds) → Q (.ref p) H') : rTupleOf K [.ref a] H Q := by
  obtain ⟨xs, hs, t⟩ := h
  refine ⟨a, xs, rfl, .inl ⟨SqL.of hs, fun p n => q p _ n (Fr.new n) (.tup (SqT.of upd_same) (t.fr (Fr.new (S := []) n)))⟩⟩
theorem r_listOfL {a : Addr} {xs : List V} (h : SqL K H a xs) (q : ∀ p, H p = none → Fr [] H (upd H p (.lst xs)) → upd H p (.lst xs) p = some (.lst xs) → Q (.ref p) (upd H p (.lst xs))) : rListOf K [.ref a] H Q :=
  ⟨a, xs, rfl, .inl h, fun p n => q p n (Fr.new n) upd_same⟩
theorem r_listOfT {a : Addr} {xs : List V} (h : SqT K H a xs) (q : ∀ p, H p = none → Fr [] H (upd H p (.lst xs)) → upd H p (.lst xs) p = some (.lst xs) → Q (.ref p) (upd H p (.lst xs))) : rListOf K [.ref a] H Q :=
  ⟨a, xs, rfl, .inr h, fun p n => q p n (Fr.new n) upd_same⟩
theorem r_isi {x c : V} {t u : Value} {b : Bool} (hc : ClsV c u) (hx : TyX K H x t) (e : PySem.W.kitOne K t u = some b) (q : Q (.bl b) H) : rIsi K [x, c] H Q := ⟨x, c, t, u, b, rfl, hc, hx, e, q⟩
theorem r_isN {x : V} (q : Q (.bl (decide (x = .non))) H) : (fun x y H Q => y = V.non ∧ Q (.bl (decide (x = .non))) H : R2) x .non H Q := ⟨rfl, q⟩
theorem r_all {a : Addr} {bs : List Bool} (h : LsD K H a (bs.map PyData.bool)) (q : Q (.bl (bs.all id)) H) : rAll K [.ref a] H Q := by
  obtain ⟨xs, hs, t⟩ := h
  have e := t.of_bls
  subst e
  exact ⟨a, bs, rfl, SqL.of hs, q⟩
theorem r_any {a : Addr} {bs : List Bool} (h : LsD K H a (bs.map PyData.bool)) (q : Q (.bl (bs.any id)) H) : rAny K [.ref a] H Q := by
  obtain ⟨xs, hs, t⟩ := h
  have e := t.of_bls
  subst e
  exact ⟨a, bs, rfl, SqL.of hs, q⟩
end
/-! ### promises with the number of arguments -/
def spL (n : Nat) (sp : Sp) : Sp := fun vs H Q E => vs.length = n ∧ sp vs H Q E
theorem ok_mk {P : Program} {w : World} {K : PySem.W.Frag} {mg : Str → Option Value} {base : Heap} {x : Str} {st : Stmt} {N ps : List Str} {k : Nat} {sp : Sp} {t : XK → TS}
    (F : ∃ fd, FunD K x x (defArgs st) (defBody st) (defScope st) [] [] (He.fAd K (x, none)) fd) (hm : mg x = some (.ref (He.ga K x))) (S : FnScope N ps (defScope st))
    (hb : ∀ (kV doc pm : Value) (an : Option Addr) (cdv ct : Value) (us : List Value), us.length = ps.length → bindArgs (PySem.W.fnOf x x (defArgs st) (defBody st) (defScope st) .none kV doc pm an cdv ct) ⟨us, []⟩ = pure (ps.zip us))
    (hd : ∀ (cdv : Value) (A : Around) (outer : List Env) (s : Shared) (H : Hp) (E : XK), Room k (A.deeper (envOfC x (defScope st) s.heap.objs.size (He.ga K x) cdv)) → PSs (cxOf (L2.CX P w) P w K mg base N x (defScope st) (He.ga K x) cdv A outer s H E) (defBody st) (t E))
    (hp : ∀ (vs : List V) (H : Hp) (Q : VK) (E : XK), vs.length = ps.length → sp vs H Q E → t E { nx := fun _ H' => Q .non H', rt := Q } (start N vs) H) : Ok P w K mg base x (k + 1) ps (spL ps.length sp) := by
  obtain ⟨fd, F⟩ := F
  refine ⟨fd, FunD.ok F S (fun vs H Q E h => h.1) (fun cdv A outer s H vs Q E hr h => ⟨t E, hd cdv A outer s H E hr, hp vs H Q E h.1 h.2⟩), F.kp, FunD.bindsN F hb, hm⟩
/-! ### written data -/
mutual
def dataB (K : PySem.W.Frag) : PyData → Value → Bool
  | .none, .none => true
  | .bool b, .bool c => b == c
  | .int i, .int j _ => decide (i = j)
  | .str x, .str y _ => decide (x = y)
  | .tuple ds, .ref a => (match K.lookup a with
    | some ⟨.type c, _, .seq its _, _⟩ => decide (c = "tuple") && decide (its.size ≤ sizeLine) && dataBs K ds its.toList
    | _ => false)
  | _, _ => false
def dataBs (K : PySem.W.Frag) : List PyData → List Value → Bool
  | [], [] => true
  | d :: ds, u :: us => dataB K d u && dataBs K ds us
  | _, _ => false
end
mutual
theorem dataB_ok {K : PySem.W.Frag} (H : Hp) : ∀ {d : PyData} {u : Value}, dataB K d u = true → ∃ v, RelV v u ∧ Tp K H v d
  | .none, .none, _ => ⟨.non, rfl, .non⟩
  | .bool b, .bool c, h => ⟨.bl c, rfl, by simp only [dataB, beq_iff_eq] at h; subst h; exact .bl b⟩
  | .int i, .int j t, h => ⟨.int j, ⟨t, rfl⟩, by simp only [dataB, decide_eq_true_eq] at h; subst h; exact .int i⟩
  | .str x, .str y t, h => ⟨.str y, ⟨t, rfl⟩, by simp only [dataB, decide_eq_true_eq] at h; subst h; exact .str x⟩
  | .tuple ds, .ref a, h => by
    rw [dataB] at h
    cases q : K.lookup a with
    | none => rw [q] at h; cases h
    | some o =>
      obtain ⟨oc, od, dt, osl⟩ := o
      rw [q] at h
      cases oc with
      | type c =>
        cases dt with
        | seq its n =>
          simp only [Bool.and_eq_true, decide_eq_true_eq] at h
          obtain ⟨⟨h1, h2⟩, h3⟩ := h
          obtain ⟨vs, r, t⟩ := dataBs_ok H h3
          exact ⟨.ref a, rfl, .tup (.inr ⟨_, its, n, q, congrArg Value.type h1, rfl, h2, r⟩) t⟩
        | _ => cases h
      | _ => cases dt <;> cases h
theorem dataBs_ok {K : PySem.W.Frag} (H : Hp) : ∀ {ds : List PyData} {us : List Value}, dataBs K ds us = true → ∃ vs, Vals vs us ∧ TpL K H vs ds
  | [], [], _ => ⟨[], .nil, .nil⟩
  | d :: ds, u :: us, h => by
    rw [dataBs, Bool.and_eq_true] at h
    obtain ⟨v, r, t⟩ := dataB_ok H h.1
    obtain ⟨vs, rs, ts⟩ := dataBs_ok H h.2
    exact ⟨v :: vs, .cons r rs, .cons t ts⟩
  | [], _ :: _, h => by simp [dataBs] at h
  | _ :: _, [], h => by simp [dataBs] at h
end
theorem data_at {K : PySem.W.Frag} {x : Str} {d : PyData} (h : dataB K d (.ref (He.ga K x)) = true) (H : Hp) : Tp K H (.ref (He.ga K x)) d := by
  obtain ⟨v, r, t⟩ := dataB_ok H h
  have e := r.abs
  have e2 : v = .ref (He.ga K x) := by
    have q : absV (.ref (He.ga K x)) = some (.ref (He.ga K x)) := rfl
    rw [q] at e
    exact (Option.some.inj e).symm
  subst e2
  exact t
end Tk

end

section
namespace Tk
open PySem PySem.Spec L2 RZ
open PyProof.Rows (envOfC)
/-! ### any value that may be handed over, with its kind -/
inductive Ty where
  | non | bl | int | str | lst | tup | dct
  deriving DecidableEq
def Ty.name : Ty → String
  | .non => "NoneType" | .bl => "bool" | .int => "int" | .str => "str" | .lst => "list" | .tup => "tuple" | .dct => "dict"
inductive AnyV (K : PySem.W.Frag) (H : Hp) : V → Ty → Prop
  | non : AnyV K H .non .non
  | bl (b : Bool) : AnyV K H (.bl b) .bl
  | int (i : Int) : AnyV K H (.int i) .int
  | str (x : Str) : AnyV K H (.str x) .str
  | lst {a : Addr} {xs : List V} (h : SqL K H a xs) : AnyV K H (.ref a) .lst
  | tup {a : Addr} {xs : List V} (h : SqT K H a xs) : AnyV K H (.ref a) .tup
  | dK {a : Addr} {kvs : List (Key × V)} (h : H a = some (.dK kvs)) : AnyV K H (.ref a) .dct
section
variable {K : PySem.W.Frag} {H H' : Hp} {x : V} {n : Ty} {Q : VK}
theorem SqL.ty {a : Addr} {xs : List V} (h : SqL K H a xs) : TyX K H (.ref a) (.type "list") := by
  rcases h with (h | ⟨o, h⟩) | ⟨o, its, n, h, hc, _⟩
  · exact .base (.lst h)
  · exact .base (.frz h)
  · exact .kList h hc
theorem SqT.ty {a : Addr} {xs : List V} (h : SqT K H a xs) : TyX K H (.ref a) (.type "tuple") := by
  rcases h with (h | ⟨o, h⟩) | ⟨o, its, n, h, hc, _⟩
  · exact .base (.tup h)
  · exact .fTuple h
  · exact .kTuple h hc
theorem AnyV.ty (h : AnyV K H x n) : TyX K H x (.type n.name) := by
  cases h with
  | non => exact .base .non
  | bl b => exact .base (.bl b)
  | int b => exact .base (.int b)
  | str b => exact .base (.str b)
  | lst h => exact SqL.ty h
  | tup h => exact SqT.ty h
  | dK h => exact .base (.dK h)
theorem AnyV.fr (F : Fr [] H H') (h : AnyV K H x n) : AnyV K H' x n := by
  cases h with
  | non => exact .non
  | bl b => exact .bl b
  | int b => exact .int b
  | str b => exact .str b
  | lst h => exact .lst (F.sql0 h)
  | tup h => exact .tup (F.sqt h)
  | dK h => exact .dK (F.dK List.not_mem_nil h)
theorem Tp.any {d : PyData} (h : Tp K H x d) : ∃ n, AnyV K H x n := by
  cases h with
  | non => exact ⟨_, .non⟩
  | bl b => exact ⟨_, .bl b⟩
  | int b => exact ⟨_, .int b⟩
  | str b => exact ⟨_, .str b⟩
  | tup h _ => exact ⟨_, .tup h⟩
def Ty.isInt : Ty → Bool
  | .int => true | .bl => true | _ => false
def Ty.isBool : Ty → Bool
  | .bl => true | _ => false
def Ty.isStr : Ty → Bool
  | .str => true | _ => false
def Ty.isTup : Ty → Bool
  | .tup => true | _ => false
def Ty.isLst : Ty → Bool
  | .lst => true | _ => false
def Ty.isDct : Ty → Bool
  | .dct => true | _ => false
theorem r_isiT {T : String} {b : Bool} (h : AnyV K H x n) (e : kitB n.name T = some b) (q : Q (.bl b) H) : rIsi K [x, .ty T] H Q := r_isi (.ty T) h.ty (kit_ty e) q
theorem r_isi_int (h : AnyV K H x n) (q : Q (.bl n.isInt) H) : rIsi K [x, .ty "int"] H Q := r_isiT h (by cases n <;> decide +kernel) q
theorem r_isi_bool (h : AnyV K H x n) (q : Q (.bl n.isBool) H) : rIsi K [x, .ty "bool"] H Q := r_isiT h (by cases n <;> decide +kernel) q
theorem r_isi_str (h : AnyV K H x n) (q : Q (.bl n.isStr) H) : rIsi K [x, .ty "str"] H Q := r_isiT h (by cases n <;> decide +kernel) q
theorem r_isi_tup (h : AnyV K H x n) (q : Q (.bl n.isTup) H) : rIsi K [x, .ty "tuple"] H Q := r_isiT h (by cases n <;> decide +kernel) q
theorem r_isi_lst (h : AnyV K H x n) (q : Q (.bl n.isLst) H) : rIsi K [x, .ty "list"] H Q := r_isiT h (by cases n <;> decide +kernel) q
theorem r_isi_dct (h : AnyV K H x n) (q : Q (.bl n.isDct) H) : rIsi K [x, .ty "dict"] H Q := r_isiT h (by cases n <;> decide +kernel) q
end
/-! ### any data: with lists, and dicts of which nothing is told -/
mutual
inductive Da (K : PySem.W.Frag) (H : Hp) : V → PyData → Prop
  | non : Da K H .non .none
  | bl (b : Bool) : Da K H (.bl b) (.bool b)
  | int (i : Int) : Da K H (.int i) (.int i)
  | str (x : Str) : Da K H (.str x) (.str x)
  | tup {a : Addr} {xs : List V} {ds : List PyData} : SqT K H a xs → DaL K H xs ds → Da K H (.ref a) (.tuple ds)
  | lst {a : Addr} {xs : List V} {ds : List PyData} : SqL K H a xs → DaL K H xs ds → Da K H (.ref a) (.list ds)
  | dct {a : Addr} {kvs : List (Key × V)} : H a = some (.dK kvs) → Da K H (.ref a) (.dict [])
inductive DaL (K : PySem.W.Frag) (H : Hp) : List V → List PyData → Prop
  | nil : DaL K H [] []
  | cons {v : V} {vs : List V} {d : PyData} {ds : List PyData} : Da K H v d → DaL K H vs ds → DaL K H (v :: vs) (d :: ds)
end
section
variable {K : PySem.W.Frag} {H H' : Hp}
mutual
theorem Da.fr (F : Fr [] H H') : ∀ {v : V} {d : PyData}, Da K H v d → Da K H' v d
  | _, _, .non => .non
  | _, _, .bl b => .bl b
  | _, _, .int i => .int i
  | _, _, .str x => .str x
  | _, _, .tup h t => .tup (F.sqt h) (DaL.fr F t)
  | _, _, .lst h t => .lst (F.sql0 h) (DaL.fr F t)
  | _, _, .dct h => .dct (F.dK List.not_mem_nil h)
theorem DaL.fr (F : Fr [] H H') : ∀ {vs : List V} {ds : List PyData}, DaL K H vs ds → DaL K H' vs ds
  | _, _, .nil => .nil
  | _, _, .cons h t => .cons (Da.fr F h) (DaL.fr F t)
end
mutual
theorem Tp.da : ∀ {v : V} {d : PyData}, Tp K H v d → Da K H v d
  | _, _, .non => .non
  | _, _, .bl b => .bl b
  | _, _, .int i => .int i
  | _, _, .str x => .str x
  | _, _, .tup h t => .tup h (TpL.da t)
theorem TpL.da : ∀ {vs : List V} {ds : List PyData}, TpL K H vs ds → DaL K H vs ds
  | _, _, .nil => .nil
  | _, _, .cons h t => .cons (Tp.da h) (TpL.da t)
end
theorem DaL.length : ∀ {vs : List V} {ds : List PyData}, DaL K H vs ds → vs.length = ds.length
  | _, _, .nil => rfl
  | _, _, .cons _ t => congrArg Nat.succ (DaL.length t)
theorem DaL.get : ∀ {vs : List V} {ds : List PyData} {i : Nat} {d : PyData}, DaL K H vs ds → ds[i]? = some d → ∃ v, vs[i]? = some v ∧ Da K H v d
  | _, _, _, _, .nil, e => by simp at e
  | _, _, 0, _, .cons h _, e => by simp at e; subst e; exact ⟨_, rfl, h⟩
  | _, _, i + 1, d, .cons _ t, e => by
    obtain ⟨v, h1, h2⟩ := DaL.get (i := i) (d := d) t (by simpa using e)
    exact ⟨v, by simpa using h1, h2⟩
theorem DaL.get' : ∀ {vs : List V} {ds : List PyData} {i : Nat} {v : V}, DaL K H vs ds → vs[i]? = some v → ∃ d, ds[i]? = some d ∧ Da K H v d
  | _, _, _, _, .nil, e => by simp at e
  | _, _, 0, _, .cons h _, e => by simp at e; subst e; exact ⟨_, rfl, h⟩
  | _, _, i + 1, d, .cons _ t, e => by
    obtain ⟨v, h1, h2⟩ := DaL.get' (i := i) (v := d) t (by simpa using e)
    exact ⟨v, by simpa using h1, h2⟩
theorem Da.any {x : V} {d : PyData} (h : Da K H x d) : ∃ n, AnyV K H x n := by
  cases h with
  | non => exact ⟨_, .non⟩
  | bl b => exact ⟨_, .bl b⟩
  | int b => exact ⟨_, .int b⟩
  | str b => exact ⟨_, .str b⟩
  | tup h _ => exact ⟨_, .tup h⟩
  | lst h _ => exact ⟨_, .lst h⟩
  | dct h => exact ⟨_, .dK h⟩
end
/-- an integer in a range -/
def isInt : V → Int → Int → Bool
  | .int i, lo, hi => decide (lo ≤ i) && decide (i ≤ hi)
  | _, _, _ => false
def isIntD : PyData → Int → Int → Bool
  | .int i, lo, hi => decide (lo ≤ i) && decide (i ≤ hi)
  | _, _, _ => false
theorem Da.isInt {K : PySem.W.Frag} {H : Hp} {x : V} {d : PyData} (h : Da K H x d) (lo hi : Int) : Tk.isInt x lo hi = isIntD d lo hi := by
  cases h <;> rfl
def isTupD : PyData → Bool
  | .tuple _ => true
  | _ => false
def SeqIs (K : PySem.W.Frag) (H : Hp) (x : V) (P : It → Prop) : Prop := ∃ a, x = .ref a ∧ (((∃ xs, SqL K H a xs) ∧ P (Itl K a)) ∨ ((∃ xs, SqT K H a xs) ∧ P (Itt K a)))
def EnumIs (K : PySem.W.Frag) (H : Hp) (vs : List V) (P : It → Prop) : Prop := ∃ a, vs = [.ref a] ∧ (((∃ xs, SqL K H a xs) ∧ P (Ite K a)) ∨ ((∃ xs, SqT K H a xs) ∧ P (IteT K a)))
def ZipIs (K : PySem.W.Frag) (H : Hp) (vs : List V) (P : It → Prop) : Prop := ∃ a b xs ys, vs = [.ref a, .ref b] ∧ ((SqL K H a xs ∧ SqL K H b ys ∧ P (Itz K a b)) ∨ (SqT K H a xs ∧ SqT K H b ys ∧ P (ItzT K a b)))
def Rng1Is (vs : List V) (P : It → Prop) : Prop := ∃ j : Int, vs = [.int j] ∧ -(2 ^ 62) ≤ j ∧ j < 2 ^ 62 ∧ P (Itr 0 j.toNat)
def Rng2Is (vs : List V) (P : It → Prop) : Prop := ∃ i j : Int, vs = [.int i, .int j] ∧ (-(2 ^ 62) ≤ i ∧ i < 2 ^ 62 ∧ -(2 ^ 62) ≤ j ∧ j < 2 ^ 62) ∧ P (Itr i (j - i).toNat)
section
variable {σ : L2.St} {H : Hp} {Q : VK} {D : Ends} {K : PySem.W.Frag} {R : It → Hp → Prop} {P : It → Prop}
theorem g_iSeq {tl : TE} (h : tl σ H fun x H1 => SeqIs K H1 x fun J => R J H1) : iSeq K tl σ H R := h
theorem r_seqT {a : Addr} {xs : List V} (h : SqT K H a xs) (q : P (Itt K a)) : SeqIs K H (.ref a) P := ⟨a, rfl, .inr ⟨⟨xs, h⟩, q⟩⟩
theorem r_seqL {a : Addr} {xs : List V} (h : SqL K H a xs) (q : P (Itl K a)) : SeqIs K H (.ref a) P := ⟨a, rfl, .inl ⟨⟨xs, h⟩, q⟩⟩
theorem g_iEnum {ta : TA} (h : ta σ H fun vs H1 => EnumIs K H1 vs fun J => R J H1) : iEnumA K ta σ H R := h
theorem r_enumT {a : Addr} {xs : List V} (h : SqT K H a xs) (q : P (IteT K a)) : EnumIs K H [.ref a] P := ⟨a, rfl, .inr ⟨⟨xs, h⟩, q⟩⟩
theorem r_enumL {a : Addr} {xs : List V} (h : SqL K H a xs) (q : P (Ite K a)) : EnumIs K H [.ref a] P := ⟨a, rfl, .inl ⟨⟨xs, h⟩, q⟩⟩
theorem g_iZip {ta : TA} (h : ta σ H fun vs H1 => ZipIs K H1 vs fun J => R J H1) : iZipA K ta σ H R := h
theorem r_zipT {a b : Addr} {xs ys : List V} (h : SqT K H a xs) (h2 : SqT K H b ys) (q : P (ItzT K a b)) : ZipIs K H [.ref a, .ref b] P := ⟨a, b, xs, ys, rfl, .inr ⟨h, h2, q⟩⟩
theorem r_zipL {a b : Addr} {xs ys : List V} (h : SqL K H a xs) (h2 : SqL K H b ys) (q : P (Itz K a b)) : ZipIs K H [.ref a, .ref b] P := ⟨a, b, xs, ys, rfl, .inl ⟨h, h2, q⟩⟩
theorem g_rng1 {ta : TA} (h : ta σ H fun vs H1 => Rng1Is vs fun J => R J H1) : iRng1 ta σ H R := h
theorem r_rng1 {j : Int} (h1 : -(2 ^ 62) ≤ j) (h2 : j < 2 ^ 62) (q : P (Itr 0 j.toNat)) : Rng1Is [.int j] P := ⟨j, rfl, h1, h2, q⟩
theorem g_rng2 {ta : TA} (h : ta σ H fun vs H1 => Rng2Is vs fun J => R J H1) : iRng2 ta σ H R := h
theorem r_rng2 {i j : Int} (h1 : -(2 ^ 62) ≤ i ∧ i < 2 ^ 62) (h2 : -(2 ^ 62) ≤ j ∧ j < 2 ^ 62) (q : P (Itr i (j - i).toNat)) : Rng2Is [.int i, .int j] P := ⟨i, j, rfl, ⟨h1.1, h1.2, h2.1, h2.2⟩, q⟩
theorem g_for {wi : TI} {g : TG} {tb : TS} (h : wi σ H fun J H1 => ∃ W : Nat → Nat → L2.St → Hp → Prop, (∃ m, W 0 m σ H1) ∧ ∀ i m σ H, W i m σ H →
  (J.stop i H ∧ D.nx σ H) ∨ (J.go i H ∧ ∃ N : L2.St → Hp → Prop, (∀ σ' H', N σ' H' → ∃ m', m' < m ∧ W (i + 1) m' σ' H') ∧ ∀ x H', J.yld i H x H' → g x σ H' fun σ2 H2 => tb { D with nx := N, ct := N, bk := D.nx } σ2 H2)) : tFor wi g tb D σ H := h
end
theorem fm_get {α β : Type} (l : List α) (g : α → Option β) : (List.range l.length).filterMap (fun i => l[i]?.bind g) = l.filterMap g := by
  have e : ∀ n, n ≤ l.length → (List.range n).filterMap (fun i => l[i]?.bind g) = (l.take n).filterMap g := by
    intro n
    induction n with
    | zero => intro _; simp
    | succ n ih =>
      intro hn
      rw [List.range_succ, List.filterMap_append, ih (by omega), List.take_add_one, List.filterMap_append]
      have h : n < l.length := by omega
      congr 1
      rw [List.getElem?_eq_getElem h]
      show List.filterMap _ [n] = List.filterMap g [l[n]]
      rw [List.filterMap_cons, List.filterMap_cons, List.getElem?_eq_getElem h]
      rfl
  have q := e l.length (Nat.le_refl _)
  rw [List.take_length] at q
  exact q
theorem fm_map {α β : Type} (l : List α) (g : α → β) : (List.range l.length).filterMap (fun i => l[i]?.map g) = l.map g := by
  have q := fm_get l (fun a => some (g a))
  rw [List.filterMap_eq_map'] at q
  rw [← q]
  congr 1
  funext i
  cases l[i]? <;> rfl
theorem fm_fun {β : Type} (n : Nat) (g : Nat → β) : (List.range n).filterMap (fun i => some (g i)) = (List.range n).map g := by
  rw [List.filterMap_eq_map']
/-- a comprehension over n things that tell the list l -/
theorem lc_fm {K : PySem.W.Frag} {α : Type} {J : It} {n : Nat} {G : Hp → Prop} {Y : Nat → Hp → V → Hp → Prop} (w : Walk J n G Y) (l : List α) (f : α → Option PyData) (hl : l.length = n) (hn : n < 16777216) {g : TG} {tt : TT} {te : TE} {vs : List Nat} {σ : L2.St} {H1 : Hp} {Qd : Addr → Hp → Prop}
    (hG : ∀ H', Fr [] H1 H' → G H')
    (hs : ∀ i z x H H' (R : V → Hp → Prop) (Rn : Hp → Prop), l[i]? = some z → Fr [] H1 H → Y i H x H' → (∀ y H4 d, f z = some d → Tp K H4 y d → Fr [] H H4 → R y H4) → (∀ H3, f z = none → Fr [] H H3 → Rn H3) →
      g x (wipe σ vs) H' fun σ2 H2 => wipe σ2 vs = wipe σ vs ∧ tt σ2 H2 fun b H3 => if b = true then te σ2 H3 R else Rn H3)
    (hd : ∀ D H', H1 D = none → Fr [] H1 H' → LsD K H' D (l.filterMap f) → Qd D H') :
    ∀ D, H1 D = none → ∃ W : Nat → Nat → Hp → Prop, (∃ m, W 0 m (upd H1 D (.lst []))) ∧ ∀ i m H, W i m H →
      (J.stop i H ∧ Qd D H) ∨ (J.go i H ∧ ∃ Nx : Hp → Prop, (∀ H', Nx H' → ∃ m', m' < m ∧ W (i + 1) m' H') ∧ ∀ x H', J.yld i H x H' → g x (wipe σ vs) H' fun σ2 H2 => wipe σ2 vs = wipe σ vs ∧ tt σ2 H2 fun b H3 =>
        if b = true then te σ2 H3 fun y H4 => ∃ acc, H4 D = some (.lst acc) ∧ acc.length < sizeLine ∧ Nx (upd H4 D (.lst (acc ++ [y]))) else Nx H3) := by
  subst hl
  refine lc_data (K := K) w (fun i => l[i]?.bind f) (by rw [sizeLine_eq]; exact hn) hG (fun i x H H' R Rn hi F y k1 k2 => ?_) fun D H' n F h => hd D H' n F (by rw [← fm_get]; exact h)
  have e : l[i]? = some l[i] := List.getElem?_eq_getElem hi
  refine hs i l[i] x H H' R Rn e F y (fun y H4 d h => k1 y H4 d ?_) fun H3 h => k2 H3 ?_
  · rw [e]; exact h
  · rw [e]; exact h
theorem cut_from {xs : List V} {n : Nat} : cutV xs (some (n : Int)) none = xs.drop n := by
  unfold cutV
  rw [HT.sIx_nat, HT.sIx_none]
  rcases Nat.lt_or_ge n xs.length with h | h
  · rw [Nat.min_eq_left (Nat.le_of_lt h), List.take_of_length_le (by rw [List.length_drop]; exact Nat.le_refl _)]
  · rw [Nat.min_eq_right h, List.drop_of_length_le (Nat.le_refl _), List.drop_of_length_le h]
    simp
theorem cut_to {xs : List V} {n : Nat} : cutV xs none (some (n : Int)) = xs.take n := by
  unfold cutV
  rw [HT.sIx_nat, HT.sIx_none, List.drop_zero, Nat.sub_zero]
  rcases Nat.lt_or_ge n xs.length with h | h
  · rw [Nat.min_eq_left (Nat.le_of_lt h)]
  · rw [Nat.min_eq_right h, List.take_of_length_le (Nat.le_refl _), List.take_of_length_le h]
theorem cut_mid {xs : List V} {m n : Nat} : cutV xs (some (m : Int)) (some (n : Int)) = (xs.drop m).take (n - m) := by
  unfold cutV
  rw [HT.sIx_nat, HT.sIx_nat]
  rcases Nat.lt_or_ge m xs.length with h | h
  · rw [Nat.min_eq_left (Nat.le_of_lt h)]
    rcases Nat.lt_or_ge n xs.length with h2 | h2
    · rw [Nat.min_eq_left (Nat.le_of_lt h2)]
    · rw [Nat.min_eq_right h2, List.take_of_length_le (by rw [List.length_drop]; exact Nat.le_refl _), List.take_of_length_le (by rw [List.length_drop]; omega)]
  · rw [Nat.min_eq_right h, List.drop_of_length_le (Nat.le_refl _), List.drop_of_length_le h]
    simp
/-- a pair of the i-th of two tuples, a turn of zip -/
theorem DaL.drop {K : PySem.W.Frag} {H : Hp} : ∀ {vs : List V} {ds : List PyData} (n : Nat), DaL K H vs ds → DaL K H (vs.drop n) (ds.drop n)
  | _, _, 0, h => h
  | _, _, _ + 1, .nil => .nil
  | _, _, n + 1, .cons _ t => DaL.drop n t
end Tk

end

section
/-! own exceptions over ValueError whose __init__ says super().__init__(text), then stores at most one field -/
namespace PySem
namespace OwnX
open PySem.W PySem.Calls PyProof.Rows PySem.HandSPX
def iA0 (p1 : Pos) : Arguments := { posonlyargs := [], args := [{ arg := "self", annotation := none, pos := p1 }], vararg := none, kwonlyargs := [], kw_defaults := [], kwarg := none, defaults := [] }
def iA1 (f : Str) (p1 p2 : Pos) : Arguments := { posonlyargs := [], args := [{ arg := "self", annotation := none, pos := p1 }, { arg := f, annotation := none, pos := p2 }], vararg := none, kwonlyargs := [], kw_defaults := [], kwarg := none, defaults := [] }
def iE (t : Str) (u : Nat) (p0 p1 p2 p3 p4 p5 : Pos) : Stmt := .Expr (.Call (.Attribute (.Call (.Name "super" p0) [] [] p1) "__init__" p2) [.Constant (.str t) u p3] [] p4) p5
def iF (f : Str) (p0 p1 p2 p3 : Pos) : Stmt := .Assign [.Attribute (.Name "self" p0) f p1] (.Name f p2) p3
/-- what the written part says of an own exception's class at C, of its __init__ at fI -/
structure OwnT (prog : Program) (K : Frag) (C fI : Addr) (q : Str) (ps : Arguments) (bd : List Stmt) (sc : Scope) : Prop where
  cls : ∃ nm qn N bs bm sn sub ab col dd k0 k1 k2 k3 k5, K.lookup C = some (excClassObj nm qn C N bs bm true sn sub ab col dd k0 k1 k2 k3 k5 "ValueError.__new__") ∧ refsVE bm = true
  sa : findIn K (.ref C) "__setattr__" = some (some (.builtin "object.__setattr__"))
  iC : findIn K (.ref C) "__init__" = some (some (.ref fI))
  tC : typeIn K (.ref fI) = some (.type "function")
  kC : keepIn K (.ref C) = true
  exC : subIn K (.ref C) (.type "BaseException") = some true
  veC : subIn K (.ref C) (.type "ValueError") = some true
  tyC : typeIn K (.ref C) = some (.type "type")
  sup : ks_superIn K C C "__init__" = some (some (.builtin "ValueError.__init__"))
  mro : mroIn K C (.ref C) = some true
  ns : nsIn K mainGlobals "super" = some none
  op : nsIn K cStatics "thirdparty.any" = some none
  top : (prog.main.scope.names.lookup ("super" : Str)).isSome = false
  fn : ∃ oc od doc pm an cda ct osl cc oc2 od2 vs sl2 file tf cl cld csl,
    K.lookup fI = some ⟨oc, od, .func (ksFn "__init__" q ps bd sc .none .none doc pm an (.ref cda) ct cc), osl⟩ ∧ codeIn K (.ref cda) q = true ∧
    K.lookup cda = some ⟨oc2, od2, .fields vs, sl2⟩ ∧ vs[2]? = some (.str file tf) ∧ ((prog.main.file : Str) == file) = true ∧ K.lookup cc = some ⟨cl, cld, .cell (some (.ref C)), csl⟩
section
variable {prog : Program} {w : World} {A : Around} {E : Value → Shared → Prop} {R : Result → Shared → Prop} {K : Frag} {C fI : Addr} {q : Str} {ps : Arguments} {bd : List Stmt} {sc : Scope}
theorem super_tree {o e : Expr} {name : Str} {p2 p4 : Pos} {env : Env} (hpos : (p2.endLine == p4.line) = true) (hs : starEach [e] env = [(false, eval e env)] := by rfl) : eval (.Call (.Attribute o name p2) [e] [] p4) env = (do
      let ov ← attributeBase o name env (eval o env)
      standAt p2.atName
      let (f, first) ← holding [ov] (getMethod ov name (do return (← importBound o env).getD true))
      callWith p4 f first (backTo p4 (starEach [e] env)) []) := by
  have h : ∀ ov, methodCall o name p2 p4 env ov 1 (backTo p4 (starEach [e] env)) [] = (do
      let (f, first) ← holding [ov] (getMethod ov name (do return (← importBound o env).getD true))
      callWith p4 f first (backTo p4 (starEach [e] env)) []) := fun ov => by
    have hf : methodCallForm 1 (backTo p4 (starEach [e] env)) [] = true := by
      rw [hs] <;> rfl
    unfold methodCall methodCallPos calleeOf
    rw [hf]
    simp only [hpos, Bool.not_true, Bool.false_or, if_true, pure_bind]
  rw [arm_eval_Call]
  have e2 : (fun ov => methodCall o name p2 p4 env ov 1 (backTo p4 (starEach [e] env)) []) = _ := funext h
  show (attributeBase o name env (eval o env) >>= fun ov => standAt p2.atName >>= fun _ => (fun ov => methodCall o name p2 p4 env ov 1 (backTo p4 (starEach [e] env)) []) ov) = _
  rw [e2]
/-- super().__init__(text), the statement -/
theorem super_stmt (T : OwnT prog K C fI q ps bd sc) {body : List Stmt} {L x t0 cda cc : Addr} {ar : Arg} {m mg mb : Str → Option Value} {h : Heap} {g : Array GenState} {d : Drawn} {tk : Nat} {os : OsState} {fd : FuncData} {oc2 cl : Value} {od2 cld : Option Addr} {vs : Array Value} {sl2 csl : Array (Option Value)} {file : Str} {tf : Tok}
    {t : Str} {u : Nat} {p0 p1 p2 p3 p4 p5 : Pos} {Q : Flow → Shared → Prop} {oF : Obj}
    (hint : interactive (ksEnv q sc L fI (.ref cda) cc) = false) (hsw : swapsWith (.Call (.Attribute (.Call (.Name "super" p0) [] [] p1) "__init__" p2) [.Constant (.str t) u p3] [] p4) none p5.line (ksEnv q sc L fI (.ref cda) cc) = pure false)
    (hpos : (p2.endLine == p4.line) = true) (X : K.In h) (hn : h.Ns L m) (G : h.Ns mainGlobals mg) (B : h.Ns builtinsNs mb) (hB : mb "super" = some (.type "super")) (hx : h.get? x = some (excO C t0))
    (hF : K.lookup fI = some oF) (hFd : oF.data = .func fd) (hp : (fd.params.posonlyargs ++ fd.params.args).head? = some ar) (hv : m ar.arg = some (.ref x))
    (hcode : K.lookup cda = some ⟨oc2, od2, .fields vs, sl2⟩) (hvs : vs[2]? = some (.str file tf)) (hfile : ((prog.main.file : Str) == file) = true) (hcell : K.lookup cc = some ⟨cl, cld, .cell (some (.ref C)), csl⟩)
    (hks : sc.names.lookup ("super" : Str) = some .globalImplicit) (hkc : sc.names.lookup ("__class__" : Str) = some .free) (hka : sc.names.lookup ar.arg = some .local) (hk : sc.kind = .function)
    (hq : ∀ h' tk' t1, (∀ b o, b ≠ x → h.get? b = some o → h'.get? b = some o) → h'.get? x = some (excO C t1) → Q .next ⟨h', g, d, tk', os⟩) :
    _root_.PySem.wpAt (model prog w) A (.func body (ksEnv q sc L fI (.ref cda) cc)) (exec (iE t u p0 p1 p2 p3 p4 p5) (ksEnv q sc L fI (.ref cda) cc)) Q E ⟨h, g, d, tk, os⟩ := by
  obtain ⟨nm, qn, N, bs, bm, sn, sub, ab, col, dd, k0, k1, k2, k3, k5, hC, hbm⟩ := T.cls
  obtain ⟨cd, hcd⟩ : ∃ cd, clsIn K C = some cd := ⟨_, by unfold clsIn; rw [hC] <;> rfl⟩
  have hxC : x ≠ C := fun z => by
    rw [z, X _ _ hC] at hx
    cases hx
  refine ks_wpAt_Expr_any (ks_wpAt_MethodCall (pl := (do return (← importBound (.Call (.Name "super" p0) [] [] p1) (ksEnv q sc L fI (.ref cda) cc)).getD true)) ?_ (super_tree hpos)) hint hsw
  refine ks_wpAt_super_base (env := ksEnv q sc L fI (.ref cda) cc) hks hkc rfl rfl (X _ _ hF) hFd hp rfl (X _ _ hcode) rfl hvs hfile T.top ?_
  refine ks_loadName_global hk hks (loadGlobal_builtin (env := ksEnv q sc L fI (.ref cda) cc) G (mg_none_of X G T.ns) B hB ⟨rfl, ?_⟩)
  refine wpAny_loadName_free hk hkc rfl ⟨_, X _ _ hcell, rfl⟩ ?_
  refine wpAny_loadName_local hk hka hn hv ?_
  refine ks_wpAny_isType_cls (X _ _ hC) rfl ⟨rfl, ?_⟩
  refine ks_wpAny_call_super (X _ _ hC) rfl hx rfl (fun c e => by cases e) (looks_mroIn X T.mro) (fun h1 e1 k1 => ?_)
  have X1 := X.keeps k1
  have hsu := T.sup
  unfold ks_superIn at hsu
  rw [hcd] at hsu
  have I1 : InstAt h1 x (excO C t0) C none := ⟨k1 _ _ hx, rfl, rfl, trivial⟩
  refine kxs_getMethod kxs_ValueError e1 (looks_opaque X1 T.op) (l₀ := cd.mro) (fun A Q E s k q => wpAny_bind ((looks_clsIn X1 hcd) A _ E s k (wpAny_pure q))) rfl X1 hsu (I1.type.andThen (looks_subIn X1 T.veC)) hxC rfl ?_
  have k2 : ∀ b o, h.get? b = some o → (h1.push (kxs_mw "ValueError.__init__" x)).get? b = some o := fun b o e => Heap.get?_push_of_some _ (k1 b o e)
  have hC2 := k2 _ _ (X _ _ hC)
  have hx2 := k2 _ _ hx
  have hu : (h1.push (kxs_mw "ValueError.__init__" x)).get? h1.objs.size = some (kxs_mw "ValueError.__init__" x) := Heap.get?_push_at rfl rfl
  show wpAny _ _ (callWith p4 (.ref h1.objs.size) [] (backTo p4 (starEach [Expr.Constant (Const.str t) u p3] (ksEnv q sc L fI (.ref cda) cc))) []) _ _ _
  refine kxs_callWith (i := "ValueError.__init__") (x := x) rfl (evalArgs_plain ?_)
  refine spliced_cons (wpAny_Constant_str (k := u) (pos := p3) ?_)
  refine spliced_nil ⟨hu, ?_⟩
  show wpAny _ _ (call (.ref h1.objs.size) [.str t (tk + 1)]) _ _ _
  refine wpAny_call (codeAny_of_tree ?_)
  show wpAny _ A.in1 (callAny (.ref h1.objs.size) ⟨[.str t (tk + 1)], []⟩) _ _ _
  simp only [callAny]
  refine wpAny_bind (wpAny_load hu ?_)
  simp only [kxs_mw, show (Value.type "method-wrapper" == Value.type "method" || Value.type "method-wrapper" == Value.type "builtin_function_or_method" || Value.type "method-wrapper" == Value.type "method-wrapper") = true by decide, if_true]
  refine KFB.if_so (by decide) ?_
  refine wpAny_bind (check_bound_init F.excBase_ValueError.toExcCallFacts hC2 hx2 rfl ?_)
  refine wpAny_bind (wpAny_pure (wpAny_pure ?_))
  refine ⟨plainId_quiet F.excBase_ValueError.init.plain _, codeAny_builtin F.excBase_ValueError.initEntry ?_⟩
  refine exc_init_tree (cls := .ref C) (t0 := t0) (dv := none) (c2 := .none) (c3 := .none) (b4 := .bool false) hx2 (by rw [sizeLine_eq]; exact (by decide : 1 ≤ 16777216)) fun h' k' e' _ => ?_
  exact hq h' _ _ (fun b o hb e => k' b o hb (k2 b o e)) e'
end
/-- what __init__ leaves of a fresh exception at x: no field -/
structure InitEnd0 (h h' : Heap) (x C t1 : Addr) : Prop where
  keep : ∀ b o, b ≠ x → h.get? b = some o → h'.get? b = some o
  obj : h'.get? x = some (excO C t1)
/-- .. one field -/
structure InitEnd1 (h h' : Heap) (x C dx t1 : Addr) (f : Str) (v : Value) : Prop where
  keep : ∀ b o, b ≠ x → h.get? b = some o → h'.get? b = some o
  obj : h'.get? x = some { cls := .ref C, dict := some dx, data := .fields #[.ref t1, .none, .none, .none, .bool false, .none] }
  dbig : h.objs.size ≤ dx
  dne : dx ≠ x
  ns : h'.Ns1 dx (fun y => if y = f then some v else none)
def sc0 : Scope := { kind := .function, names := [("self", .local), ("__class__", .free), ("super", .globalImplicit)], isGenerator := false, isCoroutine := false, more := [] }
def sc1 (f : Str) : Scope := { kind := .function, names := [("self", .local), (f, .local), ("__class__", .free), ("super", .globalImplicit)], isGenerator := false, isCoroutine := false, more := [] }
section
variable {prog : Program} {w : World} {A : Around} {E : Value → Shared → Prop} {R : Result → Shared → Prop} {K : Frag} {C fI : Addr} {q : Str} {s : Shared} {mg mb : Str → Option Value} {t : Str} {u : Nat} {a1 a2 p0 p1 p2 p3 p4 p5 r0 r1 r2 r3 : Pos}
theorem own_init0 (T : OwnT prog K C fI q (iA0 a1) [iE t u p0 p1 p2 p3 p4 p5] sc0) {x t0 : Addr} (hpos : (p2.endLine == p4.line) = true) (hsw : ∀ env, swapsWith (.Call (.Attribute (.Call (.Name "super" p0) [] [] p1) "__init__" p2) [.Constant (.str t) u p3] [] p4) none p5.line env = pure false)
    (X : K.In s.heap) (hlim : s.heap.NoLimit) (G : s.heap.Ns mainGlobals mg) (B : s.heap.Ns builtinsNs mb) (hB : mb "super" = some (.type "super")) (hx : s.heap.get? x = some (excO C t0)) (hnx : K.lookup x = none) (hroom : A.depth < recursionLimit)
    (hq : ∀ h' tk t1, InitEnd0 s.heap h' x C t1 → R (.ok (.ret .none)) { s with heap := h', toks := tk }) :
    codeAny (model prog w) A (.call (.ref fI) ⟨[.ref x], []⟩) R s := by
  obtain ⟨oc, od, doc, pm, an, cda, ct, osl, cc, oc2, od2, vs, sl2, file, tf, cl, cld, csl, hf, hcd, hcode, hvs, hfile, hcell⟩ := T.fn
  refine ks_codeAny_call_defAt (fd := ksFn "__init__" q (iA0 a1) [iE t u p0 p1 p2 p3 p4 p5] sc0 .none .none doc pm an (.ref cda) ct cc) (binds := [("self", .ref x)]) hroom (X _ _ hf) rfl hlim (codeRec_of X hcd) rfl (BindsTo.of_eq (by first | rfl | with_unfolding_all rfl)) ?_ ?_ (fun h₁ hn k => ?_) rfl rfl rfl
  · intro y hy
    simp only [ksFn, fnX, sc0, List.mem_cons, List.not_mem_nil, or_false] at hy
    rcases hy with rfl | rfl | rfl <;> exact fun z => by cases z
  · intro y hy
    simp only [List.mem_cons, List.not_mem_nil, or_false] at hy
    subst hy
    rfl
  have hx₁ := k _ _ hx
  refine ks_wpAt_execs_cons (super_stmt (mg := mg) (mb := mb) T rfl (hsw _) hpos (X.keeps k) hn (G.keeps k) (B.keeps k) hB hx₁ hf rfl rfl (by first | rfl | with_unfolding_all rfl | kernel_rfl) hcode hvs hfile hcell rfl rfl rfl rfl fun h₂ tk₂ t1 k₂ hx₂ => ?_)
  show _root_.PySem.wpAt _ _ _ (execs [] _) _ _ _
  exact wpAt_of_wpAny (wpAny_execs_nil (hq h₂ tk₂ t1 ⟨fun b o hb e => k₂ b o hb (k b o e), hx₂⟩))
theorem own_init1 {f : Str} (T : OwnT prog K C fI q (iA1 f a1 a2) [iE t u p0 p1 p2 p3 p4 p5, iF f r0 r1 r2 r3] (sc1 f)) (hno : findIn K (.ref C) f = some none) {x t0 : Addr} {v : Value} (hpos : (p2.endLine == p4.line) = true) (hsw : ∀ env, swapsWith (.Call (.Attribute (.Call (.Name "super" p0) [] [] p1) "__init__" p2) [.Constant (.str t) u p3] [] p4) none p5.line env = pure false)
    (hsw2 : ∀ env, swapsWith (.Name f r2) (some (.Attribute (.Name "self" r0) f r1)) r3.line env = pure false)
    (hf1 : (f == ("self" : Str)) = false) (hf2 : (f == ("__class__" : Str)) = false) (hf3 : (f == ("super" : Str)) = false) (hf4 : (f == ("__debug__" : Str)) = false)
    (hb : ∀ (doc pm : Value) (an : Option Addr) (cda : Addr) (ct : Value) (cc : Addr) (s : Shared) (x : Addr) (v : Value), BindsTo s (ksFn "__init__" q (iA1 f a1 a2) [iE t u p0 p1 p2 p3 p4 p5, iF f r0 r1 r2 r3] (sc1 f) .none .none doc pm an (.ref cda) ct cc) ⟨[.ref x, v], []⟩ [("self", .ref x), (f, v)])
    (X : K.In s.heap) (hlim : s.heap.NoLimit) (G : s.heap.Ns mainGlobals mg) (B : s.heap.Ns builtinsNs mb) (hB : mb "super" = some (.type "super")) (hx : s.heap.get? x = some (excO C t0)) (hnx : K.lookup x = none) (hroom : A.depth < recursionLimit)
    (hq : ∀ h' tk dx t1, InitEnd1 s.heap h' x C dx t1 f v → R (.ok (.ret .none)) { s with heap := h', toks := tk }) :
    codeAny (model prog w) A (.call (.ref fI) ⟨[.ref x, v], []⟩) R s := by
  obtain ⟨oc, od, doc, pm, an, cda, ct, osl, cc, oc2, od2, vs, sl2, file, tf, cl, cld, csl, hf, hcd, hcode, hvs, hfile, hcell⟩ := T.fn
  obtain ⟨nm, qn, N, bs, bm, sn, sub, ab, col, dd, k0, k1, k2, k3, k5, hC, hbm⟩ := T.cls
  have hcl : clsIn K C = some { name := nm, bases := bs, mro := .ref C :: bm, ns := N, qualname := qn, hasDict := true, slotNames := sn, subclasses := sub, abstract := ab, collection := col, hasDel := false } := by unfold clsIn; rw [hC] <;> rfl
  have l1 : (sc1 f).names.lookup ("self" : Str) = some .local := rfl
  have l2 : (sc1 f).names.lookup f = some .local := by
    show List.lookup f [(("self" : Str), NameKind.local), (f, .local), ("__class__", .free), ("super", .globalImplicit)] = _
    simp [List.lookup, hf1]
  have hg1 : (("__class__" : Str) == f) = false := by
    rw [Bool.eq_false_iff] at hf2 ⊢
    intro z
    exact hf2 (by rw [beq_iff_eq] at z ⊢; exact z.symm)
  have hg2 : (("super" : Str) == f) = false := by
    rw [Bool.eq_false_iff] at hf3 ⊢
    intro z
    exact hf3 (by rw [beq_iff_eq] at z ⊢; exact z.symm)
  have l3 : (sc1 f).names.lookup ("__class__" : Str) = some .free := by
    show List.lookup ("__class__" : Str) [(("self" : Str), NameKind.local), (f, .local), ("__class__", .free), ("super", .globalImplicit)] = _
    simp [List.lookup, hg1, show (("__class__" : Str) == ("self" : Str)) = false by decide]
  have l4 : (sc1 f).names.lookup ("super" : Str) = some .globalImplicit := by
    show List.lookup ("super" : Str) [(("self" : Str), NameKind.local), (f, .local), ("__class__", .free), ("super", .globalImplicit)] = _
    simp [List.lookup, hg2, show (("super" : Str) == ("self" : Str)) = false by decide, show (("super" : Str) == ("__class__" : Str)) = false by decide]
  refine ks_codeAny_call_defAt (fd := ksFn "__init__" q (iA1 f a1 a2) [iE t u p0 p1 p2 p3 p4 p5, iF f r0 r1 r2 r3] (sc1 f) .none .none doc pm an (.ref cda) ct cc) (binds := [("self", .ref x), (f, v)]) hroom (X _ _ hf) rfl hlim (codeRec_of X hcd) rfl (hb _ _ _ _ _ _ _ _ _) ?_ ?_ (fun h₁ hn k => ?_) rfl rfl rfl
  · intro y hy
    simp only [ksFn, fnX, sc1, List.mem_cons, List.not_mem_nil, or_false] at hy
    rcases hy with rfl | rfl | rfl | rfl <;> exact fun z => by cases z
  · intro y hy
    simp only [List.mem_cons, List.not_mem_nil, or_false] at hy
    rcases hy with rfl | rfl
    · exact l1
    · exact l2
  have v1 : ([((("self" : Str)), Value.ref x), (f, v)] : List (Str × Value)).reverse.lookup ("self" : Str) = some (.ref x) := by
    have : (("self" : Str) == f) = false := by
      rw [Bool.eq_false_iff] at hf1 ⊢
      intro z
      exact hf1 (by rw [beq_iff_eq] at z ⊢; exact z.symm)
    simp [List.lookup, this]
  have v2 : ([((("self" : Str)), Value.ref x), (f, v)] : List (Str × Value)).reverse.lookup f = some v := by
    simp [List.lookup]
  have hx₁ := k _ _ hx
  refine ks_wpAt_execs_cons (super_stmt (mg := mg) (mb := mb) T rfl (hsw _) hpos (X.keeps k) hn (G.keeps k) (B.keeps k) hB hx₁ hf rfl rfl v1 hcode hvs hfile hcell l4 l3 l1 rfl fun h₂ tk₂ t1 k₂ hx₂ => ?_)
  show _root_.PySem.wpAt _ _ _ (execs [iF f r0 r1 r2 r3] _) _ _ _
  have hLx : s.heap.objs.size ≠ x := Nat.ne_of_gt (Heap.lt_size hx)
  have hn₂ : h₂.Ns s.heap.objs.size (fun y => ([((("self" : Str)), Value.ref x), (f, v)] : List (Str × Value)).reverse.lookup y) := hn.at fun o e => k₂ _ o hLx e
  have X₂ : K.In h₂ := fun a o e => k₂ a o (fun z => by rw [z, hnx] at e; cases e) (k _ _ (X a o e))
  refine ks_wpAt_execs_cons (ks_wpAt_Assign_Attr (wpAt_of_wpAny ?_) (hsw2 _))
  refine wpAny_Name (wpAny_loadName_local rfl l2 hn₂ v2 ?_) hf4
  refine wpAny_Name (wpAny_loadName_local rfl l1 hn₂ v1 ?_) (by decide)
  refine set_plain X₂ (ox := excO C t1) (od := none) ⟨hx₂, rfl, rfl, trivial⟩ T.sa ?_
  refine exc_osa X₂ hx₂ hcl (show refsVE (.ref C :: bm) = true from hbm) rfl hno (fun h₃ tk₃ dx k₃ dn dne hx₃ hn₃ => ?_)
  show _root_.PySem.wpAt _ _ _ (execs [] _) _ _ _
  have z : s.heap.objs.size < h₁.objs.size := hn.lt
  have z2 : s.heap.objs.size < h₂.objs.size := hn₂.lt
  exact wpAt_of_wpAny (wpAny_execs_nil (hq h₃ tk₃ dx t1 ⟨fun b o hb e => k₃ b o hb (k₂ b o hb (k b o e)), hx₃, Nat.le_of_lt (Nat.lt_of_lt_of_le z2 dn), dne, hn₃⟩))
end
/-- a made one -/
structure Made0 (h h' : Heap) (e C : Addr) : Prop where
  keep : ∀ b o, h.get? b = some o → h'.get? b = some o
  new : h.objs.size ≤ e
  obj : ∃ oe vs, h'.get? e = some oe ∧ oe.cls = .ref C ∧ oe.dict = none ∧ oe.data = .fields vs ∧ vs[1]? = some .none
structure Made1 (h h' : Heap) (e C d : Addr) (f : Str) (v : Value) : Prop where
  keep : ∀ b o, h.get? b = some o → h'.get? b = some o
  new : h.objs.size ≤ e
  obj : ∃ oe vs, h'.get? e = some oe ∧ oe.cls = .ref C ∧ oe.dict = some d ∧ oe.data = .fields vs ∧ vs[1]? = some .none
  dbig : h.objs.size ≤ d
  dne : d ≠ e
  ns : h'.Ns1 d (fun y => if y = f then some v else none)
theorem one_size (v : Value) : [v].length ≤ sizeLine := by
  rw [sizeLine_eq]
  exact (by decide : 1 ≤ 16777216)
theorem nil_size : ([] : List Value).length ≤ sizeLine := by
  rw [sizeLine_eq]
  exact (by decide : 0 ≤ 16777216)
section
variable {prog : Program} {w : World} {A : Around} {E : Value → Shared → Prop} {R : Result → Shared → Prop} {K : Frag} {C fI : Addr} {q : Str} {s : Shared} {mg mb : Str → Option Value} {t : Str} {u : Nat} {a1 a2 p0 p1 p2 p3 p4 p5 r0 r1 r2 r3 : Pos}
theorem own_made0 (T : OwnT prog K C fI q (iA0 a1) [iE t u p0 p1 p2 p3 p4 p5] sc0) (hpos : (p2.endLine == p4.line) = true) (hsw : ∀ env, swapsWith (.Call (.Attribute (.Call (.Name "super" p0) [] [] p1) "__init__" p2) [.Constant (.str t) u p3] [] p4) none p5.line env = pure false)
    (X : K.In s.heap) (hlim : s.heap.NoLimit) (G : s.heap.Ns mainGlobals mg) (B : s.heap.Ns builtinsNs mb) (hB : mb "super" = some (.type "super")) (hroom : A.depth + 1 < recursionLimit)
    (hq : ∀ h' tk e, Made0 s.heap h' e C → R (.ok (.ret (.ref e))) { s with heap := h', toks := tk }) :
    codeAny (model prog w) A (.call (.ref C) ⟨[], []⟩) R s := by
  obtain ⟨nm, qn, N, bs, bm, sn, sub, ab, col, dd, k0, k1, k2, k3, k5, hC, hbm⟩ := T.cls
  obtain ⟨hp, g, dr, tk, os⟩ := s
  have k : ∀ b o, hp.get? b = some o → ((hp.push (kdv_tup [])).push (excO C hp.objs.size)).get? b = some o := fun b o e => Heap.get?_push_of_some _ (Heap.get?_push_of_some _ e)
  have hget : ((hp.push (kdv_tup [])).push (excO C hp.objs.size)).get? (hp.objs.size + 1) = some (excO C hp.objs.size) := by heap_get
  have hnx : K.lookup (hp.objs.size + 1) = none := by
    cases e : K.lookup (hp.objs.size + 1) with
    | none => rfl
    | some o =>
      have z : hp.get? (hp.objs.size + 1) = some o := X _ _ e
      exact absurd (Nat.lt_of_succ_lt (Heap.lt_size z)) (Nat.lt_irrefl _)
  refine call_own F.excBase_ValueError (fun X => refsVE_contains X bm hbm) (X _ _ hC) (looks_findIn X T.iC) (fun self => bind_fn X self T.tC) nil_size ?_
  refine own_init0 (s := ⟨(hp.push (kdv_tup [])).push (excO C hp.objs.size), g, dr, tk, os⟩) T hpos hsw (X.keeps k) (hlim.keeps k) (G.keeps k) (B.keeps k) hB hget hnx ?_ fun h' tk' t1 ⟨k', hx⟩ => ?_
  · show A.depth + 1 < recursionLimit
    exact hroom
  · have old : ∀ b o, hp.get? b = some o → h'.get? b = some o := fun b o e => k' b o (Nat.ne_of_lt (Nat.lt_succ_of_lt (Heap.lt_size e))) (k b o e)
    exact ⟨rfl, hq h' tk' (hp.objs.size + 1) ⟨old, Nat.le_succ _, ⟨_, _, hx, rfl, rfl, rfl, rfl⟩⟩⟩
theorem own_made1 {f : Str} (T : OwnT prog K C fI q (iA1 f a1 a2) [iE t u p0 p1 p2 p3 p4 p5, iF f r0 r1 r2 r3] (sc1 f)) (hno : findIn K (.ref C) f = some none) {v : Value} (hpos : (p2.endLine == p4.line) = true) (hsw : ∀ env, swapsWith (.Call (.Attribute (.Call (.Name "super" p0) [] [] p1) "__init__" p2) [.Constant (.str t) u p3] [] p4) none p5.line env = pure false)
    (hsw2 : ∀ env, swapsWith (.Name f r2) (some (.Attribute (.Name "self" r0) f r1)) r3.line env = pure false)
    (hf1 : (f == ("self" : Str)) = false) (hf2 : (f == ("__class__" : Str)) = false) (hf3 : (f == ("super" : Str)) = false) (hf4 : (f == ("__debug__" : Str)) = false)
    (hb : ∀ (doc pm : Value) (an : Option Addr) (cda : Addr) (ct : Value) (cc : Addr) (s : Shared) (x : Addr) (v : Value), BindsTo s (ksFn "__init__" q (iA1 f a1 a2) [iE t u p0 p1 p2 p3 p4 p5, iF f r0 r1 r2 r3] (sc1 f) .none .none doc pm an (.ref cda) ct cc) ⟨[.ref x, v], []⟩ [("self", .ref x), (f, v)])
    (X : K.In s.heap) (hlim : s.heap.NoLimit) (G : s.heap.Ns mainGlobals mg) (B : s.heap.Ns builtinsNs mb) (hB : mb "super" = some (.type "super")) (hroom : A.depth + 1 < recursionLimit)
    (hq : ∀ h' tk e d, Made1 s.heap h' e C d f v → R (.ok (.ret (.ref e))) { s with heap := h', toks := tk }) :
    codeAny (model prog w) A (.call (.ref C) ⟨[v], []⟩) R s := by
  obtain ⟨nm, qn, N, bs, bm, sn, sub, ab, col, dd, k0, k1, k2, k3, k5, hC, hbm⟩ := T.cls
  obtain ⟨hp, g, dr, tk, os⟩ := s
  have k : ∀ b o, hp.get? b = some o → ((hp.push (kdv_tup [v])).push (excO C hp.objs.size)).get? b = some o := fun b o e => Heap.get?_push_of_some _ (Heap.get?_push_of_some _ e)
  have hget : ((hp.push (kdv_tup [v])).push (excO C hp.objs.size)).get? (hp.objs.size + 1) = some (excO C hp.objs.size) := by heap_get
  have hnx : K.lookup (hp.objs.size + 1) = none := by
    cases e : K.lookup (hp.objs.size + 1) with
    | none => rfl
    | some o =>
      have z : hp.get? (hp.objs.size + 1) = some o := X _ _ e
      exact absurd (Nat.lt_of_succ_lt (Heap.lt_size z)) (Nat.lt_irrefl _)
  refine call_own F.excBase_ValueError (fun X => refsVE_contains X bm hbm) (X _ _ hC) (looks_findIn X T.iC) (fun self => bind_fn X self T.tC) (one_size v) ?_
  refine own_init1 (s := ⟨(hp.push (kdv_tup [v])).push (excO C hp.objs.size), g, dr, tk, os⟩) T hno hpos hsw hsw2 hf1 hf2 hf3 hf4 hb (X.keeps k) (hlim.keeps k) (G.keeps k) (B.keeps k) hB hget hnx ?_ fun h' tk' dx t1 ⟨k', hx, dn, dne, hns⟩ => ?_
  · show A.depth + 1 < recursionLimit
    exact hroom
  · have old : ∀ b o, hp.get? b = some o → h'.get? b = some o := fun b o e => k' b o (Nat.ne_of_lt (Nat.lt_succ_of_lt (Heap.lt_size e))) (k b o e)
    have z : hp.objs.size + 1 + 1 ≤ dx := by
      first
        | (simpa only [Heap.size_push] using dn)
        | exact dn
        | (have q := dn; rw [Heap.size_push, Heap.size_push] at q; exact q)
    exact ⟨rfl, hq h' tk' (hp.objs.size + 1) dx ⟨old, Nat.le_succ _, ⟨_, _, hx, rfl, rfl, rfl, rfl⟩, Nat.le_trans (Nat.le_trans (Nat.le_succ _) (Nat.le_succ _)) z, dne, hns⟩⟩
end
end OwnX
end PySem
namespace Tk
open PySem PySem.Spec PyProof.Rows L2
theorem relO_one {f : Str} {v : V} {v' : Value} (r : RelV v v') (g : Str) : RelO (List.lookup g [(f, v)]) (if g = f then some v' else none) := relO_put (fs := []) (mA := fun _ => none) r (fun _ => True.intro) g
/-- an own exception without fields | with one: what is told of its class -/
def Exc0 (prog : Program) (K : PySem.W.Frag) (mg : Str → Option Value) (x : Str) : Prop := mg x = some (.ref (He.ga K x)) ∧ ∃ fI q t u a1 p0 p1 p2 p3 p4 p5, OwnX.OwnT prog K (He.ga K x) fI q (OwnX.iA0 a1) [OwnX.iE t u p0 p1 p2 p3 p4 p5] OwnX.sc0 ∧ (p2.endLine == p4.line) = true ∧
  ∀ env, swapsWith (.Call (.Attribute (.Call (.Name "super" p0) [] [] p1) "__init__" p2) [.Constant (.str t) u p3] [] p4) none p5.line env = pure false
def Exc1 (prog : Program) (K : PySem.W.Frag) (mg : Str → Option Value) (x f : Str) : Prop := mg x = some (.ref (He.ga K x)) ∧ PySem.W.findIn K (.ref (He.ga K x)) f = some none ∧ ((f == ("self" : Str)) = false ∧ (f == ("__class__" : Str)) = false ∧ (f == ("super" : Str)) = false ∧ (f == ("__debug__" : Str)) = false) ∧
  ∃ fI q t u a1 a2 p0 p1 p2 p3 p4 p5 r0 r1 r2 r3, OwnX.OwnT prog K (He.ga K x) fI q (OwnX.iA1 f a1 a2) [OwnX.iE t u p0 p1 p2 p3 p4 p5, OwnX.iF f r0 r1 r2 r3] (OwnX.sc1 f) ∧ (p2.endLine == p4.line) = true ∧
  (∀ env, swapsWith (.Call (.Attribute (.Call (.Name "super" p0) [] [] p1) "__init__" p2) [.Constant (.str t) u p3] [] p4) none p5.line env = pure false) ∧
  (∀ env, swapsWith (.Name f r2) (some (.Attribute (.Name "self" r0) f r1)) r3.line env = pure false) ∧
  ∀ (doc pm : Value) (an : Option Addr) (cda : Addr) (ct : Value) (cc : Addr) (s : Shared) (x : Addr) (v : Value), BindsTo s (PySem.W.ksFn "__init__" q (OwnX.iA1 f a1 a2) [OwnX.iE t u p0 p1 p2 p3 p4 p5, OwnX.iF f r0 r1 r2 r3] (OwnX.sc1 f) .none .none doc pm an (.ref cda) ct cc) ⟨[.ref x, v], []⟩ [("self", .ref x), (f, v)]
section
variable {X : Cx} {x f : Str}
def tMk0 (C : Addr) : L2.St → Hp → XK → Prop := fun _ H Q => Q (.ref C) none H
def tMk1 (C : Addr) (f : Str) (ta : TA) : L2.St → Hp → XK → Prop := fun σ H Q => ta σ H fun vs H1 => ∃ v, vs = [v] ∧ ∀ d, H1 d = none → Q (.ref C) (some d) (upd H1 d (.xd [(f, v)]))
theorem pmk_0 {p pos : Pos} {k : Nat} (T : Exc0 X.prog X.K X.mg x) (hr : Room k X.A) (hg : Gl X x := by rfl) (hdb : (x == ("__debug__" : Str)) = false := by decide) :
    PMk X (.Call (.Name x p) [] [] pos) (tMk0 (He.ga X.K x)) := by
  intro pins s σ H Q I h
  obtain ⟨hm, fI, q, t, u, a1, p0, p1, p2, p3, p4, p5, T, hpos, hsw⟩ := T
  obtain ⟨mb, hb1, hb2⟩ := I.mod.blt
  refine wpAny_Call_Name_kw (ld_glob I hg hm ?_ hdb)
  refine PySem.W.callWith_K0 I.kIn T.kC ?_
  show wpAny _ _ (call (.ref (He.ga X.K x)) []) _ _ _
  have hlim := I.nolimit
  obtain ⟨hp, g, dr, tk, os⟩ := s
  refine wpAny_call (OwnX.own_made0 (mg := X.mg) (mb := mb) T hpos hsw I.kIn hlim (I.mod.glob.keeps I.bk) (hb1.keeps I.bk) ((hb2 _ (by decide +kernel)).trans (by first | rfl | decide +kernel)) (by have := hr.dp; omega) fun h' tk' e M => ?_)
  show MkP X pins σ Q (.ref e) ⟨h', g, dr, tk', os⟩
  obtain ⟨oe, fv, hoe, hc, hd, hdat, h1⟩ := M.obj
  obtain ⟨G', g1, g2⟩ := restrict h' fun b => decide (b ≠ e)
  have gk : ∀ b, b ≠ e → G'.get? b = h'.get? b := fun b hb => g1 b (decide_eq_true hb)
  have ge : G'.get? e = none := g2 e (by simp)
  have old : ∀ b o, hp.get? b = some o → G'.get? b = some o := fun b o q => (gk b (Nat.ne_of_lt (Nat.lt_of_lt_of_le (Heap.lt_size q) M.new))).trans (M.keep b o q)
  have J : Inv X pins σ H ⟨G', g, dr, tk', os⟩ := I.kept (t' := tk') old
  refine ⟨e, oe, fv, ⟨G', g, dr, tk', os⟩, _, .ref (He.ga X.K x), none, rfl, J, fun b o q => ?_, ge, hoe, ⟨hc, hd⟩, hdat, h1, I.hok.fresh M.new, rfl, I.bare, raises_own T.exC T.tyC, h⟩
  by_cases hb : b = e
  · have q' : G'.get? b = some o := q
    rw [hb, ge] at q'
    cases q'
  · exact (gk b hb).symm.trans q
theorem pmk_1 {e : Expr} {ta : TA} {p pos : Pos} {k : Nat} (T : Exc1 X.prog X.K X.mg x f) (hr : Room k X.A) (ha : PA X [e] ta) (hg : Gl X x := by rfl) (hdb : (x == ("__debug__" : Str)) = false := by decide)
    (he : starEach (e :: []) X.env = (false, eval e X.env) :: starEach [] X.env := by rfl) (hpl : (backTo pos (starEach [] X.env)).any (·.1) = false := by rfl) :
    PMk X (.Call (.Name x p) [e] [] pos) (tMk1 (He.ga X.K x) f ta) := by
  intro pins s σ H Q I h
  obtain ⟨hm, hno, ⟨f1, f2, f3, f4⟩, fI, q, t, u, a1, a2, p0, p1, p2, p3, p4, p5, r0, r1, r2, r3, T, hpos, hsw, hsw2, hb⟩ := T
  refine wpAny_Call_Name_kw (ld_glob I hg hm ?_ hdb)
  refine PySem.W.callWith_K (h₀ := X.base) I.ok.mod.kin T.kC (thn (ha.run pos pins s σ H _ I h) fun us s1 hh => ?_) he hpl
  obtain ⟨vs, H1, I1, rr, v, ev, q1⟩ := hh
  subst ev
  refine ⟨I1.kIn, ?_⟩
  cases rr with
  | cons rv rn =>
    rename_i v' us'
    cases rn
    show wpAny _ _ (call (.ref (He.ga X.K x)) [v']) _ _ _
    have hlim := I1.nolimit
    obtain ⟨mb, hb1, hb2⟩ := I1.mod.blt
    obtain ⟨hp, g, dr, tk, os⟩ := s1
    refine wpAny_call (OwnX.own_made1 (mg := X.mg) (mb := mb) T hno hpos hsw hsw2 f1 f2 f3 f4 hb I1.kIn hlim (I1.mod.glob.keeps I1.bk) (hb1.keeps I1.bk) ((hb2 _ (by decide +kernel)).trans (by first | rfl | decide +kernel)) (by have := hr.dp; omega) fun h' tk' e d M => ?_)
    show MkP X pins σ Q (.ref e) ⟨h', g, dr, tk', os⟩
    obtain ⟨oe, fv, hoe, hc, hd, hdat, h1⟩ := M.obj
    have hns := M.ns
    obtain ⟨G', g1, g2⟩ := restrict h' fun b => decide (b ≠ e)
    have gk : ∀ b, b ≠ e → G'.get? b = h'.get? b := fun b hb => g1 b (decide_eq_true hb)
    have ge : G'.get? e = none := g2 e (by simp)
    have old : ∀ b o, hp.get? b = some o → G'.get? b = some o := fun b o q => (gk b (Nat.ne_of_lt (Nat.lt_of_lt_of_le (Heap.lt_size q) M.new))).trans (M.keep b o q)
    have ob : ObjOk X.prog X.w (upd H1 d (.xd [(f, v)])) G' d (.xd [(f, v)]) :=
      ⟨_, hns.at (fun o q => (gk d M.dne).trans q), fun g => relO_one rv g⟩
    have J : Inv X pins σ (upd H1 d (.xd [(f, v)])) ⟨G', g, dr, tk', os⟩ := I1.laid (t' := tk') old M.dbig ob
    refine ⟨e, oe, fv, ⟨G', g, dr, tk', os⟩, _, .ref (He.ga X.K x), some d, rfl, J, fun b o q => ?_, ge, hoe, ⟨hc, hd⟩, hdat, h1, ?_, rfl, I1.bare, raises_own T.exC T.tyC, q1 d (I1.hok.fresh M.dbig)⟩
    · by_cases hb : b = e
      · have q' : G'.get? b = some o := q
        rw [hb, ge] at q'; cases q'
      · exact (gk b hb).symm.trans q
    · rw [upd_ne (Ne.symm M.dne)]
      exact I1.hok.fresh M.new
/-- raise x(), raise x(e) -/
def tRaise0 (C : Addr) (W : WX) : TS := fun _ σ H => W (.ref C) none σ H
def tRaise1 (C : Addr) (f : Str) (W : WX) (ta : TA) : TS := fun _ σ H => tMk1 C f ta σ H fun cls d H' => W cls d σ H'
theorem ps_raise0 {W : WX} {p pos pos2 : Pos} {k : Nat} (hc : X.calm = true) (T : Exc0 X.prog X.K X.mg x) (hr : Room k X.A) (tk : Takes X W) (hg : Gl X x := by rfl) (hdb : (x == ("__debug__" : Str)) = false := by decide) :
    PS X (.Raise (some (.Call (.Name x p) [] [] pos)) none pos2) (tRaise0 (He.ga X.K x) W) := ps_raise hc tk (pmk_0 T hr hg hdb)
theorem ps_raise1 {e : Expr} {ta : TA} {W : WX} {p pos pos2 : Pos} {k : Nat} (hc : X.calm = true) (T : Exc1 X.prog X.K X.mg x f) (hr : Room k X.A) (tk : Takes X W) (ha : PA X [e] ta) (hg : Gl X x := by rfl) (hdb : (x == ("__debug__" : Str)) = false := by decide)
    (he : starEach (e :: []) X.env = (false, eval e X.env) :: starEach [] X.env := by rfl) (hpl : (backTo pos (starEach [] X.env)).any (·.1) = false := by rfl) :
    PS X (.Raise (some (.Call (.Name x p) [e] [] pos)) none pos2) (tRaise1 (He.ga X.K x) f W ta) := ps_raise hc tk (pmk_1 T hr ha hg hdb he hpl)
theorem g_raise0 {C : Addr} {W : WX} {D : Ends} {σ : L2.St} {H : Hp} (h : W (.ref C) none σ H) : tRaise0 C W D σ H := h
theorem g_raise1 {C : Addr} {f : Str} {W : WX} {ta : TA} {D : Ends} {σ : L2.St} {H : Hp} (h : ta σ H fun vs H1 => ∃ v, vs = [v] ∧ ∀ d, H1 d = none → W (.ref C) (some d) σ (upd H1 d (.xd [(f, v)]))) : tRaise1 C f W ta D σ H := h
end
end Tk

end

section
/-! own facts and hook: functions at addresses of one's own (getters, __init__s that close over __class__), own exceptions -/
namespace Tk
open PySem PySem.Spec PyProof.Rows L2
open He (ga ma eqO eqO_ok ba)
/-! ### functions at addresses -/
abbrev FnA : Type := Option (Str × Str × Arguments × FuncBody × Scope × Addr × List Str × Addr)
def fnA (K : PySem.W.Frag) (a : Addr) : FnA := match K.lookup a with
  | some ⟨_, _, .func fd, _⟩ => some (fd.name, fd.qualname, fd.params, fd.body, fd.scope, fd.globals, fd.closure.map (·.1), fd.builtins)
  | _ => none
structure DefA where
  adr : PySem.W.Frag → Addr
  name : Str
  qual : Str
  params : Arguments
  body : List Stmt
  scope : Scope
  clo : List Str
def DefA.val (d : DefA) : FnA := some (d.name, d.qual, d.params, .stmts d.body, d.scope, mainGlobals, d.clo, builtinsNs)
def noneB : Value → Bool
  | .none => true
  | _ => false
theorem noneB_ok {v : Value} (h : noneB v = true) : v = .none := by
  cases v with
  | none => rfl
  | _ => cases h
def DefA.ok (K : PySem.W.Frag) (d : DefA) : Bool := PySem.W.keepIn K (.ref (d.adr K)) && (match K.lookup (d.adr K) with
  | some ⟨_, _, .func fd, _⟩ => PySem.W.codeIn K fd.code d.qual && (noneB fd.defaults && noneB fd.kwdefaults)
  | _ => false)
theorem DefA.ex {K : PySem.W.Frag} {d : DefA} (e : fnA K (d.adr K) = d.val) (c : d.ok K = true) : ∃ oc od doc pm an cdv ct osl cl,
    K.lookup (d.adr K) = some ⟨oc, od, .func (PySem.W.fnX d.name d.qual d.params d.body d.scope cl .none .none doc pm an cdv ct), osl⟩ ∧ cl.map (·.1) = d.clo ∧ PySem.W.codeIn K cdv d.qual = true ∧ PySem.W.keepIn K (.ref (d.adr K)) = true := by
  obtain ⟨kp, c2⟩ := ba c
  unfold fnA at e
  cases q : K.lookup (d.adr K) with
  | none =>
    rw [q] at c2
    cases c2
  | some o =>
    obtain ⟨oc, od, dt, osl⟩ := o
    rw [q] at c2 e
    cases dt with
    | func fd =>
      obtain ⟨n1, n2, n3, n4, n5, n6, n7, n8, n9, n10, n11, n12, n13, n14, n15⟩ := fd
      have e2 : (some (n1, n2, n3, n4, n5, n6, n7.map (·.1), n15) : FnA) = some (d.name, d.qual, d.params, .stmts d.body, d.scope, mainGlobals, d.clo, builtinsNs) := e
      simp only [Option.some.injEq, Prod.mk.injEq] at e2
      obtain ⟨h1, h2, h3, h4, h5, h6, h7, h8⟩ := e2
      subst h1 h2 h3 h4 h5 h6 h8
      have c3 : (PySem.W.codeIn K n13 d.qual && (noneB n8 && noneB n9)) = true := c2
      obtain ⟨k1, k2⟩ := ba c3
      obtain ⟨k3, k4⟩ := ba k2
      have q8 := noneB_ok k3
      have q9 := noneB_ok k4
      subst q8 q9
      exact ⟨oc, od, n10, n11, n12, n13, n14, osl, n7, rfl, h7, k1, kp⟩
    | _ => cases c2
theorem DefA.funD {K : PySem.W.Frag} {d : DefA} (e : fnA K (d.adr K) = d.val) (c : d.ok K = true) (hc : d.clo = []) : ∃ fd, FunD K d.name d.qual d.params d.body d.scope [] [] (d.adr K) fd := by
  obtain ⟨oc, od, doc, pm, an, cdv, ct, osl, cl, h1, h2, h3, h4⟩ := DefA.ex e c
  have : cl = [] := by
    rw [hc] at h2
    exact List.map_eq_nil_iff.mp h2
  subst this
  exact ⟨_, ⟨oc, od, .none, .none, doc, pm, an, cdv, ct, osl, rfl, h1, h3, .inl ⟨rfl, rfl⟩, .inl rfl⟩, h4⟩
/-! ### the getter of a property -/
def pa (K : PySem.W.Frag) (x f : Str) : Addr := ma K (ga K x) f
def gt (x f : Str) (K : PySem.W.Frag) : Addr := match PySem.W.recIn K (pa K x f) "property" with
  | some (.ref g :: _) => g
  | _ => 0
def propB (K : PySem.W.Frag) (x f : Str) : Bool := eqO (PySem.W.findIn K (.ref (ga K x)) f) (some (some (.ref (pa K x f)))) && (eqO (PySem.W.specialIn K (.ref (pa K x f)) "__get__") (some (some (.builtin "property.__get__"))) &&
  (decide (PySem.W.takesIn K (.ref (pa K x f)) = some true) && (match PySem.W.recIn K (pa K x f) "property" with
  | some (.ref _ :: _) => true
  | _ => false)))
theorem propB_ok {K : PySem.W.Frag} {x f : Str} (h : propB K x f = true) : PropOf K (ga K x) f (pa K x f) (gt x f K) := by
  obtain ⟨h1, h⟩ := ba h
  obtain ⟨h2, h⟩ := ba h
  obtain ⟨h3, h4⟩ := ba h
  refine ⟨eqO_ok h1, eqO_ok h2, of_decide_eq_true h3, ?_⟩
  unfold gt
  cases q : PySem.W.recIn K (pa K x f) "property" with
  | none =>
    rw [q] at h4
    cases h4
  | some l =>
    rw [q] at h4
    match l, h4 with
    | .ref g :: r, _ => exact ⟨r, rfl⟩
/-! ### own exceptions -/
def exCls (K : PySem.W.Frag) (C : Addr) : Bool := match K.lookup C with
  | some ⟨.type "type", _, .cls cd, sl⟩ => (match cd.mro, sl.toList with
    | .ref C' :: bm, [_, _, _, _, some (.builtin n), _] => C' == C && (n == "ValueError.__new__" && (!cd.hasDel && (cd.hasDict && PySem.HandSPX.refsVE bm)))
    | _, _ => false)
  | _ => false
theorem exCls_ok {K : PySem.W.Frag} {C : Addr} (q : exCls K C = true) : ∃ nm qn N bs bm sn sub ab col dd k0 k1 k2 k3 k5, K.lookup C = some (excClassObj nm qn C N bs bm true sn sub ab col dd k0 k1 k2 k3 k5 "ValueError.__new__") ∧ PySem.HandSPX.refsVE bm = true := by
  unfold exCls at q
  split at q
  · rename_i dd cd sl ho
    split at q
    · rename_i C' bm k0 k1 k2 k3 n k5 hm hs
      simp only [Bool.and_eq_true, beq_iff_eq, Bool.not_eq_true'] at q
      obtain ⟨rfl, rfl, hdel, hdic, ht⟩ := q
      obtain ⟨nm, bs, mro, ns, qn, hd, sn, sub, ab, col, del⟩ := cd
      dsimp only at hm hdel hdic
      subst hm hdel hdic
      have hsl : sl = #[k0, k1, k2, k3, some (.builtin "ValueError.__new__"), k5] := by
        obtain ⟨l⟩ := sl
        simp only at hs
        rw [hs]
      subst hsl
      exact ⟨nm, qn, ns, bs, bm, sn, sub, ab, col, dd, k0, k1, k2, k3, k5, ho, ht⟩
    · cases q
  · cases q
def ini (x : Str) (K : PySem.W.Frag) : Addr := ma K (ga K x) "__init__"
/-- its cell, its code's file -/
def exFn (file : Str) (K : PySem.W.Frag) (x : Str) : Bool := match K.lookup (ini x K) with
  | some ⟨_, _, .func fd, _⟩ => (match fd.closure with
    | [(_, cc)] => (match K.lookup cc with
      | some ⟨_, _, .cell (some (.ref D)), _⟩ => D == ga K x
      | _ => false)
    | _ => false) && (match fd.code with
    | .ref c => (match K.lookup c with
      | some ⟨_, _, .fields vs, _⟩ => (match (vs.toList[2]? : Option Value) with
        | some (Value.str f _) => f == file
        | _ => false)
      | _ => false)
    | _ => false)
  | _ => false
def exB (file : Str) (K : PySem.W.Frag) (x : Str) : Bool :=
  exCls K (ga K x) && (eqO (PySem.W.findIn K (.ref (ga K x)) "__setattr__") (some (some (.builtin "object.__setattr__"))) && (eqO (PySem.W.findIn K (.ref (ga K x)) "__init__") (some (some (.ref (ini x K)))) &&
  (eqO ((PySem.W.typeIn K (.ref (ini x K))).map some) (some (some (.type "function"))) && (PySem.W.keepIn K (.ref (ga K x)) && (decide (PySem.W.subIn K (.ref (ga K x)) (.type "BaseException") = some true) &&
  (decide (PySem.W.subIn K (.ref (ga K x)) (.type "ValueError") = some true) && (eqO ((PySem.W.typeIn K (.ref (ga K x))).map some) (some (some (.type "type"))) &&
  (eqO (PySem.W.ks_superIn K (ga K x) (ga K x) "__init__") (some (some (.builtin "ValueError.__init__"))) && (decide (PySem.W.mroIn K (ga K x) (.ref (ga K x)) = some true) &&
  (eqO (PySem.W.nsIn K mainGlobals "super") (some none) && (eqO (PySem.W.nsIn K cStatics "thirdparty.any") (some none) && exFn file K x)))))))))))
theorem mapsome {o : Option Value} {v : Value} (h : o.map some = some (some v)) : o = some v := by
  cases o with
  | none => cases h
  | some u =>
    simp only [Option.map_some, Option.some.injEq] at h
    rw [h]
theorem fileB_ok {K : PySem.W.Frag} {cdv : Value} {file : Str} (m2 : (match cdv with
    | .ref c => (match K.lookup c with
      | some ⟨_, _, .fields vs, _⟩ => (match (vs.toList[2]? : Option Value) with
        | some (Value.str f _) => f == file
        | _ => false)
      | _ => false)
    | _ => false) = true) : ∃ cda oc2 od2 vs sl2 tf, cdv = .ref cda ∧ K.lookup cda = some ⟨oc2, od2, .fields vs, sl2⟩ ∧ vs[2]? = some (.str file tf) := by
  cases cdv with
  | ref cda =>
    simp only at m2
    split at m2
    · rename_i oc2 od2 vs sl2 hl
      split at m2
      · rename_i f tf hv
        have ef : f = file := by simpa using m2
        subst ef
        exact ⟨cda, oc2, od2, vs, sl2, tf, rfl, hl, by rw [← hv]; simp⟩
      · cases m2
    · cases m2
  | _ => cases m2
theorem exB_ok {P : Program} {K : PySem.W.Frag} {x q : Str} {ps : Arguments} {bd : List Stmt} {sc : Scope} {file : Str} (hf : P.main.file = file) (ht : (P.main.scope.names.lookup ("super" : Str)).isSome = false) (h : exB file K x = true)
    (e : fnA K (ini x K) = (DefA.val ⟨ini x, "__init__", q, ps, bd, sc, ["__class__"]⟩)) (c : DefA.ok K ⟨ini x, "__init__", q, ps, bd, sc, ["__class__"]⟩ = true) : OwnX.OwnT P K (ga K x) (ini x K) q ps bd sc := by
  obtain ⟨h1, h⟩ := ba h
  obtain ⟨h2, h⟩ := ba h
  obtain ⟨h3, h⟩ := ba h
  obtain ⟨h4, h⟩ := ba h
  obtain ⟨h5, h⟩ := ba h
  obtain ⟨h6, h⟩ := ba h
  obtain ⟨h7, h⟩ := ba h
  obtain ⟨h8, h⟩ := ba h
  obtain ⟨h9, h⟩ := ba h
  obtain ⟨h10, h⟩ := ba h
  obtain ⟨h11, h⟩ := ba h
  obtain ⟨h12, h13⟩ := ba h
  refine ⟨exCls_ok h1, eqO_ok h2, eqO_ok h3, mapsome (eqO_ok h4), h5, of_decide_eq_true h6, of_decide_eq_true h7, mapsome (eqO_ok h8), eqO_ok h9, of_decide_eq_true h10, eqO_ok h11, eqO_ok h12, ht, ?_⟩
  obtain ⟨oc, od, doc, pm, an, cdv, ct, osl, cl, k1, k2, k3, k4⟩ := DefA.ex (d := ⟨ini x, "__init__", q, ps, bd, sc, ["__class__"]⟩) e c
  unfold exFn at h13
  have k1' : K.lookup (ini x K) = some ⟨oc, od, .func (PySem.W.fnX "__init__" q ps bd sc cl .none .none doc pm an cdv ct), osl⟩ := k1
  rw [k1'] at h13
  obtain ⟨m1, m2⟩ := ba h13
  have k2' : cl.map (·.1) = [("__class__" : Str)] := k2
  obtain ⟨cc, rfl⟩ : ∃ cc, cl = [(("__class__" : Str), cc)] := by
    match cl, k2' with
    | [(a, cc)], z =>
      simp only [List.map_cons, List.map_nil, List.cons.injEq, and_true] at z
      exact ⟨cc, by rw [z]⟩
  have m1' : (match K.lookup cc with
      | some ⟨_, _, .cell (some (.ref D)), _⟩ => D == ga K x
      | _ => false) = true := m1
  obtain ⟨cda, oc2, od2, vs, sl2, tf, rfl, hl, hv⟩ := fileB_ok m2
  split at m1'
  · rename_i cl' cld D csl hc
    have eD : D = ga K x := by simpa using m1'
    subst eD
    exact ⟨oc, od, doc, pm, an, cda, ct, osl, cc, oc2, od2, vs, sl2, file, tf, cl', cld, csl, k1', k3, hl, hv, by rw [hf]; exact beq_self_eq_true _, hc⟩
  · cases m1'
/-! ### the hook -/
def asO (g : Addr → Option Obj) : Nat → List Addr
  | 0 => [mainGlobals, cStatics]
  | n + 1 => He.growD g (asO g n)
abbrev AlO : Type := He.AlD × List FnA
def obsO (fa : List He.Fa) (fn : List He.DefD) (da : List DefA) (more : PySem.W.Frag → List Bool) (K : PySem.W.Frag) : AlO :=
  (((He.obsD fa fn K).1 && ((da.all fun d => d.ok K) && (more K).all id), (He.obsD fa fn K).2), da.map fun d => fnA K (d.adr K))
def valO (fn : List He.DefD) (da : List DefA) : AlO := (He.valD fn, da.map DefA.val)
def SaysO (fa : List He.Fa) (fn : List He.DefD) (da : List DefA) (more : PySem.W.Frag → List Bool) (K : PySem.W.Frag) : Prop := obsO fa fn da more K = valO fn da
def obsOG (n : Nat) (fa : List He.Fa) (fn : List He.DefD) (da : List DefA) (more : PySem.W.Frag → List Bool) (g : Addr → Option Obj) : AlO := obsO fa fn da more (He.frG g (asO g n))
def hookO (n : Nat) (fa : List He.Fa) (fn : List He.DefD) (da : List DefA) (more : PySem.W.Frag → List Bool) : PySem.W.Hook where
  α := AlO
  obs := fun s => obsOG n fa fn da more s.heap.get?
  val := fun _ => valO fn da
  says := fun _ h => ∃ K : PySem.W.Frag, K.In h ∧ SaysO fa fn da more K
  of := fun _ _ e => ⟨_, He.frG_in, e⟩
  keeps := fun _ _ _ ⟨K, hK, c⟩ k => ⟨K, PySem.W.Frag.In.keeps hK k, c⟩
theorem obsOG_eq {n : Nat} {fa : List He.Fa} {fn : List He.DefD} {da : List DefA} {more : PySem.W.Frag → List Bool} {g : Addr → Option Obj} {s : Shared} (h : ∀ a, g a = s.heap.get? a) : obsOG n fa fn da more g = (hookO n fa fn da more).obs s := by
  have e : g = s.heap.get? := funext h
  rw [e] <;> rfl
section
variable {fa : List He.Fa} {fn : List He.DefD} {da : List DefA} {more : PySem.W.Frag → List Bool} {K : PySem.W.Frag}
theorem SaysO.b (c : SaysO fa fn da more K) : ((He.obsD fa fn K).1 && ((da.all fun d => d.ok K) && (more K).all id)) = true := congrArg (fun z : AlO => z.1.1) c
theorem SaysO.says (c : SaysO fa fn da more K) : He.SaysD fa fn K := by
  have h1 := (ba c.b).1
  have h2 : (He.obsD fa fn K).2 = (He.valD fn).2 := congrArg (fun z : AlO => z.1.2) c
  exact Prod.ext h1 h2
theorem SaysO.moreAll (c : SaysO fa fn da more K) : (more K).all id = true := (ba (ba c.b).2).2
theorem SaysO.daAt (c : SaysO fa fn da more K) (i : Nat) {d : DefA} (h : da[i]? = some d := by rfl) : fnA K (d.adr K) = d.val ∧ d.ok K = true := by
  have h1 := List.all_eq_true.mp (ba (ba c.b).2).1 d (List.mem_of_getElem? h)
  have e : da.map (fun d => fnA K (d.adr K)) = da.map DefA.val := congrArg (fun z : AlO => z.2) c
  have e2 : (da.map fun d => fnA K (d.adr K))[i]? = (da.map DefA.val)[i]? := by rw [e]
  rw [List.getElem?_map, List.getElem?_map, h] at e2
  exact ⟨Option.some.inj e2, h1⟩
end
/-! ### promises of methods, getters, makers -/
def OkM (P : Program) (w : World) (K : PySem.W.Frag) (mg : Str → Option Value) (base : Heap) (x m : Str) (k : Nat) (ps : List Str) (sp : Sp) : Prop :=
  ∃ fd, FnOk P w K mg base (L2.CX P w) k (ma K (ga K x) m) fd ps sp ∧ Binds K fd ps [] ∧ (m ≠ "__init__" → Meth K (ga K x) m (ma K (ga K x) m)) ∧ Cls K (ga K x)
def OkI (P : Program) (w : World) (K : PySem.W.Frag) (mg : Str → Option Value) (base : Heap) (x : Str) (k : Nat) (ps : List Str) (sp : Sp) : Prop :=
  ∃ fd, FnOk P w K mg base (L2.CX P w) k (ini x K) fd ps sp ∧ Binds K fd ps [] ∧ Mk K (ga K x) (ini x K) ∧ mg x = some (.ref (ga K x))
def OkP (P : Program) (w : World) (K : PySem.W.Frag) (mg : Str → Option Value) (base : Heap) (x f : Str) (k : Nat) (sp : Sp) : Prop :=
  ∃ fd, FnOk P w K mg base (L2.CX P w) k (gt x f K) fd ["self"] sp ∧ Binds K fd ["self"] [] ∧ PropOf K (ga K x) f (pa K x f) (gt x f K) ∧ Cls K (ga K x)
def tMethO (K : PySem.W.Frag) (x m : Str) (sp : Sp) (E : L2.St → XK) (ta : TE) (t : TA) : TE := fun σ H Q => ta σ H fun o H1 => (∃ a dx fs, o = .ref a ∧ H1 a = some (.ins (ga K x) dx fs) ∧ fs.lookup m = none) ∧ t σ H1 fun vs H2 => sp (o :: vs) H2 Q (E σ)
def tMakeO (K : PySem.W.Frag) (x : Str) (sp : Sp) (E : L2.St → XK) (t : TA) : TE := fun σ H Q => t σ H fun vs H1 => ∀ a dx, H1 a = none → H1 dx = none → dx ≠ a →
  sp (.ref a :: vs) (upd (upd H1 dx (.own a)) a (.ins (ga K x) dx [])) (fun v H2 => v = .non ∧ Q (.ref a) H2) (E σ)
def tPropO (K : PySem.W.Frag) (x : Str) (sp : Sp) (ta : TE) : TE := fun σ H Q => ta σ H fun o H1 => ∃ a dx fs, o = .ref a ∧ H1 a = some (.ins (ga K x) dx fs) ∧ sp [.ref a] H1 Q (fun _ _ _ => False)
section
variable {X : Cx} {k j : Nat} {x m f : Str} {ps : List Str} {sp : Sp} {p pos apos : Pos} {e o : Expr} {es : List Expr} {ta : TE} {t : TA} {W : WX}
theorem pe_methO {pl : Sem Bool} (F : OkM X.prog X.w X.K X.mg X.base x m k ps sp) (hr : Room k X.A) (tk : Takes X W) (he : PE X o ta) (ha : PA X (e :: es) t) (hm : m ≠ "__init__" := by decide)
    (hst : starEach (e :: es) X.env = (false, eval e X.env) :: starEach es X.env := by rfl) (hpl : (backTo pos (starEach es X.env)).any (·.1) = false := by rfl)
    (ht : eval (.Call (.Attribute o m apos) (e :: es) [] pos) X.env = (do
      let ov ← eval o X.env
      standAt apos.atName
      let (f, first) ← holding [ov] (getMethod ov m pl)
      callWith pos f first (backTo pos (starEach (e :: es) X.env)) (backToKw pos (keywordEach [] X.env))) := by rfl) :
    PE X (.Call (.Attribute o m apos) (e :: es) [] pos) (tMethO X.K x m sp (WE W) ta t) := by
  refine ⟨fun pins s σ H Q I h => ?_⟩
  obtain ⟨fd, F, hb, hme, c⟩ := F
  refine PySem.W.methodCall_KW (pl := pl) (thn (he.run pins s σ H _ I h) fun u s1 ⟨x, H1, I1, rx, ⟨a, dx, fs, ex, ea, l⟩, q⟩ => ?_) ht
  subst ex
  obtain rfl : u = Value.ref a := rx
  refine getmeth_ok I1 ea c (hme hm) l ?_
  refine PySem.W.callWith_K (first := [.ref a]) (h₀ := X.base) I.ok.mod.kin (hme hm).kp (thn (ha.run pos pins s1 σ H1 _ I1 q) fun us s2 ⟨vs, H2, I2, r, q2⟩ => ⟨I2.kIn, ?_⟩) hst hpl
  exact run_fnS (us := .ref a :: us) (vs := .ref a :: vs) (E := WE W) F hr hb (passAt tk σ) I2 (.cons rfl r) q2
theorem pe_methO0 {pl : Sem Bool} (F : OkM X.prog X.w X.K X.mg X.base x m k ps sp) (hr : Room k X.A) (tk : Takes X W) (he : PE X o ta) (hm : m ≠ "__init__" := by decide)
    (ht : eval (.Call (.Attribute o m apos) [] [] pos) X.env = (do
      let ov ← eval o X.env
      standAt apos.atName
      let (f, first) ← holding [ov] (getMethod ov m pl)
      callWith pos f first (backTo pos (starEach [] X.env)) (backToKw pos (keywordEach [] X.env))) := by rfl) :
    PE X (.Call (.Attribute o m apos) [] [] pos) (tMethO X.K x m sp (WE W) ta tNil) := by
  refine ⟨fun pins s σ H Q I h => ?_⟩
  obtain ⟨fd, F, hb, hme, c⟩ := F
  refine PySem.W.methodCall_KW (pl := pl) (thn (he.run pins s σ H _ I h) fun u s1 ⟨x, H1, I1, rx, ⟨a, dx, fs, ex, ea, l⟩, q⟩ => ?_) ht
  subst ex
  obtain rfl : u = Value.ref a := rx
  refine getmeth_ok I1 ea c (hme hm) l ?_
  exact PySem.W.callWith_K0 (first := [.ref a]) I1.kIn (hme hm).kp (run_fnS (us := [.ref a]) (vs := [.ref a]) (E := WE W) F hr hb (passAt tk σ) I1 (.cons rfl .nil) q)
theorem run_makeO {pins : List (Addr × Obj)} {σ : L2.St} {H : Hp} {s : Shared} {Q : VK} {us : List Value} {vs : List V} {C f : Addr} {fd : FuncData} (M : Mk X.K C f) (F : FnOk X.prog X.w X.K X.mg X.base (L2.CX X.prog X.w) k f fd ps sp) (hr : Room (k + 1) X.A) (hb : Binds X.K fd ps [])
    (tk : Takes X W) (I : Inv X pins σ H s) (r : Vals vs us)
    (h : ∀ x dx, H x = none → H dx = none → dx ≠ x → sp (.ref x :: vs) (upd (upd H dx (.own x)) x (.ins C dx [])) (fun v H2 => v = .non ∧ Q (.ref x) H2) (WE W σ)) :
    wpAny (model X.prog X.w) X.A (call (.ref C) us) (EP X pins σ Q) X.xe s := by
  have hq := h (s.heap.objs.size + 1) s.heap.objs.size (I.hok.fresh (Nat.le_succ _)) (I.hok.fresh (Nat.le_refl _)) (Nat.ne_of_lt (Nat.lt_succ_self _))
  have I2 := Inv.made (C := C) I
  have r2 : Vals (V.ref (s.heap.objs.size + 1) :: vs) (Value.ref (s.heap.objs.size + 1) :: us) := .cons rfl r
  have hl : (Value.ref (s.heap.objs.size + 1) :: us).length = ps.length := by
    have e := r2.length
    rw [F.len _ _ _ _ hq] at e
    exact e.symm
  have hb2 : ∀ (s : Shared) (us : List Value), X.K.In s.heap → us.length = ps.length → BindsTo s fd ⟨us, []⟩ (ps.zip us) := fun s us k hl => by
    have q := hb s us k (by rw [List.append_nil]; exact hl)
    rwa [List.append_nil] at q
  refine wpAny_call (make_map (f := f) I.kIn M.makes M.init (beq_iff_eq.mp M.fn) (codeAny_mono (F.run _ X.stack _ _ ⟨Value.ref (s.heap.objs.size + 1) :: us, []⟩ (Value.ref (s.heap.objs.size + 1) :: us) _ _ (WE W σ) (hr.make C us [])
    (I2.env0.make C us []) (hb2 _ _ I2.kIn hl) r2 hq) fun r s' hq' => ?_))
  cases r with
  | error e => exact passAt tk σ pins _ _ e s' I2 hq'
  | ok fl =>
    cases fl with
    | ret u =>
      obtain ⟨v, H', I3, rv, ev, q3⟩ := I2.after hq'
      subst ev
      exact ⟨rv, ⟨V.ref (s.heap.objs.size + 1), H', I3, rfl, q3⟩⟩
    | next => exact False.elim hq'
    | brk => exact False.elim hq'
    | cont => exact False.elim hq'
theorem pe_makeO (F : OkI X.prog X.w X.K X.mg X.base x k ps sp) (hr : Room (k + 1) X.A) (hg : Gl X x) (tk : Takes X W)
    (ha : PA X (e :: es) t) (hdb : (x == ("__debug__" : Str)) = false := by decide) (he : starEach (e :: es) X.env = (false, eval e X.env) :: starEach es X.env := by rfl) (hpl : (backTo pos (starEach es X.env)).any (·.1) = false := by rfl) :
    PE X (.Call (.Name x p) (e :: es) [] pos) (tMakeO X.K x sp (WE W) t) := by
  refine ⟨fun pins s σ H Q I h => ?_⟩
  obtain ⟨fd, F, hb, M, hm⟩ := F
  refine wpAny_Call_Name_kw (ld_glob I hg hm ?_ hdb)
  refine PySem.W.callWith_K (h₀ := X.base) I.ok.mod.kin M.kp (thn (ha.run pos pins s σ H _ I h) fun us s1 ⟨vs, H1, I1, r, q⟩ => ⟨I1.kIn, ?_⟩) he hpl
  exact run_makeO M F hr hb tk I1 r q
/-- o.f, a property; nothing is raised -/
theorem pe_propO (F : OkP X.prog X.w X.K X.mg X.base x f k sp) (hr : Room (k + 1) X.A) (he : PE X o ta) (hab : attributeBase o f X.env (eval o X.env) = eval o X.env := by rfl) : PE X (.Attribute o f pos) (tPropO X.K x sp ta) := by
  obtain ⟨fd, F, hb, hp, c⟩ := F
  refine ⟨fun pins s σ H Q I h => ?_⟩
  exact (pe_prop (pos := pos) (sp := sp) (dvs := []) (ds := []) (E := fun _ _ _ => False) he c hp F hr hb .nil (fun _ _ _ _ _ _ _ c => by obtain ⟨_, _, _, _, _, _, _, _, _, _, _, _, z⟩ := c; exact z.elim) hab).run pins s σ H Q I h
/-! steps -/
variable {K : PySem.W.Frag} {σ : L2.St} {H : Hp} {Q : VK} {E : L2.St → XK} {D : Ends}
theorem g_methO (h : ta σ H fun o H1 => (∃ a dx fs, o = .ref a ∧ H1 a = some (.ins (ga K x) dx fs) ∧ fs.lookup m = none) ∧ t σ H1 fun vs H2 => sp (o :: vs) H2 Q (E σ)) : tMethO K x m sp E ta t σ H Q := h
theorem g_makeO (h : t σ H fun vs H1 => ∀ a dx, H1 a = none → H1 dx = none → dx ≠ a → sp (.ref a :: vs) (upd (upd H1 dx (.own a)) a (.ins (ga K x) dx [])) (fun v H2 => v = .non ∧ Q (.ref a) H2) (E σ)) : tMakeO K x sp E t σ H Q := h
theorem g_propO (h : ta σ H fun o H1 => ∃ a dx fs, o = .ref a ∧ H1 a = some (.ins (ga K x) dx fs) ∧ sp [.ref a] H1 Q (fun _ _ _ => False)) : tPropO K x sp ta σ H Q := h
theorem g_fld {C : Addr} (h : ta σ H fun x H1 => ∃ a C dx fs v, x = .ref a ∧ H1 a = some (.ins C dx fs) ∧ Cls K C ∧ NoAttr K C f ∧ fs.lookup f = some v ∧ Q v H1) : tFld K ta f σ H Q := h
theorem g_sFld {tv : TE} (h : tv σ H fun y H1 => ta σ H1 fun x H2 => ∃ a C dx fs, x = .ref a ∧ H2 a = some (.ins C dx fs) ∧ Cls K C ∧ NoAttr K C f ∧ fs.length < 1000 ∧ D.nx σ (upd H2 a (.ins C dx (putF f y fs)))) : sFld K ta tv f D σ H := h
end
end Tk

end

section
namespace Tk
open PySem PySem.Spec PyProof.Rows L2
open He (ga ma)
/-! ### fields of an object of a class of a known name -/
def FldOk (K : PySem.W.Frag) (x f : Str) : Prop := Cls K (ga K x) ∧ NoAttr K (ga K x) f
def tFldO (K : PySem.W.Frag) (x : Str) (ta : TE) (f : Str) : TE := fun σ H Q => ta σ H fun o H1 => ∃ a dx fs v, o = .ref a ∧ H1 a = some (.ins (ga K x) dx fs) ∧ fs.lookup f = some v ∧ Q v H1
def tFldSO (K : PySem.W.Frag) (x : Str) (ta tv : TE) (f : Str) : TS := fun D σ H => tv σ H fun y H1 => ta σ H1 fun o H2 => ∃ a dx fs, o = .ref a ∧ H2 a = some (.ins (ga K x) dx fs) ∧ fs.length < 1000 ∧ D.nx σ (upd H2 a (.ins (ga K x) dx (putF f y fs)))
section
variable {X : Cx} {x f : Str} {e o value : Expr} {ta tv : TE} {pos pos' : Pos}
theorem pe_fldO (c : FldOk X.K x f) (he : PE X e ta) (hb : attributeBase e f X.env (eval e X.env) = eval e X.env := by rfl) : PE X (.Attribute e f pos) (tFldO X.K x ta f) := by
  refine ⟨fun pins s σ H Q I h => ?_⟩
  refine attr_of hb (thn (he.run pins s σ H _ I h) fun u s1 ⟨y, H1, I1, rx, a, dx, fs, v, ex, ea, l, q⟩ => ?_)
  subst ex
  obtain rfl : u = Value.ref a := rx
  exact getattr_ok I1 ea c.1 c.2 l fun u' s2 I2 ru => ⟨v, H1, I2, ru, q⟩
theorem ps_fldO (c : FldOk X.K x f) (ha : PE X o ta) (hv : PE X value tv) (hs : swapsWith value (some (.Attribute o f pos')) pos.line X.env = pure false := by rfl) : PS X (.Assign [.Attribute o f pos'] value pos) (tFldSO X.K x ta tv f) := by
  refine ⟨fun pins s σ H D I h => ?_⟩
  refine plainObj_wpAny_Assign_Attribute (thn (hv.run pins s σ H _ I h) fun u s1 ⟨y, H1, I1, ry, q⟩ => thn (ha.run pins s1 σ H1 _ I1 q) fun ov s2 ⟨x, H2, I2, rx, a, dx, fs, ex, ea, l, q2⟩ => ?_) hs
  subst ex
  obtain rfl : ov = Value.ref a := rx
  exact setattr_ok I2 ea c.1 c.2 l ry fun s3 I3 => ⟨σ, _, I3, q2⟩
variable {K : PySem.W.Frag} {σ : L2.St} {H : Hp} {Q : VK} {D : Ends}
theorem g_fldO (h : ta σ H fun o H1 => ∃ a dx fs v, o = .ref a ∧ H1 a = some (.ins (ga K x) dx fs) ∧ fs.lookup f = some v ∧ Q v H1) : tFldO K x ta f σ H Q := h
theorem g_fldSO (h : tv σ H fun y H1 => ta σ H1 fun o H2 => ∃ a dx fs, o = .ref a ∧ H2 a = some (.ins (ga K x) dx fs) ∧ fs.length < 1000 ∧ D.nx σ (upd H2 a (.ins (ga K x) dx (putF f y fs)))) : tFldSO K x ta tv f D σ H := h
end
/-! ### promises of defs by address -/
section
variable {P : Program} {w : World} {K : PySem.W.Frag} {mg : Str → Option Value} {base : Heap} {x m : Str} {st : Stmt} {N ps : List Str} {k : Nat} {sp : Sp} {t : XK → TS}
theorem fn_mk {nm q : Str} {f : Addr} (F : ∃ fd, FunD K nm q (defArgs st) (defBody st) (defScope st) [] [] f fd) (S : FnScope N ps (defScope st))
    (hb : ∀ (kV doc pm : Value) (an : Option Addr) (cdv ct : Value) (us : List Value), us.length = ps.length → bindArgs (PySem.W.fnOf nm q (defArgs st) (defBody st) (defScope st) .none kV doc pm an cdv ct) ⟨us, []⟩ = pure (ps.zip us))
    (hd : ∀ (cdv : Value) (A : Around) (outer : List Env) (s : Shared) (H : Hp) (E : XK), Room k (A.deeper (envOfC q (defScope st) s.heap.objs.size f cdv)) → PSs (cxOf (L2.CX P w) P w K mg base N q (defScope st) f cdv A outer s H E) (defBody st) (t E))
    (hp : ∀ (vs : List V) (H : Hp) (Q : VK) (E : XK), vs.length = ps.length → sp vs H Q E → t E { nx := fun _ H' => Q .non H', rt := Q } (start N vs) H) : ∃ fd, FnOk P w K mg base (L2.CX P w) (k + 1) f fd ps (spL ps.length sp) ∧ Binds K fd ps [] := by
  obtain ⟨fd, F⟩ := F
  exact ⟨fd, FunD.ok F S (fun vs H Q E h => h.1) (fun cdv A outer s H vs Q E hr h => ⟨t E, hd cdv A outer s H E hr, hp vs H Q E h.1 h.2⟩), FunD.bindsN F hb⟩
theorem OkI.mk (h : ∃ fd, FnOk P w K mg base (L2.CX P w) k (ini x K) fd ps sp ∧ Binds K fd ps []) (M : Mk K (ga K x) (ini x K)) (hm : mg x = some (.ref (ga K x))) : OkI P w K mg base x k ps sp :=
  let ⟨fd, h1, h2⟩ := h; ⟨fd, h1, h2, M, hm⟩
theorem OkM.mk (h : ∃ fd, FnOk P w K mg base (L2.CX P w) k (ma K (ga K x) m) fd ps sp ∧ Binds K fd ps []) (M : Meth K (ga K x) m (ma K (ga K x) m)) (c : Cls K (ga K x)) : OkM P w K mg base x m k ps sp :=
  let ⟨fd, h1, h2⟩ := h; ⟨fd, h1, h2, fun _ => M, c⟩
theorem OkP.mk (h : ∃ fd, FnOk P w K mg base (L2.CX P w) k (gt x m K) fd ["self"] sp ∧ Binds K fd ["self"] []) (M : PropOf K (ga K x) m (pa K x m) (gt x m K)) (c : Cls K (ga K x)) : OkP P w K mg base x m k sp :=
  let ⟨fd, h1, h2⟩ := h; ⟨fd, h1, h2, M, c⟩
end
/-! ### tests -/
section
variable {A B : Prop}
theorem iteD {p : Prop} [Decidable p] (h1 : p → A) (h2 : ¬ p → B) : if decide p = true then A else B := by
  by_cases h : p
  · rw [if_pos (decide_eq_true h)]
    exact h1 h
  · rw [if_neg (by rw [decide_eq_false h]; exact Bool.false_ne_true)]
    exact h2 h
theorem iteDN {p : Prop} [Decidable p] (h1 : ¬ p → A) (h2 : p → B) : if (!decide p) = true then A else B := by
  by_cases h : p
  · rw [if_neg (by rw [decide_eq_true h]; exact Bool.false_ne_true)]
    exact h2 h
  · rw [if_pos (by rw [decide_eq_false h]; rfl)]
    exact h1 h
theorem iteB {b : Bool} (h1 : b = true → A) (h2 : b = false → B) : if b = true then A else B := by
  cases b with
  | true => exact iteT (h1 rfl)
  | false => exact iteF (h2 rfl)
theorem iteBN {b : Bool} (h1 : b = false → A) (h2 : b = true → B) : if (!b) = true then A else B := by
  cases b with
  | true => exact iteF (h2 rfl)
  | false => exact iteT (h1 rfl)
end
/-! ### a for over data -/
/-- a for over n things that tell the list l: Pv by the turn, the slots, the heap -/
theorem for_fm {α : Type} {J : It} {n : Nat} {G : Hp → Prop} {Y : Nat → Hp → V → Hp → Prop} (w : Walk J n G Y) (l : List α) (hl : l.length = n) {g : TG} {tb : TS} {nx : L2.St → Hp → Prop} {rt : VK} {σ : L2.St} {H : Hp} (Pv : Nat → L2.St → Hp → Prop) (h0 : Pv 0 σ H)
    (hG : ∀ i σ' H', Pv i σ' H' → G H')
    (hs : ∀ i z x σ' H1 H', l[i]? = some z → Pv i σ' H1 → Y i H1 x H' → g x σ' H' fun σ2 H2 => tb { nx := Pv (i + 1), rt := rt, bk := nx, ct := Pv (i + 1) } σ2 H2) (hd : ∀ σ' H', Pv l.length σ' H' → nx σ' H') :
    ∃ W : Nat → Nat → L2.St → Hp → Prop, (∃ m, W 0 m σ H) ∧ ∀ i m σ H, W i m σ H →
      (J.stop i H ∧ nx σ H) ∨ (J.go i H ∧ ∃ N : L2.St → Hp → Prop, (∀ σ' H', N σ' H' → ∃ m', m' < m ∧ W (i + 1) m' σ' H') ∧ ∀ x H', J.yld i H x H' → g x σ H' fun σ2 H2 => tb { nx := N, rt := rt, bk := nx, ct := N } σ2 H2) := by
  subst hl
  exact for_it (D := { nx := nx, rt := rt, bk := nx, ct := nx }) w Pv h0 (fun i σ' H' _ p => hG i σ' H' p) (fun i x σ' H1 H' hi p y => hs i l[i] x σ' H1 H' (List.getElem?_eq_getElem hi) p y) hd
end Tk

end

section
namespace Tk
open PySem PySem.Spec PyProof.Rows L2
open He (ga ma)
/-! ### membership in flat sequences -/
theorem flat_ints : ∀ ns : List Int, (ns.map V.int).all flatV = true := fun ns => List.all_eq_true.mpr fun v hv => by
  obtain ⟨n, _, rfl⟩ := List.mem_map.mp hv
  rfl
theorem flat_strs : ∀ ns : List Str, (ns.map V.str).all flatV = true := fun ns => List.all_eq_true.mpr fun v hv => by
  obtain ⟨n, _, rfl⟩ := List.mem_map.mp hv
  rfl
theorem flat_bls : ∀ ns : List Bool, (ns.map V.bl).all flatV = true := fun ns => List.all_eq_true.mpr fun v hv => by
  obtain ⟨n, _, rfl⟩ := List.mem_map.mp hv
  rfl
theorem inV_int (z : Int) (ns : List Int) : inV (.int z) (ns.map V.int) = decide (z ∈ ns) := by
  unfold inV
  rw [List.any_map, Bool.eq_iff_iff, List.any_eq_true, decide_eq_true_iff]
  constructor
  · rintro ⟨a, ha, e⟩
    have e2 : a = z := by simpa [eqV] using e
    rw [← e2]; exact ha
  · intro h
    exact ⟨z, h, by simp [eqV]⟩
theorem inV_str (z : Str) (ns : List Str) : inV (.str z) (ns.map V.str) = decide (z ∈ ns) := by
  unfold inV
  rw [List.any_map, Bool.eq_iff_iff, List.any_eq_true, decide_eq_true_iff]
  constructor
  · rintro ⟨a, ha, e⟩
    have e2 : a = z := by simpa [eqV] using e
    rw [← e2]; exact ha
  · intro h
    exact ⟨z, h, by simp [eqV]⟩
theorem inV_bl (z : Bool) (ns : List Bool) : inV (.bl z) (ns.map V.bl) = decide (z ∈ ns) := by
  unfold inV
  rw [List.any_map, Bool.eq_iff_iff, List.any_eq_true, decide_eq_true_iff]
  constructor
  · rintro ⟨a, ha, e⟩
    have e2 : a = z := by simpa [eqV] using e
    rw [← e2]; exact ha
  · intro h
    exact ⟨z, h, by simp [eqV]⟩
section
variable {K : PySem.W.Frag} {H : Hp} {Q : VK}
theorem r_inT {x : V} {p : Addr} {xs : List V} (h : SqT K H p xs) (fx : flatV x = true) (fs : xs.all flatV = true) (q : Q (.bl (inV x xs)) H) : rInA K x (.ref p) H Q := .inl ⟨p, xs, rfl, .inr h, fx, fs, q⟩
theorem r_inL {x : V} {p : Addr} {xs : List V} (h : SqL K H p xs) (fx : flatV x = true) (fs : xs.all flatV = true) (q : Q (.bl (inV x xs)) H) : rInA K x (.ref p) H Q := .inl ⟨p, xs, rfl, .inl h, fx, fs, q⟩
theorem r_notInT {x : V} {p : Addr} {xs : List V} (h : SqT K H p xs) (fx : flatV x = true) (fs : xs.all flatV = true) (q : Q (.bl (!inV x xs)) H) : rNotInA K x (.ref p) H Q := .inl ⟨p, xs, rfl, .inr h, fx, fs, q⟩
theorem r_notInL {x : V} {p : Addr} {xs : List V} (h : SqL K H p xs) (fx : flatV x = true) (fs : xs.all flatV = true) (q : Q (.bl (!inV x xs)) H) : rNotInA K x (.ref p) H Q := .inl ⟨p, xs, rfl, .inl h, fx, fs, q⟩
theorem r_inTs {z : Str} {v : V} {ns : List Str} (h : Tp K H v (.tuple (ns.map PyData.str))) (q : Q (.bl (decide (z ∈ ns))) H) : rInA K (.str z) v H Q := by
  obtain ⟨a, xs, rfl, hs, t⟩ := h.tupi
  rw [t.of_strs] at hs
  exact r_inT hs rfl (flat_strs ns) (by rw [inV_str]; exact q)
theorem r_notInTs {z : Str} {v : V} {ns : List Str} (h : Tp K H v (.tuple (ns.map PyData.str))) (q : Q (.bl (!decide (z ∈ ns))) H) : rNotInA K (.str z) v H Q := by
  obtain ⟨a, xs, rfl, hs, t⟩ := h.tupi
  rw [t.of_strs] at hs
  exact r_notInT hs rfl (flat_strs ns) (by rw [inV_str]; exact q)
theorem r_inTi {z : Int} {v : V} {ns : List Int} (h : Tp K H v (.tuple (ns.map PyData.int))) (q : Q (.bl (decide (z ∈ ns))) H) : rInA K (.int z) v H Q := by
  obtain ⟨a, xs, rfl, hs, t⟩ := h.tupi
  rw [t.of_ints] at hs
  exact r_inT hs rfl (flat_ints ns) (by rw [inV_int]; exact q)
theorem r_inLi {z : Int} {a : Addr} {ns : List Int} (h : LsD K H a (ns.map PyData.int)) (q : Q (.bl (decide (z ∈ ns))) H) : rInA K (.int z) (.ref a) H Q := by
  obtain ⟨xs, hs, t⟩ := h
  rw [t.of_ints] at hs
  exact r_inL (SqL.of hs) rfl (flat_ints ns) (by rw [inV_int]; exact q)
theorem r_inLs {z : Str} {a : Addr} {ns : List Str} (h : LsD K H a (ns.map PyData.str)) (q : Q (.bl (decide (z ∈ ns))) H) : rInA K (.str z) (.ref a) H Q := by
  obtain ⟨xs, hs, t⟩ := h
  rw [t.of_strs] at hs
  exact r_inL (SqL.of hs) rfl (flat_strs ns) (by rw [inV_str]; exact q)
theorem r_inLb {z : Bool} {a : Addr} {ns : List Bool} (h : LsD K H a (ns.map PyData.bool)) (q : Q (.bl (decide (z ∈ ns))) H) : rInA K (.bl z) (.ref a) H Q := by
  obtain ⟨xs, hs, t⟩ := h
  rw [t.of_bls] at hs
  exact r_inL (SqL.of hs) rfl (flat_bls ns) (by rw [inV_bl]; exact q)
end
/-! ### two writes at one place -/
theorem upd_upd {H : Hp} {a : Addr} {o u : HO} : upd (upd H a o) a u = upd H a u := by
  funext b
  by_cases h : b = a
  · rw [h, upd_same, upd_same]
  · rw [upd_ne h, upd_ne h, upd_ne h]
end Tk

end

section
namespace Tk
open PySem PySem.Spec PyProof.Rows L2 RZ StX
open He (ga ma)
/-! ### == by the class's own __eq__ -/
def rEqOwn (K : PySem.W.Frag) (x : Str) (sp : Sp) : R2 := fun u v H Q => ∃ a dx fs, u = .ref a ∧ H a = some (.ins (ga K x) dx fs) ∧ ((∃ b dy gs, v = .ref b ∧ H b = some (.ins (ga K x) dy gs)) ∨ ∃ b xs, v = .ref b ∧ SqL K H b xs) ∧
  sp [u, v] H (fun w H' => ∃ k, w = .bl k ∧ Q w H') (fun _ _ _ => False)
theorem notFirst_list {K : PySem.W.Frag} {C : Addr} : PySem.W.notFirst K C (.type "list") = true := by
  unfold PySem.W.notFirst PySem.W.subIn
  simp
  exact ⟨[.type "list", .type "object"], by decide +kernel, by simp⟩
theorem op_eqOwn {X : Cx} {x : Str} {k : Nat} {ps : List Str} {sp : Sp} (F : OkM X.prog X.w X.K X.mg X.base x "__eq__" k ps sp) (hr : Room k X.A) : OpR X (compareOp .Eq) (rEqOwn X.K x sp) := by
  obtain ⟨fd, F, hb, hm, c⟩ := F
  have hm := hm (by decide)
  intro pins s σ H u v u' v' Q I rx ry hq
  obtain ⟨a, dx, fs, rfl, ha, hv, hsp⟩ := hq
  cases rx
  obtain ⟨mA, J, _⟩ := ins_get I.hok ha
  obtain ⟨od, J, _⟩ := J.look
  obtain ⟨m, hF⟩ := I.fr
  show wpAny (model X.prog X.w) X.A (richCompare .Eq (.ref a) v') (EP X pins σ Q) X.xe s
  obtain ⟨tb, h1, h2⟩ : ∃ tb, PySem.W.Looks (model X.prog X.w) s.heap (typeOf v') tb ∧ PySem.W.notFirst X.K (ga X.K x) tb = true := by
    rcases hv with ⟨b, dy, gs, rfl, hb'⟩ | ⟨b, xs, rfl, hb'⟩
    · cases ry
      obtain ⟨mB, J', _⟩ := ins_get I.hok hb'
      obtain ⟨od', J', _⟩ := J'.look
      exact ⟨.ref (ga X.K x), J'.type, by simp [PySem.W.notFirst]⟩
    · cases ry
      obtain ⟨its, r, p, z⟩ := I.list hb'
      obtain ⟨o, ho, hc, _⟩ := p.isList
      exact ⟨.type "list", hc ▸ (PySem.W.Looks.ld ho).andThen .now, notFirst_list⟩
  refine PySem.W.cmp_K (op := .Eq) (tb := tb) (hr.units0) hF I.ok.mod.kin J h1 h2 hm.at_ hm.fn ?_
  have hl := F.len _ _ _ _ hsp
  have r2 : Vals [V.ref a, v] [Value.ref a, v'] := .cons rfl (.cons ry .nil)
  refine wpAny_call (codeAny_mono (F.run X.A X.stack s H ⟨[.ref a, v'], []⟩ [.ref a, v'] [.ref a, v] _ _ hr I.env0 (by
    have := hb s [.ref a, v'] I.kIn (by simpa using hl)
    simpa using this) r2 hsp) fun r s' hq => ?_)
  cases r with
  | error e =>
    obtain ⟨_, _, _, _, _, _, _, _, _, _, _, _, z⟩ := hq
    exact z.elim
  | ok fl =>
    cases fl with
    | ret w =>
      obtain ⟨z, H', I', rz, k, ez, ex⟩ := I.after hq
      subst ez
      cases rz
      exact ⟨.bl k, H', I', rfl, ex⟩
    | next => exact False.elim hq
    | brk => exact False.elim hq
    | cont => exact False.elim hq
theorem r_eqOwn {K : PySem.W.Frag} {x : Str} {sp : Sp} {a dx : Addr} {fs : List (Str × V)} {v : V} {H : Hp} {Q : VK} (ha : H a = some (.ins (ga K x) dx fs)) (hv : (∃ b dy gs, v = .ref b ∧ H b = some (.ins (ga K x) dy gs)) ∨ ∃ b xs, v = .ref b ∧ SqL K H b xs)
    (h : sp [.ref a, v] H (fun w H' => ∃ k, w = .bl k ∧ Q w H') (fun _ _ _ => False)) : rEqOwn K x sp (.ref a) v H Q := ⟨a, dx, fs, rfl, ha, hv, h⟩
/-! ### isinstance of an own class -/
structure IsiOk (K : PySem.W.Frag) (x : Str) : Prop where
  c : Cls K (ga K x)
  ha : PySem.W.findIn K (.ref (ga K x)) "__class__" = some (some (.builtin "object.__class__"))
  hn : PySem.W.specialIn K (.builtin "object.__class__") "__get__" = some (some (.builtin "getset_descriptor.__get__"))
  ht : PySem.W.takesIn K (.builtin "object.__class__") = some true
  hm : PySem.W.mroIn K (ga K x) (.type "object") = some true
  hk : ((PySem.W.clsIn K (ga K x)).isSome && PySem.W.typeIn K (.ref (ga K x)) == some (.type "type")) = true
def isiB (K : PySem.W.Frag) (x : Str) : Bool := He.eqO (PySem.W.findIn K (.ref (ga K x)) "__class__") (some (some (.builtin "object.__class__"))) && (He.eqO (PySem.W.specialIn K (.builtin "object.__class__") "__get__") (some (some (.builtin "getset_descriptor.__get__"))) &&
  (decide (PySem.W.takesIn K (.builtin "object.__class__") = some true) && (decide (PySem.W.mroIn K (ga K x) (.type "object") = some true) && ((PySem.W.clsIn K (ga K x)).isSome && PySem.W.typeIn K (.ref (ga K x)) == some (.type "type")))))
theorem isiB_ok {K : PySem.W.Frag} {x : Str} (c : Cls K (ga K x)) (h : isiB K x = true) : IsiOk K x := by
  obtain ⟨h1, h⟩ := He.ba h
  obtain ⟨h2, h⟩ := He.ba h
  obtain ⟨h3, h⟩ := He.ba h
  obtain ⟨h4, h5⟩ := He.ba h
  exact ⟨c, He.eqO_ok h1, He.eqO_ok h2, of_decide_eq_true h3, of_decide_eq_true h4, h5⟩
section
variable {K : PySem.W.Frag} {x : Str} {H : Hp} {Q : VK}
theorem r_isi_own (i : IsiOk K x) {a dx : Addr} {fs : List (Str × V)} (ha : H a = some (.ins (ga K x) dx fs)) (q : Q (.bl true) H) : rIsi K [.ref a, .ref (ga K x)] H Q :=
  ⟨_, _, _, _, true, rfl, .own _, .base (.ins ha i.c i.ha i.hn i.ht i.hm), by unfold PySem.W.kitOne; rw [if_pos (beq_self_eq_true _)], q⟩
theorem subIn_ty {T : String} {C : Addr} (h : ((fastBuiltinMro T).map fun l => l.all fun v => match v with
    | .type _ => true
    | _ => false) = some true) : PySem.W.subIn K (.type T) (.ref C) = some false := by
  show (fastBuiltinMro T).map (·.contains (.ref C)) = some false
  cases e : fastBuiltinMro T with
  | none => rw [e] at h; cases h
  | some l =>
    rw [e] at h
    have h' : (l.all fun v => match v with
    | .type _ => true
    | _ => false) = true := Option.some.inj h
    rw [Option.map_some]
    congr 1
    rw [Bool.eq_false_iff]
    intro hc
    have := List.all_eq_true.mp h' (.ref C) (by simpa using hc)
    cases this
theorem r_isi_other (i : IsiOk K x) {v : V} {n : Ty} (h : AnyV K H v n) (q : Q (.bl false) H) : rIsi K [v, .ref (ga K x)] H Q := by
  refine ⟨_, _, _, _, false, rfl, .own _, h.ty, ?_, q⟩
  unfold PySem.W.kitOne PySem.W.kitCls
  rw [if_neg (by simp)]
  show (if _ then PySem.W.subIn K (.type n.name) (.ref (ga K x)) else none) = _
  rw [if_pos i.hk]
  exact subIn_ty (by cases n <;> decide +kernel)
end
theorem szle {n : Nat} (h : Nat.ble n 1000 = true) : n ≤ sizeLine := by
  rw [sizeLine_eq]
  exact Nat.le_trans (Nat.le_of_ble_eq_true h) (by decide)
section
variable {H : Hp} {xs : List V} {R : Addr → Prop}
/-- a new short tuple, list -/
theorem g_nT (h : ∀ p, H p = none → Fr [] H (upd H p (.tup xs)) → upd H p (.tup xs) p = some (.tup xs) → R p) (hs : Nat.ble xs.length 1000 = true := by rfl) : xs.length ≤ sizeLine ∧ ∀ p, H p = none → R p := g_newT (szle hs) h
theorem g_nL (h : ∀ p, H p = none → Fr [] H (upd H p (.lst xs)) → upd H p (.lst xs) p = some (.lst xs) → R p) (hs : Nat.ble xs.length 1000 = true := by rfl) : xs.length ≤ sizeLine ∧ ∀ p, H p = none → R p := g_newL (szle hs) h
end
/-! ### texts, lists -/
def rJoin (K : PySem.W.Frag) : V → List V → Hp → VK → Prop := fun x xs H Q => ∃ a p, ∃ ys : List Str, x = .str a ∧ xs = [.ref p] ∧ (SqL K H p (ys.map V.str) ∨ SqT K H p (ys.map V.str)) ∧
  (ys.map (·.length)).sum + ys.length * a.length ≤ 16777216 ∧ Q (.str (Txt.join a ys)) H
def rSplit : V → List V → Hp → VK → Prop := fun x xs H Q => ∃ a b, x = .str a ∧ xs = [.str b] ∧ (b.length == 0) = false ∧ a.length + 2 ≤ sizeLine ∧ rNewStrs (Txt.split a b) H Q
def rIntA : List V → Hp → VK → Prop := fun xs H Q => rInt1 xs H Q ∨ rIntS xs H Q
theorem call_intA {X : Cx} : CallR X (.type "int") rIntA := by
  intro pins s σ H vs us Q I r h
  rcases h with h | h
  · exact call_int1A pins s σ H vs us Q I r h
  · exact call_intS pins s σ H vs us Q I r h
section
variable {K : PySem.W.Frag} {σ : L2.St} {H : Hp} {Q : VK}
theorem g_m1 {r : V → List V → Hp → VK → Prop} {to te : TE} (h : to σ H fun x H1 => (∃ a, x = .str a) ∧ te σ H1 fun y H2 => r x [y] H2 Q) : tM1 r to te σ H Q := h
theorem g_isS {z : Str} {A : Prop} (h : A) : (∃ a, V.str z = .str a) ∧ A := ⟨⟨z, rfl⟩, h⟩
theorem g_star {te : TE} {t : TA} {R : List V → Hp → Prop} (h : te σ H fun x H1 => ∃ p xs, x = V.ref p ∧ (SqT K H1 p xs ∨ SqL K H1 p xs) ∧ t σ H1 fun ys H2 => R (xs ++ ys) H2) : tStar K te t σ H R := h
theorem g_bm {T : String} {r : V → List V → Hp → VK → Prop} {to : TE} {t : TA} (h : to σ H fun x H1 => tyV K T x H1 ∧ t σ H1 fun xs H2 => r x xs H2 Q) : tBM K T r to t σ H Q := h
theorem g_bm0 {T : String} {r : V → List V → Hp → VK → Prop} {to : TE} (h : to σ H fun x H1 => tyV K T x H1 ∧ r x [] H1 Q) : tBM0 K T r to σ H Q := h
theorem r_tyL {a : Addr} {xs : List V} (h : SqL K H a xs) : tyV K "list" (.ref a) H := .inl ⟨rfl, xs, h⟩
theorem LsD.sq {a : Addr} {ds : List PyData} (h : LsD K H a ds) : ∃ xs, SqL K H a xs := let ⟨xs, h, _⟩ := h; ⟨xs, SqL.of h⟩
theorem LsD.ty {a : Addr} {ds : List PyData} (h : LsD K H a ds) : tyV K "list" (.ref a) H := let ⟨_, h⟩ := h.sq; r_tyL h
theorem r_join {z : Str} {p : Addr} {ys : List Str} (h : LsD K H p (ys.map PyData.str)) (hz : (ys.map (·.length)).sum + ys.length * z.length ≤ 16777216) (q : Q (.str (Txt.join z ys)) H) : rJoin K (.str z) [.ref p] H Q := by
  obtain ⟨xs, hs, t⟩ := h
  rw [t.of_strs] at hs
  exact ⟨z, p, ys, rfl, rfl, .inl (SqL.of hs), hz, q⟩
theorem r_split {z y : Str} (hy : (y.length == 0) = false) (hz : z.length + 2 ≤ sizeLine) (q : ∀ p H', H p = none → Fr [] H H' → LsD K H' p ((Txt.split z y).map PyData.str) → Q (.ref p) H') : rSplit (.str z) [.str y] H Q :=
  ⟨z, y, rfl, rfl, hy, hz, fun p n => q p _ n (Fr.new n) ⟨_, upd_same, TpL.strs _⟩⟩
theorem r_appendD {l : Addr} {ds : List PyData} {v : V} {d : PyData} (h : LsD K H l ds) (hv : Tp K H v d) (hz : ds.length < 16777216) (q : ∀ H', Fr [l] H H' → LsD K H' l (ds ++ [d]) → Q .non H') : rAppend (.ref l) [v] H Q := by
  obtain ⟨xs, hs, t⟩ := h
  have F : Fr [l] H (upd H l (.lst (xs ++ [v]))) := Fr.put hs (fun _ z => by cases z) (fun _ _ z => by cases z) (by simp)
  exact ⟨l, xs, v, rfl, rfl, hs, by rw [t.length, sizeLine_eq]; exact hz, q _ F ⟨_, upd_same, (t.snoc hv).fr F⟩⟩
theorem r_intS {z : Str} {n : Int} (e : PySem.intText? z = some n) (l : z.length ≤ 640) (q : Q (.int n) H) : rIntA [.str z] H Q := .inr ⟨z, n, rfl, e, l, q⟩
theorem r_intI {i : Int} (q : Q (.int i) H) : rIntA [.int i] H Q := .inl (r_int1 q)
end
/-! ### frames over new objects -/
theorem Fr.over {S : List Addr} {H H1 H2 : Hp} {p : Addr} (n : H p = none) (F : Fr S H H1) (G : Fr (p :: S) H1 H2) : Fr S H H2 :=
  ⟨fun b o nb t h => G.keep b o (fun z => (List.mem_cons.mp z).elim (fun e => by rw [e, n] at h; cases h) nb) t (F.keep b o nb t h), fun b xs h => G.tup b xs (F.tup b xs h), fun b o u h => G.frz b o u (F.frz b o u h), fun b h => G.dom b (F.dom b h)⟩
theorem Fr.over0 {H H1 H2 : Hp} {p : Addr} (n : H p = none) (F : Fr [] H H1) (G : Fr [p] H1 H2) : Fr [] H H2 := Fr.over n F G
/-! ### lists of lists -/
def LsLs (K : PySem.W.Frag) (H : Hp) (a : Addr) (ls : List (List PyData)) : Prop := ∃ xs, H a = some (.lst xs) ∧ xs.length = ls.length ∧ ∀ (j : Nat) l v, ls[j]? = some l → xs[j]? = some v → ∃ p, v = .ref p ∧ LsD K H p l
theorem LsLs.fr0 {K : PySem.W.Frag} {H H' : Hp} {a : Addr} {ls : List (List PyData)} (F : Fr [] H H') : LsLs K H a ls → LsLs K H' a ls := fun ⟨xs, h, e, r⟩ =>
  ⟨xs, F.lst0 h, e, fun j l v h1 h2 => let ⟨p, h3, h4⟩ := r j l v h1 h2; ⟨p, h3, h4.fr0 F⟩⟩
theorem LsLs.ix {K : PySem.W.Frag} {H : Hp} {a : Addr} {ls : List (List PyData)} {Q : VK} (h : LsLs K H a ls) {i : Int} {j : Nat} (ei : i = (j : Int)) {l : List PyData} (e : ls[j]? = some l) (q : ∀ p, LsD K H p l → Q (.ref p) H) : rIx K (.ref a) (.int i) H Q := by
  obtain ⟨xs, hs, hl, r⟩ := h
  obtain ⟨hj, _⟩ := List.getElem?_eq_some_iff.mp e
  have e2 : xs[j]? = some xs[j] := List.getElem?_eq_getElem (by omega)
  obtain ⟨p, ep, hp⟩ := r j l _ e e2
  subst ei
  refine r_ixL (SqL.of hs) e2 ?_
  rw [ep]
  exact q p hp
/-- a comprehension of new lists -/
theorem lc_ll {K : PySem.W.Frag} {α : Type} {J : It} {n : Nat} {G : Hp → Prop} {Y : Nat → Hp → V → Hp → Prop} (w : Walk J n G Y) (l : List α) (f : α → List PyData) (hl : l.length = n) (hn : n < 16777216) {g : TG} {te : TE} {vs : List Nat} {σ : L2.St} {H1 : Hp} {Qd : Addr → Hp → Prop}
    (hG : ∀ H', Fr [] H1 H' → G H')
    (hs : ∀ D i z x H H' (R : V → Hp → Prop), l[i]? = some z → H D ≠ none → Fr [] H1 H → Y i H x H' → (∀ p H4, H' p = none → LsD K H4 p (f z) → Fr [] H H4 → R (.ref p) H4) →
      g x (wipe σ vs) H' fun σ2 H2 => wipe σ2 vs = wipe σ vs ∧ te σ2 H2 R)
    (hYD : ∀ i H x H' D, Y i H x H' → H D ≠ none → H' D ≠ none)
    (hd : ∀ D H', H1 D = none → Fr [] H1 H' → LsLs K H' D (l.map f) → Qd D H') :
    ∀ D, H1 D = none → ∃ W : Nat → Nat → Hp → Prop, (∃ m, W 0 m (upd H1 D (.lst []))) ∧ ∀ i m H, W i m H →
      (J.stop i H ∧ Qd D H) ∨ (J.go i H ∧ ∃ Nx : Hp → Prop, (∀ H', Nx H' → ∃ m', m' < m ∧ W (i + 1) m' H') ∧ ∀ x H', J.yld i H x H' → g x (wipe σ vs) H' fun σ2 H2 => wipe σ2 vs = wipe σ vs ∧ tYes σ2 H2 fun b H3 =>
        if b = true then te σ2 H3 fun y H4 => ∃ acc, H4 D = some (.lst acc) ∧ acc.length < sizeLine ∧ Nx (upd H4 D (.lst (acc ++ [y]))) else Nx H3) := by
  subst hl
  intro D nD
  refine lc_it w (fun i H => Fr [] H1 H ∧ ∃ acc, H D = some (.lst acc) ∧ acc.length = i ∧ ∀ (j : Nat) z v, l[j]? = some z → acc[j]? = some v → ∃ p, v = .ref p ∧ p ≠ D ∧ LsD K H p (f z)) ⟨Fr.new nD, [], upd_same, rfl, fun j z v _ h => by simp at h⟩ (fun i H _ p => hG H p.1) ?_ fun H p => ?_
  · rintro i x H H' hi ⟨F1, acc, hD, hl, ht⟩ y
    have hz : l[i]? = some l[i] := List.getElem?_eq_getElem hi
    have q := hs D i l[i] x H H' (fun y H4 => ∃ acc, H4 D = some (.lst acc) ∧ acc.length < sizeLine ∧ Fr [] H1 (upd H4 D (.lst (acc ++ [y]))) ∧ ∃ acc', upd H4 D (.lst (acc ++ [y])) D = some (.lst acc') ∧ acc'.length = i + 1 ∧ ∀ (j : Nat) z v, l[j]? = some z → acc'[j]? = some v → ∃ p, v = .ref p ∧ p ≠ D ∧ LsD K (upd H4 D (.lst (acc ++ [y]))) p (f z)) hz (by rw [hD]; exact fun z => by cases z) F1 y ?_
    · exact q
    · rintro p H4 np hp F4
      have hD4 := F4.lst0 hD
      have npD : p ≠ D := fun e => hYD i H x H' D y (by rw [hD]; exact fun z => by cases z) (e ▸ np)
      have FD : Fr [D] H4 (upd H4 D (.lst (acc ++ [V.ref p]))) := Fr.put hD4 (fun _ z => by cases z) (fun _ _ z => by cases z) (by simp)
      refine ⟨acc, hD4, by rw [sizeLine_eq]; omega, Fr.over0 nD (Fr.new (o := .lst []) nD) ?_, acc ++ [V.ref p], upd_same, by rw [List.length_append]; simp [hl], fun j z v h1 h2 => ?_⟩
      · refine ⟨fun b o nb t h => ?_, fun b xs h => ?_, fun b o u h => ?_, fun b h => ?_⟩
        · have nb : b ≠ D := fun e => nb (by simp [e])
          rw [upd_ne nb] at h ⊢
          exact (F1.trans F4).keep b o (by simp) t h
        · by_cases e : b = D
          · subst e
            rw [upd_same] at h
            cases h
          · rw [upd_ne e] at h ⊢
            exact (F1.trans F4).tup b xs h
        · by_cases e : b = D
          · subst e
            rw [upd_same] at h
            cases h
          · rw [upd_ne e] at h ⊢
            exact (F1.trans F4).frz b o u h
        · by_cases e : b = D
          · rw [e, upd_same]
            exact fun z => by cases z
          · rw [upd_ne e] at h ⊢
            exact (F1.trans F4).dom b h
      · rcases Nat.lt_or_ge j acc.length with hj | hj
        · rw [List.getElem?_append_left hj] at h2
          obtain ⟨p', e1, e2, e3⟩ := ht j z v h1 h2
          exact ⟨p', e1, e2, (e3.fr0 F4).fr FD (by simpa using e2)⟩
        · rw [List.getElem?_append_right hj] at h2
          have hj2 : j = acc.length := by
            rcases Nat.eq_or_lt_of_le hj with e | e
            · exact e.symm
            · rw [List.getElem?_eq_none (by simp; omega)] at h2
              cases h2
          subst hj2
          simp at h2
          subst h2
          rw [hl, hz] at h1
          cases h1
          exact ⟨p, rfl, npD, hp.fr FD (by simpa using npD)⟩
  · obtain ⟨F1, acc, hD, hl, ht⟩ := p
    refine hd D H nD F1 ⟨acc, hD, by rw [hl, List.length_map], fun j e v h1 h2 => ?_⟩
    rw [List.getElem?_map] at h1
    cases hz : l[j]? with
    | none => rw [hz] at h1; cases h1
    | some z =>
      rw [hz] at h1
      cases h1
      obtain ⟨p, e1, _, e3⟩ := ht j z v hz h2
      exact ⟨p, e1, e3⟩
/-! ### numbers -/
section
variable {K : PySem.W.Frag} {H : Hp} {Q : VK} {i j : Int}
theorem r_mod (h : 0 < j) (q : Q (.int (i % j)) H) : rI (fun _ j => 0 < j) (fun i j => .int (i % j)) (.int i) (.int j) H Q := ⟨i, j, rfl, rfl, h, q⟩
theorem r_div (h : 0 < j ∧ j < 1073741824) (q : Q (.int (i / j)) H) : rI CDiv (fun i j => .int (i / j)) (.int i) (.int j) H Q := ⟨i, j, rfl, rfl, h, q⟩
theorem r_mulC (h : -(2 ^ 64) < j ∧ j < 2 ^ 64) (q : Q (.int (i * j)) H) : rMulA K (.int i) (.int j) H Q := r_mulI (.inr h) q
theorem r_pow {i j : Int} (h : 0 ≤ j ∧ j ≤ 1000000 ∧ i.natAbs < 2 ^ 64) (q : Q (.int (i ^ j.toNat)) H) : rI CPow (fun i j => .int (i ^ j.toNat)) (.int i) (.int j) H Q := ⟨i, j, rfl, rfl, h, q⟩
theorem r_setL {a : Addr} {xs : List V} {k : Int} {n : Nat} {v : V} {R : Hp → Prop} (h : H a = some (.lst xs)) (e : k = (n : Int)) (hn : n < xs.length) (q : R (upd H a (.lst (xs.set n v)))) : rSetL (.ref a) (.int k) v H R := by
  subst e
  refine ⟨a, xs, _, n, rfl, rfl, h, ?_, q⟩
  unfold ixN
  simp [hn]
theorem g_gSub {σ : L2.St} {to ti : TE} {rs : V → V → V → Hp → (Hp → Prop) → Prop} {v : V} {R : L2.St → Hp → Prop} (h : to σ H fun o H1 => ti σ H1 fun x H2 => rs o x v H2 fun H3 => R σ H3) : gSub to ti rs v σ H R := h
end
end Tk

end

section
/-! tables: data, plain facts -/
namespace Tk
open PySem PySem.Spec L2 RZ
/-- ascending, each once -/
def ascB : List PyData → Bool
  | .int i :: .int j :: r => decide (i < j) && ascB (.int j :: r)
  | _ => true
def isRowD : PyData → Int → Bool
  | .tuple ds, m => ds.all (fun d => isIntD d 1 m) && ascB ds
  | _, _ => false
def ltD : PyData × PyData → Bool
  | (.int i, .int j) => decide (i < j)
  | _ => false
theorem asc_zip : ∀ ds : List PyData, (ds.all (fun d => match d with | .int _ => true | _ => false) = true) → ascB ds = (ds.zip (ds.drop 1)).all ltD
  | [], _ => rfl
  | [_], _ => by simp [ascB]
  | x :: y :: r, h => by
    rw [List.all_cons, List.all_cons, Bool.and_eq_true, Bool.and_eq_true] at h
    obtain ⟨h1, h2, h3⟩ := h
    cases x with
    | int i =>
      cases y with
      | int j =>
        have ih := asc_zip (.int j :: r) (by rw [List.all_cons, h3]; rfl)
        simp only [List.drop_succ_cons, List.drop_zero] at ih ⊢
        rw [ascB, ih, List.zip_cons_cons, List.all_cons]
        rfl
      | _ => cases h2
    | _ => cases h1
/-- the wrong thing of what is no rows -/
def badRows : PyData → Option V
  | .tuple ds => if 2 ≤ ds.length ∧ ds.length ≤ 4 then (ds.findIdx? (fun d => !isRowD d ((ds.length : Int) - 1))).map (fun i => V.int (i : Nat)) else some .non
  | _ => some .non
/-- no row has 1000 items -/
def smallD : PyData → Prop
  | .tuple ds => ∀ d ∈ ds, ∀ es, d = .tuple es → es.length < 1000
  | _ => True
/-- a table -/
structure Tab where
  rows : List (List Int)
  spare : Int
  fate : Str
def rowD (r : List Int) : PyData := .tuple (r.map PyData.int)
def rowsD (rs : List (List Int)) : PyData := .tuple (rs.map rowD)
/-- its fields -/
def tabFs (v : V) (t : Tab) : List (Str × V) := [("allowed", v), ("spare", .int t.spare), ("fate", .str t.fate)]
def AtTab (K : PySem.W.Frag) (H : Hp) (a : Addr) (t : Tab) : Prop := ∃ dx v, H a = some (.ins (He.ga K "Table") dx (tabFs v t)) ∧ Tp K H v (rowsD t.rows)
theorem AtTab.fr {K : PySem.W.Frag} {S : List Addr} {H H' : Hp} {a : Addr} {t : Tab} (F : Fr S H H') (n : a ∉ S) : AtTab K H a t → AtTab K H' a t := fun ⟨dx, v, h, r⟩ => ⟨dx, v, F.ins n h, r.fr F⟩
theorem AtTab.fr0 {K : PySem.W.Frag} {H H' : Hp} {a : Addr} {t : Tab} (F : Fr [] H H') (h : AtTab K H a t) : AtTab K H' a t := h.fr F List.not_mem_nil
/-- what Table says: a table | the class and the field of the error -/
inductive TabR where
  | ok (t : Tab)
  | rows (v : V)
  | passes
  | stuck
def rowsOf : PyData → List (List Int)
  | .tuple ds => ds.map fun d => match d with
    | .tuple es => es.map fun e => match e with
      | .int i => i
      | _ => 0
    | _ => []
  | _ => []
def isFateD : PyData → Bool
  | .str z => decide (z = "loses") || decide (z = "wins")
  | _ => false
def intD : PyData → Int
  | .int i => i
  | _ => 0
def strD : PyData → Str
  | .str z => z
  | _ => ""
def tabOf (r p s : PyData) : TabR := match badRows r with
  | some v => .rows v
  | none => if isIntD p 0 1 = true then (if isFateD s = true then .ok ⟨rowsOf r, intD p, strD s⟩ else .stuck) else .passes
theorem isIntD_int {p : PyData} {lo hi : Int} (h : isIntD p lo hi = true) : ∃ i, p = .int i ∧ lo ≤ i ∧ i ≤ hi := by
  cases p with
  | int i =>
    have h' : (decide (lo ≤ i) && decide (i ≤ hi)) = true := h
    rw [Bool.and_eq_true, decide_eq_true_iff, decide_eq_true_iff] at h'
    exact ⟨i, rfl, h'⟩
  | _ => cases h
theorem isRowD_ints {d : PyData} {m : Int} (h : isRowD d m = true) : ∃ ns : List Int, d = rowD ns ∧ (∀ n ∈ ns, 1 ≤ n ∧ n ≤ m) ∧ ascB (ns.map PyData.int) = true := by
  cases d with
  | tuple ds =>
    have h' : (ds.all (fun d => isIntD d 1 m) && ascB ds) = true := h
    obtain ⟨h1, h2⟩ := Bool.and_eq_true_iff.mp h'
    have q : ∀ ds : List PyData, (ds.all (fun d => isIntD d 1 m)) = true → ∃ ns : List Int, ds = ns.map PyData.int ∧ ∀ n ∈ ns, 1 ≤ n ∧ n ≤ m := by
      intro ds
      induction ds with
      | nil => exact fun _ => ⟨[], rfl, fun n hn => by cases hn⟩
      | cons d r ih =>
        intro h
        rw [List.all_cons, Bool.and_eq_true] at h
        obtain ⟨ns, rfl, hn⟩ := ih h.2
        obtain ⟨i, rfl, hi⟩ := isIntD_int h.1
        refine ⟨i :: ns, rfl, fun n hn' => ?_⟩
        rcases List.mem_cons.mp hn' with rfl | hn'
        · exact hi
        · exact hn n hn'
    obtain ⟨ns, rfl, hn⟩ := q ds h1
    exact ⟨ns, rfl, hn, h2⟩
  | _ => cases h
theorem badRows_rows {r : PyData} (h : badRows r = none) : r = rowsD (rowsOf r) ∧ 2 ≤ (rowsOf r).length ∧ (rowsOf r).length ≤ 4 ∧ ∀ ns ∈ rowsOf r, (∀ n ∈ ns, 1 ≤ n ∧ n ≤ ((rowsOf r).length : Int) - 1) ∧ ascB (ns.map PyData.int) = true := by
  cases r with
  | tuple ds =>
    have h' : (if 2 ≤ ds.length ∧ ds.length ≤ 4 then (ds.findIdx? (fun d => !isRowD d ((ds.length : Int) - 1))).map (fun i => V.int (i : Nat)) else some .non) = none := h
    split at h'
    · rename_i hl
      have hf : ds.findIdx? (fun d => !isRowD d ((ds.length : Int) - 1)) = none := by
        cases e : ds.findIdx? (fun d => !isRowD d ((ds.length : Int) - 1)) with
        | none => rfl
        | some i => rw [e] at h'; cases h'
      rw [List.findIdx?_eq_none_iff] at hf
      have q : ∀ (m : Int) (es : List PyData), (∀ d ∈ es, (!isRowD d m) = false) → ∃ rs : List (List Int), es = rs.map rowD ∧ ∀ ns ∈ rs, (∀ n ∈ ns, 1 ≤ n ∧ n ≤ m) ∧ ascB (ns.map PyData.int) = true := by
        intro m es
        induction es with
        | nil => exact fun _ => ⟨[], rfl, fun n hn => by cases hn⟩
        | cons d r ih =>
          intro h
          obtain ⟨rs, rfl, hr⟩ := ih fun d hd => h d (List.mem_cons_of_mem _ hd)
          obtain ⟨ns, rfl, hn⟩ := isRowD_ints (m := m) (by have := h d (List.mem_cons_self ..); simpa using this)
          refine ⟨ns :: rs, rfl, fun n hn' => ?_⟩
          rcases List.mem_cons.mp hn' with rfl | hn'
          · exact hn
          · exact hr n hn'
      obtain ⟨rs, rfl, hr⟩ := q _ ds hf
      have e : rowsOf (.tuple (rs.map rowD)) = rs := by
        show (rs.map rowD).map _ = rs
        rw [List.map_map]
        have : ∀ l : List (List Int), l.map ((fun d => match d with
          | .tuple es => es.map fun e => match e with
            | .int i => i
            | _ => 0
          | _ => []) ∘ rowD) = l := by
          intro l
          induction l with
          | nil => rfl
          | cons x r ih =>
            rw [List.map_cons, ih]
            congr 1
            show (x.map PyData.int).map _ = x
            rw [List.map_map]
            have : ∀ y : List Int, y.map ((fun e => match e with
              | PyData.int i => i
              | _ => 0) ∘ PyData.int) = y := by
              intro y
              induction y with
              | nil => rfl
              | cons a b ih => rw [List.map_cons, ih]; rfl
            exact this x
        exact this rs
      rw [e]
      rw [List.length_map] at hl hr
      exact ⟨rfl, hl.1, hl.2, hr⟩
    · cases h'
  | _ => cases h
/-- data without lists or dicts -/
theorem tp_int {K : PySem.W.Frag} {H : Hp} : ∀ {xs : List V} {ns : List Int}, DaL K H xs (ns.map PyData.int) → TpL K H xs (ns.map PyData.int)
  | _, [], .nil => .nil
  | _, _ :: _, .cons (.int i) t => .cons (.int i) (tp_int t)
theorem tp_rows {K : PySem.W.Frag} {H : Hp} : ∀ {xs : List V} {rs : List (List Int)}, DaL K H xs (rs.map rowD) → TpL K H xs (rs.map rowD)
  | _, [], .nil => .nil
  | _, _ :: _, .cons (.tup h t) r => .cons (.tup h (tp_int t)) (tp_rows r)
theorem badRows_tp {K : PySem.W.Frag} {H : Hp} {x : V} {r : PyData} (hx : Da K H x r) (h : badRows r = none) : Tp K H x (rowsD (rowsOf r)) := by
  have e := (badRows_rows h).1
  rw [e] at hx
  cases hx with
  | tup h t => exact .tup h (tp_rows t)
abbrev fA : Str := "allowed"
abbrev fS : Str := "spare"
abbrev fF : Str := "fate"
theorem put1 (v : V) : putF fA v [] = [(fA, v)] := rfl
theorem put2 (v u : V) : putF fS u [(fA, v)] = [(fA, v), (fS, u)] := by
  unfold putF
  rw [if_neg (by decide)]
  rfl
theorem put3 (v u f : V) : putF fF f [(fA, v), (fS, u)] = [(fA, v), (fS, u), (fF, f)] := by
  unfold putF
  rw [if_neg (by decide)]
  unfold putF
  rw [if_neg (by decide)]
  rfl
theorem AtTab.fld {K : PySem.W.Frag} {H : Hp} {a : Addr} {t : Tab} (h : AtTab K H a t) : ∃ dx v, H a = some (.ins (He.ga K "Table") dx (tabFs v t)) ∧ Tp K H v (rowsD t.rows) ∧ (tabFs v t).lookup fA = some v ∧ (tabFs v t).lookup fS = some (V.int t.spare) ∧ (tabFs v t).lookup fF = some (V.str t.fate) := by
  obtain ⟨dx, v, h1, h2⟩ := h
  have e1 : (fS == fA) = false := by decide
  have e2 : (fF == fA) = false := by decide
  have e3 : (fF == fS) = false := by decide
  refine ⟨dx, v, h1, h2, ?_, ?_, ?_⟩ <;> simp only [tabFs, List.lookup, e1, e2, e3, beq_self_eq_true]
section
variable {K : PySem.W.Frag} {H : Hp} {a : Addr} {t : Tab} {R : V → Prop}
theorem g_tabA (h : AtTab K H a t) (q : ∀ v, Tp K H v (rowsD t.rows) → R v) : ∃ a' dx fs v, V.ref a = .ref a' ∧ H a' = some (.ins (He.ga K "Table") dx fs) ∧ List.lookup ("allowed" : Str) fs = some v ∧ R v :=
  let ⟨dx, v, e, tv, l1, _, _⟩ := h.fld; ⟨a, dx, _, v, rfl, e, l1, q v tv⟩
theorem g_tabS (h : AtTab K H a t) (q : R (.int t.spare)) : ∃ a' dx fs v, V.ref a = .ref a' ∧ H a' = some (.ins (He.ga K "Table") dx fs) ∧ List.lookup ("spare" : Str) fs = some v ∧ R v :=
  let ⟨dx, v, e, tv, _, l2, _⟩ := h.fld; ⟨a, dx, _, _, rfl, e, l2, q⟩
theorem g_tabF (h : AtTab K H a t) (q : R (.str t.fate)) : ∃ a' dx fs v, V.ref a = .ref a' ∧ H a' = some (.ins (He.ga K "Table") dx fs) ∧ List.lookup ("fate" : Str) fs = some v ∧ R v :=
  let ⟨dx, v, e, tv, _, _, l3⟩ := h.fld; ⟨a, dx, _, _, rfl, e, l3, q⟩
end
end Tk

end

section
/-! shapes of data, equality of data -/
namespace Tk
open PySem PySem.Spec L2 RZ
def Shp (n : Nat) (d : PyData) : Prop := d.canLay0 = true ∧ d.depth ≤ n
theorem canAll : ∀ {ds : List PyData}, (∀ d ∈ ds, d.canLay0 = true) → PyData.canLayAll0 ds = true
  | [], _ => by simp only [PyData.canLayAll0]
  | d :: ds, h => by
    simp only [PyData.canLayAll0]
    rw [h d (List.mem_cons_self ..), canAll fun e he => h e (List.mem_cons_of_mem _ he)]
    rfl
theorem depAll {n : Nat} : ∀ {ds : List PyData}, (∀ d ∈ ds, d.depth ≤ n) → PyData.depthAll ds ≤ n
  | [], _ => by simp only [PyData.depthAll]; exact Nat.zero_le _
  | d :: ds, h => by
    simp only [PyData.depthAll]
    exact Nat.max_le.mpr ⟨h d (List.mem_cons_self ..), depAll fun e he => h e (List.mem_cons_of_mem _ he)⟩
theorem Shp.non {n : Nat} : Shp n .none := ⟨by simp only [PyData.canLay0], by simp only [PyData.depth]; exact Nat.zero_le _⟩
theorem Shp.bool {n : Nat} {b : Bool} : Shp n (.bool b) := ⟨by simp only [PyData.canLay0], by simp only [PyData.depth]; exact Nat.zero_le _⟩
theorem Shp.int {n : Nat} {i : Int} : Shp n (.int i) := ⟨by simp only [PyData.canLay0], by simp only [PyData.depth]; exact Nat.zero_le _⟩
theorem Shp.str {n : Nat} {z : Str} (h : PyData.strOk z = true) : Shp n (.str z) := ⟨by simp only [PyData.canLay0]; exact h, by simp only [PyData.depth]; exact Nat.zero_le _⟩
theorem Shp.tup {n : Nat} {ds : List PyData} (h : ∀ d ∈ ds, Shp n d) : Shp (n + 1) (.tuple ds) := ⟨by simp only [PyData.canLay0]; exact canAll fun d hd => (h d hd).1, by simp only [PyData.depth]; exact Nat.succ_le_succ (depAll fun d hd => (h d hd).2)⟩
theorem Shp.lst {n : Nat} {ds : List PyData} (h : ∀ d ∈ ds, Shp n d) : Shp (n + 1) (.list ds) := ⟨by simp only [PyData.canLay0]; exact canAll fun d hd => (h d hd).1, by simp only [PyData.depth]; exact Nat.succ_le_succ (depAll fun d hd => (h d hd).2)⟩
theorem Shp.mono {n m : Nat} {d : PyData} (h : Shp n d) (l : n ≤ m) : Shp m d := ⟨h.1, Nat.le_trans h.2 l⟩
theorem Shp.ok {n : Nat} {d : PyData} (h : Shp n d) (l : n ≤ 64 := by decide) : SeqAt.shaped d = true := by
  unfold SeqAt.shaped
  rw [h.1, decide_eq_true (Nat.le_trans h.2 l)]
  rfl
theorem Shp.maps {n : Nat} {α : Type} {f : α → PyData} {l : List α} (h : ∀ a ∈ l, Shp n (f a)) : ∀ d ∈ l.map f, Shp n d := fun d hd => by
  obtain ⟨a, ha, rfl⟩ := List.mem_map.mp hd
  exact h a ha
theorem shp_row {r : List Int} : Shp 1 (rowD r) := .tup (Shp.maps fun _ _ => .int)
theorem shp_rows {rs : List (List Int)} : Shp 2 (rowsD rs) := .tup (Shp.maps fun _ _ => shp_row)
/-! equality -/
theorem eqv_map {α : Type} [DecidableEq α] {f : α → PyData} (h : ∀ a b, PyData.eqv (f a) (f b) = decide (a = b)) : ∀ l m : List α, PyData.eqvAll (l.map f) (m.map f) = decide (l = m)
  | [], [] => by simp [PyData.eqvAll]
  | [], _ :: _ => by simp [PyData.eqvAll]
  | _ :: _, [] => by simp [PyData.eqvAll]
  | a :: l, b :: m => by
    rw [List.map_cons, List.map_cons, PyData.eqvAll, h, eqv_map h l m, Bool.eq_iff_iff]
    simp
theorem eqv_int (i j : Int) : PyData.eqv (.int i) (.int j) = decide (i = j) := by simp [PyData.eqv, Bool.beq_eq_decide_eq]
theorem eqv_str (i j : Str) : PyData.eqv (.str i) (.str j) = decide (i = j) := by simp [PyData.eqv, Bool.beq_eq_decide_eq]
theorem eqv_bool (i j : Bool) : PyData.eqv (.bool i) (.bool j) = decide (i = j) := by simp [PyData.eqv, Bool.beq_eq_decide_eq]
theorem eqv_row (r s : List Int) : PyData.eqv (rowD r) (rowD s) = decide (r = s) := by
  unfold rowD
  rw [PyData.eqv, eqv_map eqv_int]
theorem eqv_rows (r s : List (List Int)) : PyData.eqv (rowsD r) (rowsD s) = decide (r = s) := by
  unfold rowsD
  rw [PyData.eqv, eqv_map eqv_row]
instance : DecidableEq Tab := fun a b => decidable_of_iff (a.rows = b.rows ∧ a.spare = b.spare ∧ a.fate = b.fate) (by cases a; cases b; simp)
theorem eqv_tab (t u : Tab) : PyData.eqv (.tuple [rowsD t.rows, .int t.spare, .str t.fate]) (.tuple [rowsD u.rows, .int u.spare, .str u.fate]) = decide (t = u) := by
  rw [PyData.eqv, PyData.eqvAll, PyData.eqvAll, PyData.eqvAll, PyData.eqvAll, eqv_rows, eqv_int, eqv_str, Bool.eq_iff_iff]
  cases t
  cases u
  simp
theorem isFate_ok {s : PyData} (h : isFateD s = true) : ∃ z, s = .str z ∧ (z = "loses" ∨ z = "wins") := by
  cases s with
  | str z =>
    have h' : (decide (z = "loses") || decide (z = "wins")) = true := h
    rw [Bool.or_eq_true, decide_eq_true_iff, decide_eq_true_iff] at h'
    exact ⟨z, rfl, h'⟩
  | _ => cases h
/-- a table that Table gives -/
structure Tab.Good (t : Tab) : Prop where
  len : 2 ≤ t.rows.length ∧ t.rows.length ≤ 4
  row : ∀ ns ∈ t.rows, (∀ n ∈ ns, 1 ≤ n ∧ n ≤ (t.rows.length : Int) - 1) ∧ ascB (ns.map PyData.int) = true
  spare : t.spare = 0 ∨ t.spare = 1
  fate : t.fate = "loses" ∨ t.fate = "wins"
theorem tabOf_good {r p s : PyData} {t : Tab} (h : tabOf r p s = .ok t) : t.Good ∧ r = rowsD t.rows ∧ p = .int t.spare ∧ s = .str t.fate := by
  unfold tabOf at h
  cases e : badRows r with
  | some v => rw [e] at h; cases h
  | none =>
    rw [e] at h
    have h' : (if isIntD p 0 1 = true then (if isFateD s = true then TabR.ok ⟨rowsOf r, intD p, strD s⟩ else .stuck) else .passes) = .ok t := h
    by_cases h1 : isIntD p 0 1 = true
    · rw [if_pos h1] at h'
      by_cases h2 : isFateD s = true
      · rw [if_pos h2] at h'
        obtain ⟨i, rfl, hi⟩ := isIntD_int h1
        obtain ⟨z, rfl, hz⟩ := isFate_ok h2
        cases h'
        obtain ⟨b1, b2, b3, b4⟩ := badRows_rows e
        exact ⟨⟨⟨b2, b3⟩, b4, by show i = 0 ∨ i = 1; omega, hz⟩, b1, rfl, rfl⟩
      · rw [if_neg h2] at h'
        cases h'
    · rw [if_neg h1] at h'
      cases h'
theorem strOk_loses : PyData.strOk "loses" = true := by decide +kernel
theorem strOk_wins : PyData.strOk "wins" = true := by decide +kernel
theorem Tab.Good.fateOk {t : Tab} (g : t.Good) : PyData.strOk t.fate = true := by
  rcases g.fate with h | h <;> rw [h]
  · exact strOk_loses
  · exact strOk_wins
theorem shp_tab {t : Tab} (g : t.Good) : Shp 3 (.tuple [rowsD t.rows, .int t.spare, .str t.fate]) := .tup fun d hd => by
  simp only [List.mem_cons, List.not_mem_nil, or_false] at hd
  rcases hd with rfl | rfl | rfl
  · exact shp_rows
  · exact .int
  · exact .str g.fateOk
end Tk

end

section
/-! texts of tables -/
namespace Tk
open PySem PySem.Spec L2 RZ
/-- str(i) -/
def iS (i : Int) : Str := toString i
def lineS (i : Nat) (r : List Int) : Str := Txt.join " " (iS i :: r.map iS)
def linesS (t : Tab) : List Str := ["passes " ++ iS t.spare, "stuck " ++ t.fate] ++ t.rows.zipIdx.map fun p => lineS p.2 p.1
def writeS (t : Tab) : Str := Txt.join "\n" (linesS t)
theorem iS_len {i : Int} (h0 : 0 ≤ i) (h : i ≤ 3) : (iS i).length = 1 := by
  have : i = 0 ∨ i = 1 ∨ i = 2 ∨ i = 3 := by omega
  rcases this with rfl | rfl | rfl | rfl <;> decide +kernel
theorem join_le (y : Str) (l : List Str) : (Txt.join y l).length ≤ (l.map (·.length)).sum + l.length * y.length := by
  rw [TL.join_eq]
  exact StrLaws.join_length_le y l
theorem sum_le {n : Nat} : ∀ {l : List Nat}, (∀ a ∈ l, a ≤ n) → l.sum ≤ l.length * n
  | [], _ => by simp
  | a :: l, h => by
    rw [List.sum_cons, List.length_cons, Nat.add_mul, Nat.one_mul]
    have h1 := h a (List.mem_cons_self ..)
    have h2 := sum_le fun b hb => h b (List.mem_cons_of_mem a hb)
    omega
/-- an ascending row of at most 3 -/
theorem asc_len : ∀ {ns : List Int} {m : Int}, (∀ n ∈ ns, 1 ≤ n ∧ n ≤ m) → ascB (ns.map PyData.int) = true → (ns.length : Int) ≤ max m 0
  | [], m, _, _ => by simp; omega
  | [a], m, h, _ => by
    have := h a (by simp)
    simp
    omega
  | a :: b :: r, m, h, hs => by
    have h' : (decide (a < b) && ascB ((b :: r).map PyData.int)) = true := hs
    rw [Bool.and_eq_true, decide_eq_true_iff] at h'
    have ha := h a (by simp)
    have ih := asc_len (ns := (b :: r).map (· - a)) (m := m - a) (fun n hn => by
      obtain ⟨c, hc, rfl⟩ := List.mem_map.mp hn
      have hc2 := h c (List.mem_cons_of_mem _ hc)
      have key : ∀ {l : List Int} {x : Int}, ascB ((x :: l).map PyData.int) = true → ∀ y ∈ x :: l, x ≤ y := by
        intro l
        induction l with
        | nil => intro x _ y hy; simp at hy; omega
        | cons z l ih =>
          intro x hx y hy
          have hx' : (decide (x < z) && ascB ((z :: l).map PyData.int)) = true := hx
          rw [Bool.and_eq_true, decide_eq_true_iff] at hx'
          rcases List.mem_cons.mp hy with rfl | hy
          · exact Int.le_refl _
          · have := ih hx'.2 y hy
            omega
      have := key h'.2 c hc
      omega) (by
      have shift : ∀ {l : List Int}, ascB (l.map PyData.int) = true → ascB ((l.map (· - a)).map PyData.int) = true := by
        intro l
        induction l with
        | nil => exact fun _ => rfl
        | cons z l ih =>
          intro hl
          cases l with
          | nil => rfl
          | cons z2 l =>
            have hl' : (decide (z < z2) && ascB ((z2 :: l).map PyData.int)) = true := hl
            rw [Bool.and_eq_true, decide_eq_true_iff] at hl'
            show (decide (z - a < z2 - a) && ascB (((z2 :: l).map (· - a)).map PyData.int)) = true
            rw [ih hl'.2, decide_eq_true (by omega)]
            rfl
      exact shift h'.2)
    rw [List.length_map] at ih
    rw [List.length_cons, Int.natCast_succ]
    omega
termination_by ns => ns.length
theorem Tab.Good.rowLen {t : Tab} (g : t.Good) {r : List Int} (h : r ∈ t.rows) : r.length ≤ 3 := by
  obtain ⟨h1, h2⟩ := g.row r h
  have := asc_len h1 h2
  have := g.len
  omega
theorem Tab.Good.take {t : Tab} (g : t.Good) {r : List Int} (h : r ∈ t.rows) {n : Int} (hn : n ∈ r) : 1 ≤ n ∧ n ≤ 3 := by
  obtain ⟨h1, h2⟩ := g.row r h
  have := h1 n hn
  have := g.len
  omega
theorem Tab.Good.sp {t : Tab} (g : t.Good) : 0 ≤ t.spare ∧ t.spare ≤ 3 := by
  have := g.spare
  omega
theorem one_log {i : Int} (h0 : 0 ≤ i) (h : i ≤ 3) : i.natAbs.log2 < 1920 := by
  have : i = 0 ∨ i = 1 ∨ i = 2 ∨ i = 3 := by omega
  rcases this with rfl | rfl | rfl | rfl <;> decide
theorem lines_at {t : Tab} {i : Nat} {r : List Int} (h : t.rows[i]? = some r) : (linesS t)[i + 2]? = some (lineS i r) := by
  unfold linesS
  rw [List.getElem?_append_right (by simp)]
  simp [List.getElem?_zipIdx, h]
theorem lineS_sum {i : Nat} {r : List Int} (hi : i ≤ 3) (hr : r.length ≤ 3) (h : ∀ n ∈ r, 1 ≤ n ∧ n ≤ 3) : ((iS i :: r.map iS).map (·.length)).sum + (iS i :: r.map iS).length * (" " : Str).length ≤ 8 := by
  rw [show (" " : Str).length = 1 from by decide +kernel]
  have h1 : ((iS i :: r.map iS).map (·.length)).sum ≤ ((iS i :: r.map iS).map (·.length)).length * 1 := sum_le fun a ha => by
    obtain ⟨z, hz, rfl⟩ := List.mem_map.mp ha
    rcases List.mem_cons.mp hz with rfl | hz
    · exact Nat.le_of_eq (iS_len (by omega) (by omega))
    · obtain ⟨n, hn, rfl⟩ := List.mem_map.mp hz
      have := h n hn
      exact Nat.le_of_eq (iS_len (by omega) (by omega))
  rw [List.length_map] at h1
  have h2 : (iS i :: r.map iS).length ≤ 4 := by simp; omega
  omega
theorem lines_len {t : Tab} : (linesS t).length = t.rows.length + 2 := by
  unfold linesS
  simp
theorem lineS_len {i : Nat} {r : List Int} (hi : i ≤ 3) (hr : r.length ≤ 3) (h : ∀ n ∈ r, 1 ≤ n ∧ n ≤ 3) : (lineS i r).length ≤ 8 := by
  unfold lineS
  exact Nat.le_trans (join_le _ _) (lineS_sum hi hr h)
theorem Tab.Good.lines {t : Tab} (g : t.Good) : ∀ z ∈ linesS t, z.length ≤ 11 := by
  intro z hz
  obtain ⟨i, hi⟩ := List.getElem?_of_mem hz
  match i, hi with
  | 0, hi =>
    have e : z = "passes " ++ iS t.spare := (Option.some.inj hi).symm
    rw [e, Str.length_append, iS_len g.sp.1 g.sp.2]
    decide +kernel
  | 1, hi =>
    have e : z = "stuck " ++ t.fate := (Option.some.inj hi).symm
    rw [e]
    rcases g.fate with h | h <;> rw [h] <;> decide +kernel
  | i + 2, hi =>
    obtain ⟨hl, _⟩ := List.getElem?_eq_some_iff.mp hi
    rw [lines_len] at hl
    have hr : t.rows[i]? = some t.rows[i] := List.getElem?_eq_getElem (by omega)
    rw [lines_at hr] at hi
    have e := (Option.some.inj hi).symm
    rw [e]
    have hm : t.rows[i] ∈ t.rows := List.getElem_mem _
    have := g.len
    exact Nat.le_trans (lineS_len (by omega) (g.rowLen hm) fun n hn => g.take hm hn) (by decide)
theorem Tab.Good.sumLines {t : Tab} (g : t.Good) : ((linesS t).map (·.length)).sum + (linesS t).length * ("\n" : Str).length ≤ 16777216 := by
  have h1 : ((linesS t).map (·.length)).sum ≤ ((linesS t).map (·.length)).length * 11 := sum_le fun a ha => by
    obtain ⟨z, hz, rfl⟩ := List.mem_map.mp ha
    exact g.lines z hz
  rw [List.length_map, lines_len] at h1
  rw [lines_len, show ("\n" : Str).length = 1 from by decide +kernel]
  have := g.len
  omega
end Tk

end

section
/-! texts read -/
namespace Tk
open PySem PySem.Spec L2 RZ
abbrev digits : List Str := ["1", "2", "3"]
abbrev pass2 : List Str := ["0", "1"]
abbrev fates : List Str := ["loses", "wins"]
def okLine : List Str → Nat → Bool
  | ws, 0 => (match ws with
    | [a, b] => decide (a = "passes") && decide (b ∈ pass2)
    | _ => false)
  | ws, 1 => (match ws with
    | [a, b] => decide (a = "stuck") && decide (b ∈ fates)
    | _ => false)
  | ws, i + 2 => (match ws with
    | [] => false
    | w :: r => decide (i ≤ 3) && (decide (w = iS i) && decide (digits.filter (fun s => decide (s ∈ r)) = r)))
/-- a text that a written digit is -/
def digI (z : Str) : Int := if z = "1" then 1 else if z = "2" then 2 else if z = "3" then 3 else 0
def takesOf (ws : List Str) : List Int := (ws.drop 1).map digI
/-- what read tells: the number of the line at fault, or the table -/
inductive ReadR where
  | line (n : Int)
  | ok (t : Tab)
def badLine (ls : List (List Str)) : Option Nat := (List.range ls.length).find? fun i => !okLine (ls.getD i []) i
def badTake (tk : List (List Int)) : Option Nat := (List.range tk.length).find? fun i => (tk.getD i []).any fun n => decide ((tk.length : Int) - 1 < n)
def takesAll (ls : List (List Str)) : List (List Int) := (ls.drop 2).map takesOf
def tabR (ls : List (List Str)) : Tab := ⟨takesAll ls, digI ((ls.getD 0 []).getD 1 ""), (ls.getD 1 []).getD 1 ""⟩
def readR (ls : List (List Str)) : ReadR := match badLine ls with
  | some i => .line ((i : Nat) + 1)
  | none => if ls.length < 4 then .line ((ls.length : Nat) + 1) else
    match badTake (takesAll ls) with
    | some i => .line ((i : Nat) + 2 + 1)
    | none => .ok (tabR ls)
/-- words without blanks and line ends -/
def gw (z : Str) : Bool := (TL.tl z).all (fun c => decide (c ≠ 32) && (decide (c ≠ 10) && decide (c < 1114112))) && decide (z.length ≤ 100)
structure GoodLs (ls : List (List Str)) : Prop where
  ne : ls ≠ []
  len : ls.length ≤ 100
  each : ∀ l ∈ ls, l ≠ [] ∧ l.length ≤ 100 ∧ ∀ z ∈ l, gw z = true
theorem gw_ok {z : Str} (h : gw z = true) : PyData.strOk z = true := by
  obtain ⟨h1, _⟩ := Bool.and_eq_true_iff.mp h
  unfold PyData.strOk
  rw [← Array.all_toList]
  refine List.all_eq_true.mpr fun c hc => ?_
  have := List.all_eq_true.mp h1 c hc
  simp only [Bool.and_eq_true, decide_eq_true_iff] at this
  exact decide_eq_true this.2.2
theorem gw_no {z : Str} (h : gw z = true) : 32 ∉ TL.tl z ∧ 10 ∉ TL.tl z := by
  obtain ⟨h1, _⟩ := Bool.and_eq_true_iff.mp h
  constructor
  · intro hc
    have := List.all_eq_true.mp h1 _ hc
    simp at this
  · intro hc
    have := List.all_eq_true.mp h1 _ hc
    simp at this
theorem gw_len {z : Str} (h : gw z = true) : z.length ≤ 100 := of_decide_eq_true (Bool.and_eq_true_iff.mp h).2
theorem mem_joinL {S : List Nat} {c : Nat} : ∀ {ps : List (List Nat)}, c ∈ TL.joinL S ps → c ∈ S ∨ ∃ p ∈ ps, c ∈ p
  | [], h => by cases h
  | [p], h => .inr ⟨p, by simp, h⟩
  | p :: q :: r, h => by
    have h' : c ∈ p ++ (S ++ TL.joinL S (q :: r)) := h
    rcases List.mem_append.mp h' with h | h
    · exact .inr ⟨p, by simp, h⟩
    · rcases List.mem_append.mp h with h | h
      · exact .inl h
      · rcases mem_joinL h with h | ⟨x, hx, h⟩
        · exact .inl h
        · exact .inr ⟨x, List.mem_cons_of_mem _ hx, h⟩
abbrev sp1 : Str := " "
abbrev nl1 : Str := "\n"
theorem tl_sp : TL.tl sp1 = [32] := by decide +kernel
theorem tl_nl : TL.tl nl1 = [10] := by decide +kernel
/-- the text of lines of words -/
def txtOf (ls : List (List Str)) : Str := Txt.join nl1 (ls.map (Txt.join sp1))
theorem split_line {l : List Str} (h : l ≠ []) (hz : ∀ z ∈ l, gw z = true) : Txt.split (Txt.join sp1 l) sp1 = l := TL.split_join tl_sp (by decide +kernel) h fun p hp => (gw_no (hz p hp)).1
theorem split_lines {ls : List (List Str)} (g : GoodLs ls) : Txt.split (txtOf ls) nl1 = ls.map (Txt.join sp1) := by
  refine TL.split_join tl_nl (by decide +kernel) (fun e => g.ne (List.map_eq_nil_iff.mp e)) fun p hp => ?_
  obtain ⟨l, hl, rfl⟩ := List.mem_map.mp hp
  intro hc
  rw [TL.join_eq, TL.tl_join] at hc
  rcases mem_joinL hc with hc | ⟨x, hx, hc⟩
  · rw [tl_sp] at hc
    simp at hc
  · obtain ⟨z, hz, rfl⟩ := List.mem_map.mp hx
    exact (gw_no ((g.each l hl).2.2 z hz)).2 hc
theorem line_len {l : List Str} (h : l.length ≤ 100) (hz : ∀ z ∈ l, gw z = true) : (Txt.join sp1 l).length ≤ 10100 := by
  refine Nat.le_trans (join_le _ _) ?_
  have h1 : (l.map (·.length)).sum ≤ (l.map (·.length)).length * 100 := sum_le fun a ha => by
    obtain ⟨z, hz', rfl⟩ := List.mem_map.mp ha
    exact gw_len (hz z hz')
  rw [List.length_map] at h1
  rw [show sp1.length = 1 from by decide +kernel]
  omega
theorem txt_len {ls : List (List Str)} (g : GoodLs ls) : (txtOf ls).length + 2 ≤ sizeLine := by
  have h0 : (txtOf ls).length ≤ _ := join_le _ _
  have h1 : ((ls.map (Txt.join sp1)).map (·.length)).sum ≤ ((ls.map (Txt.join sp1)).map (·.length)).length * 10100 := sum_le fun a ha => by
    obtain ⟨z, hz', rfl⟩ := List.mem_map.mp ha
    obtain ⟨l, hl, rfl⟩ := List.mem_map.mp hz'
    have := g.each l hl
    exact line_len this.2.1 this.2.2
  rw [List.length_map, List.length_map] at h1
  rw [List.length_map, show nl1.length = 1 from by decide +kernel] at h0
  have := g.len
  rw [sizeLine_eq]
  omega
theorem dig_row {r : List Str} (h : digits.filter (fun s => decide (s ∈ r)) = r) : r ∈ ([[], ["1"], ["2"], ["3"], ["1", "2"], ["1", "3"], ["2", "3"], ["1", "2", "3"]] : List (List Str)) := by
  generalize (fun s => decide (s ∈ r)) = p at h
  subst h
  simp only [digits, List.filter]
  cases p "1" <;> cases p "2" <;> cases p "3" <;> decide +kernel
theorem dig_good {r : List Str} (h : digits.filter (fun s => decide (s ∈ r)) = r) : ascB ((r.map digI).map PyData.int) = true ∧ (∀ n ∈ r.map digI, 1 ≤ n ∧ n ≤ 3) ∧ (∀ z ∈ r, PySem.intText? z = some (digI z)) := by
  have q := dig_row h
  have key : ∀ r ∈ ([[], ["1"], ["2"], ["3"], ["1", "2"], ["1", "3"], ["2", "3"], ["1", "2", "3"]] : List (List Str)), ascB ((r.map digI).map PyData.int) = true ∧ (∀ n ∈ r.map digI, 1 ≤ n ∧ n ≤ 3) ∧ (∀ z ∈ r, PySem.intText? z = some (digI z)) := by decide +kernel
  exact key r q
theorem okLine0 {ws : List Str} (h : okLine ws 0 = true) : ∃ b : Str, ws = [("passes" : Str), b] ∧ b ∈ pass2 := by
  match ws, h with
  | [a, b], h =>
    have h' : (decide (a = "passes") && decide (b ∈ pass2)) = true := h
    rw [Bool.and_eq_true, decide_eq_true_iff, decide_eq_true_iff] at h'
    exact ⟨b, by rw [h'.1], h'.2⟩
theorem okLine1 {ws : List Str} (h : okLine ws 1 = true) : ∃ b : Str, ws = [("stuck" : Str), b] ∧ b ∈ fates := by
  match ws, h with
  | [a, b], h =>
    have h' : (decide (a = "stuck") && decide (b ∈ fates)) = true := h
    rw [Bool.and_eq_true, decide_eq_true_iff, decide_eq_true_iff] at h'
    exact ⟨b, by rw [h'.1], h'.2⟩
theorem okLine2 {ws : List Str} {i : Nat} (h : okLine ws (i + 2) = true) : ∃ r, ws = iS i :: r ∧ i ≤ 3 ∧ digits.filter (fun s => decide (s ∈ r)) = r := by
  match ws, h with
  | [], h => cases h
  | w :: r, h =>
    have h' : (decide (i ≤ 3) && (decide (w = iS i) && decide (digits.filter (fun s => decide (s ∈ r)) = r))) = true := h
    rw [Bool.and_eq_true, Bool.and_eq_true, decide_eq_true_iff, decide_eq_true_iff, decide_eq_true_iff] at h'
    exact ⟨r, by rw [h'.2.1], h'.1, h'.2.2⟩
theorem pass_int {b : Str} (h : b ∈ pass2) : PySem.intText? b = some (digI b) ∧ (digI b = 0 ∨ digI b = 1) ∧ b.length ≤ 640 := by
  have key : ∀ b ∈ pass2, PySem.intText? b = some (digI b) ∧ (digI b = 0 ∨ digI b = 1) ∧ b.length ≤ 640 := by decide +kernel
  exact key b h
theorem badLine_none {ls : List (List Str)} (h : badLine ls = none) : ∀ i, i < ls.length → okLine (ls.getD i []) i = true := fun i hi => by
  have q := List.find?_range_eq_none.mp h i hi
  simpa using q
theorem badLine_some {ls : List (List Str)} {i : Nat} (hi : i < ls.length) (h : okLine (ls.getD i []) i = false) (hj : ∀ j, j < i → okLine (ls.getD j []) j = true) : badLine ls = some i := by
  refine List.find?_range_eq_some.mpr ⟨by rw [h]; rfl, List.mem_range.mpr hi, fun j hji => by rw [hj j hji]; rfl⟩
/-- a text without a line at fault gives rows, passes, a word -/
theorem read_tab {ls : List (List Str)} (h : badLine ls = none) (hl : ¬ ls.length < 4) (ht : badTake (takesAll ls) = none) :
    tabOf (rowsD (takesAll ls)) (.int (tabR ls).spare) (.str (tabR ls).fate) = .ok (tabR ls) := by
  have ok := badLine_none h
  have hlen : ls.length ≤ 6 := by
    rcases Nat.lt_or_ge 6 ls.length with h6 | h6
    · obtain ⟨_, _, h3, _⟩ := okLine2 (i := 4) (ok 6 h6)
      omega
    · exact h6
  have htl : (takesAll ls).length = ls.length - 2 := by
    unfold takesAll
    rw [List.length_map, List.length_drop]
  have each : ∀ r ∈ takesAll ls, isRowD (rowD r) (((takesAll ls).length : Int) - 1) = true := by
    intro r hr
    obtain ⟨i, hi⟩ := List.getElem?_of_mem hr
    obtain ⟨hi2, _⟩ := List.getElem?_eq_some_iff.mp hi
    have hi3 := hi
    unfold takesAll at hi3
    rw [List.getElem?_map, List.getElem?_drop] at hi3
    have hw : ls[2 + i]? = some (ls.getD (2 + i) []) := by
      rw [List.getD_eq_getElem?_getD, List.getElem?_eq_getElem (by omega)]
      rfl
    rw [hw] at hi3
    have er : takesOf (ls.getD (2 + i) []) = r := Option.some.inj hi3
    obtain ⟨u, eu, hu1, hu2⟩ := okLine2 (ws := ls.getD (2 + i) []) (i := i) (by have q := ok (2 + i) (by omega); rw [Nat.add_comm 2 i] at q ⊢; exact q)
    have eu' : ls.getD (2 + i) [] = iS i :: u := eu
    rw [eu'] at er
    have er' : u.map digI = r := er
    subst er'
    obtain ⟨g1, g2, _⟩ := dig_good hu2
    have hb := List.find?_range_eq_none.mp ht i hi2
    rw [List.getD_eq_getElem?_getD, hi] at hb
    have hb2 : ((u.map digI).any fun n => decide (((takesAll ls).length : Int) - 1 < n)) = false := by simpa using hb
    show (((u.map digI).map PyData.int).all (fun d => isIntD d 1 (((takesAll ls).length : Int) - 1)) && ascB ((u.map digI).map PyData.int)) = true
    rw [g1, Bool.and_true, List.all_map]
    refine List.all_eq_true.mpr fun n hn => ?_
    have h1 := g2 n hn
    have h2 := List.any_eq_false.mp hb2 n hn
    show (decide (1 ≤ n) && decide (n ≤ ((takesAll ls).length : Int) - 1)) = true
    rw [Bool.and_eq_true, decide_eq_true_iff, decide_eq_true_iff]
    simp at h2
    omega
  have hbad : badRows (rowsD (takesAll ls)) = none := by
    show (if 2 ≤ ((takesAll ls).map rowD).length ∧ ((takesAll ls).map rowD).length ≤ 4 then (((takesAll ls).map rowD).findIdx? (fun d => !isRowD d ((((takesAll ls).map rowD).length : Int) - 1))).map (fun i => V.int (i : Nat)) else some .non) = none
    rw [if_pos (by rw [List.length_map]; omega), Option.map_eq_none_iff, List.findIdx?_eq_none_iff]
    intro d hd
    obtain ⟨r, hr, rfl⟩ := List.mem_map.mp hd
    rw [List.length_map, each r hr]
    rfl
  have ero : rowsOf (rowsD (takesAll ls)) = takesAll ls := by
    have := (badRows_rows hbad).1
    have key : ∀ a b : List (List Int), rowsD a = rowsD b → a = b := fun a b e => by
      have q := eqv_rows a b
      rw [e, eqv_rows b b, decide_eq_true rfl] at q
      exact of_decide_eq_true q.symm
    exact (key _ _ this).symm
  obtain ⟨b, eb, hb⟩ := okLine0 (ok 0 (by omega))
  obtain ⟨c, ec, hc⟩ := okLine1 (ok 1 (by omega))
  have es : (tabR ls).spare = digI b := by
    show digI ((ls.getD 0 []).getD 1 "") = _
    rw [eb]
    rfl
  have ef : (tabR ls).fate = c := by
    show (ls.getD 1 []).getD 1 "" = _
    rw [ec]
    rfl
  have hs : isIntD (.int (tabR ls).spare) 0 1 = true := by
    show (decide (0 ≤ (tabR ls).spare) && decide ((tabR ls).spare ≤ 1)) = true
    rw [es, Bool.and_eq_true, decide_eq_true_iff, decide_eq_true_iff]
    have := (pass_int hb).2.1
    omega
  have hfa : isFateD (.str (tabR ls).fate) = true := by
    show (decide ((tabR ls).fate = "loses") || decide ((tabR ls).fate = "wins")) = true
    rw [ef]
    have key : ∀ c ∈ fates, (decide (c = "loses") || decide (c = "wins")) = true := by decide +kernel
    exact key c hc
  unfold tabOf
  rw [hbad]
  show (if isIntD (.int (tabR ls).spare) 0 1 = true then (if isFateD (.str (tabR ls).fate) = true then TabR.ok ⟨rowsOf (rowsD (takesAll ls)), intD (.int (tabR ls).spare), strD (.str (tabR ls).fate)⟩ else .stuck) else .passes) = _
  rw [if_pos hs, if_pos hfa, ero]
  rfl
theorem small_rows (rs : List (List Int)) (h : ∀ r ∈ rs, r.length < 1000) : smallD (rowsD rs) := fun d hd es e => by
  obtain ⟨r, hr, rfl⟩ := List.mem_map.mp hd
  cases e
  rw [List.length_map]
  exact h r hr
theorem takes_len {ls : List (List Str)} (g : GoodLs ls) {i : Nat} {l : List Int} (h : (takesAll ls)[i]? = some l) : l.length ≤ 100 := by
  obtain ⟨x, hx, rfl⟩ := List.mem_map.mp (List.mem_of_getElem? h)
  have := (g.each x (List.mem_of_mem_drop hx)).2.1
  unfold takesOf
  rw [List.length_map, List.length_drop]
  omega
end Tk

end

section
/-! what the laws draw: the state [number, script, place] -/
namespace Tk
open PySem PySem.Spec L2 RZ
def Drw (H : Hp) (a l : Addr) : Prop := a ≠ l ∧ ∃ (st : Int) (ns : List Int) (ix : Nat), H a = some (.lst [.int st, .ref l, .int ix]) ∧ H l = some (.lst (ns.map V.int)) ∧ ns.length ≤ 63
theorem Drw.fr {S : List Addr} {H H' : Hp} {a l : Addr} (F : Fr S H H') (na : a ∉ S) (nl : l ∉ S) : Drw H a l → Drw H' a l := fun ⟨h0, st, ns, ix, h1, h2, h3⟩ => ⟨h0, st, ns, ix, F.lst na h1, F.lst nl h2, h3⟩
theorem Drw.fr0 {H H' : Hp} {a l : Addr} (F : Fr [] H H') (h : Drw H a l) : Drw H' a l := h.fr F List.not_mem_nil List.not_mem_nil
theorem Drw.ne {H : Hp} {a l p : Addr} (h : Drw H a l) (n : H p = none) : p ≠ a ∧ p ≠ l := by
  obtain ⟨_, st, ns, ix, h1, h2, _⟩ := h
  exact ⟨fun e => (by rw [e, h1] at n; cases n), fun e => (by rw [e, h2] at n; cases n)⟩
/-- a comprehension that may write at S (all of it there ahead), keeps I, and makes data -/
theorem lc_st {K : PySem.W.Frag} {J : It} {n : Nat} {G : Hp → Prop} {Y : Nat → Hp → V → Hp → Prop} (w : Walk J n G Y) (hn : n < 16777216) (S : List Addr) (I : Hp → Prop) (Ok : Nat → List PyData → Prop) {g : TG} {tt : TT} {te : TE} {vs : List Nat} {σ : L2.St} {H1 : Hp} {Qd : Addr → Hp → Prop}
    (hS : ∀ b ∈ S, H1 b ≠ none) (hI1 : I H1) (hI : ∀ D H H', H1 D = none → Fr [D] H H' → I H → I H') (h0 : Ok 0 [])
    (hG : ∀ H', Fr S H1 H' → I H' → G H')
    (hs : ∀ i x H H' ds (R : V → Hp → Prop) (Rn : Hp → Prop), i < n → Fr S H1 H → I H → Ok i ds → Y i H x H' → (∀ y H4 d, Tp K H4 y d → Fr S H H4 → I H4 → Ok (i + 1) (ds ++ [d]) → R y H4) → (∀ H3, Fr S H H3 → I H3 → Ok (i + 1) ds → Rn H3) →
      g x (wipe σ vs) H' fun σ2 H2 => wipe σ2 vs = wipe σ vs ∧ tt σ2 H2 fun b H3 => if b = true then te σ2 H3 R else Rn H3)
    (hd : ∀ D H' ds, H1 D = none → Fr S H1 H' → I H' → Ok n ds → ds.length ≤ n → LsD K H' D ds → Qd D H') :
    ∀ D, H1 D = none → ∃ W : Nat → Nat → Hp → Prop, (∃ m, W 0 m (upd H1 D (.lst []))) ∧ ∀ i m H, W i m H →
      (J.stop i H ∧ Qd D H) ∨ (J.go i H ∧ ∃ Nx : Hp → Prop, (∀ H', Nx H' → ∃ m', m' < m ∧ W (i + 1) m' H') ∧ ∀ x H', J.yld i H x H' → g x (wipe σ vs) H' fun σ2 H2 => wipe σ2 vs = wipe σ vs ∧ tt σ2 H2 fun b H3 =>
        if b = true then te σ2 H3 fun y H4 => ∃ acc, H4 D = some (.lst acc) ∧ acc.length < sizeLine ∧ Nx (upd H4 D (.lst (acc ++ [y]))) else Nx H3) := by
  intro D nD
  have nDS : D ∉ S := fun h => hS D h nD
  refine lc_it w (fun i H => Fr S H1 H ∧ I H ∧ ∃ acc ds, H D = some (.lst acc) ∧ acc.length ≤ i ∧ TpL K H acc ds ∧ Ok i ds) ⟨Fr.new nD, hI D H1 _ nD (Fr.nil (Fr.new nD)) hI1, [], [], upd_same, Nat.le_refl _, .nil, h0⟩ (fun i H _ p => hG H p.1 p.2.1) ?_ fun H p => ?_
  · rintro i x H H' hi ⟨F1, i1, acc, ds, hD, hl, ht, ok⟩ y
    refine hs i x H H' ds _ _ hi F1 i1 ok y (fun v H4 d e2 F4 i4 ok4 => ?_) (fun H3 F3 i3 ok3 => ?_)
    · have hD4 := F4.lst nDS hD
      have FD : Fr [D] H4 (upd H4 D (.lst (acc ++ [v]))) := Fr.put hD4 (fun _ z => by cases z) (fun _ _ z => by cases z) (by simp)
      have dl : acc.length < sizeLine := by rw [sizeLine_eq]; omega
      refine ⟨acc, hD4, dl, Fr.over nD (F1.trans F4) (FD.mono fun b hb => ?_), hI D H4 _ nD FD i4, acc ++ [v], ds ++ [d], upd_same, by rw [List.length_append]; simp; omega, ((ht.fr F4).fr FD).snoc (e2.fr FD), ok4⟩
      simp at hb
      rw [hb]
      exact List.mem_cons_self ..
    · exact ⟨F1.trans F3, i3, acc, ds, F3.lst nDS hD, by omega, ht.fr F3, ok3⟩
  · obtain ⟨F1, i1, acc, ds, hD, hl, ht, ok⟩ := p
    exact hd D H ds nD F1 i1 ok (by rw [← ht.length]; exact hl) ⟨acc, hD, ht⟩
/-- what is drawn: a row for each last take, passes, a word -/
def drawOk (rs : List (List Int)) (m : Nat) : Prop := rs.length = m + 1 ∧ ∀ r ∈ rs, r.Sublist (([1, 2, 3] : List Int).take m)
def subs : List Int → List (List Int)
  | [] => [[]]
  | a :: l => subs l ++ (subs l).map (a :: ·)
theorem mem_subs : ∀ {r l : List Int}, r.Sublist l → r ∈ subs l
  | _, _, .slnil => by simp [subs]
  | _, _, .cons a h => List.mem_append_left _ (mem_subs h)
  | _, _, .cons₂ a h => List.mem_append_right _ (List.mem_map.mpr ⟨_, mem_subs h, rfl⟩)
theorem subl_row {m : Nat} (h1 : 1 ≤ m) (h3 : m ≤ 3) {r : List Int} (h : r.Sublist (([1, 2, 3] : List Int).take m)) : isRowD (rowD r) (m : Int) = true := by
  have key : ∀ m ∈ ([1, 2, 3] : List Nat), ∀ r ∈ subs (([1, 2, 3] : List Int).take m), isRowD (rowD r) (m : Int) = true := by decide +kernel
  have hm : m ∈ ([1, 2, 3] : List Nat) := by
    have : m = 1 ∨ m = 2 ∨ m = 3 := by omega
    rcases this with rfl | rfl | rfl <;> simp
  exact key m hm r (mem_subs h)
theorem rowsOf_rowsD {rs : List (List Int)} (h : badRows (rowsD rs) = none) : rowsOf (rowsD rs) = rs := by
  have := (badRows_rows h).1
  have key : ∀ a b : List (List Int), rowsD a = rowsD b → a = b := fun a b e => by
    have q := eqv_rows a b
    rw [e, eqv_rows b b, decide_eq_true rfl] at q
    exact of_decide_eq_true q.symm
  exact (key _ _ this).symm
/-- what is drawn gives a table -/
theorem draw_tab {rs : List (List Int)} {m : Nat} (h1 : 1 ≤ m) (h3 : m ≤ 3) (h : drawOk rs m) {p : Int} (hp : p = 0 ∨ p = 1) {f : Str} (hf : f = "loses" ∨ f = "wins") : tabOf (rowsD rs) (.int p) (.str f) = .ok ⟨rs, p, f⟩ := by
  have hbad : badRows (rowsD rs) = none := by
    show (if 2 ≤ (rs.map rowD).length ∧ (rs.map rowD).length ≤ 4 then ((rs.map rowD).findIdx? (fun d => !isRowD d (((rs.map rowD).length : Int) - 1))).map (fun i => V.int (i : Nat)) else some .non) = none
    rw [if_pos (by rw [List.length_map, h.1]; omega), Option.map_eq_none_iff, List.findIdx?_eq_none_iff]
    intro d hd
    obtain ⟨r, hr, rfl⟩ := List.mem_map.mp hd
    rw [List.length_map, h.1, show (((m + 1 : Nat) : Int) - 1) = (m : Int) by omega, subl_row h1 h3 (h.2 r hr)]
    rfl
  have hs : isIntD (.int p) 0 1 = true := by
    rcases hp with rfl | rfl <;> decide
  have hfa : isFateD (.str f) = true := by
    rcases hf with rfl | rfl <;> decide +kernel
  unfold tabOf
  rw [hbad]
  show (if isIntD (.int p) 0 1 = true then (if isFateD (.str f) = true then TabR.ok ⟨rowsOf (rowsD rs), intD (.int p), strD (.str f)⟩ else .stuck) else .passes) = _
  rw [if_pos hs, if_pos hfa, rowsOf_rowsD hbad]
  rfl
/-- at b: a drawn row [rows, passes, word] -/
def Row3 (K : PySem.W.Frag) (H : Hp) (b : Addr) (t : Tab) : Prop := ∃ v, H b = some (.lst [v, .int t.spare, .str t.fate]) ∧ Tp K H v (rowsD t.rows)
theorem Row3.fr {K : PySem.W.Frag} {S : List Addr} {H H' : Hp} {b : Addr} {t : Tab} (F : Fr S H H') (n : b ∉ S) : Row3 K H b t → Row3 K H' b t := fun ⟨v, h, r⟩ => ⟨v, F.lst n h, r.fr F⟩
theorem Row3.fr0 {K : PySem.W.Frag} {H H' : Hp} {b : Addr} {t : Tab} (F : Fr [] H H') (h : Row3 K H b t) : Row3 K H' b t := h.fr F List.not_mem_nil
/-- a drawn table -/
structure Drawn3 (t : Tab) (w : Nat) : Prop where
  ok : ∃ m : Nat, 1 ≤ m ∧ m ≤ w ∧ drawOk t.rows m
  sp : t.spare = 0 ∨ t.spare = 1
  fa : t.fate = "loses" ∨ t.fate = "wins"
theorem Drawn3.tab {t : Tab} {w : Nat} (d : Drawn3 t w) (hw : w ≤ 3) : tabOf (rowsD t.rows) (.int t.spare) (.str t.fate) = .ok t := by
  obtain ⟨m, h1, h2, h3⟩ := d.ok
  exact draw_tab h1 (Nat.le_trans h2 hw) h3 d.sp d.fa
theorem Drawn3.good {t : Tab} {w : Nat} (d : Drawn3 t w) (hw : w ≤ 3) : t.Good := (tabOf_good (d.tab hw)).1
theorem Drawn3.small {t : Tab} {w : Nat} (d : Drawn3 t w) (hw : w ≤ 3) : smallD (rowsD t.rows) := small_rows _ fun r hr => Nat.lt_of_le_of_lt ((d.good hw).rowLen hr) (by decide)
section
variable {K : PySem.W.Frag} {H : Hp} {b : Addr} {t : Tab} {Q : VK}
theorem r_row0 (h : Row3 K H b t) (q : ∀ v, Tp K H v (rowsD t.rows) → Q v H) : rIx K (.ref b) (.int 0) H Q := by
  obtain ⟨v, h1, h2⟩ := h
  exact r_ixL (j := 0) (SqL.of h1) rfl (q v h2)
theorem r_row1 (h : Row3 K H b t) (q : Q (.int t.spare) H) : rIx K (.ref b) (.int 1) H Q := by
  obtain ⟨v, h1, h2⟩ := h
  exact r_ixL (j := 1) (SqL.of h1) rfl q
theorem r_row2 (h : Row3 K H b t) (q : Q (.str t.fate) H) : rIx K (.ref b) (.int 2) H Q := by
  obtain ⟨v, h1, h2⟩ := h
  exact r_ixL (j := 2) (SqL.of h1) rfl q
end
end Tk

end

section
/-! a drawn table's text is read back -/
namespace Tk
open PySem PySem.Spec L2 RZ
def lsOf (t : Tab) : List (List Str) := [("passes" : Str), iS t.spare] :: [("stuck" : Str), t.fate] :: t.rows.zipIdx.map fun p => iS (p.2 : Nat) :: p.1.map iS
theorem join2 (a b : Str) : Txt.join sp1 [a, b] = a ++ sp1 ++ b := by
  rw [TL.join_eq]
  rfl
theorem write_txt (t : Tab) : writeS t = txtOf (lsOf t) := by
  unfold writeS txtOf
  congr 1
  show linesS t = Txt.join sp1 _ :: Txt.join sp1 _ :: _
  rw [join2, join2, List.map_map]
  rw [show ("passes" : Str) ++ sp1 = "passes " from by decide +kernel, show ("stuck" : Str) ++ sp1 = "stuck " from by decide +kernel]
  rfl
theorem gw_iS {i : Int} (h0 : 0 ≤ i) (h : i ≤ 3) : gw (iS i) = true := by
  have : i = 0 ∨ i = 1 ∨ i = 2 ∨ i = 3 := by omega
  rcases this with rfl | rfl | rfl | rfl <;> decide +kernel
theorem ls_at {t : Tab} {i : Nat} {r : List Int} (h : t.rows[i]? = some r) : (lsOf t)[i + 2]? = some (iS (i : Nat) :: r.map iS) := by
  unfold lsOf
  simp [List.getElem?_zipIdx, h]
theorem ls_len {t : Tab} : (lsOf t).length = t.rows.length + 2 := by
  unfold lsOf
  simp
theorem Tab.Good.ls {t : Tab} (g : t.Good) : GoodLs (lsOf t) := by
  have gl := g.len
  refine ⟨fun e => List.cons_ne_nil _ _ e, (by rw [ls_len]; omega), fun l hl => ?_⟩
  obtain ⟨i, hi⟩ := List.getElem?_of_mem hl
  match i, hi with
  | 0, hi =>
    have e : l = [("passes" : Str), iS t.spare] := (Option.some.inj hi).symm
    subst e
    refine ⟨fun e => List.cons_ne_nil _ _ e, by simp, fun z hz => ?_⟩
    simp only [List.mem_cons, List.not_mem_nil, or_false] at hz
    rcases hz with rfl | rfl
    · decide +kernel
    · exact gw_iS g.sp.1 g.sp.2
  | 1, hi =>
    have e : l = [("stuck" : Str), t.fate] := (Option.some.inj hi).symm
    subst e
    refine ⟨fun e => List.cons_ne_nil _ _ e, by simp, fun z hz => ?_⟩
    simp only [List.mem_cons, List.not_mem_nil, or_false] at hz
    rcases hz with rfl | rfl
    · decide +kernel
    · rcases g.fate with h | h <;> rw [h] <;> decide +kernel
  | i + 2, hi =>
    obtain ⟨hl2, _⟩ := List.getElem?_eq_some_iff.mp hi
    rw [ls_len] at hl2
    have hr : t.rows[i]? = some t.rows[i] := List.getElem?_eq_getElem (by omega)
    rw [ls_at hr] at hi
    have e := (Option.some.inj hi).symm
    have hm : t.rows[i] ∈ t.rows := List.getElem_mem _
    subst e
    refine ⟨fun e => List.cons_ne_nil _ _ e, by have := g.rowLen hm; simp; omega, fun z hz => ?_⟩
    rcases List.mem_cons.mp hz with rfl | hz
    · exact gw_iS (by omega) (by omega)
    · obtain ⟨n, hn, rfl⟩ := List.mem_map.mp hz
      have := g.take hm hn
      exact gw_iS (by omega) (by omega)
theorem sub_take {m : Nat} (h3 : m ≤ 3) {r : List Int} (h : r.Sublist (([1, 2, 3] : List Int).take m)) : digits.filter (fun s => decide (s ∈ r.map iS)) = r.map iS ∧ (r.map iS).map digI = r ∧ ∀ n ∈ r, n ≤ (m : Int) := by
  have key : ∀ m ∈ ([0, 1, 2, 3] : List Nat), ∀ r ∈ subs (([1, 2, 3] : List Int).take m), digits.filter (fun s => decide (s ∈ r.map iS)) = r.map iS ∧ (r.map iS).map digI = r ∧ ∀ n ∈ r, n ≤ (m : Int) := by decide +kernel
  have hm : m ∈ ([0, 1, 2, 3] : List Nat) := by
    have : m = 0 ∨ m = 1 ∨ m = 2 ∨ m = 3 := by omega
    rcases this with rfl | rfl | rfl | rfl <;> simp
  exact key m hm r (mem_subs h)
theorem getD_of {α : Type} {l : List α} {i : Nat} {a d : α} (h : l[i]? = some a) : l.getD i d = a := by
  rw [List.getD_eq_getElem?_getD, h]
  rfl
theorem Drawn3.read {t : Tab} (d : Drawn3 t 3) : readR (lsOf t) = .ok t := by
  obtain ⟨m, h1, h2, hlen, hsub⟩ := d.ok
  have g := d.good (by decide)
  have hbl : badLine (lsOf t) = none := by
    refine List.find?_range_eq_none.mpr fun i hi => ?_
    rw [ls_len] at hi
    match i, hi with
    | 0, _ =>
      show (!!okLine [("passes" : Str), iS t.spare] 0) = true
      rcases d.sp with h | h <;> rw [h] <;> decide +kernel
    | 1, _ =>
      show (!!okLine [("stuck" : Str), t.fate] 1) = true
      rcases d.fa with h | h <;> rw [h] <;> decide +kernel
    | i + 2, hi =>
      have hr : t.rows[i]? = some t.rows[i] := List.getElem?_eq_getElem (by omega)
      rw [getD_of (ls_at hr)]
      have hs := sub_take h2 (hsub _ (List.getElem_mem (by omega : i < t.rows.length)))
      have e : okLine (iS (i : Nat) :: t.rows[i].map iS) (i + 2) = true := by
        show (decide (i ≤ 3) && (decide (iS (i : Nat) = iS (i : Nat)) && decide (digits.filter (fun s => decide (s ∈ t.rows[i].map iS)) = t.rows[i].map iS))) = true
        rw [decide_eq_true (by omega), decide_eq_true rfl, decide_eq_true hs.1]
        rfl
      rw [e]
      rfl
  have htk : takesAll (lsOf t) = t.rows := by
    refine List.ext_getElem? fun i => ?_
    unfold takesAll
    rw [List.getElem?_map, List.getElem?_drop, Nat.add_comm]
    cases hr : t.rows[i]? with
    | none =>
      have : t.rows.length ≤ i := List.getElem?_eq_none_iff.mp hr
      rw [List.getElem?_eq_none (by rw [ls_len]; omega)]
      rfl
    | some r =>
      rw [ls_at hr]
      have hs := sub_take h2 (hsub r (List.mem_of_getElem? hr))
      show some ((r.map iS).map digI) = some r
      rw [hs.2.1]
  have hbt : badTake (takesAll (lsOf t)) = none := by
    rw [htk]
    refine List.find?_range_eq_none.mpr fun i hi => ?_
    rw [getD_of (List.getElem?_eq_getElem hi)]
    have hs := sub_take h2 (hsub _ (List.getElem_mem hi))
    have e : (t.rows[i].any fun n => decide ((t.rows.length : Int) - 1 < n)) = false := by
      rw [List.any_eq_false]
      intro n hn
      have := hs.2.2 n hn
      rw [decide_eq_true_iff, hlen]
      omega
    rw [e]
    rfl
  unfold readR
  rw [hbl]
  show (if (lsOf t).length < 4 then _ else _) = _
  rw [if_neg (by rw [ls_len, hlen]; omega), hbt]
  show ReadR.ok ⟨takesAll (lsOf t), digI (iS t.spare), t.fate⟩ = _
  rw [htk, show digI (iS t.spare) = t.spare from by rcases d.sp with h | h <;> rw [h] <;> decide +kernel]
theorem g_par {i j : Nat} {ta : TA} {D : Ends} {σ : L2.St} {H : Hp} (h : ta σ H fun vs H1 => ∃ v w, vs = [v, w] ∧ D.nx ((σ.set i (some v)).set j (some w)) H1) : tPar i j ta D σ H := h
theorem g_par2 {u v : V} {R : V → V → Prop} (h : R u v) : ∃ a b, [u, v] = [a, b] ∧ R a b := ⟨u, v, rfl, h⟩
end Tk

end

section
namespace Tk
open PySem PySem.Spec L2 RZ StX
open PyProof.Rows (envOfC)
def top (i : Nat) : Stmt := PySem.Challenge.pw_takesmemory_k14_whole_texts.main.body.getD i (.Pass ⟨0, 0, 0, 0⟩)
abbrev s_InvalidRows___init__ : Stmt := inClass (top 3) 0
abbrev s_InvalidPasses___init__ : Stmt := inClass (top 4) 0
abbrev s_InvalidStuck___init__ : Stmt := inClass (top 5) 0
abbrev s_InvalidLine___init__ : Stmt := inClass (top 6) 0
abbrev s_is_integer : Stmt := top 11
abbrev s_is_row : Stmt := top 12
abbrev s_check_rows : Stmt := top 13
abbrev s_Table___init__ : Stmt := inClass (top 14) 0
abbrev s_Table_rows : Stmt := inClass (top 14) 1
abbrev s_Table_passes : Stmt := inClass (top 14) 2
abbrev s_Table_stuck : Stmt := inClass (top 14) 3
abbrev s_Table_most : Stmt := inClass (top 14) 4
abbrev s_Table___eq__ : Stmt := inClass (top 14) 5
abbrev s_Table_turned : Stmt := inClass (top 14) 6
abbrev s_write : Stmt := top 19
abbrev s_is_line : Stmt := top 20
abbrev s_read : Stmt := top 21
abbrev s__law_mix : Stmt := top 23
abbrev s__law_next : Stmt := top 24
abbrev s__law_pick : Stmt := top 25
abbrev s__law_line : Stmt := top 26
abbrev s__law_draw : Stmt := top 27
abbrev s__law_built : Stmt := top 28
abbrev s_law : Stmt := top 29
def fn : List He.DefD := [⟨("is_integer", none), "is_integer", "is_integer", defArgs s_is_integer, defBody s_is_integer, defScope s_is_integer, [], []⟩,
  ⟨("is_row", none), "is_row", "is_row", defArgs s_is_row, defBody s_is_row, defScope s_is_row, [], []⟩,
  ⟨("check_rows", none), "check_rows", "check_rows", defArgs s_check_rows, defBody s_check_rows, defScope s_check_rows, [], []⟩,
  ⟨("Table", some "__init__"), "__init__", "Table.__init__", defArgs s_Table___init__, defBody s_Table___init__, defScope s_Table___init__, [], []⟩,
  ⟨("Table", some "__eq__"), "__eq__", "Table.__eq__", defArgs s_Table___eq__, defBody s_Table___eq__, defScope s_Table___eq__, [], []⟩,
  ⟨("Table", some "turned"), "turned", "Table.turned", defArgs s_Table_turned, defBody s_Table_turned, defScope s_Table_turned, [], []⟩,
  ⟨("write", none), "write", "write", defArgs s_write, defBody s_write, defScope s_write, [], []⟩,
  ⟨("is_line", none), "is_line", "is_line", defArgs s_is_line, defBody s_is_line, defScope s_is_line, [], []⟩,
  ⟨("read", none), "read", "read", defArgs s_read, defBody s_read, defScope s_read, [], []⟩,
  ⟨("_law_mix", none), "_law_mix", "_law_mix", defArgs s__law_mix, defBody s__law_mix, defScope s__law_mix, [], []⟩,
  ⟨("_law_next", none), "_law_next", "_law_next", defArgs s__law_next, defBody s__law_next, defScope s__law_next, [], []⟩,
  ⟨("_law_pick", none), "_law_pick", "_law_pick", defArgs s__law_pick, defBody s__law_pick, defScope s__law_pick, [], []⟩,
  ⟨("_law_line", none), "_law_line", "_law_line", defArgs s__law_line, defBody s__law_line, defScope s__law_line, [], []⟩,
  ⟨("_law_draw", none), "_law_draw", "_law_draw", defArgs s__law_draw, defBody s__law_draw, defScope s__law_draw, [], []⟩,
  ⟨("_law_built", none), "_law_built", "_law_built", defArgs s__law_built, defBody s__law_built, defScope s__law_built, [], []⟩,
  ⟨("law", none), "law", "law", defArgs s_law, defBody s_law, defScope s_law, [], []⟩]
def fa : List He.Fa := [.glo "_law_built",
  .glo "_law_draw",
  .glo "_law_line",
  .glo "_law_mix",
  .glo "_law_next",
  .glo "_law_pick",
  .glo "check_rows",
  .glo "is_integer",
  .glo "is_line",
  .glo "is_row",
  .glo "law",
  .glo "read",
  .glo "write",
  .glo "InvalidLine",
  .glo "InvalidPasses",
  .glo "InvalidRows",
  .glo "InvalidStuck",
  .glo "Table",
  .glo "TakeError",
  .int "MOST_TAKE" 3,
  .int "MOST_PASSES" 1,
  .glo "STUCK",
  .glo "DIGITS",
  .glo "PASSES",
  .int "HEADS" 2,
  .free "all",
  .free "any",
  .free "bool",
  .free "enumerate",
  .free "int",
  .free "isinstance",
  .free "len",
  .free "list",
  .free "max",
  .free "property",
  .free "range",
  .free "str",
  .free "super",
  .free "tuple",
  .free "zip",
  .cls "Table",
  .mkr "Table",
  .noat "Table" "allowed",
  .noat "Table" "spare",
  .noat "Table" "fate",
  .meth "Table" "__eq__",
  .meth "Table" "turned"]
def da : List DefA := [⟨ini "InvalidRows", "__init__", "InvalidRows.__init__", defArgs s_InvalidRows___init__, defBody s_InvalidRows___init__, defScope s_InvalidRows___init__, ["__class__"]⟩,
  ⟨ini "InvalidPasses", "__init__", "InvalidPasses.__init__", defArgs s_InvalidPasses___init__, defBody s_InvalidPasses___init__, defScope s_InvalidPasses___init__, ["__class__"]⟩,
  ⟨ini "InvalidStuck", "__init__", "InvalidStuck.__init__", defArgs s_InvalidStuck___init__, defBody s_InvalidStuck___init__, defScope s_InvalidStuck___init__, ["__class__"]⟩,
  ⟨ini "InvalidLine", "__init__", "InvalidLine.__init__", defArgs s_InvalidLine___init__, defBody s_InvalidLine___init__, defScope s_InvalidLine___init__, ["__class__"]⟩,
  ⟨gt "Table" "rows", "rows", "Table.rows", defArgs s_Table_rows, defBody s_Table_rows, defScope s_Table_rows, []⟩,
  ⟨gt "Table" "passes", "passes", "Table.passes", defArgs s_Table_passes, defBody s_Table_passes, defScope s_Table_passes, []⟩,
  ⟨gt "Table" "stuck", "stuck", "Table.stuck", defArgs s_Table_stuck, defBody s_Table_stuck, defScope s_Table_stuck, []⟩,
  ⟨gt "Table" "most", "most", "Table.most", defArgs s_Table_most, defBody s_Table_most, defScope s_Table_most, []⟩]
def moreL (K : PySem.W.Frag) : List Bool := [dataB K (.tuple [(.str "loses"), (.str "wins")]) (.ref (He.ga K "STUCK")),
  dataB K (.tuple [(.str "1"), (.str "2"), (.str "3")]) (.ref (He.ga K "DIGITS")),
  dataB K (.tuple [(.str "0"), (.str "1")]) (.ref (He.ga K "PASSES")),
  exB PySem.Challenge.pw_takesmemory_k14_whole_texts.main.file K "InvalidRows",
  He.eqO (PySem.W.findIn K (.ref (He.ga K "InvalidRows")) "index") (some none),
  exB PySem.Challenge.pw_takesmemory_k14_whole_texts.main.file K "InvalidPasses",
  exB PySem.Challenge.pw_takesmemory_k14_whole_texts.main.file K "InvalidStuck",
  exB PySem.Challenge.pw_takesmemory_k14_whole_texts.main.file K "InvalidLine",
  He.eqO (PySem.W.findIn K (.ref (He.ga K "InvalidLine")) "line") (some none),
  isiB K "Table",
  propB K "Table" "rows",
  propB K "Table" "passes",
  propB K "Table" "stuck",
  propB K "Table" "most"]
/-- what the top has left -/
structure Txt (P : Program) (K : PySem.W.Frag) (mg : Str → Option Value) (base : Heap) : Prop where
  kin : K.In base
  glob : base.Ns mainGlobals mg
  says : He.SaysD fa fn K
  more : (moreL K).all id = true
  das : ∀ (i : Nat) (d : DefA), da[i]? = some d → fnA K (d.adr K) = d.val ∧ d.ok K = true
  file : P.main.file = PySem.Challenge.pw_takesmemory_k14_whole_texts.main.file
  tsup : (P.main.scope.names.lookup ("super" : Str)).isSome = false
section
variable {P : Program} {K : PySem.W.Frag} {mg : Str → Option Value} {base : Heap}
theorem Txt.has (T : Txt P K mg base) (i : Nat) {b : Bool} (h : (moreL K)[i]? = some b := by rfl) : b = true := by
  have q := List.all_eq_true.mp T.more b (List.mem_of_getElem? h)
  exact q
theorem Txt.m__law_built (T : Txt P K mg base) : mg "_law_built" = some (.ref (He.ga K "_law_built")) := He.glo_ok T.kin T.glob (T.says.fact 0 (f := .glo "_law_built") rfl)
theorem Txt.m__law_draw (T : Txt P K mg base) : mg "_law_draw" = some (.ref (He.ga K "_law_draw")) := He.glo_ok T.kin T.glob (T.says.fact 1 (f := .glo "_law_draw") rfl)
theorem Txt.m__law_line (T : Txt P K mg base) : mg "_law_line" = some (.ref (He.ga K "_law_line")) := He.glo_ok T.kin T.glob (T.says.fact 2 (f := .glo "_law_line") rfl)
theorem Txt.m__law_mix (T : Txt P K mg base) : mg "_law_mix" = some (.ref (He.ga K "_law_mix")) := He.glo_ok T.kin T.glob (T.says.fact 3 (f := .glo "_law_mix") rfl)
theorem Txt.m__law_next (T : Txt P K mg base) : mg "_law_next" = some (.ref (He.ga K "_law_next")) := He.glo_ok T.kin T.glob (T.says.fact 4 (f := .glo "_law_next") rfl)
theorem Txt.m__law_pick (T : Txt P K mg base) : mg "_law_pick" = some (.ref (He.ga K "_law_pick")) := He.glo_ok T.kin T.glob (T.says.fact 5 (f := .glo "_law_pick") rfl)
theorem Txt.m_check_rows (T : Txt P K mg base) : mg "check_rows" = some (.ref (He.ga K "check_rows")) := He.glo_ok T.kin T.glob (T.says.fact 6 (f := .glo "check_rows") rfl)
theorem Txt.m_is_integer (T : Txt P K mg base) : mg "is_integer" = some (.ref (He.ga K "is_integer")) := He.glo_ok T.kin T.glob (T.says.fact 7 (f := .glo "is_integer") rfl)
theorem Txt.m_is_line (T : Txt P K mg base) : mg "is_line" = some (.ref (He.ga K "is_line")) := He.glo_ok T.kin T.glob (T.says.fact 8 (f := .glo "is_line") rfl)
theorem Txt.m_is_row (T : Txt P K mg base) : mg "is_row" = some (.ref (He.ga K "is_row")) := He.glo_ok T.kin T.glob (T.says.fact 9 (f := .glo "is_row") rfl)
theorem Txt.m_law (T : Txt P K mg base) : mg "law" = some (.ref (He.ga K "law")) := He.glo_ok T.kin T.glob (T.says.fact 10 (f := .glo "law") rfl)
theorem Txt.m_read (T : Txt P K mg base) : mg "read" = some (.ref (He.ga K "read")) := He.glo_ok T.kin T.glob (T.says.fact 11 (f := .glo "read") rfl)
theorem Txt.m_write (T : Txt P K mg base) : mg "write" = some (.ref (He.ga K "write")) := He.glo_ok T.kin T.glob (T.says.fact 12 (f := .glo "write") rfl)
theorem Txt.m_InvalidLine (T : Txt P K mg base) : mg "InvalidLine" = some (.ref (He.ga K "InvalidLine")) := He.glo_ok T.kin T.glob (T.says.fact 13 (f := .glo "InvalidLine") rfl)
theorem Txt.m_InvalidPasses (T : Txt P K mg base) : mg "InvalidPasses" = some (.ref (He.ga K "InvalidPasses")) := He.glo_ok T.kin T.glob (T.says.fact 14 (f := .glo "InvalidPasses") rfl)
theorem Txt.m_InvalidRows (T : Txt P K mg base) : mg "InvalidRows" = some (.ref (He.ga K "InvalidRows")) := He.glo_ok T.kin T.glob (T.says.fact 15 (f := .glo "InvalidRows") rfl)
theorem Txt.m_InvalidStuck (T : Txt P K mg base) : mg "InvalidStuck" = some (.ref (He.ga K "InvalidStuck")) := He.glo_ok T.kin T.glob (T.says.fact 16 (f := .glo "InvalidStuck") rfl)
theorem Txt.m_Table (T : Txt P K mg base) : mg "Table" = some (.ref (He.ga K "Table")) := He.glo_ok T.kin T.glob (T.says.fact 17 (f := .glo "Table") rfl)
theorem Txt.m_TakeError (T : Txt P K mg base) : mg "TakeError" = some (.ref (He.ga K "TakeError")) := He.glo_ok T.kin T.glob (T.says.fact 18 (f := .glo "TakeError") rfl)
theorem Txt.m_MOST_TAKE (T : Txt P K mg base) : ∃ t, mg "MOST_TAKE" = some (.int 3 t) := He.int_ok T.kin T.glob (T.says.fact 19 (f := .int "MOST_TAKE" 3) rfl)
theorem Txt.m_MOST_PASSES (T : Txt P K mg base) : ∃ t, mg "MOST_PASSES" = some (.int 1 t) := He.int_ok T.kin T.glob (T.says.fact 20 (f := .int "MOST_PASSES" 1) rfl)
theorem Txt.m_STUCK (T : Txt P K mg base) : mg "STUCK" = some (.ref (He.ga K "STUCK")) := He.glo_ok T.kin T.glob (T.says.fact 21 (f := .glo "STUCK") rfl)
theorem Txt.m_DIGITS (T : Txt P K mg base) : mg "DIGITS" = some (.ref (He.ga K "DIGITS")) := He.glo_ok T.kin T.glob (T.says.fact 22 (f := .glo "DIGITS") rfl)
theorem Txt.m_PASSES (T : Txt P K mg base) : mg "PASSES" = some (.ref (He.ga K "PASSES")) := He.glo_ok T.kin T.glob (T.says.fact 23 (f := .glo "PASSES") rfl)
theorem Txt.m_HEADS (T : Txt P K mg base) : ∃ t, mg "HEADS" = some (.int 2 t) := He.int_ok T.kin T.glob (T.says.fact 24 (f := .int "HEADS" 2) rfl)
theorem Txt.f_all (T : Txt P K mg base) : mg "all" = none := He.free_ok T.kin T.glob (T.says.fact 25 (f := .free "all") rfl)
theorem Txt.f_any (T : Txt P K mg base) : mg "any" = none := He.free_ok T.kin T.glob (T.says.fact 26 (f := .free "any") rfl)
theorem Txt.f_bool (T : Txt P K mg base) : mg "bool" = none := He.free_ok T.kin T.glob (T.says.fact 27 (f := .free "bool") rfl)
theorem Txt.f_enumerate (T : Txt P K mg base) : mg "enumerate" = none := He.free_ok T.kin T.glob (T.says.fact 28 (f := .free "enumerate") rfl)
theorem Txt.f_int (T : Txt P K mg base) : mg "int" = none := He.free_ok T.kin T.glob (T.says.fact 29 (f := .free "int") rfl)
theorem Txt.f_isinstance (T : Txt P K mg base) : mg "isinstance" = none := He.free_ok T.kin T.glob (T.says.fact 30 (f := .free "isinstance") rfl)
theorem Txt.f_len (T : Txt P K mg base) : mg "len" = none := He.free_ok T.kin T.glob (T.says.fact 31 (f := .free "len") rfl)
theorem Txt.f_list (T : Txt P K mg base) : mg "list" = none := He.free_ok T.kin T.glob (T.says.fact 32 (f := .free "list") rfl)
theorem Txt.f_max (T : Txt P K mg base) : mg "max" = none := He.free_ok T.kin T.glob (T.says.fact 33 (f := .free "max") rfl)
theorem Txt.f_property (T : Txt P K mg base) : mg "property" = none := He.free_ok T.kin T.glob (T.says.fact 34 (f := .free "property") rfl)
theorem Txt.f_range (T : Txt P K mg base) : mg "range" = none := He.free_ok T.kin T.glob (T.says.fact 35 (f := .free "range") rfl)
theorem Txt.f_str (T : Txt P K mg base) : mg "str" = none := He.free_ok T.kin T.glob (T.says.fact 36 (f := .free "str") rfl)
theorem Txt.f_super (T : Txt P K mg base) : mg "super" = none := He.free_ok T.kin T.glob (T.says.fact 37 (f := .free "super") rfl)
theorem Txt.f_tuple (T : Txt P K mg base) : mg "tuple" = none := He.free_ok T.kin T.glob (T.says.fact 38 (f := .free "tuple") rfl)
theorem Txt.f_zip (T : Txt P K mg base) : mg "zip" = none := He.free_ok T.kin T.glob (T.says.fact 39 (f := .free "zip") rfl)
theorem Txt.c_Table (T : Txt P K mg base) : Cls K (He.ga K "Table") := He.cls_ok (T.says.fact 40 (f := .cls "Table") rfl)
theorem Txt.k_Table (T : Txt P K mg base) : Mk K (He.ga K "Table") (He.ma K (He.ga K "Table") "__init__") := He.mkr_ok (T.says.fact 41 (f := .mkr "Table") rfl)
theorem Txt.n_Table_allowed (T : Txt P K mg base) : NoAttr K (He.ga K "Table") "allowed" := He.noat_ok (T.says.fact 42 (f := .noat "Table" "allowed") rfl)
theorem Txt.n_Table_spare (T : Txt P K mg base) : NoAttr K (He.ga K "Table") "spare" := He.noat_ok (T.says.fact 43 (f := .noat "Table" "spare") rfl)
theorem Txt.n_Table_fate (T : Txt P K mg base) : NoAttr K (He.ga K "Table") "fate" := He.noat_ok (T.says.fact 44 (f := .noat "Table" "fate") rfl)
theorem Txt.e_Table___eq__ (T : Txt P K mg base) : Meth K (He.ga K "Table") "__eq__" (He.ma K (He.ga K "Table") "__eq__") := He.meth_ok (T.says.fact 45 (f := .meth "Table" "__eq__") rfl)
theorem Txt.e_Table_turned (T : Txt P K mg base) : Meth K (He.ga K "Table") "turned" (He.ma K (He.ga K "Table") "turned") := He.meth_ok (T.says.fact 46 (f := .meth "Table" "turned") rfl)
theorem Txt.d_is_integer (T : Txt P K mg base) : ∃ fd, FunD K "is_integer" "is_integer" (defArgs s_is_integer) (defBody s_is_integer) (defScope s_is_integer) [] [] (He.fAd K ("is_integer", none)) fd := T.says.def_ 0 (d := ⟨("is_integer", none), "is_integer", "is_integer", defArgs s_is_integer, defBody s_is_integer, defScope s_is_integer, [], []⟩) rfl
theorem Txt.d_is_row (T : Txt P K mg base) : ∃ fd, FunD K "is_row" "is_row" (defArgs s_is_row) (defBody s_is_row) (defScope s_is_row) [] [] (He.fAd K ("is_row", none)) fd := T.says.def_ 1 (d := ⟨("is_row", none), "is_row", "is_row", defArgs s_is_row, defBody s_is_row, defScope s_is_row, [], []⟩) rfl
theorem Txt.d_check_rows (T : Txt P K mg base) : ∃ fd, FunD K "check_rows" "check_rows" (defArgs s_check_rows) (defBody s_check_rows) (defScope s_check_rows) [] [] (He.fAd K ("check_rows", none)) fd := T.says.def_ 2 (d := ⟨("check_rows", none), "check_rows", "check_rows", defArgs s_check_rows, defBody s_check_rows, defScope s_check_rows, [], []⟩) rfl
theorem Txt.d_Table___init__ (T : Txt P K mg base) : ∃ fd, FunD K "__init__" "Table.__init__" (defArgs s_Table___init__) (defBody s_Table___init__) (defScope s_Table___init__) [] [] (He.fAd K ("Table", some "__init__")) fd := T.says.def_ 3 (d := ⟨("Table", some "__init__"), "__init__", "Table.__init__", defArgs s_Table___init__, defBody s_Table___init__, defScope s_Table___init__, [], []⟩) rfl
theorem Txt.d_Table___eq__ (T : Txt P K mg base) : ∃ fd, FunD K "__eq__" "Table.__eq__" (defArgs s_Table___eq__) (defBody s_Table___eq__) (defScope s_Table___eq__) [] [] (He.fAd K ("Table", some "__eq__")) fd := T.says.def_ 4 (d := ⟨("Table", some "__eq__"), "__eq__", "Table.__eq__", defArgs s_Table___eq__, defBody s_Table___eq__, defScope s_Table___eq__, [], []⟩) rfl
theorem Txt.d_Table_turned (T : Txt P K mg base) : ∃ fd, FunD K "turned" "Table.turned" (defArgs s_Table_turned) (defBody s_Table_turned) (defScope s_Table_turned) [] [] (He.fAd K ("Table", some "turned")) fd := T.says.def_ 5 (d := ⟨("Table", some "turned"), "turned", "Table.turned", defArgs s_Table_turned, defBody s_Table_turned, defScope s_Table_turned, [], []⟩) rfl
theorem Txt.d_write (T : Txt P K mg base) : ∃ fd, FunD K "write" "write" (defArgs s_write) (defBody s_write) (defScope s_write) [] [] (He.fAd K ("write", none)) fd := T.says.def_ 6 (d := ⟨("write", none), "write", "write", defArgs s_write, defBody s_write, defScope s_write, [], []⟩) rfl
theorem Txt.d_is_line (T : Txt P K mg base) : ∃ fd, FunD K "is_line" "is_line" (defArgs s_is_line) (defBody s_is_line) (defScope s_is_line) [] [] (He.fAd K ("is_line", none)) fd := T.says.def_ 7 (d := ⟨("is_line", none), "is_line", "is_line", defArgs s_is_line, defBody s_is_line, defScope s_is_line, [], []⟩) rfl
theorem Txt.d_read (T : Txt P K mg base) : ∃ fd, FunD K "read" "read" (defArgs s_read) (defBody s_read) (defScope s_read) [] [] (He.fAd K ("read", none)) fd := T.says.def_ 8 (d := ⟨("read", none), "read", "read", defArgs s_read, defBody s_read, defScope s_read, [], []⟩) rfl
theorem Txt.d__law_mix (T : Txt P K mg base) : ∃ fd, FunD K "_law_mix" "_law_mix" (defArgs s__law_mix) (defBody s__law_mix) (defScope s__law_mix) [] [] (He.fAd K ("_law_mix", none)) fd := T.says.def_ 9 (d := ⟨("_law_mix", none), "_law_mix", "_law_mix", defArgs s__law_mix, defBody s__law_mix, defScope s__law_mix, [], []⟩) rfl
theorem Txt.d__law_next (T : Txt P K mg base) : ∃ fd, FunD K "_law_next" "_law_next" (defArgs s__law_next) (defBody s__law_next) (defScope s__law_next) [] [] (He.fAd K ("_law_next", none)) fd := T.says.def_ 10 (d := ⟨("_law_next", none), "_law_next", "_law_next", defArgs s__law_next, defBody s__law_next, defScope s__law_next, [], []⟩) rfl
theorem Txt.d__law_pick (T : Txt P K mg base) : ∃ fd, FunD K "_law_pick" "_law_pick" (defArgs s__law_pick) (defBody s__law_pick) (defScope s__law_pick) [] [] (He.fAd K ("_law_pick", none)) fd := T.says.def_ 11 (d := ⟨("_law_pick", none), "_law_pick", "_law_pick", defArgs s__law_pick, defBody s__law_pick, defScope s__law_pick, [], []⟩) rfl
theorem Txt.d__law_line (T : Txt P K mg base) : ∃ fd, FunD K "_law_line" "_law_line" (defArgs s__law_line) (defBody s__law_line) (defScope s__law_line) [] [] (He.fAd K ("_law_line", none)) fd := T.says.def_ 12 (d := ⟨("_law_line", none), "_law_line", "_law_line", defArgs s__law_line, defBody s__law_line, defScope s__law_line, [], []⟩) rfl
theorem Txt.d__law_draw (T : Txt P K mg base) : ∃ fd, FunD K "_law_draw" "_law_draw" (defArgs s__law_draw) (defBody s__law_draw) (defScope s__law_draw) [] [] (He.fAd K ("_law_draw", none)) fd := T.says.def_ 13 (d := ⟨("_law_draw", none), "_law_draw", "_law_draw", defArgs s__law_draw, defBody s__law_draw, defScope s__law_draw, [], []⟩) rfl
theorem Txt.d__law_built (T : Txt P K mg base) : ∃ fd, FunD K "_law_built" "_law_built" (defArgs s__law_built) (defBody s__law_built) (defScope s__law_built) [] [] (He.fAd K ("_law_built", none)) fd := T.says.def_ 14 (d := ⟨("_law_built", none), "_law_built", "_law_built", defArgs s__law_built, defBody s__law_built, defScope s__law_built, [], []⟩) rfl
theorem Txt.d_law (T : Txt P K mg base) : ∃ fd, FunD K "law" "law" (defArgs s_law) (defBody s_law) (defScope s_law) [] [] (He.fAd K ("law", none)) fd := T.says.def_ 15 (d := ⟨("law", none), "law", "law", defArgs s_law, defBody s_law, defScope s_law, [], []⟩) rfl
theorem Txt.q_STUCK (T : Txt P K mg base) : ∀ H, Tp K H (.ref (He.ga K "STUCK")) (.tuple [(.str "loses"), (.str "wins")]) := fun H => data_at (T.has 0) H
theorem Txt.q_DIGITS (T : Txt P K mg base) : ∀ H, Tp K H (.ref (He.ga K "DIGITS")) (.tuple [(.str "1"), (.str "2"), (.str "3")]) := fun H => data_at (T.has 1) H
theorem Txt.q_PASSES (T : Txt P K mg base) : ∀ H, Tp K H (.ref (He.ga K "PASSES")) (.tuple [(.str "0"), (.str "1")]) := fun H => data_at (T.has 2) H
theorem Txt.x_InvalidRows (T : Txt P K mg base) : Exc1 P K mg "InvalidRows" "index" := ⟨T.m_InvalidRows, He.eqO_ok (T.has 4), ⟨by decide, by decide, by decide, by decide⟩, _, _, _, _, _, _, _, _, _, _, _, _, _, _, _, _, exB_ok T.file T.tsup (T.has 3) (T.das 0 _ rfl).1 (T.das 0 _ rfl).2, rfl, fun _ => rfl, fun _ => rfl, fun _ _ _ _ _ _ _ _ _ => BindsTo.of_eq (by first | rfl | with_unfolding_all rfl)⟩
theorem Txt.x_InvalidPasses (T : Txt P K mg base) : Exc0 P K mg "InvalidPasses" := ⟨T.m_InvalidPasses, _, _, _, _, _, _, _, _, _, _, _, exB_ok T.file T.tsup (T.has 5) (T.das 1 _ rfl).1 (T.das 1 _ rfl).2, rfl, fun _ => rfl⟩
theorem Txt.x_InvalidStuck (T : Txt P K mg base) : Exc0 P K mg "InvalidStuck" := ⟨T.m_InvalidStuck, _, _, _, _, _, _, _, _, _, _, _, exB_ok T.file T.tsup (T.has 6) (T.das 2 _ rfl).1 (T.das 2 _ rfl).2, rfl, fun _ => rfl⟩
theorem Txt.x_InvalidLine (T : Txt P K mg base) : Exc1 P K mg "InvalidLine" "line" := ⟨T.m_InvalidLine, He.eqO_ok (T.has 8), ⟨by decide, by decide, by decide, by decide⟩, _, _, _, _, _, _, _, _, _, _, _, _, _, _, _, _, exB_ok T.file T.tsup (T.has 7) (T.das 3 _ rfl).1 (T.das 3 _ rfl).2, rfl, fun _ => rfl, fun _ => rfl, fun _ _ _ _ _ _ _ _ _ => BindsTo.of_eq (by first | rfl | with_unfolding_all rfl)⟩
theorem Txt.i_Table (T : Txt P K mg base) : IsiOk K "Table" := isiB_ok T.c_Table (T.has 9)
theorem Txt.l_Table_allowed (T : Txt P K mg base) : FldOk K "Table" "allowed" := ⟨T.c_Table, T.n_Table_allowed⟩
theorem Txt.l_Table_spare (T : Txt P K mg base) : FldOk K "Table" "spare" := ⟨T.c_Table, T.n_Table_spare⟩
theorem Txt.l_Table_fate (T : Txt P K mg base) : FldOk K "Table" "fate" := ⟨T.c_Table, T.n_Table_fate⟩
theorem Txt.p_Table_rows (T : Txt P K mg base) : PropOf K (He.ga K "Table") "rows" (pa K "Table" "rows") (gt "Table" "rows" K) := propB_ok (T.has 10)
theorem Txt.d_Table_rows (T : Txt P K mg base) : ∃ fd, FunD K "rows" "Table.rows" (defArgs s_Table_rows) (defBody s_Table_rows) (defScope s_Table_rows) [] [] (gt "Table" "rows" K) fd := DefA.funD (d := ⟨gt "Table" "rows", "rows", "Table.rows", defArgs s_Table_rows, defBody s_Table_rows, defScope s_Table_rows, []⟩) (T.das 4 _ rfl).1 (T.das 4 _ rfl).2 rfl
theorem Txt.p_Table_passes (T : Txt P K mg base) : PropOf K (He.ga K "Table") "passes" (pa K "Table" "passes") (gt "Table" "passes" K) := propB_ok (T.has 11)
theorem Txt.d_Table_passes (T : Txt P K mg base) : ∃ fd, FunD K "passes" "Table.passes" (defArgs s_Table_passes) (defBody s_Table_passes) (defScope s_Table_passes) [] [] (gt "Table" "passes" K) fd := DefA.funD (d := ⟨gt "Table" "passes", "passes", "Table.passes", defArgs s_Table_passes, defBody s_Table_passes, defScope s_Table_passes, []⟩) (T.das 5 _ rfl).1 (T.das 5 _ rfl).2 rfl
theorem Txt.p_Table_stuck (T : Txt P K mg base) : PropOf K (He.ga K "Table") "stuck" (pa K "Table" "stuck") (gt "Table" "stuck" K) := propB_ok (T.has 12)
theorem Txt.d_Table_stuck (T : Txt P K mg base) : ∃ fd, FunD K "stuck" "Table.stuck" (defArgs s_Table_stuck) (defBody s_Table_stuck) (defScope s_Table_stuck) [] [] (gt "Table" "stuck" K) fd := DefA.funD (d := ⟨gt "Table" "stuck", "stuck", "Table.stuck", defArgs s_Table_stuck, defBody s_Table_stuck, defScope s_Table_stuck, []⟩) (T.das 6 _ rfl).1 (T.das 6 _ rfl).2 rfl
theorem Txt.p_Table_most (T : Txt P K mg base) : PropOf K (He.ga K "Table") "most" (pa K "Table" "most") (gt "Table" "most" K) := propB_ok (T.has 13)
theorem Txt.d_Table_most (T : Txt P K mg base) : ∃ fd, FunD K "most" "Table.most" (defArgs s_Table_most) (defBody s_Table_most) (defScope s_Table_most) [] [] (gt "Table" "most" K) fd := DefA.funD (d := ⟨gt "Table" "most", "most", "Table.most", defArgs s_Table_most, defBody s_Table_most, defScope s_Table_most, []⟩) (T.das 7 _ rfl).1 (T.das 7 _ rfl).2 rfl
end
end Tk

end

section
namespace Tk
open PySem PySem.Spec L2 RZ StX
open PyProof.Rows (envOfC)
local macro_rules
  | `(tactic| k_subL) => `(tactic| first
      | with_reducible apply g_seq
      | with_reducible apply g_asg
      | with_reducible apply g_if
      | with_reducible apply g_ret
      | with_reducible apply g_drop
      | with_reducible apply g_next
      | with_reducible apply g_retN
      | with_reducible apply g_brk
      | with_reducible apply g_cont
      | (with_reducible apply g_name; focus (first | (simp only [wipe, List.foldl, List.set_cons_succ, List.set_cons_zero]; exact rfl) | exact rfl))
      | (with_reducible apply g_var; focus (with_unfolding_all exact rfl))
      | with_reducible apply g_c
      | with_reducible apply g_op
      | with_reducible apply g_un
      | with_reducible apply g_cb
      | with_reducible apply g_callS
      | with_reducible apply g_nil
      | with_reducible apply g_cons
      | with_reducible apply g_ife
      | with_reducible apply g_test
      | with_reducible apply g_tb
      | with_reducible apply g_bl
      | with_reducible apply g_and
      | with_reducible apply g_or
      | with_reducible apply g_not
      | with_reducible apply g_andV
      | with_reducible apply g_orV
      | with_reducible apply g_notV
      | with_reducible apply g_yes
      | with_reducible apply g_iT
      | with_reducible apply g_iF
      | with_reducible apply g_iNT
      | with_reducible apply g_iNF
      | with_reducible apply g_chain
      | with_reducible apply g_tup
      | with_reducible apply g_lc
      | with_reducible apply g_iSeq
      | with_reducible apply g_iEnum
      | with_reducible apply g_iZip
      | with_reducible apply g_rng1
      | with_reducible apply g_rng2
      | with_reducible apply g_for
      | with_reducible apply g_sl
      | with_reducible apply g_noPart
      | with_reducible apply g_part
      | with_reducible apply g_int
      | (with_reducible apply r_seqT; focus assumption)
      | (with_reducible apply r_seqL; focus assumption)
      | (with_reducible apply r_enumT; focus assumption)
      | (with_reducible apply r_enumL; focus assumption)
      | ((with_reducible apply r_zipT); (focus assumption); (focus assumption))
      | ((with_reducible apply r_lenT); (focus assumption))
      | ((with_reducible apply r_lenL); (focus assumption))
      | with_reducible apply g_lst
      | with_reducible apply g_m1
      | with_reducible apply g_par
      | ((with_reducible apply g_par2); (try simp only [List.set_cons_succ, List.set_cons_zero]))
      | ((with_reducible apply r_row1); (focus assumption))
      | ((with_reducible apply r_row2); (focus assumption))
      | ((with_reducible apply r_mod); (focus first | assumption | decide))
      | ((with_reducible apply r_div); (focus first | assumption | decide))
      | ((with_reducible apply r_pow); (focus decide))
      | ((with_reducible apply r_mulC); (focus decide))
      | with_reducible apply g_gSub
      | ((with_reducible apply g_tabA); (focus assumption); intro _ _)
      | ((with_reducible apply g_tabS); (focus assumption))
      | ((with_reducible apply g_tabF); (focus assumption))
      | with_reducible apply g_isS
      | with_reducible apply g_star
      | with_reducible apply g_bm
      | with_reducible apply g_bm0
      | with_reducible apply r_intI
      | with_reducible apply g_raise0
      | with_reducible apply g_raise1
      | with_reducible apply g_fldO
      | with_reducible apply g_fldSO
      | with_reducible apply g_methO
      | with_reducible apply g_makeO
      | with_reducible apply g_propO
      | with_reducible apply r_I0
      | with_reducible apply r_addI
      | with_reducible apply r_eqI
      | with_reducible apply r_neI
      | with_reducible apply r_eqS
      | with_reducible apply r_neS
      | with_reducible apply r_eqB
      | with_reducible apply r_neB
      | with_reducible apply r_int1
      | with_reducible apply r_max2
      | with_reducible apply g_gNil
      | ((with_reducible apply g_gTup); (focus (exact SqT.of upd_same)); (focus (exact rfl)))
      | with_reducible apply g_gCons
      | (with_reducible refine r_isN ?_)
      | (with_reducible apply r_isi_int; focus k_offL)
      | (with_reducible apply r_isi_bool; focus k_offL)
      | (with_reducible apply r_isi_str; focus k_offL)
      | (with_reducible apply r_isi_tup; focus k_offL)
      | (with_reducible apply r_isi_lst; focus k_offL)
      | (with_reducible apply r_isi_dct; focus k_offL)
      | dsimp only [Ty.isInt, Ty.isBool, Ty.isStr, Ty.isTup, Ty.isLst, Ty.isDct]
      | dsimp only [decide_true, decide_false, Bool.not_true, Bool.not_false])
  | `(tactic| k_offL) => `(tactic| first | exact AnyV.non | exact AnyV.bl _ | exact AnyV.int _ | exact AnyV.str _ | exact AnyV.lst (by assumption) | exact AnyV.tup (by assumption) | exact AnyV.dK (by assumption) | assumption)
  | `(tactic| k_clsL) => `(tactic| repeat k_subL)

section
open PySem PySem.Spec L2 RZ StX
open PyProof.Rows (envOfC)
section
variable {P : Program} {w : World} {K : PySem.W.Frag} {mg : Str → Option Value} {base : Heap}
abbrev N__law_mix : List Str := ["_law_script", "_law_seed", "_law_state", "_law_cell"]
theorem sc__law_mix : FnScope N__law_mix ["_law_script", "_law_seed"] (defScope s__law_mix) := ⟨rfl, rfl, rfl, by decide +kernel, rfl, by decide +kernel, by decide +kernel⟩
def t__law_mix (K : PySem.W.Frag) (E : XK) : TS :=
    (tSeq (tAsg (tVar 1) (gName 2))
    (tSeq (tFor (iSeq K (tVar 0)) (gName 3) (tAsg (tOp (rI (fun _ j => 0 < j) fun i j => .int (i % j)) (tCB rIntA (tCons (tOp (rAddA K) (tOp (rAddA K) (tOp (rMulA K) (tVar 2) (tC (.int 48271))) (tOp (rI (fun _ j => 0 < j) fun i j => .int (i % j)) (tCB rIntA (tCons (tVar 3) tNil)) (tC (.int 2147483629)))) (tC (.int 1))) tNil)) (tC (.int 2147483647))) (gName 2)))
    (tRet (tLst (tCons (tVar 2) (tCons (tCB (rListOf K) (tCons (tVar 0) tNil)) (tCons (tC (.int 0)) tNil)))))))
end
def sp__law_mix (K : PySem.W.Frag) : Sp := fun vs H Q _ => ∃ (a : Addr) (ns : List Int) (s0 : Int), vs = [.ref a, .int s0] ∧ SqL K H a (ns.map V.int) ∧ ns.length ≤ 63 ∧ ∀ b l H', H b = none → H l = none → Fr [] H H' → Drw H' b l → Q (.ref b) H'
theorem pure__law_mix {K : PySem.W.Frag} (vs : List V) (H : Hp) (Q : VK) (E : XK) (hl : vs.length = 2) (h : sp__law_mix K vs H Q E) : t__law_mix K E { nx := fun _ H' => Q .non H', rt := Q } (start N__law_mix vs) H := by
  obtain ⟨a, ns, s0, rfl, ha, hn, q⟩ := h
  show t__law_mix K E _ [some (.ref a), some (.int s0), none, none] H
  unfold t__law_mix
  k_clsL
  refine for_fm (walk_list (xs := ns.map V.int)) ns (by rw [List.length_map]) (fun i σ' H' => H' = H ∧ ∃ st s3, σ' = [some (.ref a), some (.int s0), some (V.int st), s3]) ⟨rfl, s0, none, rfl⟩ (fun i σ' H' ⟨e, _⟩ => by rw [e]; exact ha) ?_ ?_
  · rintro i n x σ' H1 H2 hi ⟨rfl, st, s3, rfl⟩ ⟨rfl, hx⟩
    rw [List.getElem?_map, hi] at hx
    cases hx
    k_clsL
    exact ⟨rfl, _, _, rfl⟩
  · rintro σ' H1 ⟨rfl, st, s3, rfl⟩
    k_clsL
    refine r_listOfL ha fun l n1 F1 h1 => ?_
    k_clsL
    refine g_nL fun b n2 F2 h2 => ?_
    refine q b l _ ?_ n1 (F1.trans F2) ?_
    · exact F1.free n2
    · refine ⟨fun e => ?_, st, ns, 0, h2, F2.lst0 h1, hn⟩
      subst e
      rw [h1] at n2
      cases n2

section
variable {P : Program} {w : World} {K : PySem.W.Frag} {mg : Str → Option Value} {base : Heap}
theorem der__law_mix (T : Txt P K mg base) {cdv : Value} {A : Around} {outer : List Env} {s : Shared} {H : Hp} {E : XK} (hr : Room 0 (A.deeper (envOfC "_law_mix" (defScope s__law_mix) s.heap.objs.size (He.ga K "_law_mix") cdv))) :
    PSs (cxOf (L2.CX P w) P w K mg base N__law_mix "_law_mix" (defScope s__law_mix) (He.ga K "_law_mix") cdv A outer s H E) (defBody s__law_mix) (t__law_mix K E) := by
  have nd := (sc__law_mix).nd
  have tk : Takes (cxOf (L2.CX P w) P w K mg base N__law_mix "_law_mix" (defScope s__law_mix) (He.ga K "_law_mix") cdv A outer s H E) (fun cls d _ H => E cls d H) := takes_of rfl rfl rfl rfl
  exact (pss_cons (ps_set (i := 2) nd rfl (by first | exact Or.inl rfl | exact Or.inr rfl) (pv 1))
    (pss_cons (ps_for (passes_of rfl) rfl (pi_seq (pv 0)) (pg_name (i := 3) nd rfl (by first | exact Or.inl rfl | exact Or.inr rfl)) (pss_one (ps_set (i := 2) nd rfl (by first | exact Or.inl rfl | exact Or.inr rfl) (pe_op op_mod (pe_callTy call_intA (by rfl) T.f_int (by decide +kernel) (pa_cons (pe_op op_addA (pe_op op_addA (pe_op op_mulA (pv 2) pe_int) (pe_op op_mod (pe_callTy call_intA (by rfl) T.f_int (by decide +kernel) (pa_cons (pv 3) pa_nil)) pe_int)) pe_int) pa_nil)) pe_int))))
    (pss_one (ps_ret (pe_lst (pa_cons (pv 2) (pa_cons (pe_callTy call_listOf (by rfl) T.f_list (by decide +kernel) (pa_cons (pv 0) pa_nil)) (pa_cons pe_int pa_nil))))))))
theorem ok__law_mix (T : Txt P K mg base) : Ok P w K mg base "_law_mix" 1 ["_law_script", "_law_seed"] (spL 2 (sp__law_mix K)) := ok_mk (T.d__law_mix) T.m__law_mix sc__law_mix (fun _ _ _ _ _ _ us hl => match us, hl with | [_, _], _ => rfl) (fun _ _ _ _ _ _ hr => der__law_mix T hr) (pure__law_mix)
end
end

section
open PySem PySem.Spec L2 RZ StX
open PyProof.Rows (envOfC)
section
variable {P : Program} {w : World} {K : PySem.W.Frag} {mg : Str → Option Value} {base : Heap}
abbrev N__law_next : List Str := ["_law_h", "_law_cap", "_law_cell"]
theorem sc__law_next : FnScope N__law_next ["_law_h", "_law_cap"] (defScope s__law_next) := ⟨rfl, rfl, rfl, by decide +kernel, rfl, by decide +kernel, by decide +kernel⟩
def t__law_next (K : PySem.W.Frag) (E : XK) : TS :=
    (tSeq (tAsg (tOp (rIx K) (tOp (rAddA K) (tOp (rIx K) (tVar 0) (tC (.int 1))) (tLst (tCons (tC (.int 0)) tNil))) (tOp (rI (fun _ j => 0 < j) fun i j => .int (i % j)) (tCB rIntA (tCons (tOp (rIx K) (tVar 0) (tC (.int 2))) tNil)) (tCB rMax2 (tCons (tC (.int 1)) (tCons (tCB (rLenA K) (tCons (tOp (rIx K) (tVar 0) (tC (.int 1))) tNil)) tNil))))) (gName 2))
    (tSeq (tIfS (tTest (tOp (rI0 fun i j => .bl (decide (j ≤ i))) (tVar 2) (tOp (rI CPow fun i j => .int (i ^ j.toNat)) (tC (.int 10)) (tC (.int 18))))) (tSeq (tAsg (tOp (rI CDiv fun i j => .int (i / j)) (tVar 2) (tVar 1)) (gSub (tOp (rIx K) (tVar 0) (tC (.int 1))) (tOp (rI (fun _ j => 0 < j) fun i j => .int (i % j)) (tCB rIntA (tCons (tOp (rIx K) (tVar 0) (tC (.int 2))) tNil)) (tCB (rLenA K) (tCons (tOp (rIx K) (tVar 0) (tC (.int 1))) tNil))) rSetL))
    (tRet (tOp (rI (fun _ j => 0 < j) fun i j => .int (i % j)) (tCB rIntA (tCons (tVar 2) tNil)) (tVar 1)))) tNext)
    (tSeq (tAsg (tOp (rI (fun _ j => 0 < j) fun i j => .int (i % j)) (tCB rIntA (tCons (tOp (rAddA K) (tOp (rAddA K) (tOp (rMulA K) (tOp (rIx K) (tVar 0) (tC (.int 0))) (tC (.int 48271))) (tOp (rMulA K) (tVar 2) (tC (.int 69621)))) (tC (.int 11))) tNil)) (tC (.int 2147483647))) (gSub (tVar 0) (tC (.int 0)) rSetL))
    (tSeq (tAsg (tOp (rAddA K) (tOp (rIx K) (tVar 0) (tC (.int 2))) (tC (.int 1))) (gSub (tVar 0) (tC (.int 2)) rSetL))
    (tRet (tOp (rI (fun _ j => 0 < j) fun i j => .int (i % j)) (tCB rIntA (tCons (tOp (rI CDiv fun i j => .int (i / j)) (tOp (rIx K) (tVar 0) (tC (.int 0))) (tC (.int 7))) tNil)) (tVar 1)))))))
end
def sp__law_next (K : PySem.W.Frag) : Sp := fun vs H Q _ => ∃ (a l : Addr) (cap : Int), vs = [.ref a, .int cap] ∧ Drw H a l ∧ 0 < cap ∧ cap < 1073741824 ∧ ∀ (k : Nat) H', (k : Int) < cap → Fr [a, l] H H' → Drw H' a l → Q (.int k) H'
theorem pure__law_next {K : PySem.W.Frag} (vs : List V) (H : Hp) (Q : VK) (E : XK) (hl : vs.length = 2) (h : sp__law_next K vs H Q E) : t__law_next K E { nx := fun _ H' => Q .non H', rt := Q } (start N__law_next vs) H := by
  obtain ⟨a, l, cap, rfl, ⟨hal, st, ns, ix, h1, h2, h3⟩, c0, c1, q⟩ := h
  show t__law_next K E _ [some (.ref a), some (.int cap), none] H
  unfold t__law_next
  have fin : ∀ (x : Int) (H' : Hp), Fr [a, l] H H' → Drw H' a l → Q (.int (x % cap)) H' := fun x H' F d => by
    obtain ⟨k, hk⟩ := Int.eq_ofNat_of_zero_le (Int.emod_nonneg x (Int.ne_of_gt c0))
    have h := q k H' (by rw [← hk]; exact Int.emod_lt_of_pos x c0) F d
    rw [← hk] at h
    exact h
  k_clsL
  refine r_ixL (j := 1) (SqL.of h1) rfl ?_
  k_clsL
  refine g_nL fun p n1 F1 hp => ?_
  have hl1 := F1.lst0 h2
  have ha1 := F1.lst0 h1
  refine r_addL hl1 hp (by rw [sizeLine_eq, List.length_map]; simp; omega) fun p2 n2 F2 hp2 => ?_
  have hl2 := F2.lst0 hl1
  have ha2 := F2.lst0 ha1
  k_clsL
  refine r_ixL (j := 2) (SqL.of ha2) rfl ?_
  k_clsL
  refine r_ixL (j := 1) (SqL.of ha2) rfl ?_
  k_clsL
  refine r_lenL (SqL.of hl2) ?_
  k_clsL
  generalize upd (upd H p (HO.lst [V.int 0])) p2 (HO.lst (List.map V.int ns ++ [V.int 0])) = H2 at F2 hp2 hl2 ha2 ⊢
  have F12 := F1.trans F2
  rw [List.length_map]
  obtain ⟨m, hm, hm1, hm2⟩ : ∃ m : Nat, (if (ns.length : Int) > 1 then (ns.length : Int) else 1) = (m : Int) ∧ 0 < m ∧ m ≤ ns.length + 1 := by
    by_cases h : (ns.length : Int) > 1
    · exact ⟨ns.length, if_pos h, by omega, by omega⟩
    · exact ⟨1, if_neg h, by omega, by omega⟩
  rw [hm]
  refine r_mod (by omega) ?_
  rw [← Int.natCast_emod]
  have hlt : ix % m < ns.length + 1 := Nat.lt_of_lt_of_le (Nat.mod_lt _ hm1) hm2
  obtain ⟨c, hc⟩ : ∃ c : Int, (ns.map V.int ++ [V.int 0])[ix % m]? = some (V.int c) := by
    rcases Nat.lt_or_ge (ix % m) ns.length with h | h
    · exact ⟨ns[ix % m], by rw [List.getElem?_append_left (by rw [List.length_map]; exact h), List.getElem?_map, List.getElem?_eq_getElem h]; rfl⟩
    · have e : ix % m = ns.length := by omega
      exact ⟨0, by rw [List.getElem?_append_right (by rw [List.length_map]; exact h), List.length_map, e, Nat.sub_self]; rfl⟩
  refine r_ixL (SqL.of hp2) hc ?_
  have hD : Drw H2 a l := ⟨hal, st, ns, ix, ha2, hl2, h3⟩
  k_clsL
  refine iteD (fun hb => ?_) (fun hb => ?_)
  · -- a wide number: its lower part is told, the rest stays
    have hns : 0 < ns.length := by
      rcases Nat.eq_zero_or_pos ns.length with h | h
      · exfalso
        have e0 : ns = [] := List.length_eq_zero_iff.mp h
        subst e0
        have em : ix % m = 0 := by
          have : m ≤ 1 := hm2
          have : m = 1 := by omega
          rw [this, Nat.mod_one]
        rw [em] at hc
        cases hc
        exact absurd hb (by decide)
      · exact h
    k_clsL
    refine r_div ⟨c0, c1⟩ ?_
    k_clsL
    refine r_ixL (j := 1) (SqL.of ha2) rfl ?_
    k_clsL
    refine r_ixL (j := 2) (SqL.of ha2) rfl ?_
    k_clsL
    refine r_ixL (j := 1) (SqL.of ha2) rfl ?_
    k_clsL
    refine r_lenL (SqL.of hl2) ?_
    k_clsL
    rw [List.length_map]
    refine r_mod (by omega) ?_
    rw [← Int.natCast_emod]
    k_clsL
    refine r_setL hl2 rfl (by rw [List.length_map]; exact Nat.mod_lt _ hns) ?_
    have F3 : Fr [a, l] H2 (upd H2 l (.lst ((ns.map V.int).set (ix % ns.length) (.int (c / cap))))) := Fr.put hl2 (fun _ z => by cases z) (fun _ _ z => by cases z) (by simp)
    k_clsL
    refine fin _ _ ((F12.nil).trans F3) ⟨hal, st, ns.set (ix % ns.length) (c / cap), ix, ?_, ?_, by rw [List.length_set]; exact h3⟩
    · rw [upd_ne hal]
      exact ha2
    · rw [upd_same, List.map_set]
  · k_clsL
    refine r_ixL (j := 0) (SqL.of ha2) rfl ?_
    k_clsL
    refine r_setL (n := 0) ha2 rfl (by simp) ?_
    k_clsL
    refine r_ixL (j := 2) (SqL.of upd_same) rfl ?_
    k_clsL
    refine r_setL (n := 2) upd_same rfl (by simp) ?_
    rw [upd_upd]
    k_clsL
    refine r_ixL (j := 0) (SqL.of upd_same) rfl ?_
    k_clsL
    have F3 : ∀ o, Fr [a, l] H2 (upd H2 a o) := fun o => Fr.put ha2 (fun _ z => by cases z) (fun _ _ z => by cases z) (by simp)
    refine fin _ _ ((F12.nil).trans (F3 _)) ⟨hal, _, ns, ix + 1, upd_same, ?_, h3⟩
    rw [upd_ne (Ne.symm hal)]
    exact hl2

section
variable {P : Program} {w : World} {K : PySem.W.Frag} {mg : Str → Option Value} {base : Heap}
theorem der__law_next (T : Txt P K mg base) {cdv : Value} {A : Around} {outer : List Env} {s : Shared} {H : Hp} {E : XK} (hr : Room 0 (A.deeper (envOfC "_law_next" (defScope s__law_next) s.heap.objs.size (He.ga K "_law_next") cdv))) :
    PSs (cxOf (L2.CX P w) P w K mg base N__law_next "_law_next" (defScope s__law_next) (He.ga K "_law_next") cdv A outer s H E) (defBody s__law_next) (t__law_next K E) := by
  have nd := (sc__law_next).nd
  have tk : Takes (cxOf (L2.CX P w) P w K mg base N__law_next "_law_next" (defScope s__law_next) (He.ga K "_law_next") cdv A outer s H E) (fun cls d _ H => E cls d H) := takes_of rfl rfl rfl rfl
  exact (pss_cons (ps_set (i := 2) nd rfl (by first | exact Or.inl rfl | exact Or.inr rfl) (pe_ix ix_seq (pe_op op_addA (pe_ix ix_seq (pv 0) pe_int (fun _ _ => rfl)) (pe_lst (pa_cons pe_int pa_nil))) (pe_op op_mod (pe_callTy call_intA (by rfl) T.f_int (by decide +kernel) (pa_cons (pe_ix ix_seq (pv 0) pe_int (fun _ _ => rfl)) pa_nil)) (pe_callB (call_max2A rfl) (by rfl) T.f_max (by decide +kernel) (pa_cons pe_int (pa_cons (pe_callB call_lenA (by rfl) T.f_len (by decide +kernel) (pa_cons (pe_ix ix_seq (pv 0) pe_int (fun _ _ => rfl)) pa_nil)) pa_nil)))) (fun _ _ => rfl)))
    (pss_cons (ps_if (pt_cmpR op_ge (pv 2) (pe_op op_pow pe_int pe_int) (nomark _)) (pss_cons (ps_asg (pe_op op_fdiv (pv 2) (pv 1)) (pg_sub (pe_ix ix_seq (pv 0) pe_int (fun _ _ => rfl)) (pe_op op_mod (pe_callTy call_intA (by rfl) T.f_int (by decide +kernel) (pa_cons (pe_ix ix_seq (pv 0) pe_int (fun _ _ => rfl)) pa_nil)) (pe_callB call_lenA (by rfl) T.f_len (by decide +kernel) (pa_cons (pe_ix ix_seq (pv 0) pe_int (fun _ _ => rfl)) pa_nil))) set_list))
    (pss_one (ps_ret (pe_op op_mod (pe_callTy call_intA (by rfl) T.f_int (by decide +kernel) (pa_cons (pv 2) pa_nil)) (pv 1))))) pss_nil)
    (pss_cons (ps_asg (pe_op op_mod (pe_callTy call_intA (by rfl) T.f_int (by decide +kernel) (pa_cons (pe_op op_addA (pe_op op_addA (pe_op op_mulA (pe_ix ix_seq (pv 0) pe_int (fun _ _ => rfl)) pe_int) (pe_op op_mulA (pv 2) pe_int)) pe_int) pa_nil)) pe_int) (pg_sub (pv 0) pe_int set_list))
    (pss_cons (ps_asg (pe_op op_addA (pe_ix ix_seq (pv 0) pe_int (fun _ _ => rfl)) pe_int) (pg_sub (pv 0) pe_int set_list))
    (pss_one (ps_ret (pe_op op_mod (pe_callTy call_intA (by rfl) T.f_int (by decide +kernel) (pa_cons (pe_op op_fdiv (pe_ix ix_seq (pv 0) pe_int (fun _ _ => rfl)) pe_int) pa_nil)) (pv 1))))))))
theorem ok__law_next (T : Txt P K mg base) : Ok P w K mg base "_law_next" 1 ["_law_h", "_law_cap"] (spL 2 (sp__law_next K)) := ok_mk (T.d__law_next) T.m__law_next sc__law_next (fun _ _ _ _ _ _ us hl => match us, hl with | [_, _], _ => rfl) (fun _ _ _ _ _ _ hr => der__law_next T hr) (pure__law_next)
end
end

section
open PySem PySem.Spec L2 RZ StX
open PyProof.Rows (envOfC)
section
variable {P : Program} {w : World} {K : PySem.W.Frag} {mg : Str → Option Value} {base : Heap}
abbrev N__law_line : List Str := ["_law_h", "_law_most", "_law_take"]
theorem sc__law_line : FnScope N__law_line ["_law_h", "_law_most"] (defScope s__law_line) := ⟨rfl, rfl, rfl, by decide +kernel, rfl, by decide +kernel, by decide +kernel⟩
def t__law_line (K : PySem.W.Frag) (E : XK) : TS :=
    (tRet (tCB (rTupleOf K) (tCons (tLc (iSeq K (tSl (rSl K) (tLst (tCons (tC (.int 1)) (tCons (tC (.int 2)) (tCons (tC (.int 3)) tNil)))) tNoPart (tPart (tVar 1)))) (gName 2) (tTest (tOp (rI0 fun i j => .bl (decide (i < j))) (tCallS (spL 2 (sp__law_next K)) (WE (fun _ _ _ _ => False)) (tCons (tVar 0) (tCons (tC (.int 5)) tNil))) (tC (.int 3)))) (tVar 2) [2]) tNil)))
end
def sp__law_line (K : PySem.W.Frag) : Sp := fun vs H Q _ => ∃ (a l : Addr) (m : Nat), vs = [.ref a, .int (m : Nat)] ∧ Drw H a l ∧ m ≤ 3 ∧ ∀ (r : List Int) v H', r.Sublist (([1, 2, 3] : List Int).take m) → Tp K H' v (rowD r) → Fr [a, l] H H' → Drw H' a l → Q v H'
theorem pure__law_line {K : PySem.W.Frag} (vs : List V) (H : Hp) (Q : VK) (E : XK) (hl : vs.length = 2) (h : sp__law_line K vs H Q E) : t__law_line K E { nx := fun _ H' => Q .non H', rt := Q } (start N__law_line vs) H := by
  obtain ⟨a, l, m, rfl, hD, hm, q⟩ := h
  show t__law_line K E _ [some (.ref a), some (.int (m : Nat)), none] H
  unfold t__law_line
  have hS : ∀ {H' : Hp}, Drw H' a l → ∀ b ∈ [a, l], H' b ≠ none := fun d b hb => by
    obtain ⟨_, st, ns, ix, h1, h2, _⟩ := d
    simp at hb
    rcases hb with rfl | rfl
    · rw [h1]; exact fun z => by cases z
    · rw [h2]; exact fun z => by cases z
  k_clsL
  refine g_nL fun p n1 F1 h1 => ?_
  have hD1 := hD.fr0 F1
  k_clsL
  refine r_slL (SqL.of h1) fun p2 n2 F2 h2 => ?_
  rw [show cutV [V.int 1, V.int 2, V.int 3] none (some (m : Int)) = ([V.int 1, V.int 2, V.int 3] : List V).take m from cut_to, show ([V.int 1, V.int 2, V.int 3] : List V).take m = (([1, 2, 3] : List Int).take m).map V.int by rw [List.map_take]; rfl] at h2 F2
  rw [show cutV [V.int 1, V.int 2, V.int 3] none (some (m : Int)) = ([V.int 1, V.int 2, V.int 3] : List V).take m from cut_to, show ([V.int 1, V.int 2, V.int 3] : List V).take m = (([1, 2, 3] : List Int).take m).map V.int by rw [List.map_take]; rfl]
  have hD2 := hD1.fr0 F2
  have np := hD1.ne n2
  refine r_seqL (SqL.of h2) ?_
  have hlen : ((([1, 2, 3] : List Int).take m).map V.int).length = m := by
    rw [List.length_map, List.length_take]
    simp
    omega
  refine lc_st (K := K) (walk_list (xs := (([1, 2, 3] : List Int).take m).map V.int)) (by omega) [a, l] (fun H' => Drw H' a l) (fun i ds => ∃ r : List Int, ds = r.map PyData.int ∧ r.Sublist (([1, 2, 3] : List Int).take i)) (hS hD2) hD2 (fun D Ha Hb nD F d => ?_) ⟨[], rfl, List.nil_sublist _⟩ (fun H' F _ => F.sql (by simp [np.1, np.2]) (SqL.of h2)) ?_ ?_
  · have := hD2.ne nD
    exact d.fr F (by simp [this.1.symm]) (by simp [this.2.symm])
  · rintro i x Ha Hb ds R Rn hi F3 d3 ⟨r, rfl, hr⟩ ⟨rfl, hx⟩ k1 k2
    rw [List.getElem?_map] at hx
    obtain ⟨n, hn, rfl⟩ : ∃ n, (([1, 2, 3] : List Int).take m)[i]? = some n ∧ x = V.int n := by
      cases e : (([1, 2, 3] : List Int).take m)[i]? with
      | none => rw [e] at hx; cases hx
      | some n => rw [e] at hx; exact ⟨n, rfl, (Option.some.inj hx).symm⟩
    have hn2 : ([1, 2, 3] : List Int)[i]? = some n := by
      rw [List.getElem?_take] at hn
      split at hn
      · exact hn
      · cases hn
    have hsucc : ([1, 2, 3] : List Int).take (i + 1) = ([1, 2, 3] : List Int).take i ++ [n] := by
      rw [List.take_add_one, hn2]
      rfl
    k_clsL
    refine ⟨rfl, ?_⟩
    k_clsL
    refine ⟨rfl, a, l, 5, rfl, d3, by decide, by decide, fun k H' hk F d => ?_⟩
    k_clsL
    refine iteD (fun _ => ?_) (fun _ => ?_)
    · k_clsL
      refine k1 _ _ (.int n) (.int n) F d ⟨r ++ [n], by rw [List.map_append]; rfl, ?_⟩
      rw [hsucc]
      exact hr.append (List.Sublist.refl _)
    · refine k2 _ F d ⟨r, rfl, ?_⟩
      rw [hsucc]
      exact hr.trans (List.sublist_append_left _ _)
  · rintro D H' ds nD F3 d3 ⟨r, rfl, hr⟩ hl3 h3
    rw [hlen] at hr hl3
    k_clsL
    refine r_tupOf h3 (szle (by simp at hl3 ⊢; omega)) fun p4 H4 n4 F4 h4 => ?_
    exact q r _ _ hr h4 (((F1.nil.trans F2.nil).trans F3).trans F4.nil) (d3.fr0 F4)

section
variable {P : Program} {w : World} {K : PySem.W.Frag} {mg : Str → Option Value} {base : Heap}
theorem der__law_line (T : Txt P K mg base) {cdv : Value} {A : Around} {outer : List Env} {s : Shared} {H : Hp} {E : XK} (hr : Room 1 (A.deeper (envOfC "_law_line" (defScope s__law_line) s.heap.objs.size (He.ga K "_law_line") cdv))) :
    PSs (cxOf (L2.CX P w) P w K mg base N__law_line "_law_line" (defScope s__law_line) (He.ga K "_law_line") cdv A outer s H E) (defBody s__law_line) (t__law_line K E) := by
  have nd := (sc__law_line).nd
  have tk : Takes (cxOf (L2.CX P w) P w K mg base N__law_line "_law_line" (defScope s__law_line) (He.ga K "_law_line") cdv A outer s H E) (fun cls d _ H => E cls d H) := takes_of rfl rfl rfl rfl
  exact (pss_one (ps_ret (pe_callTy call_tupleOf (by rfl) T.f_tuple (by decide +kernel) (pa_cons (pe_lc (own := [("_law_take", 2)]) (g := (gName 2)) (tt := (tTest (tOp (rI0 fun i j => .bl (decide (i < j))) (tCallS (spL 2 (sp__law_next K)) (WE (fun _ _ _ _ => False)) (tCons (tVar 0) (tCons (tC (.int 5)) tNil))) (tC (.int 3))))) (te := (tVar 2)) rfl nd (pi_seq (pe_slice sl_any (pe_lst (pa_cons pe_int (pa_cons pe_int (pa_cons pe_int pa_nil)))) po_none (po_some (pv 1)))) (blkOk_by (own := [("_law_take", 2)]) (N := N__law_line) (sc := (defScope s__law_line)) (by decide +kernel)) (fun _ _ _ _ _ => (pg_name (i := 2) nd rfl (by first | exact Or.inl rfl | exact Or.inr rfl))) (fun _ _ _ _ _ => (pts_one (pt_cmpR op_lt (pe_callO (ok__law_next T) (hr.mono (by decide)) (by rfl) takes0 (pa_cons (pv 0) (pa_cons pe_int pa_nil))) pe_int (nomark _)))) (fun _ _ _ _ _ => (pv 2))) pa_nil))))
theorem ok__law_line (T : Txt P K mg base) : Ok P w K mg base "_law_line" 2 ["_law_h", "_law_most"] (spL 2 (sp__law_line K)) := ok_mk (T.d__law_line) T.m__law_line sc__law_line (fun _ _ _ _ _ _ us hl => match us, hl with | [_, _], _ => rfl) (fun _ _ _ _ _ _ hr => der__law_line T hr) (pure__law_line)
end
end

section
open PySem PySem.Spec L2 RZ StX
open PyProof.Rows (envOfC)
section
variable {P : Program} {w : World} {K : PySem.W.Frag} {mg : Str → Option Value} {base : Heap}
abbrev N__law_pick : List Str := ["_law_h", "_law_things"]
theorem sc__law_pick : FnScope N__law_pick ["_law_h", "_law_things"] (defScope s__law_pick) := ⟨rfl, rfl, rfl, by decide +kernel, rfl, by decide +kernel, by decide +kernel⟩
def t__law_pick (K : PySem.W.Frag) (E : XK) : TS :=
    (tRet (tOp (rIx K) (tVar 1) (tCallS (spL 2 (sp__law_next K)) (WE (fun cls d _ H => E cls d H)) (tCons (tVar 0) (tCons (tCB (rLenA K) (tCons (tVar 1) tNil)) tNil)))))
end
def sp__law_pick (K : PySem.W.Frag) : Sp := fun vs H Q _ => ∃ (a l t : Addr) (xs : List V), vs = [.ref a, .ref t] ∧ Drw H a l ∧ SqL K H t xs ∧ t ≠ a ∧ t ≠ l ∧ 0 < xs.length ∧ xs.length ≤ 1000 ∧ ∀ (j : Nat) v H', xs[j]? = some v → Fr [a, l] H H' → Drw H' a l → Q v H'
theorem pure__law_pick {K : PySem.W.Frag} (vs : List V) (H : Hp) (Q : VK) (E : XK) (hl : vs.length = 2) (h : sp__law_pick K vs H Q E) : t__law_pick K E { nx := fun _ H' => Q .non H', rt := Q } (start N__law_pick vs) H := by
  obtain ⟨a, l, t, xs, rfl, hD, ht, ta, tl, x0, x1, q⟩ := h
  show t__law_pick K E _ [some (.ref a), some (.ref t)] H
  unfold t__law_pick
  k_clsL
  refine ⟨rfl, a, l, _, rfl, hD, by omega, by omega, fun k H' hk F hD' => ?_⟩
  have hk : k < xs.length := by omega
  have e := List.getElem?_eq_getElem hk
  exact r_ixL (F.sql (by simp [ta, tl]) ht) e (q k _ _ e F hD')

section
variable {P : Program} {w : World} {K : PySem.W.Frag} {mg : Str → Option Value} {base : Heap}
theorem der__law_pick (T : Txt P K mg base) {cdv : Value} {A : Around} {outer : List Env} {s : Shared} {H : Hp} {E : XK} (hr : Room 1 (A.deeper (envOfC "_law_pick" (defScope s__law_pick) s.heap.objs.size (He.ga K "_law_pick") cdv))) :
    PSs (cxOf (L2.CX P w) P w K mg base N__law_pick "_law_pick" (defScope s__law_pick) (He.ga K "_law_pick") cdv A outer s H E) (defBody s__law_pick) (t__law_pick K E) := by
  have nd := (sc__law_pick).nd
  have tk : Takes (cxOf (L2.CX P w) P w K mg base N__law_pick "_law_pick" (defScope s__law_pick) (He.ga K "_law_pick") cdv A outer s H E) (fun cls d _ H => E cls d H) := takes_of rfl rfl rfl rfl
  exact (pss_one (ps_ret (pe_ix ix_seq (pv 1) (pe_callO (ok__law_next T) (hr.mono (by decide)) (by rfl) tk (pa_cons (pv 0) (pa_cons (pe_callB call_lenA (by rfl) T.f_len (by decide +kernel) (pa_cons (pv 1) pa_nil)) pa_nil))) (fun _ _ => rfl))))
theorem ok__law_pick (T : Txt P K mg base) : Ok P w K mg base "_law_pick" 2 ["_law_h", "_law_things"] (spL 2 (sp__law_pick K)) := ok_mk (T.d__law_pick) T.m__law_pick sc__law_pick (fun _ _ _ _ _ _ us hl => match us, hl with | [_, _], _ => rfl) (fun _ _ _ _ _ _ hr => der__law_pick T hr) (pure__law_pick)
end
end

section
open PySem PySem.Spec L2 RZ StX
open PyProof.Rows (envOfC)
section
variable {P : Program} {w : World} {K : PySem.W.Frag} {mg : Str → Option Value} {base : Heap}
abbrev N__law_draw : List Str := ["_law_h", "_law_widest", "_law_most", "_law_rows", "_law_k"]
theorem sc__law_draw : FnScope N__law_draw ["_law_h", "_law_widest"] (defScope s__law_draw) := ⟨rfl, rfl, rfl, by decide +kernel, rfl, by decide +kernel, by decide +kernel⟩
def t__law_draw (K : PySem.W.Frag) (E : XK) : TS :=
    (tSeq (tAsg (tOp (rAddA K) (tC (.int 1)) (tCallS (spL 2 (sp__law_next K)) (WE (fun cls d _ H => E cls d H)) (tCons (tVar 0) (tCons (tVar 1) tNil)))) (gName 2))
    (tSeq (tAsg (tCB (rTupleOf K) (tCons (tLc (iRng1 (tCons (tOp (rAddA K) (tVar 2) (tC (.int 1))) tNil)) (gName 4) tYes (tCallS (spL 2 (sp__law_line K)) (WE (fun _ _ _ _ => False)) (tCons (tVar 0) (tCons (tVar 2) tNil))) [4]) tNil)) (gName 3))
    (tRet (tLst (tCons (tVar 3) (tCons (tCallS (spL 2 (sp__law_next K)) (WE (fun cls d _ H => E cls d H)) (tCons (tVar 0) (tCons (tC (.int 2)) tNil))) (tCons (tCallS (spL 2 (sp__law_pick K)) (WE (fun cls d _ H => E cls d H)) (tCons (tVar 0) (tCons (tLst (tCons (tC (.str "loses")) (tCons (tC (.str "loses")) (tCons (tC (.str "wins")) tNil)))) tNil))) tNil)))))))
end
def sp__law_draw (K : PySem.W.Frag) : Sp := fun vs H Q _ => ∃ (a l : Addr) (w : Nat), vs = [.ref a, .int (w : Nat)] ∧ Drw H a l ∧ 1 ≤ w ∧ w ≤ 3 ∧ ∀ (t : Tab) b H', Drawn3 t w → H b = none → Row3 K H' b t → Fr [a, l] H H' → Drw H' a l → Q (.ref b) H'
theorem pure__law_draw {K : PySem.W.Frag} (vs : List V) (H : Hp) (Q : VK) (E : XK) (hl : vs.length = 2) (h : sp__law_draw K vs H Q E) : t__law_draw K E { nx := fun _ H' => Q .non H', rt := Q } (start N__law_draw vs) H := by
  obtain ⟨a, l, w, rfl, hD, hw1, hw3, q⟩ := h
  show t__law_draw K E _ [some (.ref a), some (.int (w : Nat)), none, none, none] H
  unfold t__law_draw
  have hS : ∀ {H' : Hp}, Drw H' a l → ∀ b ∈ [a, l], H' b ≠ none := fun d b hb => by
    obtain ⟨_, st, ns, ix, h1, h2, _⟩ := d
    simp at hb
    rcases hb with rfl | rfl
    · rw [h1]; exact fun z => by cases z
    · rw [h2]; exact fun z => by cases z
  k_clsL
  refine ⟨rfl, a, l, (w : Nat), rfl, hD, by omega, by omega, fun k H1 hk F1 hD1 => ?_⟩
  rw [show ((w : Nat) : Int) = (w : Int) from rfl] at hk
  have hk : k < w := by omega
  k_clsL
  rw [show (1 : Int) + (k : Int) = ((1 + k : Nat) : Int) by omega]
  generalize hm : 1 + k = m
  k_clsL
  rw [show ((m : Int) + 1) = ((m + 1 : Nat) : Int) by omega]
  refine r_rng1 (by omega) (by omega) ?_
  rw [Int.toNat_natCast]
  refine lc_st (K := K) walk_range (by omega) [a, l] (fun H' => Drw H' a l) (fun i ds => ∃ rs : List (List Int), ds = rs.map rowD ∧ rs.length = i ∧ ∀ r ∈ rs, r.Sublist (([1, 2, 3] : List Int).take m)) (hS hD1) hD1 (fun D Ha Hb nD F d => ?_) ⟨[], rfl, rfl, fun r hr => by cases hr⟩ (fun H' F _ => trivial) ?_ ?_
  · have := hD1.ne nD
    exact d.fr F (by simp [this.1.symm]) (by simp [this.2.symm])
  · rintro i x Ha Hb ds R Rn hi F3 d3 ⟨rs, rfl, hl3, hr⟩ ⟨rfl, rfl⟩ k1 k2
    k_clsL
    refine ⟨rfl, ?_⟩
    k_clsL
    refine ⟨rfl, a, l, m, rfl, d3, by omega, fun r v H' hs hv F d => ?_⟩
    refine k1 _ _ (rowD r) hv F d ⟨rs ++ [r], by rw [List.map_append]; rfl, by rw [List.length_append, hl3]; rfl, fun r' hr' => ?_⟩
    rcases List.mem_append.mp hr' with h | h
    · exact hr r' h
    · rw [List.mem_singleton.mp h]
      exact hs
  · rintro D H2 ds nD F2 d2 ⟨rs, rfl, hl2, hr⟩ _ h2
    k_clsL
    refine r_tupOf h2 (szle (by rw [List.length_map, hl2]; exact Nat.ble_eq_true_of_le (by omega))) fun p3 H3 n3 F3 h3 => ?_
    have d3 := d2.fr0 F3
    k_clsL
    refine ⟨rfl, a, l, 2, rfl, d3, by decide, by decide, fun p H4 hp F4 d4 => ?_⟩
    k_clsL
    refine g_nL fun p5 n5 F5 h5 => ?_
    have d5 := d4.fr0 F5
    have np := d4.ne n5
    k_clsL
    refine ⟨rfl, a, l, p5, _, rfl, d5, SqL.of h5, np.1, np.2, by decide, by decide, fun j v H6 hj F6 d6 => ?_⟩
    k_clsL
    obtain ⟨f, rfl, hf⟩ : ∃ f : Str, v = .str f ∧ (f = "loses" ∨ f = "wins") := by
      match j, hj with
      | 0, hj => exact ⟨_, (Option.some.inj hj).symm, .inl rfl⟩
      | 1, hj => exact ⟨_, (Option.some.inj hj).symm, .inl rfl⟩
      | 2, hj => exact ⟨_, (Option.some.inj hj).symm, .inr rfl⟩
    refine g_nL fun b n7 F7 h7 => ?_
    have F36 := (F4.trans F5.nil).trans F6
    have F16 : Fr [a, l] H H6 := ((F1.trans F2).trans F3.nil).trans F36
    refine q ⟨rs, p, f⟩ b _ ⟨⟨m, by omega, by omega, hl2, hr⟩, by show (p : Int) = 0 ∨ (p : Int) = 1; omega, hf⟩ (F16.free n7) ⟨.ref p3, h7, (h3.fr F36).fr F7⟩ (F16.trans F7.nil) (d6.fr0 F7)

section
variable {P : Program} {w : World} {K : PySem.W.Frag} {mg : Str → Option Value} {base : Heap}
theorem der__law_draw (T : Txt P K mg base) {cdv : Value} {A : Around} {outer : List Env} {s : Shared} {H : Hp} {E : XK} (hr : Room 2 (A.deeper (envOfC "_law_draw" (defScope s__law_draw) s.heap.objs.size (He.ga K "_law_draw") cdv))) :
    PSs (cxOf (L2.CX P w) P w K mg base N__law_draw "_law_draw" (defScope s__law_draw) (He.ga K "_law_draw") cdv A outer s H E) (defBody s__law_draw) (t__law_draw K E) := by
  have nd := (sc__law_draw).nd
  have tk : Takes (cxOf (L2.CX P w) P w K mg base N__law_draw "_law_draw" (defScope s__law_draw) (He.ga K "_law_draw") cdv A outer s H E) (fun cls d _ H => E cls d H) := takes_of rfl rfl rfl rfl
  exact (pss_cons (ps_set (i := 2) nd rfl (by first | exact Or.inl rfl | exact Or.inr rfl) (pe_op op_addA pe_int (pe_callO (ok__law_next T) (hr.mono (by decide)) (by rfl) tk (pa_cons (pv 0) (pa_cons (pv 1) pa_nil)))))
    (pss_cons (ps_set (i := 3) nd rfl (by first | exact Or.inl rfl | exact Or.inr rfl) (pe_callTy call_tupleOf (by rfl) T.f_tuple (by decide +kernel) (pa_cons (pe_lc (own := [("_law_k", 4)]) (g := (gName 4)) (tt := tYes) (te := (tCallS (spL 2 (sp__law_line K)) (WE (fun _ _ _ _ => False)) (tCons (tVar 0) (tCons (tVar 2) tNil)))) rfl nd (pi_range1 (by rfl) T.f_range (pa_cons (pe_op op_addA (pv 2) pe_int) pa_nil)) (blkOk_by (own := [("_law_k", 4)]) (N := N__law_draw) (sc := (defScope s__law_draw)) (by decide +kernel)) (fun _ _ _ _ _ => (pg_name (i := 4) nd rfl (by first | exact Or.inl rfl | exact Or.inr rfl))) (fun _ _ _ _ _ => pts_nil) (fun _ _ _ _ _ => (pe_callO (ok__law_line T) (hr.mono (by decide)) (by rfl) takes0 (pa_cons (pv 0) (pa_cons (pv 2) pa_nil))))) pa_nil)))
    (pss_one (ps_ret (pe_lst (pa_cons (pv 3) (pa_cons (pe_callO (ok__law_next T) (hr.mono (by decide)) (by rfl) tk (pa_cons (pv 0) (pa_cons pe_int pa_nil))) (pa_cons (pe_callO (ok__law_pick T) (hr.mono (by decide)) (by rfl) tk (pa_cons (pv 0) (pa_cons (pe_lst (pa_cons pe_str (pa_cons pe_str (pa_cons pe_str pa_nil)))) pa_nil))) pa_nil))))))))
theorem ok__law_draw (T : Txt P K mg base) : Ok P w K mg base "_law_draw" 3 ["_law_h", "_law_widest"] (spL 2 (sp__law_draw K)) := ok_mk (T.d__law_draw) T.m__law_draw sc__law_draw (fun _ _ _ _ _ _ us hl => match us, hl with | [_, _], _ => rfl) (fun _ _ _ _ _ _ hr => der__law_draw T hr) (pure__law_draw)
end
end

section
open PySem PySem.Spec L2 RZ StX
open PyProof.Rows (envOfC)
section
variable {P : Program} {w : World} {K : PySem.W.Frag} {mg : Str → Option Value} {base : Heap}
abbrev N_is_integer : List Str := ["thing", "low", "high"]
theorem sc_is_integer : FnScope N_is_integer ["thing", "low", "high"] (defScope s_is_integer) := ⟨rfl, rfl, rfl, by decide +kernel, rfl, by decide +kernel, by decide +kernel⟩
def t_is_integer (K : PySem.W.Frag) (E : XK) : TS :=
    (tRet (tAndV (tCB (rIsi K) (tCons (tVar 0) (tCons (tC (.ty "int")) tNil))) (tAndV (tNotV (tCB (rIsi K) (tCons (tVar 0) (tCons (tC (.ty "bool")) tNil)))) (tChain (rI0 fun i j => .bl (decide (i ≤ j))) (rI0 fun i j => .bl (decide (i ≤ j))) (tVar 1) (tVar 0) (tVar 2)))))
end
def sp_is_integer (K : PySem.W.Frag) : Sp := fun vs H Q _ => ∃ (x : V) (lo hi : Int) (n : Ty), vs = [x, .int lo, .int hi] ∧ AnyV K H x n ∧ Q (.bl (isInt x lo hi)) H
theorem pure_is_integer {K : PySem.W.Frag} (vs : List V) (H : Hp) (Q : VK) (E : XK) (hl : vs.length = 3) (h : sp_is_integer K vs H Q E) : t_is_integer K E { nx := fun _ H' => Q .non H', rt := Q } (start N_is_integer vs) H := by
  obtain ⟨x, lo, hi, n, rfl, hx, q⟩ := h
  show t_is_integer K E _ [some x, some (.int lo), some (.int hi)] H
  unfold t_is_integer
  k_clsL
  cases hx with
  | int i =>
    k_clsL
    refine ite2 (fun h => ?_) (fun h => ?_)
    · k_clsL
      have e : isInt (.int i) lo hi = decide (i ≤ hi) := by simp only [isInt, h, Bool.true_and]
      rw [← e]; exact q
    · k_clsL
      have e : isInt (.int i) lo hi = false := by simp only [isInt, h, Bool.false_and]
      rw [← e]; exact q
  | _ => 
    k_clsL
    exact q

section
variable {P : Program} {w : World} {K : PySem.W.Frag} {mg : Str → Option Value} {base : Heap}
theorem der_is_integer (T : Txt P K mg base) {cdv : Value} {A : Around} {outer : List Env} {s : Shared} {H : Hp} {E : XK} (hr : Room 0 (A.deeper (envOfC "is_integer" (defScope s_is_integer) s.heap.objs.size (He.ga K "is_integer") cdv))) :
    PSs (cxOf (L2.CX P w) P w K mg base N_is_integer "is_integer" (defScope s_is_integer) (He.ga K "is_integer") cdv A outer s H E) (defBody s_is_integer) (t_is_integer K E) := by
  have nd := (sc_is_integer).nd
  have tk : Takes (cxOf (L2.CX P w) P w K mg base N_is_integer "is_integer" (defScope s_is_integer) (He.ga K "is_integer") cdv A outer s H E) (fun cls d _ H => E cls d H) := takes_of rfl rfl rfl rfl
  exact (pss_one (ps_ret (pe_and (pe_callB call_isi (by rfl) T.f_isinstance (by decide +kernel) (pa_cons (pv 0) (pa_cons (pe_bltn (by rfl) T.f_int (by decide +kernel) rfl) pa_nil))) (pe_and (pe_not (pe_callB call_isi (by rfl) T.f_isinstance (by decide +kernel) (pa_cons (pv 0) (pa_cons (pe_bltn (by rfl) T.f_bool (by decide +kernel) rfl) pa_nil)))) (pe_one (pe_chain op_le op_le (pv 1) (pv 0) (pv 2)))))))
theorem ok_is_integer (T : Txt P K mg base) : Ok P w K mg base "is_integer" 1 ["thing", "low", "high"] (spL 3 (sp_is_integer K)) := ok_mk (T.d_is_integer) T.m_is_integer sc_is_integer (fun _ _ _ _ _ _ us hl => match us, hl with | [_, _, _], _ => rfl) (fun _ _ _ _ _ _ hr => der_is_integer T hr) (pure_is_integer)
end
end

section
open PySem PySem.Spec L2 RZ StX
open PyProof.Rows (envOfC)
section
variable {P : Program} {w : World} {K : PySem.W.Frag} {mg : Str → Option Value} {base : Heap}
abbrev N_is_row : List Str := ["thing", "most", "take", "one", "other"]
theorem sc_is_row : FnScope N_is_row ["thing", "most"] (defScope s_is_row) := ⟨rfl, rfl, rfl, by decide +kernel, rfl, by decide +kernel, by decide +kernel⟩
def t_is_row (K : PySem.W.Frag) (E : XK) : TS :=
    (tSeq (tIfS (tOr (tNot (tB (tCB (rIsi K) (tCons (tVar 0) (tCons (tC (.ty "tuple")) tNil))))) (tNot (tB (tCB (rAll K) (tCons (tLc (iSeq K (tVar 0)) (gName 2) tYes (tCallS (spL 3 (sp_is_integer K)) (WE (fun _ _ _ _ => False)) (tCons (tVar 2) (tCons (tC (.int 1)) (tCons (tVar 1) tNil)))) [2]) tNil))))) (tRet (tC (.bl false))) tNext)
    (tRet (tCB (rAll K) (tCons (tLc (iZipA K (tCons (tVar 0) (tCons (tSl (rSl K) (tVar 0) (tPart (tC (.int 1))) tNoPart) tNil))) (gTup K 2 (gCons (gName 3) (gCons (gName 4) gNil))) tYes (tOp (rI0 fun i j => .bl (decide (i < j))) (tVar 3) (tVar 4)) [3, 4]) tNil))))
end
def sp_is_row (K : PySem.W.Frag) : Sp := fun vs H Q _ => ∃ (x : V) (d : PyData) (m : Int), vs = [x, .int m] ∧ Da K H x d ∧ (∀ ds, d = .tuple ds → ds.length < 1000) ∧ ∀ H', Fr [] H H' → Q (.bl (isRowD d m)) H'
theorem pure_is_row {K : PySem.W.Frag} (vs : List V) (H : Hp) (Q : VK) (E : XK) (hl : vs.length = 2) (h : sp_is_row K vs H Q E) : t_is_row K E { nx := fun _ H' => Q .non H', rt := Q } (start N_is_row vs) H := by
  obtain ⟨x, d, m, rfl, hx, hz, q⟩ := h
  show t_is_row K E _ [some x, some (.int m), none, none, none] H
  unfold t_is_row
  cases hx with
  | @tup a xs ds h t =>
    k_clsL
    have hzl := hz ds rfl
    have tl := t.length
    refine lc_fm (K := K) walk_tup ds (fun d => some (.bool (isIntD d 1 m))) tl.symm (by omega) (fun H' F => F.sqt h) ?_ ?_
    · rintro i d x H1 H2 R Rn hd F1 ⟨rfl, hx⟩ k1 k2
      obtain ⟨d', hd', hxd⟩ := t.get' hx
      rw [hd] at hd'
      cases hd'
      obtain ⟨n, hn⟩ := (hxd.fr F1).any
      k_clsL
      refine ⟨rfl, ?_⟩
      k_clsL
      refine ⟨rfl, _, _, _, n, rfl, hn, ?_⟩
      refine k1 _ _ _ rfl ?_ Fr.refl
      rw [hxd.isInt]
      exact .bl _
    · intro D H1 nD F1 hD
      rw [List.filterMap_eq_map'] at hD
      k_clsL
      refine r_all (bs := ds.map fun d => isIntD d 1 m) (by rw [List.map_map]; exact hD) ?_
      k_clsL
      cases e : (ds.map fun d => isIntD d 1 m).all id with
      | false =>
        k_clsL
        have e2 : isRowD (.tuple ds) m = false := by
          rw [List.all_map] at e
          show (ds.all (fun d => isIntD d 1 m) && ascB ds) = false
          rw [show ds.all (fun d => isIntD d 1 m) = false from e, Bool.false_and]
        rw [← e2]
        exact q _ F1
      | true =>
        k_clsL
        have all : ∀ (i : Nat) (d : PyData), ds[i]? = some d → ∃ z : Int, d = .int z := fun i d hd => by
          have q := List.all_eq_true.mp e (isIntD d 1 m) (List.mem_map.mpr ⟨d, List.mem_of_getElem? hd, rfl⟩)
          cases d with
          | int z => exact ⟨z, rfl⟩
          | _ => cases q
        refine r_slT (F1.sqt h) (fun p H2 F2 hp => ?_)
        have hs : SqT K H2 a xs := F2.sqt (F1.sqt h)
        rw [show cutV xs (some 1) none = xs.drop 1 from cut_from] at hp
        k_clsL
        refine lc_fm (K := K) (walk_zipT rfl) (ds.zip (ds.drop 1)) (fun z => some (.bool (ltD z))) (by rw [List.length_zip, List.length_drop, List.length_drop, tl]) (by omega) (fun H' F => ⟨F.sqt hs, F.sqt hp⟩) ?_ ?_
        · rintro i z x H3 H4 R Rn hz F3 ⟨T, x1, x2, rfl, hT, rfl, h1, h2⟩ k1 k2
          obtain ⟨d1, hd1, t1⟩ := t.get' h1
          obtain ⟨d2, hd2, t2⟩ := (t.drop 1).get' h2
          have ez : z = (d1, d2) := by
            rw [List.getElem?_zip_eq_some] at hz
            rw [hd1, hd2] at hz
            exact Prod.ext (Option.some.inj hz.1).symm (Option.some.inj hz.2).symm
          obtain ⟨z1, rfl⟩ := all _ _ hd1
          obtain ⟨z2, rfl⟩ := all (1 + i) _ (by rw [List.getElem?_drop] at hd2; exact hd2)
          cases t1
          cases t2
          k_clsL
          refine ⟨rfl, ?_⟩
          k_clsL
          refine k1 _ _ _ rfl ?_ (Fr.new hT)
          rw [ez]
          exact .bl _
        · intro D2 H3 nD2 F3 hD2
          rw [List.filterMap_eq_map'] at hD2
          k_clsL
          refine r_all (bs := (ds.zip (ds.drop 1)).map ltD) (by rw [List.map_map]; exact hD2) ?_
          have e2 : isRowD (.tuple ds) m = ((ds.zip (ds.drop 1)).map ltD).all id := by
            rw [List.all_map] at e ⊢
            show (ds.all (fun d => isIntD d 1 m) && ascB ds) = _
            rw [show ds.all (fun d => isIntD d 1 m) = true from e, Bool.true_and]
            refine asc_zip ds (List.all_eq_true.mpr fun d hd => ?_)
            obtain ⟨i, hi⟩ := List.getElem?_of_mem hd
            obtain ⟨z, rfl⟩ := all i d hi
            rfl
          rw [← e2]
          exact q _ ((F1.trans F2).trans F3)
  | _ => 
    k_clsL
    exact q _ Fr.refl

section
variable {P : Program} {w : World} {K : PySem.W.Frag} {mg : Str → Option Value} {base : Heap}
theorem der_is_row (T : Txt P K mg base) {cdv : Value} {A : Around} {outer : List Env} {s : Shared} {H : Hp} {E : XK} (hr : Room 1 (A.deeper (envOfC "is_row" (defScope s_is_row) s.heap.objs.size (He.ga K "is_row") cdv))) :
    PSs (cxOf (L2.CX P w) P w K mg base N_is_row "is_row" (defScope s_is_row) (He.ga K "is_row") cdv A outer s H E) (defBody s_is_row) (t_is_row K E) := by
  have nd := (sc_is_row).nd
  have tk : Takes (cxOf (L2.CX P w) P w K mg base N_is_row "is_row" (defScope s_is_row) (He.ga K "is_row") cdv A outer s H E) (fun cls d _ H => E cls d H) := takes_of rfl rfl rfl rfl
  exact (pss_cons (ps_if (PW.pt (pw_or (pt_not (pt_val (pe_callB call_isi (by rfl) T.f_isinstance (by decide +kernel) (pa_cons (pv 0) (pa_cons (pe_bltn (by rfl) T.f_tuple (by decide +kernel) rfl) pa_nil))))) (pw_or1 (pt_not (pt_val (pe_callB (cr_all rfl) (by rfl) T.f_all (by decide +kernel) (pa_cons (pe_lc (own := [("take", 2)]) (g := (gName 2)) (tt := tYes) (te := (tCallS (spL 3 (sp_is_integer K)) (WE (fun _ _ _ _ => False)) (tCons (tVar 2) (tCons (tC (.int 1)) (tCons (tVar 1) tNil))))) rfl nd (pi_seq (pv 0)) (blkOk_by (own := [("take", 2)]) (N := N_is_row) (sc := (defScope s_is_row)) (by decide +kernel)) (fun _ _ _ _ _ => (pg_name (i := 2) nd rfl (by first | exact Or.inl rfl | exact Or.inr rfl))) (fun _ _ _ _ _ => pts_nil) (fun _ _ _ _ _ => (pe_callO (ok_is_integer T) (hr.mono (by decide)) (by rfl) takes0 (pa_cons (pv 2) (pa_cons pe_int (pa_cons (pv 1) pa_nil)))))) pa_nil))))))) (pss_one (ps_ret pe_bl)) pss_nil)
    (pss_one (ps_ret (pe_callB (cr_all rfl) (by rfl) T.f_all (by decide +kernel) (pa_cons (pe_lc (own := [("one", 3), ("other", 4)]) (g := (gTup K 2 (gCons (gName 3) (gCons (gName 4) gNil)))) (tt := tYes) (te := (tOp (rI0 fun i j => .bl (decide (i < j))) (tVar 3) (tVar 4))) rfl nd (pi_zipA (by rfl) T.f_zip (pa_cons (pv 0) (pa_cons (pe_slice sl_any (pv 0) (po_some pe_int) po_none) pa_nil))) (blkOk_by (own := [("one", 3), ("other", 4)]) (N := N_is_row) (sc := (defScope s_is_row)) (by decide +kernel)) (fun _ _ _ _ _ => (pg_tup rfl (pgs_cons (pg_name (i := 3) nd rfl (by first | exact Or.inl rfl | exact Or.inr rfl)) (pgs_cons (pg_name (i := 4) nd rfl (by first | exact Or.inl rfl | exact Or.inr rfl)) pgs_nil)))) (fun _ _ _ _ _ => pts_nil) (fun _ _ _ _ _ => (pe_cmpR op_lt (pv 3) (pv 4) (nomark _)))) pa_nil)))))
theorem ok_is_row (T : Txt P K mg base) : Ok P w K mg base "is_row" 2 ["thing", "most"] (spL 2 (sp_is_row K)) := ok_mk (T.d_is_row) T.m_is_row sc_is_row (fun _ _ _ _ _ _ us hl => match us, hl with | [_, _], _ => rfl) (fun _ _ _ _ _ _ hr => der_is_row T hr) (pure_is_row)
end
end

section
open PySem PySem.Spec L2 RZ StX
open PyProof.Rows (envOfC)
section
variable {P : Program} {w : World} {K : PySem.W.Frag} {mg : Str → Option Value} {base : Heap}
abbrev N_check_rows : List Str := ["rows", "index", "row"]
theorem sc_check_rows : FnScope N_check_rows ["rows"] (defScope s_check_rows) := ⟨rfl, rfl, rfl, by decide +kernel, rfl, by decide +kernel, by decide +kernel⟩
def t_check_rows (K : PySem.W.Frag) (E : XK) : TS :=
    (tSeq (tIfS (tOr (tNot (tB (tCB (rIsi K) (tCons (tVar 0) (tCons (tC (.ty "tuple")) tNil))))) (tNot (tTest (tChain (rI0 fun i j => .bl (decide (i ≤ j))) (rI0 fun i j => .bl (decide (i ≤ j))) (tC (.int 2)) (tCB (rLenA K) (tCons (tVar 0) tNil)) (tOp (rAddA K) (tC (.int 3)) (tC (.int 1))))))) (tRaise1 (He.ga K "InvalidRows") "index" (fun cls d _ H => E cls d H) (tCons (tC .non) tNil)) tNext)
    (tFor (iEnumA K (tCons (tVar 0) tNil)) (gTup K 2 (gCons (gName 1) (gCons (gName 2) gNil))) (tIfS (tNot (tB (tCallS (spL 2 (sp_is_row K)) (WE (fun cls d _ H => E cls d H)) (tCons (tVar 2) (tCons (tOp (rI0 fun i j => .int (i - j)) (tCB (rLenA K) (tCons (tVar 0) tNil)) (tC (.int 1))) tNil))))) (tRaise1 (He.ga K "InvalidRows") "index" (fun cls d _ H => E cls d H) (tCons (tVar 1) tNil)) tNext)))
end
def sp_check_rows (K : PySem.W.Frag) : Sp := fun vs H Q E => ∃ (x : V) (d : PyData), vs = [x] ∧ Da K H x d ∧ smallD d ∧ (badRows d = none → ∀ H', Fr [] H H' → Q .non H') ∧
  ∀ v, badRows d = some v → ∀ e H', Fr [] H H' → H' e = some (.xd [("index", v)]) → E (.ref (He.ga K "InvalidRows")) (some e) H'
theorem pure_check_rows {K : PySem.W.Frag} (vs : List V) (H : Hp) (Q : VK) (E : XK) (hl : vs.length = 1) (h : sp_check_rows K vs H Q E) : t_check_rows K E { nx := fun _ H' => Q .non H', rt := Q } (start N_check_rows vs) H := by
  obtain ⟨x, d, rfl, hx, hz, q, qE⟩ := h
  show t_check_rows K E _ [some x, none, none] H
  unfold t_check_rows
  cases hx with
  | @tup a xs ds h t =>
    have tl := t.length
    k_clsL
    refine iteD (fun h1 => ?_) (fun h1 => ?_)
    · k_clsL
      refine iteDN (fun h2 => ?_) (fun h2 => ?_)
      · k_clsL
        refine ⟨_, rfl, fun e hn => qE _ (if_neg (by omega)) e _ (Fr.new hn) upd_same⟩
      · k_clsL
        have hb : badRows (.tuple ds) = (ds.findIdx? (fun d => !isRowD d ((ds.length : Int) - 1))).map (fun i => V.int (i : Nat)) := if_pos (by omega)
        rw [hb] at q qE
        refine for_fm walk_enumT ds tl.symm (fun i σ' H' => ∃ s1 s2, σ' = [some (.ref a), s1, s2] ∧ Fr [] H H' ∧ ∀ j d, j < i → ds[j]? = some d → isRowD d ((ds.length : Int) - 1) = true) ⟨_, _, rfl, Fr.refl, fun j d hj => absurd hj (Nat.not_lt_zero _)⟩ (fun i σ' H' ⟨s1, s2, e, F, r⟩ => F.sqt h) ?_ ?_
        · rintro i d x σ' H1 H2 hd ⟨s1, s2, rfl, F1, r⟩ ⟨T, x1, x2, rfl, hT, rfl, e1, e2⟩
          obtain ⟨d', hd', hxd⟩ := t.get' e2
          rw [hd] at hd'
          cases hd'
          cases e1
          have F2 : Fr [] H (upd H1 T (.tup [.int (i : Nat), x2])) := F1.trans (Fr.new hT)
          have h' := F2.sqt h
          k_clsL
          refine ⟨rfl, x2, d, (xs.length : Int) - 1, rfl, hxd.fr F2, fun es e => hz d (List.mem_of_getElem? hd) es e, fun H3 F3 => ?_⟩
          rw [tl]
          cases e : isRowD d ((ds.length : Int) - 1) with
          | true =>
            k_clsL
            refine ⟨_, _, rfl, F2.trans F3, fun j d2 hj hd2 => ?_⟩
            rcases Nat.lt_succ_iff_lt_or_eq.mp hj with hj | rfl
            · exact r j d2 hj hd2
            · rw [hd] at hd2
              cases hd2
              exact e
          | false =>
            k_clsL
            refine ⟨_, rfl, fun e0 hn => qE (.int (i : Nat)) ?_ e0 _ ((F2.trans F3).trans (Fr.new hn)) upd_same⟩
            have hf : ds.findIdx? (fun d => !isRowD d ((ds.length : Int) - 1)) = some i := by
              rw [List.findIdx?_eq_some_iff_getElem]
              obtain ⟨hi, hi2⟩ := List.getElem?_eq_some_iff.mp hd
              refine ⟨hi, by rw [hi2, e]; rfl, fun j hj => ?_⟩
              have := r j ds[j] hj (List.getElem?_eq_getElem _)
              rw [this]
              exact Bool.noConfusion
            rw [hf]
            rfl
        · rintro σ' H' ⟨s1, s2, rfl, F1, r⟩
          refine q ?_ H' F1
          have hf : ds.findIdx? (fun d => !isRowD d ((ds.length : Int) - 1)) = none := by
            rw [List.findIdx?_eq_none_iff]
            intro d hd
            obtain ⟨j, hj⟩ := List.getElem?_of_mem hd
            obtain ⟨hj2, _⟩ := List.getElem?_eq_some_iff.mp hj
            rw [r j d hj2 hj]
            rfl
          rw [hf]
          rfl
    · k_clsL
      refine ⟨_, rfl, fun e hn => qE _ (if_neg (by omega)) e _ (Fr.new hn) upd_same⟩
  | _ =>
    k_clsL
    refine ⟨_, rfl, fun e hn => qE _ rfl e _ (Fr.new hn) upd_same⟩

section
variable {P : Program} {w : World} {K : PySem.W.Frag} {mg : Str → Option Value} {base : Heap}
theorem der_check_rows (T : Txt P K mg base) {cdv : Value} {A : Around} {outer : List Env} {s : Shared} {H : Hp} {E : XK} (hr : Room 2 (A.deeper (envOfC "check_rows" (defScope s_check_rows) s.heap.objs.size (He.ga K "check_rows") cdv))) :
    PSs (cxOf (L2.CX P w) P w K mg base N_check_rows "check_rows" (defScope s_check_rows) (He.ga K "check_rows") cdv A outer s H E) (defBody s_check_rows) (t_check_rows K E) := by
  have nd := (sc_check_rows).nd
  have tk : Takes (cxOf (L2.CX P w) P w K mg base N_check_rows "check_rows" (defScope s_check_rows) (He.ga K "check_rows") cdv A outer s H E) (fun cls d _ H => E cls d H) := takes_of rfl rfl rfl rfl
  exact (pss_cons (ps_if (PW.pt (pw_or (pt_not (pt_val (pe_callB call_isi (by rfl) T.f_isinstance (by decide +kernel) (pa_cons (pv 0) (pa_cons (pe_bltn (by rfl) T.f_tuple (by decide +kernel) rfl) pa_nil))))) (pw_or1 (pt_not (pt_chain op_le op_le pe_int (pe_callB call_lenA (by rfl) T.f_len (by decide +kernel) (pa_cons (pv 0) pa_nil)) (pe_op op_addA (pe_gint (by rfl) T.m_MOST_TAKE) pe_int)))))) (pss_one (ps_raise1 rfl T.x_InvalidRows hr tk (pa_cons pe_non pa_nil))) pss_nil)
    (pss_one (ps_for (passes_of rfl) rfl (pi_enumA (by rfl) T.f_enumerate (pa_cons (pv 0) pa_nil)) (pg_tup rfl (pgs_cons (pg_name (i := 1) nd rfl (by first | exact Or.inl rfl | exact Or.inr rfl)) (pgs_cons (pg_name (i := 2) nd rfl (by first | exact Or.inl rfl | exact Or.inr rfl)) pgs_nil))) (pss_one (ps_if (pt_not (pt_val (pe_callO (ok_is_row T) (hr.mono (by decide)) (by rfl) tk (pa_cons (pv 2) (pa_cons (pe_op op_sub (pe_callB call_lenA (by rfl) T.f_len (by decide +kernel) (pa_cons (pv 0) pa_nil)) pe_int) pa_nil))))) (pss_one (ps_raise1 rfl T.x_InvalidRows hr tk (pa_cons (pv 1) pa_nil))) pss_nil)))))
theorem ok_check_rows (T : Txt P K mg base) : Ok P w K mg base "check_rows" 3 ["rows"] (spL 1 (sp_check_rows K)) := ok_mk (T.d_check_rows) T.m_check_rows sc_check_rows (fun _ _ _ _ _ _ us hl => match us, hl with | [_], _ => rfl) (fun _ _ _ _ _ _ hr => der_check_rows T hr) (pure_check_rows)
end
end

section
open PySem PySem.Spec L2 RZ StX
open PyProof.Rows (envOfC)
section
variable {P : Program} {w : World} {K : PySem.W.Frag} {mg : Str → Option Value} {base : Heap}
abbrev N_Table___init__ : List Str := ["self", "rows", "passes", "stuck"]
theorem sc_Table___init__ : FnScope N_Table___init__ ["self", "rows", "passes", "stuck"] (defScope s_Table___init__) := ⟨rfl, rfl, rfl, by decide +kernel, rfl, by decide +kernel, by decide +kernel⟩
def t_Table___init__ (K : PySem.W.Frag) (E : XK) : TS :=
    (tSeq (tDrop (tCallS (spL 1 (sp_check_rows K)) (WE (fun cls d _ H => E cls d H)) (tCons (tVar 1) tNil)))
    (tSeq (tIfS (tNot (tB (tCallS (spL 3 (sp_is_integer K)) (WE (fun cls d _ H => E cls d H)) (tCons (tVar 2) (tCons (tC (.int 0)) (tCons (tC (.int 1)) tNil)))))) (tRaise0 (He.ga K "InvalidPasses") (fun cls d _ H => E cls d H)) tNext)
    (tSeq (tIfS (tOr (tNot (tB (tCB (rIsi K) (tCons (tVar 3) (tCons (tC (.ty "str")) tNil))))) (tTest (tOp (rNotInA K) (tVar 3) (tC (.ref (He.ga K "STUCK")))))) (tRaise0 (He.ga K "InvalidStuck") (fun cls d _ H => E cls d H)) tNext)
    (tSeq (tFldSO K "Table" (tVar 0) (tVar 1) "allowed")
    (tSeq (tFldSO K "Table" (tVar 0) (tVar 2) "spare")
    (tFldSO K "Table" (tVar 0) (tVar 3) "fate"))))))
end
def sp_Table___init__ (K : PySem.W.Frag) : Sp := fun vs H Q E => ∃ (a dx : Addr) (x y z : V) (r p s : PyData), vs = [.ref a, x, y, z] ∧ H a = some (.ins (He.ga K "Table") dx []) ∧ Da K H x r ∧ Da K H y p ∧ Da K H z s ∧ smallD r ∧
  (match tabOf r p s with
  | .ok t => ∀ H', Fr [a] H H' → AtTab K H' a t → Q .non H'
  | .rows v => ∀ e H', Fr [] H H' → H' e = some (.xd [("index", v)]) → E (.ref (He.ga K "InvalidRows")) (some e) H'
  | .passes => ∀ H', Fr [] H H' → E (.ref (He.ga K "InvalidPasses")) none H'
  | .stuck => ∀ H', Fr [] H H' → E (.ref (He.ga K "InvalidStuck")) none H')
theorem pure_Table___init__ {P : Program} {K : PySem.W.Frag} {mg : Str → Option Value} {base : Heap} (T : Txt P K mg base) (vs : List V) (H : Hp) (Q : VK) (E : XK) (hl : vs.length = 4) (h : sp_Table___init__ K vs H Q E) : t_Table___init__ K E { nx := fun _ H' => Q .non H', rt := Q } (start N_Table___init__ vs) H := by
  obtain ⟨a, dx, x, y, z, r, p, s, rfl, ha, hx, hy, hz, hs, q⟩ := h
  show t_Table___init__ K E _ [some (.ref a), some x, some y, some z] H
  unfold t_Table___init__
  k_clsL
  refine ⟨rfl, x, r, rfl, hx, hs, fun e H1 F1 => ?_, fun v e e0 H1 F1 h1 => ?_⟩
  · unfold tabOf at q
    rw [e] at q
    k_clsL
    obtain ⟨n, hn⟩ := (hy.fr F1).any
    refine ⟨rfl, _, _, _, n, rfl, hn, ?_⟩
    k_clsL
    rw [hy.isInt]
    refine iteBN (fun h1 => ?_) (fun h1 => ?_)
    · k_clsL
      rw [h1] at q
      exact q _ F1
    · k_clsL
      rw [h1] at q
      have hz1 := hz.fr F1
      cases hz1 with
      | str z =>
        k_clsL
        refine r_notInTs (ns := ["loses", "wins"]) (T.q_STUCK _) ?_
        k_clsL
        refine iteDN (fun h2 => ?_) (fun h2 => ?_)
        · k_clsL
          have e2 : isFateD (.str z) = false := by
            show (decide (z = "loses") || decide (z = "wins")) = false
            simp only [List.mem_cons, List.not_mem_nil, or_false] at h2
            rw [decide_eq_false (fun z => h2 (.inl z)), decide_eq_false (fun z => h2 (.inr z))]
            rfl
          rw [e2] at q
          exact q _ F1
        · have e2 : isFateD (.str z) = true := by
            show (decide (z = "loses") || decide (z = "wins")) = true
            simp only [List.mem_cons, List.not_mem_nil, or_false] at h2
            rcases h2 with h2 | h2
            · rw [decide_eq_true h2]; rfl
            · rw [decide_eq_true h2, Bool.or_true]
          rw [e2] at q
          obtain ⟨i, rfl, hi⟩ := isIntD_int h1
          cases hy
          have ha1 := F1.ins0 ha
          k_clsL
          refine ⟨a, dx, [], rfl, ha1, by decide, ?_⟩
          rw [put1]
          k_clsL
          refine ⟨a, dx, _, rfl, upd_same, (show 1 < 1000 by decide), ?_⟩
          rw [upd_upd, put2]
          k_clsL
          refine ⟨a, dx, _, rfl, upd_same, (show 2 < 1000 by decide), ?_⟩
          rw [upd_upd, put3]
          have F2 : Fr [a] H (upd H1 a (.ins (He.ga K "Table") dx (tabFs x ⟨rowsOf r, i, z⟩))) := (F1.nil).trans (Fr.put ha1 (fun _ z => by cases z) (fun _ _ z => by cases z) (by simp))
          exact q _ F2 ⟨dx, x, upd_same, (badRows_tp hx e).fr F2⟩
      | _ =>
        k_clsL
        exact q _ F1
  · unfold tabOf at q
    rw [e] at q
    exact q e0 H1 F1 h1

section
variable {P : Program} {w : World} {K : PySem.W.Frag} {mg : Str → Option Value} {base : Heap}
theorem der_Table___init__ (T : Txt P K mg base) {cdv : Value} {A : Around} {outer : List Env} {s : Shared} {H : Hp} {E : XK} (hr : Room 3 (A.deeper (envOfC "Table.__init__" (defScope s_Table___init__) s.heap.objs.size (ini "Table" K) cdv))) :
    PSs (cxOf (L2.CX P w) P w K mg base N_Table___init__ "Table.__init__" (defScope s_Table___init__) (ini "Table" K) cdv A outer s H E) (defBody s_Table___init__) (t_Table___init__ K E) := by
  have nd := (sc_Table___init__).nd
  have tk : Takes (cxOf (L2.CX P w) P w K mg base N_Table___init__ "Table.__init__" (defScope s_Table___init__) (ini "Table" K) cdv A outer s H E) (fun cls d _ H => E cls d H) := takes_of rfl rfl rfl rfl
  exact (pss_cons (ps_expr (pe_callO (ok_check_rows T) (hr.mono (by decide)) (by rfl) tk (pa_cons (pv 1) pa_nil)))
    (pss_cons (ps_if (pt_not (pt_val (pe_callO (ok_is_integer T) (hr.mono (by decide)) (by rfl) tk (pa_cons (pv 2) (pa_cons pe_int (pa_cons (pe_gint (by rfl) T.m_MOST_PASSES) pa_nil)))))) (pss_one (ps_raise0 rfl T.x_InvalidPasses hr tk)) pss_nil)
    (pss_cons (ps_if (PW.pt (pw_or (pt_not (pt_val (pe_callB call_isi (by rfl) T.f_isinstance (by decide +kernel) (pa_cons (pv 3) (pa_cons (pe_bltn (by rfl) T.f_str (by decide +kernel) rfl) pa_nil))))) (pw_or1 (pt_cmpR (op_notInA (units65 hr)) (pv 3) (pe_gref (by rfl) T.m_STUCK) (by rfl))))) (pss_one (ps_raise0 rfl T.x_InvalidStuck hr tk)) pss_nil)
    (pss_cons (ps_fldO T.l_Table_allowed (pv 0) (pv 1))
    (pss_cons (ps_fldO T.l_Table_spare (pv 0) (pv 2))
    (pss_one (ps_fldO T.l_Table_fate (pv 0) (pv 3))))))))
theorem ok_Table___init__ (T : Txt P K mg base) : OkI P w K mg base "Table" 4 ["self", "rows", "passes", "stuck"] (spL 4 (sp_Table___init__ K)) := OkI.mk (fn_mk (f := (ini "Table" K)) (T.d_Table___init__) sc_Table___init__ (fun _ _ _ _ _ _ us hl => match us, hl with | [_, _, _, _], _ => rfl) (fun _ _ _ _ _ _ hr => der_Table___init__ T hr) (pure_Table___init__ T)) T.k_Table T.m_Table
end
end

section
open PySem PySem.Spec L2 RZ StX
open PyProof.Rows (envOfC)
section
variable {P : Program} {w : World} {K : PySem.W.Frag} {mg : Str → Option Value} {base : Heap}
abbrev N__law_built : List Str := ["_law_row"]
theorem sc__law_built : FnScope N__law_built ["_law_row"] (defScope s__law_built) := ⟨rfl, rfl, rfl, by decide +kernel, rfl, by decide +kernel, by decide +kernel⟩
def t__law_built (K : PySem.W.Frag) (E : XK) : TS :=
    (tRet (tMakeO K "Table" (spL 4 (sp_Table___init__ K)) (WE (fun cls d _ H => E cls d H)) (tCons (tOp (rIx K) (tVar 0) (tC (.int 0))) (tCons (tOp (rIx K) (tVar 0) (tC (.int 1))) (tCons (tOp (rIx K) (tVar 0) (tC (.int 2))) tNil)))))
end
def sp__law_built (K : PySem.W.Frag) : Sp := fun vs H Q _ => ∃ (b : Addr) (t : Tab), vs = [.ref b] ∧ Row3 K H b t ∧ Drawn3 t 3 ∧ ∀ c H', H c = none → Fr [] H H' → AtTab K H' c t → Q (.ref c) H'
theorem pure__law_built {K : PySem.W.Frag} (vs : List V) (H : Hp) (Q : VK) (E : XK) (hl : vs.length = 1) (h : sp__law_built K vs H Q E) : t__law_built K E { nx := fun _ H' => Q .non H', rt := Q } (start N__law_built vs) H := by
  obtain ⟨b, t, rfl, hb, hd, q⟩ := h
  show t__law_built K E _ [some (.ref b)] H
  unfold t__law_built
  k_clsL
  refine r_row0 hb fun v tv => ?_
  k_clsL
  intro a dx na nd nad
  have F9 : Fr [] H (upd (upd H dx (.own a)) a (.ins (He.ga K "Table") dx [])) := (Fr.new nd).trans (Fr.new (by rw [upd_ne (Ne.symm nad)]; exact na))
  refine ⟨rfl, a, dx, _, _, _, rowsD t.rows, .int t.spare, .str t.fate, rfl, upd_same, (tv.fr F9).da, .int _, .str _, hd.small (by decide), ?_⟩
  rw [hd.tab (by decide)]
  exact fun H10 F10 h10 => ⟨rfl, q a H10 na (Fr.over0 na F9 F10) h10⟩

section
variable {P : Program} {w : World} {K : PySem.W.Frag} {mg : Str → Option Value} {base : Heap}
theorem der__law_built (T : Txt P K mg base) {cdv : Value} {A : Around} {outer : List Env} {s : Shared} {H : Hp} {E : XK} (hr : Room 5 (A.deeper (envOfC "_law_built" (defScope s__law_built) s.heap.objs.size (He.ga K "_law_built") cdv))) :
    PSs (cxOf (L2.CX P w) P w K mg base N__law_built "_law_built" (defScope s__law_built) (He.ga K "_law_built") cdv A outer s H E) (defBody s__law_built) (t__law_built K E) := by
  have nd := (sc__law_built).nd
  have tk : Takes (cxOf (L2.CX P w) P w K mg base N__law_built "_law_built" (defScope s__law_built) (He.ga K "_law_built") cdv A outer s H E) (fun cls d _ H => E cls d H) := takes_of rfl rfl rfl rfl
  exact (pss_one (ps_ret (pe_makeO (ok_Table___init__ T) (hr.mono (by decide)) (by rfl) tk (pa_cons (pe_ix ix_seq (pv 0) pe_int (fun _ _ => rfl)) (pa_cons (pe_ix ix_seq (pv 0) pe_int (fun _ _ => rfl)) (pa_cons (pe_ix ix_seq (pv 0) pe_int (fun _ _ => rfl)) pa_nil))))))
theorem ok__law_built (T : Txt P K mg base) : Ok P w K mg base "_law_built" 6 ["_law_row"] (spL 1 (sp__law_built K)) := ok_mk (T.d__law_built) T.m__law_built sc__law_built (fun _ _ _ _ _ _ us hl => match us, hl with | [_], _ => rfl) (fun _ _ _ _ _ _ hr => der__law_built T hr) (pure__law_built)
end
end

section
open PySem PySem.Spec L2 RZ StX
open PyProof.Rows (envOfC)
section
variable {P : Program} {w : World} {K : PySem.W.Frag} {mg : Str → Option Value} {base : Heap}
abbrev N_write : List Str := ["table", "lines", "at", "row", "take"]
theorem sc_write : FnScope N_write ["table"] (defScope s_write) := ⟨rfl, rfl, rfl, by decide +kernel, rfl, by decide +kernel, by decide +kernel⟩
def t_write (K : PySem.W.Frag) (E : XK) : TS :=
    (tSeq (tAsg (tLst (tCons (tOp (rAddA K) (tC (.str "passes ")) (tCB rStrI (tCons (tFldO K "Table" (tVar 0) "spare") tNil))) (tCons (tOp (rAddA K) (tC (.str "stuck ")) (tFldO K "Table" (tVar 0) "fate")) tNil))) (gName 1))
    (tSeq (tFor (iEnumA K (tCons (tFldO K "Table" (tVar 0) "allowed") tNil)) (gTup K 2 (gCons (gName 2) (gCons (gName 3) gNil))) (tDrop (tBM K "list" rAppend (tVar 1) (tCons (tM1 (rJoin K) (tC (.str " ")) (tLst (tCons (tCB rStrI (tCons (tVar 2) tNil)) (tStar K (tLc (iSeq K (tVar 3)) (gName 4) tYes (tCB rStrI (tCons (tVar 4) tNil)) [4]) tNil)))) tNil))))
    (tRet (tM1 (rJoin K) (tC (.str "\n")) (tVar 1)))))
end
def sp_write (K : PySem.W.Frag) : Sp := fun vs H Q _ => ∃ (a : Addr) (t : Tab), vs = [.ref a] ∧ AtTab K H a t ∧ t.Good ∧ ∀ H', Fr [] H H' → Q (.str (writeS t)) H'
theorem pure_write {K : PySem.W.Frag} (vs : List V) (H : Hp) (Q : VK) (E : XK) (hl : vs.length = 1) (h : sp_write K vs H Q E) : t_write K E { nx := fun _ H' => Q .non H', rt := Q } (start N_write vs) H := by
  obtain ⟨a, t, rfl, ha, hg, q⟩ := h
  show t_write K E _ [some (.ref a), none, none, none, none] H
  unfold t_write
  k_clsL
  refine r_strI (one_log hg.sp.1 hg.sp.2) ?_
  k_clsL
  refine r_addS (by rw [show (toString t.spare : Str).length = 1 from iS_len hg.sp.1 hg.sp.2]; exact szle rfl) ?_
  k_clsL
  refine r_addS (by rcases hg.fate with h | h <;> rw [h] <;> exact szle (by decide +kernel)) ?_
  k_clsL
  refine g_nL fun p n1 F1 h1 => ?_
  have ha1 := ha.fr0 F1
  k_clsL
  rename_i v tv
  obtain ⟨b, xs, rfl, hs, tt⟩ := tv.tupi
  refine r_enumT hs ?_
  have hlen := tt.length
  rw [List.length_map] at hlen
  refine for_fm walk_enumT t.rows hlen.symm (fun i σ' H' => ∃ s2 s3 s4, σ' = [some (.ref a), some (.ref p), s2, s3, s4] ∧ Fr [] H H' ∧ SqT K H' b xs ∧ TpL K H' xs (t.rows.map rowD) ∧ LsD K H' p (((linesS t).take (i + 2)).map PyData.str)) ⟨_, _, _, rfl, F1, hs, tt, ⟨_, h1, .cons (.str _) (.cons (.str _) .nil)⟩⟩ (fun i σ' H' ⟨s2, s3, s4, e, F, r, _⟩ => r) ?_ ?_
  · rintro i r x σ' H1 H2 hr ⟨s2, s3, s4, rfl, F2, hs2, tt2, hp⟩ ⟨T, x1, x2, rfl, hT, rfl, e1, e2⟩
    cases e1
    have hm := List.mem_of_getElem? hr
    obtain ⟨hi, _⟩ := List.getElem?_eq_some_iff.mp hr
    have hgl := hg.len
    obtain ⟨d, hd, hxd⟩ := tt2.get' e2
    rw [List.getElem?_map, hr] at hd
    cases hd
    have F3 : Fr [] H1 (upd H1 T (.tup [.int (i : Nat), x2])) := Fr.new hT
    have hp3 := hp.fr0 F3
    obtain ⟨c, ys, rfl, hc, tc⟩ := (hxd.fr F3).tupi
    k_clsL
    refine ⟨hp3.ty, ?_⟩
    k_clsL
    refine r_strI (one_log (by omega) (by omega)) ?_
    k_clsL
    have hcl := tc.length
    rw [List.length_map] at hcl
    have hrl := hg.rowLen hm
    refine lc_fm (K := K) walk_tup r (fun n => some (.str (iS n))) hcl.symm (by omega) (fun H' F => F.sqt hc) ?_ ?_
    · rintro j n y H3 H4 R Rn hn F4 ⟨rfl, hy⟩ k1 k2
      obtain ⟨d', hd', hyd⟩ := tc.get' hy
      rw [List.getElem?_map, hn] at hd'
      cases hd'
      cases hyd
      k_clsL
      refine ⟨rfl, ?_⟩
      have := hg.take hm (List.mem_of_getElem? hn)
      k_clsL
      refine r_strI (one_log (by omega) (by omega)) ?_
      exact k1 _ _ _ rfl (.str _) Fr.refl
    · intro D H3 nD F4 hD
      rw [List.filterMap_eq_map', show (fun n => PyData.str (iS n)) = PyData.str ∘ iS from rfl, ← List.map_map] at hD
      obtain ⟨zs, hz, tz⟩ := hD
      refine ⟨D, zs, rfl, .inr (SqL.of hz), ?_⟩
      k_clsL
      rw [List.append_nil, tz.of_strs]
      refine g_newL (by simp; exact szle (by simp; omega)) fun p2 n2 F5 h2 => ?_
      refine r_join (ys := iS i :: r.map iS) ⟨_, h2, .cons (.str _) (TpL.strs _)⟩ ?_ ?_
      · exact Nat.le_trans (lineS_sum (by omega) hrl fun n hn => hg.take hm hn) (by decide)
      · k_clsL
        refine r_appendD ((hp3.fr0 F4).fr0 F5) (.str _) ?_ fun H6 F6 h6 => ?_
        · rw [List.length_map, List.length_take, lines_len]
          omega
        · have F7 : Fr [] H1 (upd H3 p2 (.lst (V.str (iS i) :: (r.map iS).map V.str))) := (F3.trans F4).trans F5
          k_clsL
          refine ⟨_, _, _, rfl, Fr.over0 n1 (F2.trans F7) F6, F6.sqt (F7.sqt hs2), (tt2.fr F7).fr F6, ?_⟩
          have e : (linesS t).take (i + 1 + 2) = (linesS t).take (i + 2) ++ [lineS i r] := by
            rw [show i + 1 + 2 = (i + 2) + 1 from rfl, List.take_add_one, lines_at hr]
            rfl
          rw [e, List.map_append]
          exact h6
  · rintro σ' H' ⟨s2, s3, s4, rfl, F2, hs2, tt2, hp⟩
    rw [List.take_of_length_le (Nat.le_of_eq lines_len)] at hp
    k_clsL
    refine r_join hp hg.sumLines ?_
    exact q _ F2

section
variable {P : Program} {w : World} {K : PySem.W.Frag} {mg : Str → Option Value} {base : Heap}
theorem der_write (T : Txt P K mg base) {cdv : Value} {A : Around} {outer : List Env} {s : Shared} {H : Hp} {E : XK} (hr : Room 0 (A.deeper (envOfC "write" (defScope s_write) s.heap.objs.size (He.ga K "write") cdv))) :
    PSs (cxOf (L2.CX P w) P w K mg base N_write "write" (defScope s_write) (He.ga K "write") cdv A outer s H E) (defBody s_write) (t_write K E) := by
  have nd := (sc_write).nd
  have tk : Takes (cxOf (L2.CX P w) P w K mg base N_write "write" (defScope s_write) (He.ga K "write") cdv A outer s H E) (fun cls d _ H => E cls d H) := takes_of rfl rfl rfl rfl
  exact (pss_cons (ps_set (i := 1) nd rfl (by first | exact Or.inl rfl | exact Or.inr rfl) (pe_lst (pa_cons (pe_op op_addA pe_str (pe_callTy call_strI (by rfl) T.f_str (by decide +kernel) (pa_cons (pe_fldO T.l_Table_spare (pv 0)) pa_nil))) (pa_cons (pe_op op_addA pe_str (pe_fldO T.l_Table_fate (pv 0))) pa_nil))))
    (pss_cons (ps_for (passes_of rfl) rfl (pi_enumA (by rfl) T.f_enumerate (pa_cons (pe_fldO T.l_Table_allowed (pv 0)) pa_nil)) (pg_tup rfl (pgs_cons (pg_name (i := 2) nd rfl (by first | exact Or.inl rfl | exact Or.inr rfl)) (pgs_cons (pg_name (i := 3) nd rfl (by first | exact Or.inl rfl | exact Or.inr rfl)) pgs_nil))) (pss_one (ps_expr (pe_bm PySem.F.plainAttrs_list PySem.F.slot_list_append PySem.F.type_list_append mt_append (pv 1) (pa_cons (pe_join pe_str (pe_lst (pa_cons (pe_callTy call_strI (by rfl) T.f_str (by decide +kernel) (pa_cons (pv 2) pa_nil)) (pa_star (pe_lc (own := [("take", 4)]) (g := (gName 4)) (tt := tYes) (te := (tCB rStrI (tCons (tVar 4) tNil))) rfl nd (pi_seq (pv 3)) (blkOk_by (own := [("take", 4)]) (N := N_write) (sc := (defScope s_write)) (by decide +kernel)) (fun _ _ _ _ _ => (pg_name (i := 4) nd rfl (by first | exact Or.inl rfl | exact Or.inr rfl))) (fun _ _ _ _ _ => pts_nil) (fun _ _ _ _ _ => (pe_callTy call_strI (by rfl) T.f_str (by decide +kernel) (pa_cons (pv 4) pa_nil)))) pa_nil)))) pa_nil)))))
    (pss_one (ps_ret (pe_join pe_str (pv 1))))))
theorem ok_write (T : Txt P K mg base) : Ok P w K mg base "write" 1 ["table"] (spL 1 (sp_write K)) := ok_mk (T.d_write) T.m_write sc_write (fun _ _ _ _ _ _ us hl => match us, hl with | [_], _ => rfl) (fun _ _ _ _ _ _ hr => der_write T hr) (pure_write)
end
end

section
open PySem PySem.Spec L2 RZ StX
open PyProof.Rows (envOfC)
section
variable {P : Program} {w : World} {K : PySem.W.Frag} {mg : Str → Option Value} {base : Heap}
abbrev N_is_line : List Str := ["words", "index", "sign"]
theorem sc_is_line : FnScope N_is_line ["words", "index"] (defScope s_is_line) := ⟨rfl, rfl, rfl, by decide +kernel, rfl, by decide +kernel, by decide +kernel⟩
def t_is_line (K : PySem.W.Frag) (E : XK) : TS :=
    (tSeq (tIfS (tTest (tOp (rEqA K) (tVar 1) (tC (.int 0)))) (tRet (tAndV (tOp (rEqA K) (tCB (rLenA K) (tCons (tVar 0) tNil)) (tC (.int 2))) (tAndV (tOp (rEqA K) (tOp (rIx K) (tVar 0) (tC (.int 0))) (tC (.str "passes"))) (tOp (rInA K) (tOp (rIx K) (tVar 0) (tC (.int 1))) (tC (.ref (He.ga K "PASSES"))))))) tNext)
    (tSeq (tIfS (tTest (tOp (rEqA K) (tVar 1) (tC (.int 1)))) (tRet (tAndV (tOp (rEqA K) (tCB (rLenA K) (tCons (tVar 0) tNil)) (tC (.int 2))) (tAndV (tOp (rEqA K) (tOp (rIx K) (tVar 0) (tC (.int 0))) (tC (.str "stuck"))) (tOp (rInA K) (tOp (rIx K) (tVar 0) (tC (.int 1))) (tC (.ref (He.ga K "STUCK"))))))) tNext)
    (tSeq (tIfS (tOr (tTest (tOp (rI0 fun i j => .bl (decide (j < i))) (tVar 1) (tOp (rAddA K) (tC (.int 3)) (tC (.int 2))))) (tTest (tOp (rNeA K) (tOp (rIx K) (tVar 0) (tC (.int 0))) (tCB rStrI (tCons (tOp (rI0 fun i j => .int (i - j)) (tVar 1) (tC (.int 2))) tNil))))) (tRet (tC (.bl false))) tNext)
    (tRet (tOp (rEqA K) (tLc (iSeq K (tC (.ref (He.ga K "DIGITS")))) (gName 2) (tTest (tOp (rInA K) (tVar 2) (tSl (rSl K) (tVar 0) (tPart (tC (.int 1))) tNoPart))) (tVar 2) [2]) (tSl (rSl K) (tVar 0) (tPart (tC (.int 1))) tNoPart))))))
end
def sp_is_line (K : PySem.W.Frag) : Sp := fun vs H Q _ => ∃ (a : Addr) (ws : List Str) (i : Nat), vs = [.ref a, .int (i : Nat)] ∧ LsD K H a (ws.map PyData.str) ∧ ws ≠ [] ∧ ws.length ≤ 100 ∧ (∀ z ∈ ws, gw z = true) ∧ ∀ H', Fr [] H H' → Q (.bl (okLine ws i)) H'
theorem pure_is_line {P : Program} {K : PySem.W.Frag} {mg : Str → Option Value} {base : Heap} (T : Txt P K mg base) (vs : List V) (H : Hp) (Q : VK) (E : XK) (hl : vs.length = 2) (h : sp_is_line K vs H Q E) : t_is_line K E { nx := fun _ H' => Q .non H', rt := Q } (start N_is_line vs) H := by
  obtain ⟨a, ws, i, rfl, hw, hne, h100, hz, q⟩ := h
  show t_is_line K E _ [some (.ref a), some (.int (i : Nat)), none] H
  unfold t_is_line
  k_clsL
  refine iteD (fun hi => ?_) (fun hi => ?_)
  · have hi : i = 0 := by omega
    subst hi
    k_clsL
    refine r_lenLd hw ?_
    k_clsL
    refine iteD (fun h2 => ?_) (fun h2 => ?_)
    · rw [List.length_map] at h2
      match ws, h2, q, hw with
      | [x, y], _, q, hw =>
        k_clsL
        refine r_ixLd hw (j := 0) rfl rfl fun v hv => ?_
        cases hv
        k_clsL
        refine iteD (fun h3 => ?_) (fun h3 => ?_)
        · k_clsL
          refine r_ixLd hw (j := 1) rfl rfl fun v hv => ?_
          cases hv
          k_clsL
          refine r_inTs (ns := pass2) (T.q_PASSES _) ?_
          have e : okLine [x, y] 0 = decide (y ∈ pass2) := by
            show (decide (x = "passes") && decide (y ∈ pass2)) = _
            rw [decide_eq_true h3, Bool.true_and]
          rw [← e]
          exact q _ Fr.refl
        · have e : okLine [x, y] 0 = false := by
            show (decide (x = "passes") && decide (y ∈ pass2)) = _
            rw [decide_eq_false h3, Bool.false_and]
          rw [← e]
          exact q _ Fr.refl
    · rw [List.length_map] at h2
      have e : okLine ws 0 = false := by
        match ws, h2 with
        | [], _ => rfl
        | [_], _ => rfl
        | [_, _], h => exact absurd rfl h
        | _ :: _ :: _ :: _, _ => rfl
      rw [← e]
      exact q _ Fr.refl
  · k_clsL
    refine iteD (fun hi1 => ?_) (fun hi1 => ?_)
    · have hi : i = 1 := by omega
      subst hi
      k_clsL
      refine r_lenLd hw ?_
      k_clsL
      refine iteD (fun h2 => ?_) (fun h2 => ?_)
      · rw [List.length_map] at h2
        match ws, h2, q, hw with
        | [x, y], _, q, hw =>
          k_clsL
          refine r_ixLd hw (j := 0) rfl rfl fun v hv => ?_
          cases hv
          k_clsL
          refine iteD (fun h3 => ?_) (fun h3 => ?_)
          · k_clsL
            refine r_ixLd hw (j := 1) rfl rfl fun v hv => ?_
            cases hv
            k_clsL
            refine r_inTs (ns := fates) (T.q_STUCK _) ?_
            have e : okLine [x, y] 1 = decide (y ∈ fates) := by
              show (decide (x = "stuck") && decide (y ∈ fates)) = _
              rw [decide_eq_true h3, Bool.true_and]
            rw [← e]
            exact q _ Fr.refl
          · have e : okLine [x, y] 1 = false := by
              show (decide (x = "stuck") && decide (y ∈ fates)) = _
              rw [decide_eq_false h3, Bool.false_and]
            rw [← e]
            exact q _ Fr.refl
      · rw [List.length_map] at h2
        have e : okLine ws 1 = false := by
          match ws, h2 with
          | [], _ => rfl
          | [_], _ => rfl
          | [_, _], h => exact absurd rfl h
          | _ :: _ :: _ :: _, _ => rfl
        rw [← e]
        exact q _ Fr.refl
    · obtain ⟨j, rfl⟩ : ∃ j, i = j + 2 := ⟨i - 2, by omega⟩
      obtain ⟨w, r, rfl⟩ : ∃ w r, ws = w :: r := by
        cases ws with
        | nil => exact absurd rfl hne
        | cons w r => exact ⟨w, r, rfl⟩
      have eq : okLine (w :: r) (j + 2) = (decide (j ≤ 3) && (decide (w = iS j) && decide (digits.filter (fun s => decide (s ∈ r)) = r))) := rfl
      k_clsL
      refine iteD (fun hj => ?_) (fun hj => ?_)
      · k_clsL
        have e : okLine (w :: r) (j + 2) = false := by
          rw [eq, decide_eq_false (by omega), Bool.false_and]
        rw [← e]
        exact q _ Fr.refl
      · have hj : j ≤ 3 := by omega
        rw [decide_eq_true hj, Bool.true_and] at eq
        k_clsL
        refine r_ixLd hw (j := 0) rfl rfl fun v hv => ?_
        cases hv
        k_clsL
        rw [show (((j + 2 : Nat) : Int) - 2) = (j : Int) by omega]
        refine r_strI (one_log (by omega) (by omega)) ?_
        k_clsL
        refine iteDN (fun h3 => ?_) (fun h3 => ?_)
        · k_clsL
          have e : okLine (w :: r) (j + 2) = false := by
            rw [eq, show decide (w = iS j) = false from decide_eq_false h3, Bool.false_and]
          rw [← e]
          exact q _ Fr.refl
        · have h3' : w = iS j := h3
          rw [decide_eq_true h3', Bool.true_and] at eq
          k_clsL
          obtain ⟨b, xs, eb, hb, tb⟩ := (T.q_DIGITS H).tupi
          have tb0 : TpL K H xs (digits.map PyData.str) := tb
          cases eb
          refine r_seqT hb ?_
          refine lc_fm (K := K) walk_tup digits (fun s => if s ∈ r then some (.str s) else none) (by rw [tb0.length, List.length_map]) (by rw [tb0.length]; decide) (fun H' F => F.sqt hb) ?_ ?_
          · rintro i z x H1 H2 R Rn hd F1 ⟨rfl, hx⟩ k1 k2
            obtain ⟨d', hd', hxd⟩ := tb0.get' hx
            rw [List.getElem?_map, hd] at hd'
            cases hd'
            cases hxd
            k_clsL
            refine ⟨rfl, ?_⟩
            k_clsL
            obtain ⟨ys, hys, ty⟩ := hw.fr0 F1
            refine r_slL (SqL.of hys) fun p n2 F2 h2 => ?_
            rw [show cutV ys (some 1) none = ys.drop 1 from cut_from] at h2 F2
            rw [show cutV ys (some 1) none = ys.drop 1 from cut_from]
            refine r_inLs (ns := r) ⟨_, h2, (ty.drop 1).fr F2⟩ ?_
            k_clsL
            refine iteD (fun h4 => ?_) (fun h4 => ?_)
            · k_clsL
              exact k1 _ _ _ (if_pos h4) (.str _) F2
            · exact k2 _ (if_neg h4) F2
          · intro D H1 nD F1 hD
            have e1 : (digits.filterMap fun s => if s ∈ r then some (PyData.str s) else none) = (digits.filter (fun s => decide (s ∈ r))).map PyData.str := by
              rw [← List.filterMap_eq_map, List.filterMap_filter]
              simp
            rw [e1] at hD
            k_clsL
            obtain ⟨ys, hys, ty⟩ := hw.fr0 F1
            refine r_slL (SqL.of hys) fun p n2 F2 h2 => ?_
            rw [show cutV ys (some 1) none = ys.drop 1 from cut_from] at h2 F2
            rw [show cutV ys (some 1) none = ys.drop 1 from cut_from]
            refine r_eqL (hD.fr0 F2) (e := r.map PyData.str) ⟨_, h2, (ty.drop 1).fr F2⟩ (Shp.lst (n := 0) (Shp.maps fun s hs => .str ?_)).ok (Shp.lst (n := 0) (Shp.maps fun s hs => .str (gw_ok (hz s (List.mem_cons_of_mem _ hs))))).ok ?_
            · exact gw_ok (hz s (List.mem_cons_of_mem _ (of_decide_eq_true (List.mem_filter.mp hs).2)))
            · rw [eqv_map eqv_str, ← eq]
              exact q _ (F1.trans F2)

section
variable {P : Program} {w : World} {K : PySem.W.Frag} {mg : Str → Option Value} {base : Heap}
theorem der_is_line (T : Txt P K mg base) {cdv : Value} {A : Around} {outer : List Env} {s : Shared} {H : Hp} {E : XK} (hr : Room 0 (A.deeper (envOfC "is_line" (defScope s_is_line) s.heap.objs.size (He.ga K "is_line") cdv))) :
    PSs (cxOf (L2.CX P w) P w K mg base N_is_line "is_line" (defScope s_is_line) (He.ga K "is_line") cdv A outer s H E) (defBody s_is_line) (t_is_line K E) := by
  have nd := (sc_is_line).nd
  have tk : Takes (cxOf (L2.CX P w) P w K mg base N_is_line "is_line" (defScope s_is_line) (He.ga K "is_line") cdv A outer s H E) (fun cls d _ H => E cls d H) := takes_of rfl rfl rfl rfl
  exact (pss_cons (ps_if (pt_cmpR (op_eqA (units64 hr)) (pv 1) pe_int (nomark _)) (pss_one (ps_ret (pe_and (pe_cmpR (op_eqA (units64 hr)) (pe_callB call_lenA (by rfl) T.f_len (by decide +kernel) (pa_cons (pv 0) pa_nil)) pe_int (nomark _)) (pe_and (pe_cmpR (op_eqA (units64 hr)) (pe_ix ix_seq (pv 0) pe_int (fun _ _ => rfl)) pe_str (nomark _)) (pe_one (pe_cmpR (op_inA (units65 hr)) (pe_ix ix_seq (pv 0) pe_int (fun _ _ => rfl)) (pe_gref (by rfl) T.m_PASSES) (by rfl))))))) pss_nil)
    (pss_cons (ps_if (pt_cmpR (op_eqA (units64 hr)) (pv 1) pe_int (nomark _)) (pss_one (ps_ret (pe_and (pe_cmpR (op_eqA (units64 hr)) (pe_callB call_lenA (by rfl) T.f_len (by decide +kernel) (pa_cons (pv 0) pa_nil)) pe_int (nomark _)) (pe_and (pe_cmpR (op_eqA (units64 hr)) (pe_ix ix_seq (pv 0) pe_int (fun _ _ => rfl)) pe_str (nomark _)) (pe_one (pe_cmpR (op_inA (units65 hr)) (pe_ix ix_seq (pv 0) pe_int (fun _ _ => rfl)) (pe_gref (by rfl) T.m_STUCK) (by rfl))))))) pss_nil)
    (pss_cons (ps_if (PW.pt (pw_or (pt_cmpR op_gt (pv 1) (pe_op op_addA (pe_gint (by rfl) T.m_MOST_TAKE) (pe_gint (by rfl) T.m_HEADS)) (nomark _)) (pw_or1 (pt_cmpR (op_neA (units64 hr)) (pe_ix ix_seq (pv 0) pe_int (fun _ _ => rfl)) (pe_callTy call_strI (by rfl) T.f_str (by decide +kernel) (pa_cons (pe_op op_sub (pv 1) (pe_gint (by rfl) T.m_HEADS)) pa_nil)) (nomark _))))) (pss_one (ps_ret pe_bl)) pss_nil)
    (pss_one (ps_ret (pe_cmpR (op_eqA (units64 hr)) (pe_lc (own := [("sign", 2)]) (g := (gName 2)) (tt := (tTest (tOp (rInA K) (tVar 2) (tSl (rSl K) (tVar 0) (tPart (tC (.int 1))) tNoPart)))) (te := (tVar 2)) rfl nd (pi_seq (pe_gref (by rfl) T.m_DIGITS)) (blkOk_by (own := [("sign", 2)]) (N := N_is_line) (sc := (defScope s_is_line)) (by decide +kernel)) (fun _ _ _ _ _ => (pg_name (i := 2) nd rfl (by first | exact Or.inl rfl | exact Or.inr rfl))) (fun _ _ _ _ _ => (pts_one (pt_cmpR (op_inA (units65 hr)) (pv 2) (pe_slice sl_any (pv 0) (po_some pe_int) po_none) (by rfl)))) (fun _ _ _ _ _ => (pv 2))) (pe_slice sl_any (pv 0) (po_some pe_int) po_none) (nomark _)))))))
theorem ok_is_line (T : Txt P K mg base) : Ok P w K mg base "is_line" 1 ["words", "index"] (spL 2 (sp_is_line K)) := ok_mk (T.d_is_line) T.m_is_line sc_is_line (fun _ _ _ _ _ _ us hl => match us, hl with | [_, _], _ => rfl) (fun _ _ _ _ _ _ hr => der_is_line T hr) (pure_is_line T)
end
end

section
open PySem PySem.Spec L2 RZ StX
open PyProof.Rows (envOfC)
section
variable {P : Program} {w : World} {K : PySem.W.Frag} {mg : Str → Option Value} {base : Heap}
abbrev N_read : List Str := ["text", "rows", "line", "index", "words", "takes", "word", "at", "row", "take"]
theorem sc_read : FnScope N_read ["text"] (defScope s_read) := ⟨rfl, rfl, rfl, by decide +kernel, rfl, by decide +kernel, by decide +kernel⟩
def t_read (K : PySem.W.Frag) (E : XK) : TS :=
    (tSeq (tAsg (tLc (iSeq K (tM1 rSplit (tVar 0) (tC (.str "\n")))) (gName 2) tYes (tM1 rSplit (tVar 2) (tC (.str " "))) [2]) (gName 1))
    (tSeq (tFor (iEnumA K (tCons (tVar 1) tNil)) (gTup K 2 (gCons (gName 3) (gCons (gName 4) gNil))) (tIfS (tNot (tB (tCallS (spL 2 (sp_is_line K)) (WE (fun cls d _ H => E cls d H)) (tCons (tVar 4) (tCons (tVar 3) tNil))))) (tRaise1 (He.ga K "InvalidLine") "line" (fun cls d _ H => E cls d H) (tCons (tOp (rAddA K) (tVar 3) (tC (.int 1))) tNil)) tNext))
    (tSeq (tIfS (tTest (tOp (rI0 fun i j => .bl (decide (i < j))) (tCB (rLenA K) (tCons (tVar 1) tNil)) (tOp (rAddA K) (tC (.int 2)) (tC (.int 2))))) (tRaise1 (He.ga K "InvalidLine") "line" (fun cls d _ H => E cls d H) (tCons (tOp (rAddA K) (tCB (rLenA K) (tCons (tVar 1) tNil)) (tC (.int 1))) tNil)) tNext)
    (tSeq (tAsg (tLc (iSeq K (tSl (rSl K) (tVar 1) (tPart (tC (.int 2))) tNoPart)) (gName 4) tYes (tCB (rTupleOf K) (tCons (tLc (iSeq K (tSl (rSl K) (tVar 4) (tPart (tC (.int 1))) tNoPart)) (gName 6) tYes (tCB rIntA (tCons (tVar 6) tNil)) [6]) tNil)) [4]) (gName 5))
    (tSeq (tFor (iEnumA K (tCons (tVar 5) tNil)) (gTup K 2 (gCons (gName 7) (gCons (gName 8) gNil))) (tIfS (tB (tCB (rAny K) (tCons (tLc (iSeq K (tVar 8)) (gName 9) tYes (tOp (rI0 fun i j => .bl (decide (j < i))) (tVar 9) (tOp (rI0 fun i j => .int (i - j)) (tCB (rLenA K) (tCons (tVar 5) tNil)) (tC (.int 1)))) [9]) tNil))) (tRaise1 (He.ga K "InvalidLine") "line" (fun cls d _ H => E cls d H) (tCons (tOp (rAddA K) (tOp (rAddA K) (tVar 7) (tC (.int 2))) (tC (.int 1))) tNil)) tNext))
    (tRet (tMakeO K "Table" (spL 4 (sp_Table___init__ K)) (WE (fun cls d _ H => E cls d H)) (tCons (tCB (rTupleOf K) (tCons (tVar 5) tNil)) (tCons (tCB rIntA (tCons (tOp (rIx K) (tOp (rIx K) (tVar 1) (tC (.int 0))) (tC (.int 1))) tNil)) (tCons (tOp (rIx K) (tOp (rIx K) (tVar 1) (tC (.int 1))) (tC (.int 1))) tNil))))))))))
end
def sp_read (K : PySem.W.Frag) : Sp := fun vs H Q E => ∃ ls : List (List Str), vs = [.str (txtOf ls)] ∧ GoodLs ls ∧
  (match readR ls with
  | .line n => ∀ e H', Fr [] H H' → H' e = some (.xd [("line", .int n)]) → E (.ref (He.ga K "InvalidLine")) (some e) H'
  | .ok t => t.Good → ∀ a H', Fr [] H H' → H a = none → AtTab K H' a t → Q (.ref a) H')
theorem pure_read {K : PySem.W.Frag} (vs : List V) (H : Hp) (Q : VK) (E : XK) (hl : vs.length = 1) (h : sp_read K vs H Q E) : t_read K E { nx := fun _ H' => Q .non H', rt := Q } (start N_read vs) H := by
  obtain ⟨ls, rfl, g, q⟩ := h
  show t_read K E _ [some (.str (txtOf ls)), none, none, none, none, none, none, none, none, none] H
  unfold t_read
  k_clsL
  refine r_split (K := K) (by decide +kernel) (txt_len g) fun p H1 n1 F1 h1 => ?_
  rw [show Txt.split (txtOf ls) (Str.ofString "\n") = ls.map (Txt.join sp1) from split_lines g, List.map_map] at h1
  obtain ⟨xs, hx, tx⟩ := h1
  have hxl := tx.length
  rw [List.length_map] at hxl
  have gl := g.len
  refine r_seqL (SqL.of hx) ?_
  refine lc_ll (K := K) walk_list ls (fun l => l.map PyData.str) hxl.symm (by omega) (fun H' F => F.sql0 (SqL.of hx)) ?_ (fun i Ha x Hb D y hn => by rw [y.1]; exact hn) ?_
  · rintro D i l x H2 H3 R hli hD F2 ⟨rfl, hxi⟩ k
    obtain ⟨d, hd, hxd⟩ := tx.get' hxi
    rw [List.getElem?_map, hli] at hd
    cases hd
    cases hxd
    obtain ⟨l1, l2, l3⟩ := g.each l (List.mem_of_getElem? hli)
    k_clsL
    refine ⟨rfl, ?_⟩
    k_clsL
    refine r_split (K := K) (by decide +kernel) (Nat.le_trans (Nat.add_le_add_right (line_len l2 l3) 2) (by rw [sizeLine_eq]; decide)) fun p4 H4 n4 F4 h4 => ?_
    rw [show Txt.split (Txt.join sp1 l) (Str.ofString " ") = l from split_line l1 l3] at h4
    exact k p4 H4 n4 h4 F4
  · intro D H2 nD F2 hD
    obtain ⟨rs, hrs, hrl, hrr⟩ := id hD
    rw [List.length_map] at hrl
    have F12 := F1.trans F2
    k_clsL
    refine r_enumL (SqL.of hrs) ?_
    refine for_fm walk_enum ls hrl.symm (fun i σ' H' => ∃ s3 s4, σ' = [some (.str (txtOf ls)), some (.ref D), none, s3, s4, none, none, none, none, none] ∧ Fr [] H2 H' ∧ ∀ j, j < i → okLine (ls.getD j []) j = true) ⟨_, _, rfl, Fr.refl, fun j hj => absurd hj (Nat.not_lt_zero _)⟩ (fun i σ' H' ⟨s3, s4, e, F, r⟩ => F.sql0 (SqL.of hrs)) ?_ ?_
    · rintro i l x σ' Ha Hb hli ⟨s3, s4, rfl, F3, r⟩ ⟨T, x1, x2, rfl, hT, rfl, e1, e2⟩
      cases e1
      obtain ⟨hi, hi2⟩ := List.getElem?_eq_some_iff.mp hli
      have hgd : ls.getD i [] = l := by rw [List.getD_eq_getElem?_getD, hli]; rfl
      obtain ⟨c, rfl, hc⟩ := hrr i (l.map PyData.str) x2 (by rw [List.getElem?_map, hli]; rfl) e2
      have F4 : Fr [] H2 (upd Ha T (.tup [.int (i : Nat), .ref c])) := F3.trans (Fr.new hT)
      obtain ⟨l1, l2, l3⟩ := g.each l (List.mem_of_getElem? hli)
      k_clsL
      refine ⟨rfl, c, l, i, rfl, hc.fr0 F4, l1, l2, l3, fun H5 F5 => ?_⟩
      cases e : okLine l i with
      | true =>
        k_clsL
        refine ⟨_, _, rfl, F4.trans F5, fun j hj => ?_⟩
        rcases Nat.lt_succ_iff_lt_or_eq.mp hj with hj | rfl
        · exact r j hj
        · rw [hgd]; exact e
      | false =>
        k_clsL
        have hb : readR ls = .line ((i : Nat) + 1) := by
          unfold readR
          rw [badLine_some hi (by rw [hgd]; exact e) r]
        rw [hb] at q
        refine ⟨_, rfl, fun e0 hn => q e0 _ ((((F12.trans F4).trans F5)).trans (Fr.new hn)) upd_same⟩
    · rintro σ' H3 ⟨s3, s4, rfl, F3, r⟩
      have F13 := F12.trans F3
      have hD3 := hD.fr0 F3
      have hrs3 := F3.lst0 hrs
      have hbl : badLine ls = none := List.find?_range_eq_none.mpr fun i hi => by rw [r i hi]; rfl
      k_clsL
      refine r_lenL (SqL.of hrs3) ?_
      rw [hrl]
      k_clsL
      refine iteD (fun h4 => ?_) (fun h4 => ?_)
      · have h4' : ls.length < 4 := by omega
        have hb : readR ls = .line ((ls.length : Nat) + 1) := by
          unfold readR
          rw [hbl]
          exact if_pos h4'
        rw [hb] at q
        k_clsL
        refine r_lenL (SqL.of hrs3) ?_
        rw [hrl]
        k_clsL
        refine ⟨_, rfl, fun e0 hn => q e0 _ (F13.trans (Fr.new hn)) upd_same⟩
      · have h4' : ¬ ls.length < 4 := by omega
        k_clsL
        refine r_slL (SqL.of hrs3) fun p5 n5 F5 h5 => ?_
        rw [show cutV rs (some 2) none = rs.drop 2 from cut_from] at h5 F5
        rw [show cutV rs (some 2) none = rs.drop 2 from cut_from]
        refine r_seqL (SqL.of h5) ?_
        refine lc_fm (K := K) walk_list (ls.drop 2) (fun ws => some (rowD (takesOf ws))) (by rw [List.length_drop, List.length_drop, hrl]) (by rw [List.length_drop]; omega) (fun H' F => F.sql0 (SqL.of h5)) ?_ ?_
        · rintro i l x Ha Hb R Rn hli F6 ⟨rfl, hxi⟩ k1 k2
          rw [List.getElem?_drop] at hli hxi
          obtain ⟨c, rfl, hc⟩ := hrr (2 + i) (l.map PyData.str) x (by rw [List.getElem?_map, hli]; rfl) hxi
          have hc6 := ((hc.fr0 F3).fr0 F5).fr0 F6
          obtain ⟨hi, _⟩ := List.getElem?_eq_some_iff.mp hli
          have hgd : ls.getD (2 + i) [] = l := by rw [List.getD_eq_getElem?_getD, hli]; rfl
          obtain ⟨u, eu, _, hu⟩ := okLine2 (ws := ls.getD (2 + i) []) (i := i) (by have q := r (2 + i) hi; rw [Nat.add_comm 2 i] at q ⊢; exact q)
          rw [hgd] at eu
          subst eu
          obtain ⟨_, l2, l3⟩ := g.each _ (List.mem_of_getElem? hli)
          k_clsL
          refine ⟨rfl, ?_⟩
          k_clsL
          obtain ⟨ys, hys, ty⟩ := hc6
          refine r_slL (SqL.of hys) fun p7 n7 F7 h7 => ?_
          rw [show cutV ys (some 1) none = ys.drop 1 from cut_from] at h7 F7
          rw [show cutV ys (some 1) none = ys.drop 1 from cut_from]
          have ty7 : TpL K _ (ys.drop 1) (u.map PyData.str) := (ty.drop 1).fr F7
          refine r_seqL (SqL.of h7) ?_
          refine lc_fm (K := K) walk_list u (fun z => some (.int (digI z))) (by rw [ty7.length, List.length_map]) (by rw [ty7.length, List.length_map]; simp at l2; omega) (fun H' F => F.sql0 (SqL.of h7)) ?_ ?_
          · rintro j z y Hc Hd R2 Rn2 hzj F8 ⟨rfl, hyj⟩ k3 k4
            obtain ⟨d, hd, hyd⟩ := ty7.get' hyj
            rw [List.getElem?_map, hzj] at hd
            cases hd
            cases hyd
            have hzm := List.mem_of_getElem? hzj
            k_clsL
            refine ⟨rfl, ?_⟩
            k_clsL
            refine r_intS ((dig_good hu).2.2 z hzm) (Nat.le_trans (gw_len (l3 z (List.mem_cons_of_mem _ hzm))) (by decide)) ?_
            exact k3 _ _ _ rfl (.int _) Fr.refl
          · intro D9 H9 n9 F9 h9
            rw [List.filterMap_eq_map', show (fun z => PyData.int (digI z)) = PyData.int ∘ digI from rfl, ← List.map_map] at h9
            k_clsL
            refine r_tupOf h9 (by rw [List.length_map, List.length_map, sizeLine_eq]; simp at l2; omega) fun p10 H10 n10 F10 h10 => ?_
            exact k1 _ _ _ rfl h10 ((F7.trans F9).trans F10)
        · intro D5 H5 n5' F6 h6
          rw [List.filterMap_eq_map', show (fun ws => rowD (takesOf ws)) = rowD ∘ takesOf from rfl, ← List.map_map] at h6
          have h6 : LsD K H5 D5 ((takesAll ls).map rowD) := h6
          have F15 := (F13.trans F5).trans F6
          have htl : (takesAll ls).length ≤ 100 := by
            unfold takesAll
            rw [List.length_map, List.length_drop]
            omega
          obtain ⟨ts, hts, tt⟩ := id h6
          have htsl := tt.length
          rw [List.length_map] at htsl
          k_clsL
          refine r_enumL (SqL.of hts) ?_
          refine for_fm walk_enum (takesAll ls) htsl.symm (fun i σ' H' => ∃ s7 s8, σ' = [some (.str (txtOf ls)), some (.ref D), none, s3, s4, some (.ref D5), none, s7, s8, none] ∧ Fr [] H5 H' ∧ ∀ j, j < i → ((takesAll ls).getD j []).any (fun n => decide (((takesAll ls).length : Int) - 1 < n)) = false) ⟨_, _, rfl, Fr.refl, fun j hj => absurd hj (Nat.not_lt_zero _)⟩ (fun i σ' H' ⟨s3, s4, e, F, r⟩ => F.sql0 (SqL.of hts)) ?_ ?_
          · rintro i l x σ' Ha Hb hli ⟨s7, s8, rfl, F7, r7⟩ ⟨T, x1, x2, rfl, hT, rfl, e1, e2⟩
            cases e1
            obtain ⟨hi, hi2⟩ := List.getElem?_eq_some_iff.mp hli
            have hgd : (takesAll ls).getD i [] = l := by rw [List.getD_eq_getElem?_getD, hli]; rfl
            obtain ⟨d, hd, hxd⟩ := tt.get' e2
            rw [List.getElem?_map, hli] at hd
            cases hd
            have F8 : Fr [] H5 (upd Ha T (.tup [.int (i : Nat), x2])) := F7.trans (Fr.new hT)
            obtain ⟨c, ys, rfl, hc, tc⟩ := (hxd.fr F8).tupi
            have h68 := h6.fr0 F8
            have hcl := tc.length
            rw [List.length_map] at hcl
            k_clsL
            refine lc_fm (K := K) walk_tup l (fun n => some (.bool (decide (((takesAll ls).length : Int) - 1 < n)))) hcl.symm (by rw [hcl]; exact Nat.lt_of_le_of_lt (takes_len g hli) (by decide)) (fun H' F => F.sqt hc) ?_ ?_
            · rintro j z y Hc Hd R2 Rn2 hzj F9 ⟨rfl, hyj⟩ k3 k4
              obtain ⟨d, hd, hyd⟩ := tc.get' hyj
              rw [List.getElem?_map, hzj] at hd
              cases hd
              cases hyd
              k_clsL
              refine ⟨rfl, ?_⟩
              k_clsL
              refine r_lenLd (h68.fr0 F9) ?_
              k_clsL
              rw [List.length_map]
              exact k3 _ _ _ rfl (.bl _) Fr.refl
            · intro D9 H9 n9 F9 h9
              rw [List.filterMap_eq_map', show (fun n => PyData.bool (decide (((takesAll ls).length : Int) - 1 < n))) = PyData.bool ∘ (fun n => decide (((takesAll ls).length : Int) - 1 < n)) from rfl, ← List.map_map] at h9
              k_clsL
              refine r_any (bs := l.map fun n => decide (((takesAll ls).length : Int) - 1 < n)) h9 ?_
              k_clsL
              rw [List.any_map]
              cases e : l.any (id ∘ fun n => decide (((takesAll ls).length : Int) - 1 < n)) with
              | true =>
                k_clsL
                have hbt : badTake (takesAll ls) = some i := List.find?_range_eq_some.mpr ⟨by rw [hgd]; exact e, List.mem_range.mpr hi, fun j hj => by rw [r7 j hj]; rfl⟩
                have hb : readR ls = .line ((i : Nat) + 2 + 1) := by
                  unfold readR
                  rw [hbl]
                  show (if ls.length < 4 then _ else _) = _
                  rw [if_neg h4', hbt]
                rw [hb] at q
                refine ⟨_, rfl, fun e0 hn => q e0 _ (((F15.trans F8).trans F9).trans (Fr.new hn)) upd_same⟩
              | false =>
                k_clsL
                refine ⟨_, _, rfl, F8.trans F9, fun j hj => ?_⟩
                rcases Nat.lt_succ_iff_lt_or_eq.mp hj with hj | rfl
                · exact r7 j hj
                · rw [hgd]; exact e
          · rintro σ' H7 ⟨s7, s8, rfl, F7, r7⟩
            have hbt : badTake (takesAll ls) = none := List.find?_range_eq_none.mpr fun i hi => by rw [r7 i hi]; rfl
            have hb : readR ls = .ok (tabR ls) := by
              unfold readR
              rw [hbl]
              show (if ls.length < 4 then _ else _) = _
              rw [if_neg h4', hbt]
            rw [hb] at q
            have ht := read_tab hbl h4' hbt
            obtain ⟨hg, _⟩ := tabOf_good ht
            have F17 := F15.trans F7
            obtain ⟨b, eb, hb0⟩ := okLine0 (r 0 (by omega))
            obtain ⟨c, ec, hc1⟩ := okLine1 (r 1 (by omega))
            have g0 : ls[0]? = some [("passes" : Str), b] := by
              rw [← eb, List.getD_eq_getElem?_getD, List.getElem?_eq_getElem (by omega)]
              rfl
            have g1 : ls[1]? = some [("stuck" : Str), c] := by
              rw [← ec, List.getD_eq_getElem?_getD, List.getElem?_eq_getElem (by omega)]
              rfl
            k_clsL
            refine r_tupOf (h6.fr0 F7) (by rw [List.length_map, sizeLine_eq]; omega) fun p8 H8 n8 F8 h8 => ?_
            have hD8 := (((hD3.fr0 F5).fr0 F6).fr0 F7).fr0 F8
            k_clsL
            refine hD8.ix (j := 0) rfl (by rw [List.getElem?_map, g0]; rfl) fun p9 h9 => ?_
            k_clsL
            refine r_ixLd h9 (j := 1) rfl rfl fun v hv => ?_
            cases hv
            k_clsL
            refine r_intS (pass_int hb0).1 (pass_int hb0).2.2 ?_
            k_clsL
            refine hD8.ix (j := 1) rfl (by rw [List.getElem?_map, g1]; rfl) fun p9 h9 => ?_
            k_clsL
            refine r_ixLd h9 (j := 1) rfl rfl fun v hv => ?_
            cases hv
            k_clsL
            intro a0 dx na nd nad
            have F9 : Fr [] H8 (upd (upd H8 dx (.own a0)) a0 (.ins (He.ga K "Table") dx [])) := (Fr.new nd).trans (Fr.new (by rw [upd_ne (Ne.symm nad)]; exact na))
            have es : (tabR ls).spare = digI b := by
              show digI ((ls.getD 0 []).getD 1 "") = _
              rw [eb]
              rfl
            have ef : (tabR ls).fate = c := by
              show (ls.getD 1 []).getD 1 "" = _
              rw [ec]
              rfl
            rw [es, ef] at ht
            refine ⟨rfl, a0, dx, _, _, _, rowsD (takesAll ls), .int (digI b), .str c, rfl, upd_same, (h8.fr F9).da, .int _, .str _, small_rows _ fun r hr => ?_, ?_⟩
            · obtain ⟨i, hi⟩ := List.getElem?_of_mem hr
              exact Nat.lt_of_le_of_lt (takes_len g hi) (by decide)
            · rw [ht]
              refine fun H10 F10 h10 => ⟨rfl, q hg a0 H10 ?_ ?_ h10⟩
              · have na0 : H a0 = none := (F17.trans F8).free na
                exact Fr.over0 na0 ((F17.trans F8).trans F9) F10
              · exact (F17.trans F8).free na

section
variable {P : Program} {w : World} {K : PySem.W.Frag} {mg : Str → Option Value} {base : Heap}
theorem der_read (T : Txt P K mg base) {cdv : Value} {A : Around} {outer : List Env} {s : Shared} {H : Hp} {E : XK} (hr : Room 5 (A.deeper (envOfC "read" (defScope s_read) s.heap.objs.size (He.ga K "read") cdv))) :
    PSs (cxOf (L2.CX P w) P w K mg base N_read "read" (defScope s_read) (He.ga K "read") cdv A outer s H E) (defBody s_read) (t_read K E) := by
  have nd := (sc_read).nd
  have tk : Takes (cxOf (L2.CX P w) P w K mg base N_read "read" (defScope s_read) (He.ga K "read") cdv A outer s H E) (fun cls d _ H => E cls d H) := takes_of rfl rfl rfl rfl
  exact (pss_cons (ps_setLc (i := 1) (own := [("line", 2)]) (g := (gName 2)) (tt := tYes) (te := (tM1 rSplit (tVar 2) (tC (.str " ")))) rfl nd rfl rfl (sw_true rfl rfl rfl (by decide +kernel)) (pi_seq (pe_split (pv 0) pe_str)) (blkOk_by (own := [("line", 2)]) (N := N_read) (sc := (defScope s_read)) (by decide +kernel)) (fun _ _ _ _ _ => (pg_name (i := 2) nd rfl (by first | exact Or.inl rfl | exact Or.inr rfl))) (fun _ _ _ _ _ => pts_nil) (fun _ _ _ _ _ => (pe_split (pv 2) pe_str)))
    (pss_cons (ps_for (passes_of rfl) rfl (pi_enumA (by rfl) T.f_enumerate (pa_cons (pv 1) pa_nil)) (pg_tup rfl (pgs_cons (pg_name (i := 3) nd rfl (by first | exact Or.inl rfl | exact Or.inr rfl)) (pgs_cons (pg_name (i := 4) nd rfl (by first | exact Or.inl rfl | exact Or.inr rfl)) pgs_nil))) (pss_one (ps_if (pt_not (pt_val (pe_callO (ok_is_line T) (hr.mono (by decide)) (by rfl) tk (pa_cons (pv 4) (pa_cons (pv 3) pa_nil))))) (pss_one (ps_raise1 rfl T.x_InvalidLine hr tk (pa_cons (pe_op op_addA (pv 3) pe_int) pa_nil))) pss_nil)))
    (pss_cons (ps_if (pt_cmpR op_lt (pe_callB call_lenA (by rfl) T.f_len (by decide +kernel) (pa_cons (pv 1) pa_nil)) (pe_op op_addA (pe_gint (by rfl) T.m_HEADS) pe_int) (nomark _)) (pss_one (ps_raise1 rfl T.x_InvalidLine hr tk (pa_cons (pe_op op_addA (pe_callB call_lenA (by rfl) T.f_len (by decide +kernel) (pa_cons (pv 1) pa_nil)) pe_int) pa_nil))) pss_nil)
    (pss_cons (ps_set (i := 5) nd rfl (by first | exact Or.inl rfl | exact Or.inr rfl) (pe_lc (own := [("words", 4)]) (g := (gName 4)) (tt := tYes) (te := (tCB (rTupleOf K) (tCons (tLc (iSeq K (tSl (rSl K) (tVar 4) (tPart (tC (.int 1))) tNoPart)) (gName 6) tYes (tCB rIntA (tCons (tVar 6) tNil)) [6]) tNil))) rfl nd (pi_seq (pe_slice sl_any (pv 1) (po_some (pe_gint (by rfl) T.m_HEADS)) po_none)) (blkOk_by (own := [("words", 4)]) (N := N_read) (sc := (defScope s_read)) (by decide +kernel)) (fun _ _ _ _ _ => (pg_name (i := 4) nd rfl (by first | exact Or.inl rfl | exact Or.inr rfl))) (fun _ _ _ _ _ => pts_nil) (fun _ _ _ _ _ => (pe_callTy call_tupleOf (by rfl) T.f_tuple (by decide +kernel) (pa_cons (pe_lc (own := [("word", 6)]) (g := (gName 6)) (tt := tYes) (te := (tCB rIntA (tCons (tVar 6) tNil))) rfl nd (pi_seq (pe_slice sl_any (pv 4) (po_some pe_int) po_none)) (blkOk_by (own := [("word", 6)]) (N := N_read) (sc := (⟨.function, [(".0", .local), ("words", .local), ("tuple", .globalImplicit)], false, false, []⟩ : Scope)) (by decide +kernel)) (fun _ _ _ _ _ => (pg_name (i := 6) nd rfl (by first | exact Or.inl rfl | exact Or.inr rfl))) (fun _ _ _ _ _ => pts_nil) (fun _ _ _ _ _ => (pe_callTy call_intA (by rfl) T.f_int (by decide +kernel) (pa_cons (pv 6) pa_nil)))) pa_nil)))))
    (pss_cons (ps_for (passes_of rfl) rfl (pi_enumA (by rfl) T.f_enumerate (pa_cons (pv 5) pa_nil)) (pg_tup rfl (pgs_cons (pg_name (i := 7) nd rfl (by first | exact Or.inl rfl | exact Or.inr rfl)) (pgs_cons (pg_name (i := 8) nd rfl (by first | exact Or.inl rfl | exact Or.inr rfl)) pgs_nil))) (pss_one (ps_if (pt_val (pe_callB (cr_any rfl) (by rfl) T.f_any (by decide +kernel) (pa_cons (pe_lc (own := [("take", 9)]) (g := (gName 9)) (tt := tYes) (te := (tOp (rI0 fun i j => .bl (decide (j < i))) (tVar 9) (tOp (rI0 fun i j => .int (i - j)) (tCB (rLenA K) (tCons (tVar 5) tNil)) (tC (.int 1))))) rfl nd (pi_seq (pv 8)) (blkOk_by (own := [("take", 9)]) (N := N_read) (sc := (defScope s_read)) (by decide +kernel)) (fun _ _ _ _ _ => (pg_name (i := 9) nd rfl (by first | exact Or.inl rfl | exact Or.inr rfl))) (fun _ _ _ _ _ => pts_nil) (fun _ _ _ _ _ => (pe_cmpR op_gt (pv 9) (pe_op op_sub (pe_callB call_lenA (by rfl) T.f_len (by decide +kernel) (pa_cons (pv 5) pa_nil)) pe_int) (nomark _)))) pa_nil))) (pss_one (ps_raise1 rfl T.x_InvalidLine hr tk (pa_cons (pe_op op_addA (pe_op op_addA (pv 7) (pe_gint (by rfl) T.m_HEADS)) pe_int) pa_nil))) pss_nil)))
    (pss_one (ps_ret (pe_makeO (ok_Table___init__ T) (hr.mono (by decide)) (by rfl) tk (pa_cons (pe_callTy call_tupleOf (by rfl) T.f_tuple (by decide +kernel) (pa_cons (pv 5) pa_nil)) (pa_cons (pe_callTy call_intA (by rfl) T.f_int (by decide +kernel) (pa_cons (pe_ix ix_seq (pe_ix ix_seq (pv 1) pe_int (fun _ _ => rfl)) pe_int (fun _ _ => rfl)) pa_nil)) (pa_cons (pe_ix ix_seq (pe_ix ix_seq (pv 1) pe_int (fun _ _ => rfl)) pe_int (fun _ _ => rfl)) pa_nil)))))))))))
theorem ok_read (T : Txt P K mg base) : Ok P w K mg base "read" 6 ["text"] (spL 1 (sp_read K)) := ok_mk (T.d_read) T.m_read sc_read (fun _ _ _ _ _ _ us hl => match us, hl with | [_], _ => rfl) (fun _ _ _ _ _ _ hr => der_read T hr) (pure_read)
end
end

section
open PySem PySem.Spec L2 RZ StX
open PyProof.Rows (envOfC)
section
variable {P : Program} {w : World} {K : PySem.W.Frag} {mg : Str → Option Value} {base : Heap}
abbrev N_Table___eq__ : List Str := ["self", "other"]
theorem sc_Table___eq__ : FnScope N_Table___eq__ ["self", "other"] (defScope s_Table___eq__) := ⟨rfl, rfl, rfl, by decide +kernel, rfl, by decide +kernel, by decide +kernel⟩
def t_Table___eq__ (K : PySem.W.Frag) (E : XK) : TS :=
    (tSeq (tIfS (tNot (tB (tCB (rIsi K) (tCons (tVar 1) (tCons (tC (.ref (He.ga K "Table"))) tNil))))) (tRet (tC (.bl false))) tNext)
    (tRet (tOp (rEqA K) (tTup (tCons (tFldO K "Table" (tVar 0) "allowed") (tCons (tFldO K "Table" (tVar 0) "spare") (tCons (tFldO K "Table" (tVar 0) "fate") tNil)))) (tTup (tCons (tFldO K "Table" (tVar 1) "allowed") (tCons (tFldO K "Table" (tVar 1) "spare") (tCons (tFldO K "Table" (tVar 1) "fate") tNil)))))))
end
def sp_Table___eq__ (K : PySem.W.Frag) : Sp := fun vs H Q _ => ∃ (a : Addr) (x : V) (t : Tab), vs = [.ref a, x] ∧ AtTab K H a t ∧ t.Good ∧
  ((∃ b u, x = .ref b ∧ AtTab K H b u ∧ Tab.Good u ∧ ∀ H', Fr [] H H' → Q (.bl (decide (t = u))) H') ∨ ∃ n, AnyV K H x n ∧ Q (.bl false) H)
theorem pure_Table___eq__ {P : Program} {K : PySem.W.Frag} {mg : Str → Option Value} {base : Heap} (T : Txt P K mg base) (vs : List V) (H : Hp) (Q : VK) (E : XK) (hl : vs.length = 2) (h : sp_Table___eq__ K vs H Q E) : t_Table___eq__ K E { nx := fun _ H' => Q .non H', rt := Q } (start N_Table___eq__ vs) H := by
  obtain ⟨a, x, t, rfl, ha, hg, h⟩ := h
  show t_Table___eq__ K E _ [some (.ref a), some x] H
  unfold t_Table___eq__
  k_clsL
  rcases h with ⟨b, u, rfl, hb, hu, q⟩ | ⟨n, hn, q⟩
  · obtain ⟨dy, w, eb, _⟩ := id hb
    refine r_isi_own T.i_Table eb ?_
    k_clsL
    rename_i v tv
    refine g_nT fun p n1 F1 h1 => ?_
    have hb1 := hb.fr0 F1
    k_clsL
    rename_i w tw
    refine g_nT fun p2 n2 F2 h2 => ?_
    refine r_eqD (.tup (F2.sqt (SqT.of h1)) (.cons (tv.fr (F1.trans F2)) (.cons (.int _) (.cons (.str _) .nil)))) (.tup (SqT.of h2) (.cons (tw.fr F2) (.cons (.int _) (.cons (.str _) .nil)))) (shp_tab hg).ok (shp_tab hu).ok ?_
    rw [eqv_tab]
    exact q _ (F1.trans F2)
  · refine r_isi_other T.i_Table hn ?_
    k_clsL
    exact q

section
variable {P : Program} {w : World} {K : PySem.W.Frag} {mg : Str → Option Value} {base : Heap}
theorem der_Table___eq__ (T : Txt P K mg base) {cdv : Value} {A : Around} {outer : List Env} {s : Shared} {H : Hp} {E : XK} (hr : Room 0 (A.deeper (envOfC "Table.__eq__" (defScope s_Table___eq__) s.heap.objs.size (He.ma K (He.ga K "Table") "__eq__") cdv))) :
    PSs (cxOf (L2.CX P w) P w K mg base N_Table___eq__ "Table.__eq__" (defScope s_Table___eq__) (He.ma K (He.ga K "Table") "__eq__") cdv A outer s H E) (defBody s_Table___eq__) (t_Table___eq__ K E) := by
  have nd := (sc_Table___eq__).nd
  have tk : Takes (cxOf (L2.CX P w) P w K mg base N_Table___eq__ "Table.__eq__" (defScope s_Table___eq__) (He.ma K (He.ga K "Table") "__eq__") cdv A outer s H E) (fun cls d _ H => E cls d H) := takes_of rfl rfl rfl rfl
  exact (pss_cons (ps_if (pt_not (pt_val (pe_callB call_isi (by rfl) T.f_isinstance (by decide +kernel) (pa_cons (pv 1) (pa_cons (pe_gref (by rfl) T.m_Table) pa_nil))))) (pss_one (ps_ret pe_bl)) pss_nil)
    (pss_one (ps_ret (pe_cmpR (op_eqA (units64 hr)) (pe_tup (pa_cons (pe_fldO T.l_Table_allowed (pv 0)) (pa_cons (pe_fldO T.l_Table_spare (pv 0)) (pa_cons (pe_fldO T.l_Table_fate (pv 0)) pa_nil)))) (pe_tup (pa_cons (pe_fldO T.l_Table_allowed (pv 1)) (pa_cons (pe_fldO T.l_Table_spare (pv 1)) (pa_cons (pe_fldO T.l_Table_fate (pv 1)) pa_nil)))) (nomark _)))))
theorem ok_Table___eq__ (T : Txt P K mg base) : OkM P w K mg base "Table" "__eq__" 1 ["self", "other"] (spL 2 (sp_Table___eq__ K)) := OkM.mk (fn_mk (f := (He.ma K (He.ga K "Table") "__eq__")) (T.d_Table___eq__) sc_Table___eq__ (fun _ _ _ _ _ _ us hl => match us, hl with | [_, _], _ => rfl) (fun _ _ _ _ _ _ hr => der_Table___eq__ T hr) (pure_Table___eq__ T)) T.e_Table___eq__ T.c_Table
end
end

section
open PySem PySem.Spec L2 RZ StX
open PyProof.Rows (envOfC)
section
variable {P : Program} {w : World} {K : PySem.W.Frag} {mg : Str → Option Value} {base : Heap}
abbrev N_law : List Str := ["_law_script", "_law_h", "_law_turn", "_law_row", "_law_lines", "_law_k", "_law_text", "_law_table", "_law_take"]
theorem sc_law : FnScope N_law ["_law_script"] (defScope s_law) := ⟨rfl, rfl, rfl, by decide +kernel, rfl, by decide +kernel, by decide +kernel⟩
def t_law (K : PySem.W.Frag) (E : XK) : TS :=
    (tSeq (tAsg (tCallS (spL 2 (sp__law_mix K)) (WE (fun cls d _ H => E cls d H)) (tCons (tVar 0) (tCons (tC (.int 14)) tNil))) (gName 1))
    (tSeq (tFor (iRng1 (tCons (tC (.int 10)) tNil)) (gName 2) (tSeq (tAsg (tCallS (spL 2 (sp__law_draw K)) (WE (fun cls d _ H => E cls d H)) (tCons (tVar 1) (tCons (tC (.int 3)) tNil))) (gName 3))
    (tSeq (tAsg (tLst (tCons (tOp (rAddA K) (tC (.str "passes ")) (tCB rStrI (tCons (tOp (rIx K) (tVar 3) (tC (.int 1))) tNil))) (tCons (tOp (rAddA K) (tC (.str "stuck ")) (tOp (rIx K) (tVar 3) (tC (.int 2)))) tNil))) (gName 4))
    (tSeq (tFor (iRng1 (tCons (tCB (rLenA K) (tCons (tOp (rIx K) (tVar 3) (tC (.int 0))) tNil)) tNil)) (gName 5) (tDrop (tBM K "list" rAppend (tVar 4) (tCons (tM1 (rJoin K) (tC (.str " ")) (tOp (rAddA K) (tLst (tCons (tCB rStrI (tCons (tVar 5) tNil)) tNil)) (tLc (iSeq K (tOp (rIx K) (tOp (rIx K) (tVar 3) (tC (.int 0))) (tVar 5))) (gName 8) tYes (tCB rStrI (tCons (tVar 8) tNil)) [8]))) tNil))))
    (tSeq (tPar 6 7 (tCons (tM1 (rJoin K) (tC (.str "\n")) (tVar 4)) (tCons (tCallS (spL 1 (sp__law_built K)) (WE (fun cls d _ H => E cls d H)) (tCons (tVar 3) tNil)) tNil)))
    (tIfS (tOr (tTest (tOp (rNeA K) (tCallS (spL 1 (sp_write K)) (WE (fun cls d _ H => E cls d H)) (tCons (tVar 7) tNil)) (tVar 6))) (tOr (tNot (tTest (tOp (rEqOwn K "Table" (spL 2 (sp_Table___eq__ K))) (tCallS (spL 1 (sp_read K)) (WE (fun cls d _ H => E cls d H)) (tCons (tVar 6) tNil)) (tVar 7)))) (tTest (tOp (rNeA K) (tCallS (spL 1 (sp_write K)) (WE (fun cls d _ H => E cls d H)) (tCons (tCallS (spL 1 (sp_read K)) (WE (fun cls d _ H => E cls d H)) (tCons (tVar 6) tNil)) tNil)) (tVar 6))))) (tRet (tC (.bl false))) tNext))))))
    (tRet (tC (.bl true)))))
end
def sp_law (K : PySem.W.Frag) : Sp := fun vs H Q _ => ∃ (a : Addr) (ns : List Int), vs = [.ref a] ∧ SqL K H a (ns.map V.int) ∧ ns.length ≤ 63 ∧ ∀ H', Q (.bl true) H'
theorem pure_law {K : PySem.W.Frag} (vs : List V) (H : Hp) (Q : VK) (E : XK) (hl : vs.length = 1) (h : sp_law K vs H Q E) : t_law K E { nx := fun _ H' => Q .non H', rt := Q } (start N_law vs) H := by
  obtain ⟨a, ns, rfl, ha, hn, q⟩ := h
  show t_law K E _ [some (.ref a), none, none, none, none, none, none, none, none] H
  unfold t_law
  k_clsL
  refine ⟨rfl, a, ns, 14, rfl, ha, hn, fun h l H1 nh nl F1 d1 => ?_⟩
  k_clsL
  refine r_rng1 (by decide) (by decide) ?_
  refine for_fm (n := 10) walk_range (List.range 10) rfl (fun i σ' H' => ∃ s2 s3 s4 s5 s6 s7 s8, σ' = [some (.ref a), some (.ref h), s2, s3, s4, s5, s6, s7, s8] ∧ Drw H' h l) ⟨_, _, _, _, _, _, _, rfl, d1⟩ (fun _ _ _ _ => trivial) ?_ ?_
  · rintro i z x σ' H2 H3 hi ⟨s2, s3, s4, s5, s6, s7, s8, rfl, d2⟩ ⟨rfl, rfl⟩
    k_clsL
    refine ⟨rfl, h, l, 3, rfl, d2, by decide, by decide, fun t b H4 ht nb hb F4 d4 => ?_⟩
    have g := ht.good (by decide)
    have gl := g.len
    have nb4 : b ≠ h ∧ b ≠ l := d2.ne nb
    k_clsL
    refine r_strI (one_log g.sp.1 g.sp.2) ?_
    k_clsL
    refine r_addS (by rw [show (toString t.spare : Str).length = 1 from iS_len g.sp.1 g.sp.2]; exact szle rfl) ?_
    k_clsL
    refine r_addS (by rcases g.fate with h | h <;> rw [h] <;> exact szle (by decide +kernel)) ?_
    k_clsL
    refine g_nL fun p n5 F5 h5 => ?_
    have d5 := d4.fr0 F5
    have hb5 := hb.fr0 F5
    have np := d4.ne n5
    k_clsL
    refine r_row0 hb5 fun v tv => ?_
    obtain ⟨c, xs, rfl, hc, tc⟩ := tv.tupi
    have hcl := tc.length
    rw [List.length_map] at hcl
    k_clsL
    rw [hcl]
    refine r_rng1 (by omega) (by omega) ?_
    rw [Int.toNat_natCast]
    generalize hH5 : upd H4 p _ = H5 at F5 h5 d5 hb5 hc tc ⊢
    have h5' : LsD K H5 p (((linesS t).take 2).map PyData.str) := ⟨_, h5, .cons (.str _) (.cons (.str _) .nil)⟩
    refine for_fm (walk_range (n := t.rows.length)) t.rows rfl (fun i σ' H' => ∃ u2 u5 u8, σ' = [some (.ref a), some (.ref h), u2, some (.ref b), some (.ref p), u5, s6, s7, u8] ∧ Fr [p] H5 H' ∧ LsD K H' p (((linesS t).take (i + 2)).map PyData.str)) ⟨_, _, _, rfl, Fr.refl, h5'⟩ (fun _ _ _ _ => trivial) ?_ ?_
    · rintro j r x σ' H6 H7 hj ⟨u2, u5, u8, rfl, F6, h6⟩ ⟨rfl, rfl⟩
      have hm := List.mem_of_getElem? hj
      obtain ⟨hj2, _⟩ := List.getElem?_eq_some_iff.mp hj
      have npb : b ≠ p := fun e => by
        obtain ⟨v, h1, _⟩ := hb
        rw [e, n5] at h1
        cases h1
      have hb6 := hb5.fr F6 (by simpa using npb)
      k_clsL
      refine ⟨h6.ty, ?_⟩
      k_clsL
      rw [show (0 + (j : Int)) = (j : Int) by omega]
      refine r_strI (one_log (by omega) (by omega)) ?_
      k_clsL
      refine g_nL fun p7 n7 F7 h7 => ?_
      have hb7 := hb6.fr0 F7
      k_clsL
      refine r_row0 hb7 fun v7 tv7 => ?_
      k_clsL
      refine r_ixTd tv7 (j := j) (by omega) (d := rowD r) (by rw [List.getElem?_map, hj]; rfl) fun w tw => ?_
      obtain ⟨e, ys, rfl, he, te⟩ := tw.tupi
      have hel := te.length
      rw [List.length_map] at hel
      have hrl := g.rowLen hm
      refine r_seqT he ?_
      refine lc_fm (K := K) walk_tup r (fun n => some (.str (iS n))) hel.symm (by omega) (fun H' F => F.sqt he) ?_ ?_
      · rintro k n y H8 H9 R Rn hk F8 ⟨rfl, hy⟩ k1 k2
        obtain ⟨d', hd', hyd⟩ := te.get' hy
        rw [List.getElem?_map, hk] at hd'
        cases hd'
        cases hyd
        k_clsL
        refine ⟨rfl, ?_⟩
        have := g.take hm (List.mem_of_getElem? hk)
        k_clsL
        refine r_strI (one_log (by omega) (by omega)) ?_
        exact k1 _ _ _ rfl (.str _) Fr.refl
      · intro D H8 nD F8 hD
        rw [List.filterMap_eq_map', show (fun n => PyData.str (iS n)) = PyData.str ∘ iS from rfl, ← List.map_map] at hD
        obtain ⟨zs, hz, tz⟩ := hD
        rw [tz.of_strs] at hz
        have h78 := F8.lst0 h7
        refine r_addL h78 hz (szle (by simp; omega)) fun p9 n9 F9 h9 => ?_
        refine r_join (ys := iS j :: r.map iS) ⟨_, h9, .cons (.str _) (TpL.strs _)⟩ (Nat.le_trans (lineS_sum (by omega) hrl fun n hn => g.take hm hn) (by decide)) ?_
        have F69 := (F7.trans F8).trans F9
        k_clsL
        refine r_appendD (h6.fr0 F69) (.str _) ?_ fun H10 F10 h10 => ?_
        · rw [List.length_map, List.length_take, lines_len]
          omega
        · k_clsL
          refine ⟨_, _, _, rfl, (F6.trans F69.nil).trans F10, ?_⟩
          have e : (linesS t).take (j + 1 + 2) = (linesS t).take (j + 2) ++ [lineS j r] := by
            rw [show j + 1 + 2 = (j + 2) + 1 from rfl, List.take_add_one, lines_at hj]
            rfl
          rw [e, List.map_append]
          exact h10
    · rintro σ' H6 ⟨u2, u5, u8, rfl, F6, h6⟩
      rw [List.take_of_length_le (Nat.le_of_eq lines_len)] at h6
      have npb : b ≠ p := fun e => by
        obtain ⟨v, h1, _⟩ := hb
        rw [e, n5] at h1
        cases h1
      have hb6 := hb5.fr F6 (by simpa using npb)
      have d6 := d5.fr F6 (by simpa using np.1.symm) (by simpa using np.2.symm)
      k_clsL
      refine r_join h6 g.sumLines ?_
      k_clsL
      refine ⟨rfl, b, t, rfl, hb6, ht, fun c7 H7 n7 F7 h7 => ?_⟩
      have e1 : Txt.join (Str.ofString "\n") (linesS t) = txtOf (lsOf t) := write_txt t
      rw [e1]
      have hread := ht.read
      k_clsL
      refine ⟨rfl, c7, t, rfl, h7, g, fun H8 F8 => ?_⟩
      have h78 := h7.fr0 F8
      k_clsL
      rw [write_txt t]
      refine iteDN (fun hne => absurd rfl hne) (fun _ => ?_)
      k_clsL
      refine ⟨rfl, lsOf t, rfl, g.ls, ?_⟩
      rw [hread]
      intro _ c9 H9 F9 n9 h9
      obtain ⟨dz, vz, ez, _⟩ := id h9
      obtain ⟨dw, vw, ew, _⟩ := h78.fr0 F9
      have h79 := h78.fr0 F9
      k_clsL
      refine r_eqOwn ez (.inl ⟨c7, _, _, rfl, ew⟩) ⟨rfl, c9, _, t, rfl, h9, g, .inl ⟨c7, t, rfl, h79, g, fun H10 F10 => ?_⟩⟩
      rw [decide_eq_true rfl]
      refine ⟨true, rfl, ?_⟩
      k_clsL
      refine ⟨rfl, lsOf t, rfl, g.ls, ?_⟩
      rw [hread]
      intro _ c11 H11 F11 n11 h11
      k_clsL
      refine ⟨rfl, c11, t, rfl, h11, g, fun H12 F12 => ?_⟩
      k_clsL
      rw [write_txt t]
      refine iteDN (fun hne => absurd rfl hne) (fun _ => ?_)
      k_clsL
      refine ⟨_, _, _, _, _, _, _, rfl, ?_⟩
      exact ((((d6.fr0 F7).fr0 F8).fr0 F9).fr0 F10 |>.fr0 F11).fr0 F12
  · rintro σ' H2 ⟨s2, s3, s4, s5, s6, s7, s8, rfl, d2⟩
    k_clsL
    exact q _

section
variable {P : Program} {w : World} {K : PySem.W.Frag} {mg : Str → Option Value} {base : Heap}
theorem der_law (T : Txt P K mg base) {cdv : Value} {A : Around} {outer : List Env} {s : Shared} {H : Hp} {E : XK} (hr : Room 6 (A.deeper (envOfC "law" (defScope s_law) s.heap.objs.size (He.ga K "law") cdv))) :
    PSs (cxOf (L2.CX P w) P w K mg base N_law "law" (defScope s_law) (He.ga K "law") cdv A outer s H E) (defBody s_law) (t_law K E) := by
  have nd := (sc_law).nd
  have tk : Takes (cxOf (L2.CX P w) P w K mg base N_law "law" (defScope s_law) (He.ga K "law") cdv A outer s H E) (fun cls d _ H => E cls d H) := takes_of rfl rfl rfl rfl
  exact (pss_cons (ps_set (i := 1) nd rfl (by first | exact Or.inl rfl | exact Or.inr rfl) (pe_callO (ok__law_mix T) (hr.mono (by decide)) (by rfl) tk (pa_cons (pv 0) (pa_cons pe_int pa_nil))))
    (pss_cons (ps_for (passes_of rfl) rfl (pi_range1 (by rfl) T.f_range (pa_cons pe_int pa_nil)) (pg_name (i := 2) nd rfl (by first | exact Or.inl rfl | exact Or.inr rfl)) (pss_cons (ps_set (i := 3) nd rfl (by first | exact Or.inl rfl | exact Or.inr rfl) (pe_callO (ok__law_draw T) (hr.mono (by decide)) (by rfl) tk (pa_cons (pv 1) (pa_cons pe_int pa_nil))))
    (pss_cons (ps_set (i := 4) nd rfl (by first | exact Or.inl rfl | exact Or.inr rfl) (pe_lst (pa_cons (pe_op op_addA pe_str (pe_callTy call_strI (by rfl) T.f_str (by decide +kernel) (pa_cons (pe_ix ix_seq (pv 3) pe_int (fun _ _ => rfl)) pa_nil))) (pa_cons (pe_op op_addA pe_str (pe_ix ix_seq (pv 3) pe_int (fun _ _ => rfl))) pa_nil))))
    (pss_cons (ps_for (passes_of rfl) rfl (pi_range1 (by rfl) T.f_range (pa_cons (pe_callB call_lenA (by rfl) T.f_len (by decide +kernel) (pa_cons (pe_ix ix_seq (pv 3) pe_int (fun _ _ => rfl)) pa_nil)) pa_nil)) (pg_name (i := 5) nd rfl (by first | exact Or.inl rfl | exact Or.inr rfl)) (pss_one (ps_expr (pe_bm PySem.F.plainAttrs_list PySem.F.slot_list_append PySem.F.type_list_append mt_append (pv 4) (pa_cons (pe_join pe_str (pe_op op_addA (pe_lst (pa_cons (pe_callTy call_strI (by rfl) T.f_str (by decide +kernel) (pa_cons (pv 5) pa_nil)) pa_nil)) (pe_lc (own := [("_law_take", 8)]) (g := (gName 8)) (tt := tYes) (te := (tCB rStrI (tCons (tVar 8) tNil))) rfl nd (pi_seq (pe_ix ix_seq (pe_ix ix_seq (pv 3) pe_int (fun _ _ => rfl)) (pv 5) (fun _ _ => rfl))) (blkOk_by (own := [("_law_take", 8)]) (N := N_law) (sc := (defScope s_law)) (by decide +kernel)) (fun _ _ _ _ _ => (pg_name (i := 8) nd rfl (by first | exact Or.inl rfl | exact Or.inr rfl))) (fun _ _ _ _ _ => pts_nil) (fun _ _ _ _ _ => (pe_callTy call_strI (by rfl) T.f_str (by decide +kernel) (pa_cons (pv 8) pa_nil)))))) pa_nil)))))
    (pss_cons (ps_par (i := 6) (j := 7) rfl nd rfl rfl (by decide) rfl rfl (pa_cons (pe_join pe_str (pv 4)) (pa_cons (pe_callO (ok__law_built T) (hr.mono (by decide)) (by rfl) tk (pa_cons (pv 3) pa_nil)) pa_nil)) rfl)
    (pss_one (ps_if (PW.pt (pw_or (pt_cmpR (op_neA (units64 hr)) (pe_callO (ok_write T) (hr.mono (by decide)) (by rfl) tk (pa_cons (pv 7) pa_nil)) (pv 6) (nomark _)) (pw_or (pt_not (pt_cmpR (op_eqOwn (ok_Table___eq__ T) (hr.mono (by decide))) (pe_callO (ok_read T) (hr.mono (by decide)) (by rfl) tk (pa_cons (pv 6) pa_nil)) (pv 7) (nomark _))) (pw_or1 (pt_cmpR (op_neA (units64 hr)) (pe_callO (ok_write T) (hr.mono (by decide)) (by rfl) tk (pa_cons (pe_callO (ok_read T) (hr.mono (by decide)) (by rfl) tk (pa_cons (pv 6) pa_nil)) pa_nil)) (pv 6) (nomark _)))))) (pss_one (ps_ret pe_bl)) pss_nil)))))))
    (pss_one (ps_ret pe_bl))))
theorem ok_law (T : Txt P K mg base) : Ok P w K mg base "law" 7 ["_law_script"] (spL 1 (sp_law K)) := ok_mk (T.d_law) T.m_law sc_law (fun _ _ _ _ _ _ us hl => match us, hl with | [_], _ => rfl) (fun _ _ _ _ _ _ hr => der_law T hr) (pure_law)
end
end

end Tk
end
set_option maxHeartbeats 0
section
namespace Tk
open PySem PySem.Spec PyProof.Rows L2
def names0 : List PySem.Str := ["_wall", "TakeError", "InvalidRows", "InvalidPasses", "InvalidStuck", "InvalidLine", "MOST_TAKE", "MOST_PASSES", "STUCK", "is_integer", "is_row", "check_rows", "Table", "DIGITS", "PASSES", "HEADS", "write", "is_line", "read", "_law_mix", "_law_next", "_law_pick", "_law_line", "_law_draw", "_law_built"]
abbrev names : List PySem.Str := names0
abbrev Rr : PySem.W.OpenRow := PySem.W.OpenLaw.row PySem.Challenge.rw_takesmemory_k14_whole_texts
abbrev hk : PySem.W.Hook := hookO 5 fa fn da moreL
def ob (s : PySem.W.SharedT) : AlO := obsOG 5 fa fn da moreL (HandSHeadRun.getT s)
theorem ob_eq (s : PySem.W.SharedT) : ob s = hk.obs s.abs := obsOG_eq (HandSHeadRun.getT_eq s)
theorem run (w : World) : HandSHeadRun.RunEq Rr (PySem.W.view Rr.prog [29]) hk ob 4000 names w := by
  intro os
  kernel_rfl
theorem FnOk.cx0 {P : Program} {w : World} {K : PySem.W.Frag} {mg : Str → Option Value} {base : Heap} {k : Nat} {f : Addr} {fd : FuncData} {ps : List Str} {sp : Sp} (F : FnOk P w K mg base (L2.CX P w) k f fd ps sp)
    (h : ∀ vs H Q E, sp vs H Q E → sp vs H Q (fun _ _ _ => False)) : FnOk P w K mg base L2.CX0 k f fd ps sp :=
  ⟨F.len, fun A outer s H args us vs Q E hr he hb hv hs => codeAny_mono (F.run A outer s H args us vs Q _ hr he hb hv (h _ _ _ _ hs)) fun r s' hq => by
    cases r with
    | error e =>
      obtain ⟨_, _, _, _, _, _, _, _, _, _, _, _, z⟩ := hq
      exact z.elim
    | ok fl => cases fl <;> exact hq⟩
theorem facts {P : Program} {w : World} {K : PySem.W.Frag} {h : Heap} {mg : Str → Option Value} {f : Addr} (hp : P = PySem.Challenge.pw_takesmemory_k14_whole_texts) (X : K.In h) (G : h.Ns mainGlobals mg) (hfa : mg ("law" : Str) = some (.ref f)) (c : SaysO fa fn da moreL K) :
    ∃ fd : FuncData, (∀ (s : Shared) (v : Value), BindsTo s fd ⟨[v], []⟩ [("_law_script", v)]) ∧ ∀ base : Heap, K.In base → base.Ns mainGlobals mg → FnOk P w K mg base L2.CX0 7 f fd ["_law_script"] (spL 1 (sp_law K)) := by
  subst hp
  have T : ∀ base : Heap, K.In base → base.Ns mainGlobals mg → Txt PySem.Challenge.pw_takesmemory_k14_whole_texts K mg base := fun base X G => ⟨X, G, c.says, c.moreAll, fun i d h => c.daAt i h, rfl, by decide +kernel⟩
  obtain ⟨fd, F⟩ := (T h X G).d_law
  have e := hfa.symm.trans (T h X G).m_law
  cases e
  have b := FunD.bindsA (ps := ["_law_script"]) F fun _ _ _ _ _ _ us hl => match us, hl with | [_], _ => rfl
  exact ⟨fd, fun s v => b s [v] rfl, fun base X G => FnOk.cx0 (FunD.ok F sc_law (fun vs H Q E h => h.1) (fun cdv A outer s H vs Q E hr h => ⟨t_law K E, der_law (T base X G) hr, pure_law vs H Q E h.1 h.2⟩)) fun _ _ _ _ h => h⟩
end Tk
end
open PySem PySem.W PySem.Calls PyProof.Rows
theorem PySem.Challenge.cw_takesmemory_k14_whole_texts_holds : PySem.Challenge.rw_takesmemory_k14_whole_texts.Holds := by
  w_on; o_law
  refine HandSHeadRun.head_any (r := OpenLaw.row PySem.Challenge.rw_takesmemory_k14_whole_texts) (q := view (OpenLaw.row PySem.Challenge.rw_takesmemory_k14_whole_texts).prog [29]) (H := Tk.hk) (ob := Tk.ob) (M := 4000) (loose := Tk.names) (d := HandSHeadRun.topDef (OpenLaw.row PySem.Challenge.rw_takesmemory_k14_whole_texts).prog 29) (kwd := []) Tk.ob_eq
    (by kernel_rfl) (fun s => by kernel_rfl) Tk.run (by kernel_rfl) (by kernel_rfl) (by kernel_rfl) (by rfl) (by first | assumption | decide +kernel) (by decide +kernel) ⟨rfl, rfl, rfl, rfl, rfl, by decide +kernel⟩ ?hw ?hc
  case hw => w_witness2
  case hc =>
    refine L2.walk_ofE (l := PySem.Challenge.rw_takesmemory_k14_whole_texts) (n := 63) (k := 7) (x := "_law_script") (CX := L2.CX0) rfl (by decide) (by kernel_rfl) ⟨rfl, by decide, by decide⟩ ?F (fun _ _ _ _ z => z)
    intro w mg fa h Y G hmg0
    obtain ⟨K, KX, c⟩ := Y
    have hmg : mg ("law" : PySem.Str) = some (.ref fa) := by
      have e : (HandSHeadRun.topDef (OpenLaw.row PySem.Challenge.rw_takesmemory_k14_whole_texts).prog 29).name = ("law" : PySem.Str) := by kernel_rfl
      rw [← e]
      exact hmg0
    obtain ⟨fd, hb, hF⟩ := Tk.facts (P := (PySem.Challenge.rw_takesmemory_k14_whole_texts).prog) (w := w) rfl KX G hmg c
    exact ⟨K, fd, Tk.spL 1 (Tk.sp_law K), KX, hb, fun H a ns hl _ hS => ⟨rfl, a, ns, rfl, hS, hl, fun _ => rfl⟩, hF⟩
