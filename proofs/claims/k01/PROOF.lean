import PyProof.Rows.All
import PySem.Challenge.RW_lightbook_k01_first_faulty_token
import Wide.All
import OpenK.AllK
import Wide.FinOn
import HandS.ForMost
import HandS.Exc
import HandS.TryMany
import HandS.ExcInit
import HandS.ExcField
import HandS.Wide
import HandS.IsInst
import HandS.Deep
import HandS.EndBits
import HandS.CallSlots
import HandS.TupAny
import HandS.TupLe
import HandS.Strs
import HandS.More
import HandS.Flow
import HandS.SortInts
import KE.KExcSuper
import HandS.WordsExc
import HandS.Style
import KE.LtData
import KE.DataMinMax
import KE.SortData
import HandS.Iter
import HandS.Dict
import HandS.Small
import HandS.TupSets
import HandS.SetFor
import KE.KDictWalk
import HandS.Text
import HandS.RaiseMore
import HandS.FStr
import HandS.ExcIs
import KE.KExcIs
import KE.IntTextLaws
import KE.KIntText
set_option Elab.async false
set_option linter.all false
set_option maxRecDepth 100000
set_option maxHeartbeats 8000000
set_option autoImplicit false
/-! A value layer: pure values, and how the heap bears them. -/
namespace VL
open PySem PySem.Spec PyProof.Rows L2

/-- a pure value -/
inductive PV where
  | non | bl (b : Bool) | int (i : Int) | str (x : Str)
  | tup (xs : List PV) | lst (xs : List PV)
  /-- a list that is only read (the script) -/
  | src (xs : List PV)
  | dct (kvs : List (Key × PV))
  /-- a dict that is only read from now on, walked too -/
  | dlk (kvs : List (Key × PV))
  | obj (c : Nat) (fs : List (Str × PV))
  /-- a built-in class -/
  | ty (n : String)
  deriving Inhabited

/-- what comes of a computation: a value, an own exception (class, fields), or no word -/
inductive R (α : Type) where
  | ok (a : α) | exc (c : Nat) (fs : List (Str × PV)) | stuck
@[inline] def R.bind {α β : Type} (x : R α) (f : α → R β) : R β := match x with
  | .ok a => f a
  | .exc c fs => .exc c fs
  | .stuck => .stuck
theorem bind_ok {α β : Type} (a : α) (f : α → R β) : (R.ok a).bind f = f a := rfl
theorem bind_exc {α β : Type} (c fs) (f : α → R β) : (R.exc c fs).bind f = .exc c fs := rfl
theorem bind_stuck {α β : Type} (f : α → R β) : (R.stuck : R α).bind f = .stuck := rfl

/-- a part of a heap -/
def Sub (Hs H : Hp) : Prop := ∀ a o, Hs a = some o → H a = some o
theorem Sub.refl (H : Hp) : Sub H H := fun _ _ h => h
theorem Sub.trans {H H1 H2 : Hp} (a : Sub H H1) (b : Sub H1 H2) : Sub H H2 := fun c o h => b c o (a c o h)
theorem Sub.none {Hs H : Hp} (s : Sub Hs H) {a : Addr} (h : H a = .none) : Hs a = .none := by
  cases q : Hs a with
  | none => rfl
  | some o => rw [s a o q] at h; cases h
theorem Sub.upd {Hs H : Hp} {a : Addr} {o : HO} (s : Sub Hs H) (n : Hs a = .none) : Sub Hs (upd H a o) := fun b u h => by
  rw [upd_ne (ne_of_none h n)]; exact s b u h
theorem Sub.upd2 {Hs H : Hp} {a : Addr} {o : HO} (s : Sub Hs H) : Sub (L2.upd Hs a o) (L2.upd H a o) := fun b u h => by
  by_cases e : b = a
  · subst e; rw [upd_same] at h ⊢; exact h
  · rw [upd_ne e] at h ⊢; exact s b u h
theorem Sub.new {H : Hp} {a : Addr} {o : HO} (n : H a = .none) : Sub H (L2.upd H a o) := (Sub.refl H).upd n
theorem Sub.seqL {K : PySem.W.Frag} {H H' : Hp} {a : Addr} {xs : List V} (e : Sub H H') (h : SqL K H a xs) : SqL K H' a xs := by
  rcases h with (h | ⟨o, h⟩) | h
  · exact .inl (.inl (e _ _ h))
  · exact .inl (.inr ⟨o, e _ _ h⟩)
  · exact .inr h
theorem Sub.seqT {K : PySem.W.Frag} {H H' : Hp} {a : Addr} {xs : List V} (e : Sub H H') (h : SqT K H a xs) : SqT K H' a xs := by
  rcases h with (h | ⟨o, h⟩) | h
  · exact .inl (.inl (e _ _ h))
  · exact .inl (.inr ⟨o, e _ _ h⟩)
  · exact .inr h

section
variable (K : PySem.W.Frag) (cl : Nat → Addr) (H : Hp)
mutual
/-- the heap bears the value at x -/
inductive Rp : V → PV → Prop
  | non : Rp .non .non
  | bl (b : Bool) : Rp (.bl b) (.bl b)
  | int (i : Int) : Rp (.int i) (.int i)
  | str (x : Str) : Rp (.str x) (.str x)
  | tup {a : Addr} {vs : List V} {xs : List PV} : SqT K H a vs → RpA vs xs → Rp (.ref a) (.tup xs)
  | lst {a : Addr} {vs : List V} {xs : List PV} : H a = some (.lst vs) → RpA vs xs → Rp (.ref a) (.lst xs)
  | src {a : Addr} {vs : List V} {xs : List PV} : SqL K H a vs → RpA vs xs → Rp (.ref a) (.src xs)
  | dct {a : Addr} {vs : List (Key × V)} {xs : List (Key × PV)} : H a = some (.dK vs) → RpK vs xs → Rp (.ref a) (.dct xs)
  | dlk {a : Addr} {o : Obj} {vs : List (Key × V)} {xs : List (Key × PV)} : H a = some (.frz o (.dK vs)) → RpK vs xs → Rp (.ref a) (.dlk xs)
  | ty (n : String) : Rp (.ty n) (.ty n)
  | obj {a dx : Addr} {c : Nat} {vs : List (Str × V)} {xs : List (Str × PV)} : H a = some (.ins (cl c) dx vs) → RpF vs xs → Rp (.ref a) (.obj c xs)
inductive RpA : List V → List PV → Prop
  | nil : RpA [] []
  | cons {v : V} {vs : List V} {x : PV} {xs : List PV} : Rp v x → RpA vs xs → RpA (v :: vs) (x :: xs)
inductive RpK : List (Key × V) → List (Key × PV) → Prop
  | nil : RpK [] []
  | cons {k : Key} {v : V} {vs : List (Key × V)} {x : PV} {xs : List (Key × PV)} : Rp v x → RpK vs xs → RpK ((k, v) :: vs) ((k, x) :: xs)
inductive RpF : List (Str × V) → List (Str × PV) → Prop
  | nil : RpF [] []
  | cons {k : Str} {v : V} {vs : List (Str × V)} {x : PV} {xs : List (Str × PV)} : Rp v x → RpF vs xs → RpF ((k, v) :: vs) ((k, x) :: xs)
end
end

section
variable {K : PySem.W.Frag} {cl : Nat → Addr} {H H' : Hp}
mutual
theorem Rp.mono (s : Sub H H') : ∀ {v : V} {x : PV}, Rp K cl H v x → Rp K cl H' v x
  | _, _, .non => .non
  | _, _, .bl b => .bl b
  | _, _, .int b => .int b
  | _, _, .str b => .str b
  | _, _, .tup h r => .tup (s.seqT h) (r.mono s)
  | _, _, .lst h r => .lst (s _ _ h) (r.mono s)
  | _, _, .src h r => .src (s.seqL h) (r.mono s)
  | _, _, .dct h r => .dct (s _ _ h) (r.mono s)
  | _, _, .dlk h r => .dlk (s _ _ h) (r.mono s)
  | _, _, .obj h r => .obj (s _ _ h) (r.mono s)
  | _, _, .ty n => .ty n
theorem RpA.mono (s : Sub H H') : ∀ {v : List V} {x : List PV}, RpA K cl H v x → RpA K cl H' v x
  | _, _, .nil => .nil
  | _, _, .cons h r => .cons (h.mono s) (r.mono s)
theorem RpK.mono (s : Sub H H') : ∀ {v : List (Key × V)} {x : List (Key × PV)}, RpK K cl H v x → RpK K cl H' v x
  | _, _, .nil => .nil
  | _, _, .cons h r => .cons (h.mono s) (r.mono s)
theorem RpF.mono (s : Sub H H') : ∀ {v : List (Str × V)} {x : List (Str × PV)}, RpF K cl H v x → RpF K cl H' v x
  | _, _, .nil => .nil
  | _, _, .cons h r => .cons (h.mono s) (r.mono s)
end
theorem RpA.length : ∀ {v : List V} {x : List PV}, RpA K cl H v x → v.length = x.length
  | _, _, .nil => rfl
  | _, _, .cons _ r => congrArg (· + 1) r.length
theorem RpA.get : ∀ {vs : List V} {xs : List PV} {i : Nat} {x : PV}, RpA K cl H vs xs → xs[i]? = some x → ∃ v, vs[i]? = some v ∧ Rp K cl H v x
  | _, _, _, _, .nil, e => by simp at e
  | _, _, 0, _, .cons r _, e => by simp at e; subst e; exact ⟨_, rfl, r⟩
  | _, _, i + 1, x, .cons _ t, e => by
    obtain ⟨u, h1, h2⟩ := RpA.get (i := i) (x := x) t (by simpa using e)
    exact ⟨u, by simpa using h1, h2⟩
theorem RpA.get' : ∀ {vs : List V} {xs : List PV} {i : Nat} {v : V}, RpA K cl H vs xs → vs[i]? = some v → ∃ x, xs[i]? = some x ∧ Rp K cl H v x
  | _, _, _, _, .nil, e => by simp at e
  | _, _, 0, _, .cons r _, e => by simp at e; subst e; exact ⟨_, rfl, r⟩
  | _, _, i + 1, x, .cons _ t, e => by
    obtain ⟨u, h1, h2⟩ := RpA.get' (i := i) (v := x) t (by simpa using e)
    exact ⟨u, by simpa using h1, h2⟩
theorem RpA.append : ∀ {vs ws : List V} {xs ys : List PV}, RpA K cl H vs xs → RpA K cl H ws ys → RpA K cl H (vs ++ ws) (xs ++ ys)
  | _, _, _, _, .nil, s => s
  | _, _, _, _, .cons r t, s => .cons r (t.append s)
theorem RpA.take : ∀ {vs : List V} {xs : List PV} (n : Nat), RpA K cl H vs xs → RpA K cl H (vs.take n) (xs.take n)
  | _, _, 0, _ => .nil
  | _, _, _ + 1, .nil => .nil
  | _, _, n + 1, .cons r t => .cons r (t.take n)
theorem RpA.drop : ∀ {vs : List V} {xs : List PV} (n : Nat), RpA K cl H vs xs → RpA K cl H (vs.drop n) (xs.drop n)
  | _, _, 0, r => r
  | _, _, _ + 1, .nil => .nil
  | _, _, n + 1, .cons _ t => t.drop n
theorem RpA.set {v : V} {x : PV} (r : Rp K cl H v x) : ∀ {vs : List V} {xs : List PV} (i : Nat), RpA K cl H vs xs → RpA K cl H (vs.set i v) (xs.set i x)
  | _, _, _, .nil => .nil
  | _, _, 0, .cons _ t => .cons r t
  | _, _, i + 1, .cons q t => .cons q (RpA.set r i t)
theorem RpA.rep {vs : List V} {xs : List PV} (r : RpA K cl H vs xs) : ∀ n : Nat, RpA K cl H (List.replicate n vs).flatten (List.replicate n xs).flatten
  | 0 => .nil
  | n + 1 => by
    rw [List.replicate_succ, List.replicate_succ, List.flatten_cons, List.flatten_cons]
    exact r.append (r.rep n)
theorem RpF.lookup {f : Str} {x : PV} : ∀ {vs : List (Str × V)} {xs : List (Str × PV)}, RpF K cl H vs xs → xs.lookup f = some x → ∃ v, vs.lookup f = some v ∧ Rp K cl H v x
  | _, _, .nil, h => by cases h
  | _, _, .cons (k := k) (v := v) (x := y) r t, h => by
    by_cases e : f = k
    · subst e
      simp only [List.lookup, beq_self_eq_true] at h ⊢
      cases h
      exact ⟨v, rfl, r⟩
    · have q : (f == k) = false := by simpa using e
      simp only [List.lookup, q] at h ⊢
      exact t.lookup h
theorem RpF.lookup_none {f : Str} : ∀ {vs : List (Str × V)} {xs : List (Str × PV)}, RpF K cl H vs xs → xs.lookup f = none → vs.lookup f = none
  | _, _, .nil, h => rfl
  | _, _, .cons (k := k) (v := v) (x := y) r t, h => by
    by_cases e : f = k
    · subst e
      simp only [List.lookup, beq_self_eq_true] at h
      cases h
    · have q : (f == k) = false := by simpa using e
      simp only [List.lookup, q] at h ⊢
      exact t.lookup_none h
end

/-! ### data for == -/
mutual
def PV.data : PV → Option PyData
  | .non => some .none
  | .bl b => some (.bool b)
  | .int i => some (.int i)
  | .str x => some (.str x)
  | .tup xs => (PV.datas xs).map .tuple
  | .lst xs => (PV.datas xs).map .list
  | .src xs => (PV.datas xs).map .list
  | .dct _ => none
  | .dlk _ => none
  | .obj _ _ => none
  | .ty _ => none
def PV.datas : List PV → Option (List PyData)
  | [] => some []
  | x :: xs => (PV.data x).bind fun d => (PV.datas xs).map (d :: ·)
end
section
variable {K : PySem.W.Frag} {cl : Nat → Addr} {H : Hp}
mutual
theorem Rp.dp : ∀ {v : V} {x : PV} {d : PyData}, Rp K cl H v x → x.data = some d → Dp K H v d
  | _, _, _, .non, e => by simp only [PV.data, Option.some.injEq] at e; subst e; exact .non
  | _, _, _, .bl b, e => by simp only [PV.data, Option.some.injEq] at e; subst e; exact .bl b
  | _, _, _, .int b, e => by simp only [PV.data, Option.some.injEq] at e; subst e; exact .int b
  | _, _, _, .str b, e => by simp only [PV.data, Option.some.injEq] at e; subst e; exact .str b
  | _, _, _, .tup h r, e => by
    simp only [PV.data, Option.map_eq_some_iff] at e
    obtain ⟨ds, e1, rfl⟩ := e
    exact .tup h (r.dp e1)
  | _, _, _, .lst h r, e => by
    simp only [PV.data, Option.map_eq_some_iff] at e
    obtain ⟨ds, e1, rfl⟩ := e
    exact .lst (.of h) (r.dp e1)
  | _, _, _, .src h r, e => by
    simp only [PV.data, Option.map_eq_some_iff] at e
    obtain ⟨ds, e1, rfl⟩ := e
    exact .lst h (r.dp e1)
  | _, _, _, .dct h r, e => by simp only [PV.data] at e; cases e
  | _, _, _, .dlk h r, e => by simp only [PV.data] at e; cases e
  | _, _, _, .obj h r, e => by simp only [PV.data] at e; cases e
  | _, _, _, .ty n, e => by simp only [PV.data] at e; cases e
theorem RpA.dp : ∀ {v : List V} {x : List PV} {d : List PyData}, RpA K cl H v x → PV.datas x = some d → DpAll K H v d
  | _, _, _, .nil, e => by simp only [PV.datas, Option.some.injEq] at e; subst e; exact .nil
  | _, _, _, .cons h r, e => by
    simp only [PV.datas, Option.bind_eq_some_iff, Option.map_eq_some_iff] at e
    obtain ⟨d, e1, ds, e2, rfl⟩ := e
    exact .cons (h.dp e1) (r.dp e2)
end
end
end VL
namespace VL
open PySem PySem.Spec PyProof.Rows L2
abbrev St := L2.St

/-- what an expression sees: the values by slot -/
abbrev Ev := List (Option PV)
abbrev Ex := Ev → R PV

/-- from (Hs, H) to (Hs', H'): all stands as it stood, and nothing that stood is frozen anew -/
structure Ext (Hs H Hs' H' : Hp) : Prop where
  fs : Sub Hs Hs'
  sub : Sub Hs' H'
  same : Sub H H'
  nw : ∀ a, H a ≠ none → Hs a = none → Hs' a = none
theorem Ext.refl {Hs H : Hp} (s : Sub Hs H) : Ext Hs H Hs H := ⟨Sub.refl _, s, Sub.refl _, fun _ _ h => h⟩
theorem Ext.trans {Hs H Hs1 H1 Hs2 H2 : Hp} (a : Ext Hs H Hs1 H1) (b : Ext Hs1 H1 Hs2 H2) : Ext Hs H Hs2 H2 :=
  ⟨a.fs.trans b.fs, b.sub, a.same.trans b.same, fun c h n => b.nw c (fun z => by
    cases q : H c with
    | none => exact h q
    | some o => rw [a.same c o q] at z; cases z) (a.nw c h n)⟩
theorem Ext.new {Hs H : Hp} {p : Addr} {o : HO} (s : Sub Hs H) (n : H p = none) : Ext Hs H (upd Hs p o) (upd H p o) :=
  ⟨Sub.new (s.none n), s.upd2, Sub.new n, fun a h z => by rw [upd_ne (fun e => h (by rw [e]; exact n))]; exact z⟩
/-- a new object that is not frozen -/
theorem Ext.newO {Hs H : Hp} {p : Addr} {o : HO} (s : Sub Hs H) (n : H p = none) : Ext Hs H Hs (upd H p o) := ⟨Sub.refl _, s.upd (s.none n), Sub.new n, fun _ _ z => z⟩

section
variable (K : PySem.W.Frag) (cl : Nat → Addr)
structure PEnv (Hs H : Hp) (σ : St) (ρ : Ev) : Prop where
  sub : Sub Hs H
  len : ρ.length = σ.length
  at_ : ∀ (i : Nat) (v : PV), ρ[i]? = some (some v) → ∃ x, σ[i]? = some (some x) ∧ Rp K cl Hs x v
variable {α β : Type} (rel : Hp → β → α → Prop) (W : WX)
/-- what is wanted of an outcome -/
def GP (Hs H : Hp) (σ : St) (r : R α) (Q : β → Hp → Prop) : Prop := match r with
  | .ok v => ∀ x Hs' H', Ext Hs H Hs' H' → rel Hs' x v → Q x H'
  | .exc c fs => ∀ d fvs Hs' H', Ext Hs H Hs' H' → Hs' d = some (.xd fvs) → RpF K cl Hs' fvs fs → W (.ref (cl c)) (some d) σ H'
  | .stuck => False
def gv (f : Ev → R α) : St → Hp → (β → Hp → Prop) → Prop := fun σ H Q => ∃ Hs ρ, PEnv K cl Hs H σ ρ ∧ GP K cl rel W Hs H σ (f ρ) Q
abbrev tv (f : Ex) : TE := gv K cl (Rp K cl) W f
abbrev ta (f : Ev → R (List PV)) : TA := gv K cl (RpA K cl) W f
abbrev tt (f : Ev → R Bool) : TT := gv K cl (fun _ b c => b = c) W f
end

section
variable {K : PySem.W.Frag} {cl : Nat → Addr} {W : WX} {Hs Hs1 H H1 : Hp} {σ : St} {ρ : Ev}
theorem PEnv.up (E : PEnv K cl Hs H σ ρ) (s : Ext Hs H Hs1 H1) : PEnv K cl Hs1 H1 σ ρ :=
  ⟨s.sub, E.len, fun i v h => let ⟨x, e, r⟩ := E.at_ i v h; ⟨x, e, r.mono s.fs⟩⟩
section
variable {α β : Type} {rel : Hp → β → α → Prop} {r : R α} {Q Q' : β → Hp → Prop}
theorem GP.up (h : GP K cl rel W Hs H σ r Q) (s : Ext Hs H Hs1 H1) : GP K cl rel W Hs1 H1 σ r Q := by
  cases r with
  | ok v => exact fun x Hs' H' t => h x Hs' H' (s.trans t)
  | exc c fs => exact fun d fvs Hs' H' t => h d fvs Hs' H' (s.trans t)
  | stuck => exact h
theorem gv_bind {α' β' : Type} {rel' : Hp → β' → α' → Prop} {f : Ev → R α} {k : α → R α'} {Q' : β' → Hp → Prop} (E : PEnv K cl Hs H σ ρ) (h : GP K cl rel' W Hs H σ ((f ρ).bind k) Q')
    (hk : ∀ v x Hs1 H1, f ρ = .ok v → Ext Hs H Hs1 H1 → rel Hs1 x v → GP K cl rel' W Hs1 H1 σ (k v) Q' → Q x H1) : gv K cl rel W f σ H Q := by
  refine ⟨Hs, ρ, E, ?_⟩
  cases e : f ρ with
  | ok v =>
    rw [e] at h
    exact fun x Hs1 H1 s1 rx => hk v x Hs1 H1 e s1 rx (GP.up h s1)
  | exc c fs => rw [e] at h; exact h
  | stuck => rw [e] at h; exact h
theorem GP.here {v : α} {x : β} (h : GP K cl rel W Hs H σ (.ok v) Q) (s : Sub Hs H) (r : rel Hs x v) : Q x H := h x Hs H (Ext.refl s) r
end
/-- an operation's outcome -/
def opt {α : Type} : Option α → R α
  | some a => .ok a
  | none => .stuck
theorem opt_some {α : Type} (a : α) : opt (some a) = .ok a := rfl
theorem GP.opt {α β : Type} {rel : Hp → β → α → Prop} {o : Option α} {Q : β → Hp → Prop} (h : GP K cl rel W Hs H σ (opt o) Q) : ∃ w, o = some w ∧ GP K cl rel W Hs H σ (.ok w) Q := by
  cases o with
  | some w => exact ⟨w, rfl, h⟩
  | none => exact h.elim

/-! new objects -/
theorem new_lst {p : Addr} {vs : List V} {xs : List PV} {Q : VK} (h : GP K cl (Rp K cl) W Hs H σ (.ok (.lst xs)) Q) (s : Sub Hs H) (n : H p = none) (r : RpA K cl Hs vs xs) : Q (.ref p) (upd H p (.lst vs)) :=
  have n' : Hs p = none := s.none n
  h _ (upd Hs p (.lst vs)) _ (Ext.new s n) (.lst upd_same (r.mono (Sub.new n')))
theorem new_tup {p : Addr} {vs : List V} {xs : List PV} {Q : VK} (h : GP K cl (Rp K cl) W Hs H σ (.ok (.tup xs)) Q) (s : Sub Hs H) (n : H p = none) (r : RpA K cl Hs vs xs) : Q (.ref p) (upd H p (.tup vs)) :=
  have n' : Hs p = none := s.none n
  h _ (upd Hs p (.tup vs)) _ (Ext.new s n) (.tup (.of upd_same) (r.mono (Sub.new n')))
end

theorem peWeak {X : Cx} {e : Expr} {t t' : TE} (h : PE X e t) (w : ∀ σ H Q, t' σ H Q → t σ H Q) : PE X e t' := ⟨fun pins s σ H Q I q => h.run pins s σ H Q I (w σ H Q q)⟩
theorem ptWeak {X : Cx} {e : Expr} {t t' : TT} (h : PT X e t) (w : ∀ σ H Q, t' σ H Q → t σ H Q) : PT X e t' := ⟨fun pins s σ H Q I q => h.run pins s σ H Q I (w σ H Q q)⟩
theorem paWeak {X : Cx} {e : List Expr} {t t' : TA} (h : PA X e t) (w : ∀ σ H Q, t' σ H Q → t σ H Q) : PA X e t' := ⟨fun ps pins s σ H Q I q => h.run ps pins s σ H Q I (w σ H Q q)⟩
theorem psWeak {X : Cx} {e : Stmt} {t t' : TS} (h : PS X e t) (w : ∀ D σ H, t' D σ H → t D σ H) : PS X e t' := ⟨fun pins s σ H Q I q => h.run pins s σ H Q I (w Q σ H q)⟩
theorem pssWeak {X : Cx} {e : List Stmt} {t t' : TS} (h : PSs X e t) (w : ∀ D σ H, t' D σ H → t D σ H) : PSs X e t' := ⟨fun pins s σ H Q I q => h.run pins s σ H Q I (w Q σ H q)⟩

/-! ### the expressions -/
def eVar : Nat → Ex
  | 0, some v :: _ => .ok v
  | n + 1, _ :: r => eVar n r
  | _, _ => .stuck
theorem eVar_ok : ∀ {i : Nat} {ρ : Ev} {v : PV}, eVar i ρ = .ok v → ρ[i]? = some (some v)
  | 0, some v :: _, _, h => by cases h; rfl
  | 0, none :: _, _, h => by cases h
  | 0, [], _, h => by cases h
  | n + 1, [], _, h => by cases h
  | n + 1, x :: r, v, h => by rw [List.getElem?_cons_succ]; exact eVar_ok (i := n) h
theorem eVar_noexc : ∀ {i : Nat} {ρ : Ev} {c fs}, eVar i ρ ≠ .exc c fs
  | 0, some v :: _, _, _, h => by cases h
  | 0, none :: _, _, _, h => by cases h
  | 0, [], _, _, h => by cases h
  | n + 1, [], _, _, h => by cases h
  | n + 1, x :: r, _, _, h => eVar_noexc (i := n) (ρ := r) h
def eC (v : PV) : Ex := fun _ => .ok v
def e1 (g : PV → Option PV) (a : Ex) : Ex := fun ρ => (a ρ).bind fun x => opt (g x)
def e2 (g : PV → PV → Option PV) (a b : Ex) : Ex := fun ρ => (a ρ).bind fun x => (b ρ).bind fun y => opt (g x y)
def eIf (c : Ev → R Bool) (a b : Ex) : Ex := fun ρ => (c ρ).bind fun t => if t = true then a ρ else b ρ
def evs : List Ex → Ev → R (List PV)
  | [], _ => .ok []
  | a :: r, ρ => (a ρ).bind fun x => (evs r ρ).bind fun xs => .ok (x :: xs)
def eArgs (g : List PV → R PV) (as : List Ex) : Ex := fun ρ => (evs as ρ).bind g

section
variable {X : Cx} {cl : Nat → Addr} {W : WX} {pos : Pos} {a b : Expr} {f f' : Ex}
theorem ve_var (i : Nat) {x : Str} (hN : X.N[i]? = some x := by rfl) (hv : Vis X.env.scope x := by first | exact Or.inl rfl | exact Or.inr (Or.inl rfl) | exact Or.inr (Or.inr rfl)) (hd : (x == ("__debug__" : Str)) = false := by decide)
    (hcd : (x == ("__classdict__" : Str)) = false := by decide) : PE X (.Name x pos) (tv X.K cl W (eVar i)) :=
  peWeak (pe_var hN hv hd hcd) fun σ H Q ⟨Hs, ρ, E, h⟩ => by
    cases e : eVar i ρ with
    | ok v =>
      rw [e] at h
      obtain ⟨x, e1, r⟩ := E.at_ i v (eVar_ok e)
      exact ⟨x, e1, h.here E.sub r⟩
    | exc c fs => exact absurd e eVar_noexc
    | stuck => rw [e] at h; exact h.elim
theorem ve_c {v : V} {u : PV} {e : Expr} (h : PE X e (tC v)) (r : ∀ H, Rp X.K cl H v u) : PE X e (tv X.K cl W (eC u)) :=
  peWeak h fun σ H Q ⟨Hs, ρ, E, h⟩ => GP.here h E.sub (r _)
theorem ve_int {i j} : PE X (.Constant (.int i) j pos) (tv X.K cl W (eC (.int i))) := ve_c pe_int fun _ => .int i
theorem ve_bl {i j} : PE X (.Constant (.bool i) j pos) (tv X.K cl W (eC (.bl i))) := ve_c pe_bl fun _ => .bl i
theorem ve_non {j} : PE X (.Constant .none j pos) (tv X.K cl W (eC .non)) := ve_c pe_non fun _ => .non
theorem ve_str {x j} : PE X (.Constant (.str x) j pos) (tv X.K cl W (eC (.str x))) := ve_c pe_str fun _ => .str x
/-- a constant of the module -/
def GlobV (K : PySem.W.Frag) (cl : Nat → Addr) (mg : Str → Option Value) (x : Str) (u : PV) : Prop := ∃ (v : V) (w : Value), mg x = some w ∧ RelV v w ∧ ∀ H, Rp K cl H v u
theorem ve_glob {x : Str} {u : PV} (G : GlobV X.K cl X.mg x u) (hg : Gl X x := by rfl) (hd : (x == ("__debug__" : Str)) = false := by decide) : PE X (.Name x pos) (tv X.K cl W (eC u)) := by
  obtain ⟨v, w, h1, h2, h3⟩ := G
  exact ve_c (pe_glob hg h1 h2 hd) h3

/-- an operation of two values, by its library rule -/
def OpV (K : PySem.W.Frag) (cl : Nat → Addr) (r : R2) (g : PV → PV → Option PV) : Prop := ∀ (W : WX) (σ : St) (Hs H : Hp) (x y : V) (u v w : PV) (Q : VK), Sub Hs H → Rp K cl Hs x u → Rp K cl Hs y v → g u v = some w →
  GP K cl (Rp K cl) W Hs H σ (.ok w) Q → r x y H Q
theorem op_use {r : R2} {g : PV → PV → Option PV} (hg : OpV X.K cl r g) {σ : St} {H : Hp} {Q : VK} (h : tv X.K cl W (e2 g f f') σ H Q) : tOp r (tv X.K cl W f) (tv X.K cl W f') σ H Q := by
  obtain ⟨Hs, ρ, E, h⟩ := h
  refine gv_bind E h fun v x Hs1 H1 _ s1 rx h1 => ?_
  refine gv_bind (E.up s1) h1 fun u y Hs2 H2 _ t1 ry h2 => ?_
  obtain ⟨w, e, q⟩ := h2.opt
  exact hg W σ Hs2 H2 x y v u w Q t1.sub (rx.mono t1.fs) ry e q
theorem ve_bin {op : Operator} {r : R2} {g : PV → PV → Option PV} (ho : OpR X (binaryOp op) r) (hg : OpV X.K cl r g) (ha : PE X a (tv X.K cl W f)) (hb : PE X b (tv X.K cl W f')) : PE X (.BinOp a op b pos) (tv X.K cl W (e2 g f f')) :=
  peWeak (pe_op ho ha hb) fun _ _ _ h => op_use hg h
theorem ve_cmp {op : CmpOp} {r : R2} {g : PV → PV → Option PV} (ho : OpR X (compareOp op) r) (hg : OpV X.K cl r g) (ha : PE X a (tv X.K cl W f)) (hb : PE X b (tv X.K cl W f')) (hm : behindInMarks op b = false := by first | exact nomark _ | rfl) : PE X (.Compare a [op] [b] pos) (tv X.K cl W (e2 g f f')) :=
  peWeak (pe_cmpR ho ha hb hm) fun _ _ _ h => op_use hg h
/-- two rules for one operation -/
theorem OpV.or {r r' : R2} {g g' : PV → PV → Option PV} (h : OpV X.K cl r g) (h' : OpV X.K cl r' g') : OpV X.K cl (fun x y H Q => r x y H Q ∨ r' x y H Q) (fun u v => (g u v).or (g' u v)) := by
  intro W σ Hs H x y u v w Q s rx ry e q
  replace e : (g u v).or (g' u v) = some w := e
  cases e1 : g u v with
  | some z => rw [e1] at e; cases e; exact .inl (h W σ Hs H x y u v _ Q s rx ry e1 q)
  | none => rw [e1] at e; exact .inr (h' W σ Hs H x y u v _ Q s rx ry e q)

/-! tests -/
def eTst (a : Ex) : Ev → R Bool := fun ρ => (a ρ).bind fun x => match x with | .bl b => .ok b | _ => .stuck
theorem tst_use {σ : St} {H : Hp} {Q : Bool → Hp → Prop} (h : tt X.K cl W (eTst f) σ H Q) : tB (tv X.K cl W f) σ H Q := by
  obtain ⟨Hs, ρ, E, h⟩ := h
  refine gv_bind E h fun v x Hs1 H1 _ s1 rx h1 => ?_
  cases rx with
  | bl b => exact ⟨b, rfl, GP.here (x := b) h1 s1.sub rfl⟩
  | _ => exact h1.elim
theorem vt_cmp {op : CmpOp} {r : R2} {g : PV → PV → Option PV} (ho : OpR X (compareOp op) r) (hg : OpV X.K cl r g) (ha : PE X a (tv X.K cl W f)) (hb : PE X b (tv X.K cl W f')) (hm : behindInMarks op b = false := by first | exact nomark _ | rfl) : PT X (.Compare a [op] [b] pos) (tt X.K cl W (eTst (e2 g f f'))) :=
  ptWeak (pt_cmpR ho ha hb hm) fun σ H Q h => by
    have q := tst_use h
    obtain ⟨Hs, ρ, E, h⟩ := h
    show tOp r (tv X.K cl W f) (tv X.K cl W f') σ H _
    refine op_use (g := g) hg ⟨Hs, ρ, E, ?_⟩
    unfold eTst at h
    cases e : e2 g f f' ρ with
    | ok w =>
      rw [e] at h
      intro x Hs' H' s1 rx
      cases rx with
      | bl b => exact ⟨b, rfl, h b Hs' H' s1 rfl⟩
      | _ => exact h.elim
    | exc c fs => rw [e] at h; exact h
    | stuck => rw [e] at h; exact h
theorem vt_val {e : Expr} (h : PE X e (tv X.K cl W f)) (he : ∀ whole, isTrue e X.env whole = (do let v ← whole; standAt e.pos; holding [v] (truthy v)) := by intro _; rfl) : PT X e (tt X.K cl W (eTst f)) :=
  ptWeak (pt_val h he) fun _ _ _ h => tst_use h
/-- truth of a value -/
def truV : PV → Option Bool
  | .non => some false
  | .bl b => some b
  | .int i => some (i != 0)
  | .str x => if x.length ≤ sizeLine then some ((x.length : Int) != 0) else none
  | .tup xs => some (!xs.isEmpty)
  | .lst xs => some (!xs.isEmpty)
  | .src xs => some (!xs.isEmpty)
  | .dct kvs => some (!kvs.isEmpty)
  | .dlk _ => none
  | .obj _ _ => none
  | .ty _ => none
theorem RpA.empty {K : PySem.W.Frag} {cl : Nat → Addr} {H : Hp} {vs : List V} {xs : List PV} (r : RpA K cl H vs xs) : xs.isEmpty = vs.isEmpty := by cases r <;> rfl
theorem RpK.empty {K : PySem.W.Frag} {cl : Nat → Addr} {H : Hp} {vs : List (Key × V)} {xs : List (Key × PV)} (r : RpK K cl H vs xs) : xs.isEmpty = vs.isEmpty := by cases r <;> rfl
def eTru (a : Ex) : Ev → R Bool := fun ρ => (a ρ).bind fun x => opt (truV x)
theorem truV_ok {K : PySem.W.Frag} {Hs H : Hp} {x : V} {u : PV} {b : Bool} (s : Sub Hs H) (r : Rp K cl Hs x u) (e : truV u = some b) : TruV K x H b := by
  cases r with
  | non => cases e; rfl
  | bl b => cases e; rfl
  | int i => cases e; rfl
  | str z =>
    replace e : (if z.length ≤ sizeLine then some ((z.length : Int) != 0) else none) = some b := e
    split at e
    · cases e; exact ⟨by assumption, rfl⟩
    · cases e
  | tup h ra => cases e; exact .inr (.inl ⟨_, s.seqT h, by rw [ra.empty]⟩)
  | lst h ra => cases e; exact .inl ⟨_, .of (s _ _ h), by rw [ra.empty]⟩
  | src h ra => cases e; exact .inl ⟨_, s.seqL h, by rw [ra.empty]⟩
  | dct h ra => cases e; exact .inr (.inr ⟨_, s _ _ h, by rw [ra.empty]⟩)
  | dlk h ra => cases e
  | obj h ra => cases e
  | ty n => cases e
theorem vt_tru {e : Expr} (h : PE X e (tv X.K cl W f)) (he : ∀ whole, isTrue e X.env whole = (do let v ← whole; standAt e.pos; holding [v] (truthy v)) := by intro _; rfl) : PT X e (tt X.K cl W (eTru f)) :=
  ptWeak (pt_truth h he) fun σ H Q ⟨Hs, ρ, E, h⟩ => by
    refine gv_bind E h fun v x Hs1 H1 _ s1 rx h1 => ?_
    obtain ⟨b, e, q⟩ := h1.opt
    exact ⟨b, truV_ok s1.sub rx e, GP.here (x := b) q s1.sub rfl⟩
variable {c c' : Ev → R Bool} {rest : List Expr}
def cAnd (a b : Ev → R Bool) : Ev → R Bool := fun ρ => (a ρ).bind fun t => if t = true then b ρ else .ok false
def cOr (a b : Ev → R Bool) : Ev → R Bool := fun ρ => (a ρ).bind fun t => if t = true then .ok true else b ρ
def cNot (a : Ev → R Bool) : Ev → R Bool := fun ρ => (a ρ).bind fun t => .ok (!t)
theorem pwWeak {e : Expr} {t t' : TT} (h : PW X e t) (w : ∀ σ H Q, t' σ H Q → t σ H Q) : PW X e t' := ⟨fun wh pins s σ H Q I q => h.run wh pins s σ H Q I (w σ H Q q)⟩
theorem vw_and1 (ha : PT X a (tt X.K cl W c)) : PW X (.BoolOp .And [a] pos) (tt X.K cl W c) := pw_and1 ha
theorem vw_or1 (ha : PT X a (tt X.K cl W c)) : PW X (.BoolOp .Or [a] pos) (tt X.K cl W c) := pw_or1 ha
theorem vw_and (ha : PT X a (tt X.K cl W c)) (hb : PW X (.BoolOp .And (b :: rest) pos) (tt X.K cl W c')) : PW X (.BoolOp .And (a :: b :: rest) pos) (tt X.K cl W (cAnd c c')) :=
  pwWeak (pw_and ha hb) fun σ H Q ⟨Hs, ρ, E, h⟩ => by
    refine gv_bind E h fun v x Hs1 H1 _ s1 rx h1 => ?_
    subst rx
    cases x with
    | true => exact ⟨Hs1, ρ, E.up s1, h1⟩
    | false => exact GP.here (x := false) h1 s1.sub rfl
theorem vw_or (ha : PT X a (tt X.K cl W c)) (hb : PW X (.BoolOp .Or (b :: rest) pos) (tt X.K cl W c')) : PW X (.BoolOp .Or (a :: b :: rest) pos) (tt X.K cl W (cOr c c')) :=
  pwWeak (pw_or ha hb) fun σ H Q ⟨Hs, ρ, E, h⟩ => by
    refine gv_bind E h fun v x Hs1 H1 _ s1 rx h1 => ?_
    subst rx
    cases x with
    | true => exact GP.here (x := true) h1 s1.sub rfl
    | false => exact ⟨Hs1, ρ, E.up s1, h1⟩
theorem vt_not (ha : PT X a (tt X.K cl W c)) : PT X (.UnaryOp .Not a pos) (tt X.K cl W (cNot c)) :=
  ptWeak (pt_not ha) fun σ H Q ⟨Hs, ρ, E, h⟩ => by
    refine gv_bind E h fun v x Hs1 H1 _ s1 rx h1 => ?_
    subst rx
    exact GP.here (x := !x) h1 s1.sub rfl
/-! .. as values -/
def eAnd (a b : Ex) : Ex := fun ρ => (a ρ).bind fun x => match x with | .bl t => if t = true then b ρ else .ok (.bl false) | _ => .stuck
def eOr (a b : Ex) : Ex := fun ρ => (a ρ).bind fun x => match x with | .bl t => if t = true then .ok (.bl true) else b ρ | _ => .stuck
def eNot (a : Ex) : Ex := fun ρ => (a ρ).bind fun x => match x with | .bl t => .ok (.bl (!t)) | _ => .stuck
theorem ve_one {op} (h : PE X a (tv X.K cl W f)) : PE X (.BoolOp op [a] pos) (tv X.K cl W f) := pe_one h
theorem ve_and (ha : PE X a (tv X.K cl W f)) (hb : PE X (.BoolOp .And (b :: rest) pos) (tv X.K cl W f')) : PE X (.BoolOp .And (a :: b :: rest) pos) (tv X.K cl W (eAnd f f')) :=
  peWeak (pe_and ha hb) fun σ H Q ⟨Hs, ρ, E, h⟩ => by
    refine gv_bind E h fun v x Hs1 H1 _ s1 rx h1 => ?_
    cases rx with
    | bl t =>
      refine ⟨t, rfl, ?_⟩
      cases t with
      | true => exact ⟨Hs1, ρ, E.up s1, h1⟩
      | false => exact GP.here h1 s1.sub (.bl false)
    | _ => exact h1.elim
theorem ve_or (ha : PE X a (tv X.K cl W f)) (hb : PE X (.BoolOp .Or (b :: rest) pos) (tv X.K cl W f')) : PE X (.BoolOp .Or (a :: b :: rest) pos) (tv X.K cl W (eOr f f')) :=
  peWeak (pe_or ha hb) fun σ H Q ⟨Hs, ρ, E, h⟩ => by
    refine gv_bind E h fun v x Hs1 H1 _ s1 rx h1 => ?_
    cases rx with
    | bl t =>
      refine ⟨t, rfl, ?_⟩
      cases t with
      | true => exact GP.here h1 s1.sub (.bl true)
      | false => exact ⟨Hs1, ρ, E.up s1, h1⟩
    | _ => exact h1.elim
theorem ve_not (ha : PE X a (tv X.K cl W f)) : PE X (.UnaryOp .Not a pos) (tv X.K cl W (eNot f)) :=
  peWeak (pe_not ha) fun σ H Q ⟨Hs, ρ, E, h⟩ => by
    refine gv_bind E h fun v x Hs1 H1 _ s1 rx h1 => ?_
    cases rx with
    | bl t => exact ⟨t, rfl, GP.here h1 s1.sub (.bl (!t))⟩
    | _ => exact h1.elim
theorem ve_if {t : Expr} (hc : PT X t (tt X.K cl W c)) (ha : PE X a (tv X.K cl W f)) (hb : PE X b (tv X.K cl W f')) : PE X (.IfExp t a b pos) (tv X.K cl W (eIf c f f')) :=
  peWeak (pe_ifExp hc ha hb) fun σ H Q ⟨Hs, ρ, E, h⟩ => by
    refine gv_bind E h fun v x Hs1 H1 _ s1 rx h1 => ?_
    subst rx
    cases x with
    | true => exact ⟨Hs1, ρ, E.up s1, h1⟩
    | false => exact ⟨Hs1, ρ, E.up s1, h1⟩
/-! chains -/
def chainK (g' : PV → PV → Option PV) (c : Ex) (ρ : Ev) (y : PV) : PV → R PV
  | .bl k => if k = true then (c ρ).bind fun w => opt (g' y w) else .ok (.bl false)
  | _ => .stuck
def eChain (g g' : PV → PV → Option PV) (a b c : Ex) : Ex := fun ρ => (a ρ).bind fun x => (b ρ).bind fun y => (opt (g x y)).bind (chainK g' c ρ y)
theorem chain_use {f'' : Ex} {r r' : R2} {g g' : PV → PV → Option PV} (hg : OpV X.K cl r g) (hg' : OpV X.K cl r' g') {σ : St} {H : Hp} {Q : VK} (h : tv X.K cl W (eChain g g' f f' f'') σ H Q) : tChain r r' (tv X.K cl W f) (tv X.K cl W f') (tv X.K cl W f'') σ H Q := by
  obtain ⟨Hs, ρ, E, h⟩ := h
  refine gv_bind E h fun v x Hs1 H1 _ s1 rx h1 => ?_
  refine gv_bind (E.up s1) h1 fun u y Hs2 H2 _ t1 ry h2 => ?_
  have E2 := (E.up s1).up t1
  cases e : g v u with
  | none => rw [e] at h2; exact h2.elim
  | some z =>
    rw [e] at h2
    have h3 : GP X.K cl (Rp X.K cl) W Hs2 H2 σ (chainK g' f'' ρ u z) Q := h2
    refine hg W σ Hs2 H2 x y v u z _ t1.sub (rx.mono t1.fs) ry e fun zz Hs3 H3 w1 rz => ?_
    have h4 := GP.up h3 w1
    cases rz with
    | bl k =>
      refine ⟨k, rfl, ?_⟩
      cases k with
      | true =>
        rw [if_pos rfl]
        refine gv_bind (E2.up w1) h4 fun u4 y4 Hs4 H4 _ q1 r4 h5 => ?_
        obtain ⟨w, e5, q⟩ := h5.opt
        exact hg' W σ Hs4 H4 y y4 u u4 w Q q1.sub ((ry.mono w1.fs).mono q1.fs) r4 e5 q
      | false => exact GP.here h4 w1.sub (.bl false)
    | _ => exact h4.elim
theorem ve_chain {f'' : Ex} {d : Expr} {op op' : CmpOp} {r r' : R2} {g g' : PV → PV → Option PV} (ho : OpR X (compareOp op) r) (ho' : OpR X (compareOp op') r') (hg : OpV X.K cl r g) (hg' : OpV X.K cl r' g') (ha : PE X a (tv X.K cl W f)) (hb : PE X b (tv X.K cl W f')) (hd : PE X d (tv X.K cl W f'')) (hm : lastMarks [op, op'] [b, d] = false := by rfl) : PE X (.Compare a [op, op'] [b, d] pos) (tv X.K cl W (eChain g g' f f' f'')) :=
  peWeak (pe_chain ho ho' ha hb hd hm) fun _ _ _ h => chain_use hg hg' h
theorem vt_chain {f'' : Ex} {d : Expr} {op op' : CmpOp} {r r' : R2} {g g' : PV → PV → Option PV} (ho : OpR X (compareOp op) r) (ho' : OpR X (compareOp op') r') (hg : OpV X.K cl r g) (hg' : OpV X.K cl r' g') (ha : PE X a (tv X.K cl W f)) (hb : PE X b (tv X.K cl W f')) (hd : PE X d (tv X.K cl W f'')) (hm : lastMarks [op, op'] [b, d] = false := by rfl) : PT X (.Compare a [op, op'] [b, d] pos) (tt X.K cl W (eTst (eChain g g' f f' f''))) :=
  ptWeak (pt_chain ho ho' ha hb hd hm) fun σ H Q ⟨Hs, ρ, E, h⟩ => by
    show tChain r r' (tv X.K cl W f) (tv X.K cl W f') (tv X.K cl W f'') σ H _
    refine chain_use hg hg' ⟨Hs, ρ, E, ?_⟩
    unfold eTst at h
    cases e : eChain g g' f f' f'' ρ with
    | ok w =>
      rw [e] at h
      intro x Hs' H' s1 rx
      cases rx with
      | bl b => exact ⟨b, rfl, h b Hs' H' s1 rfl⟩
      | _ => exact h.elim
    | exc c fs => rw [e] at h; exact h
    | stuck => rw [e] at h; exact h
/-! argument lists, displays -/
theorem va_nil : PA X [] (ta X.K cl W (evs [])) := paWeak pa_nil fun σ H Q ⟨Hs, ρ, E, h⟩ => GP.here h E.sub .nil
theorem va_cons {e : Expr} {es : List Expr} {fs : List Ex} (ha : PE X e (tv X.K cl W f)) (hr : PA X es (ta X.K cl W (evs fs))) (hs : starEach (e :: es) X.env = (false, eval e X.env) :: starEach es X.env := by rfl) : PA X (e :: es) (ta X.K cl W (evs (f :: fs))) :=
  paWeak (pa_cons ha hr hs) fun σ H Q ⟨Hs, ρ, E, h⟩ => by
    refine gv_bind E h fun v x Hs1 H1 _ s1 rx h1 => ?_
    refine gv_bind (E.up s1) h1 fun u y Hs2 H2 _ t1 ry h2 => ?_
    exact GP.here h2 t1.sub (.cons (rx.mono t1.fs) ry)
def gTupV : List PV → R PV := fun xs => if xs.length ≤ sizeLine then .ok (.tup xs) else .stuck
def gLstV : List PV → R PV := fun xs => if xs.length ≤ sizeLine then .ok (.lst xs) else .stuck
theorem ve_tup {es : List Expr} {x1} {fs : List Ex} (h : PA X es (ta X.K cl W (evs fs))) : PE X (.Tuple es x1 pos) (tv X.K cl W (eArgs gTupV fs)) :=
  peWeak (pe_tup h) fun σ H Q ⟨Hs, ρ, E, h⟩ => by
    refine gv_bind E h fun v x Hs1 H1 _ s1 rx h1 => ?_
    unfold gTupV at h1
    split at h1
    · exact ⟨by rw [rx.length]; assumption, fun p n => new_tup h1 s1.sub n rx⟩
    · exact h1.elim
theorem ve_lst {es : List Expr} {fs : List Ex} (h : PA X es (ta X.K cl W (evs fs))) : PE X (.List es pos) (tv X.K cl W (eArgs gLstV fs)) :=
  peWeak (pe_lst h) fun σ H Q ⟨Hs, ρ, E, h⟩ => by
    refine gv_bind E h fun v x Hs1 H1 _ s1 rx h1 => ?_
    unfold gLstV at h1
    split at h1
    · exact ⟨by rw [rx.length]; assumption, fun p n => new_lst h1 s1.sub n rx⟩
    · exact h1.elim
/-! built-in functions by values -/
def CallV (K : PySem.W.Frag) (cl : Nat → Addr) (r : List V → Hp → VK → Prop) (g : List PV → Option PV) : Prop := ∀ (W : WX) (σ : St) (Hs H : Hp) (xs : List V) (us : List PV) (w : PV) (Q : VK), Sub Hs H → RpA K cl Hs xs us → g us = some w →
  GP K cl (Rp K cl) W Hs H σ (.ok w) Q → r xs H Q
theorem CallV.or {r r' : List V → Hp → VK → Prop} {g g' : List PV → Option PV} (h : CallV X.K cl r g) (h' : CallV X.K cl r' g') : CallV X.K cl (fun x H Q => r x H Q ∨ r' x H Q) (fun u => (g u).or (g' u)) := by
  intro W σ Hs H x u w Q s rx e q
  replace e : (g u).or (g' u) = some w := e
  cases e1 : g u with
  | some z => rw [e1] at e; cases e; exact .inl (h W σ Hs H x u _ Q s rx e1 q)
  | none => rw [e1] at e; exact .inr (h' W σ Hs H x u _ Q s rx e q)
def eCB (g : List PV → Option PV) (as : List Ex) : Ex := eArgs (fun xs => opt (g xs)) as
theorem cb_use {r : List V → Hp → VK → Prop} {g : List PV → Option PV} {fs : List Ex} (hg : CallV X.K cl r g) {σ : St} {H : Hp} {Q : VK} (h : tv X.K cl W (eCB g fs) σ H Q) : tCB r (ta X.K cl W (evs fs)) σ H Q := by
  obtain ⟨Hs, ρ, E, h⟩ := h
  refine gv_bind E h fun v x Hs1 H1 _ s1 rx h1 => ?_
  obtain ⟨w, e, q⟩ := h1.opt
  exact hg W σ Hs1 H1 x v w Q s1.sub rx e q
theorem ve_callB {x : Str} {p : Pos} {id : String} {e : Expr} {es : List Expr} {fs : List Ex} {r : List V → Hp → VK → Prop} {g : List PV → Option PV} (hc : CallR X (.builtin id) r) (hg : CallV X.K cl r g) (hm : X.mg x = none) (hv : bootBuiltins x = some (.builtin id)) (ha : PA X (e :: es) (ta X.K cl W (evs fs)))
    (hgl : Gl X x := by rfl) (hn : x ≠ "__name__" := by decide) (hd : (x == ("__debug__" : Str)) = false := by decide) (he : starEach (e :: es) X.env = (false, eval e X.env) :: starEach es X.env := by rfl) (hpl : (backTo pos (starEach es X.env)).any (·.1) = false := by rfl) : PE X (.Call (.Name x p) (e :: es) [] pos) (tv X.K cl W (eCB g fs)) :=
  peWeak (pe_callB hc hgl hm hv ha (hn := hn) (hdb := hd) (he := he) (hpl := hpl)) fun _ _ _ h => cb_use hg h
theorem ve_callTy {x : Str} {p : Pos} {id : String} {e : Expr} {es : List Expr} {fs : List Ex} {r : List V → Hp → VK → Prop} {g : List PV → Option PV} (hc : CallR X (.type id) r) (hg : CallV X.K cl r g) (hm : X.mg x = none) (hv : bootBuiltins x = some (.type id)) (ha : PA X (e :: es) (ta X.K cl W (evs fs)))
    (hgl : Gl X x := by rfl) (hn : x ≠ "__name__" := by decide) (hd : (x == ("__debug__" : Str)) = false := by decide) (he : starEach (e :: es) X.env = (false, eval e X.env) :: starEach es X.env := by rfl) (hpl : (backTo pos (starEach es X.env)).any (·.1) = false := by rfl) : PE X (.Call (.Name x p) (e :: es) [] pos) (tv X.K cl W (eCB g fs)) :=
  peWeak (pe_callTy hc hgl hm hv ha (hn := hn) (hdb := hd) (he := he) (hpl := hpl)) fun _ _ _ h => cb_use hg h
/-! subscripts, slices -/
def ixP : PV → PV → Option PV
  | .lst xs, .int i => atI xs i
  | .src xs, .int i => atI xs i
  | .tup xs, .int i => atI xs i
  | .str z, .int i => if z.length ≤ sizeLine then (atI z.cps.toList i).map fun c => .str ⟨#[c]⟩ else none
  | _, _ => none
theorem RpA.atI {K : PySem.W.Frag} {H : Hp} {vs : List V} {xs : List PV} {i : Int} {x : PV} (r : RpA K cl H vs xs) (h : L2.atI xs i = some x) : ∃ v, L2.atI vs i = some v ∧ Rp K cl H v x := by
  unfold L2.atI at h ⊢
  rw [r.length]
  cases e : ixN xs.length i with
  | none => rw [e] at h; cases h
  | some j => rw [e] at h; exact r.get h
theorem ve_ix {e i : Expr} (ha : PE X e (tv X.K cl W f)) (hb : PE X i (tv X.K cl W f')) (hs : PlainIx i := by exact fun _ _ => rfl) : PE X (.Subscript e i pos) (tv X.K cl W (e2 ixP f f')) :=
  peWeak (pe_ix ix_seq ha hb hs) fun σ H Q h => by
    refine op_use (r := rIx X.K) (g := ixP) ?_ h
    intro W σ Hs H x y u v w Q s rx ry e q
    cases ry with
    | int i =>
      cases rx with
      | lst h ra => obtain ⟨v, e1, r1⟩ := ra.atI e; exact .inl ⟨_, _, _, v, rfl, rfl, .of (s _ _ h), e1, q.here s r1⟩
      | src h ra => obtain ⟨v, e1, r1⟩ := ra.atI e; exact .inl ⟨_, _, _, v, rfl, rfl, s.seqL h, e1, q.here s r1⟩
      | tup h ra => obtain ⟨v, e1, r1⟩ := ra.atI e; exact .inr (.inl ⟨_, _, _, v, rfl, rfl, s.seqT h, e1, q.here s r1⟩)
      | str z =>
        replace e : (if z.length ≤ sizeLine then (L2.atI z.cps.toList i).map fun c => PV.str ⟨#[c]⟩ else none) = some w := e
        split at e
        · cases e1 : atI z.cps.toList i with
          | none => rw [e1] at e; cases e
          | some c => rw [e1] at e; cases e; exact .inr (.inr ⟨_, _, c, rfl, rfl, by assumption, e1, q.here s (.str _)⟩)
        · cases e
      | _ => cases e
    | _ => cases rx <;> cases e
/-- a slice's bound -/
abbrev Pt := Ev → R (Option Int)
def pNo : Pt := fun _ => .ok none
def pAt (a : Ex) : Pt := fun ρ => (a ρ).bind fun x => match x with | .int i => .ok (some i) | _ => .stuck
abbrev tpt (K : PySem.W.Frag) (cl : Nat → Addr) (W : WX) (f : Pt) : TO := gv K cl (fun _ o o' => o = o') W f
theorem poWeak {X : Cx} {e : Option Expr} {t t' : TO} (h : PO X e t) (w : ∀ σ H Q, t' σ H Q → t σ H Q) : PO X e t' := ⟨fun pins s σ H Q I q => h.run pins s σ H Q I (w σ H Q q)⟩
theorem vo_none : PO X none (tpt X.K cl W pNo) := poWeak po_none fun σ H Q ⟨Hs, ρ, E, h⟩ => GP.here (x := none) h E.sub rfl
theorem vo_some {e : Expr} (ha : PE X e (tv X.K cl W f)) : PO X (some e) (tpt X.K cl W (pAt f)) := poWeak (po_some ha) fun σ H Q ⟨Hs, ρ, E, h⟩ => by
  refine gv_bind E h fun v x Hs1 H1 _ s1 rx h1 => ?_
  cases rx with
  | int i => exact ⟨i, rfl, GP.here (x := some i) h1 s1.sub rfl⟩
  | _ => exact h1.elim
def cutP {α : Type} (xs : List α) (lo hi : Option Int) : List α := (xs.drop (HT.sIx xs.length 0 lo)).take (HT.sIx xs.length xs.length hi - HT.sIx xs.length 0 lo)
theorem RpA.cut {K : PySem.W.Frag} {H : Hp} {vs : List V} {xs : List PV} (r : RpA K cl H vs xs) (lo hi : Option Int) : RpA K cl H (cutV vs lo hi) (cutP xs lo hi) := by
  unfold cutV cutP
  rw [r.length]
  exact (r.drop _).take _
def slP (x : PV) (lo hi : Option Int) : Option PV := match x with
  | .lst xs => some (.lst (cutP xs lo hi))
  | .src xs => some (.lst (cutP xs lo hi))
  | .tup xs => some (.tup (cutP xs lo hi))
  | .str z => if z.length ≤ sizeLine then some (.str (cutS z lo hi)) else none
  | _ => none
def eSl (a : Ex) (lo hi : Pt) : Ex := fun ρ => (a ρ).bind fun x => (lo ρ).bind fun l => (hi ρ).bind fun h => opt (slP x l h)
theorem cut_whole {α : Type} {xs : List α} {lo hi : Option Int} (h : HT.sIx xs.length 0 lo = 0 ∧ HT.sIx xs.length xs.length hi = xs.length) : cutP xs lo hi = xs := by
  unfold cutP
  rw [h.1, h.2]
  simp
theorem ve_slice {e : Expr} {lo hi : Option Expr} {p2 : Pos} {l h : Pt} (ha : PE X e (tv X.K cl W f)) (hl : PO X lo (tpt X.K cl W l)) (hh : PO X hi (tpt X.K cl W h)) : PE X (.Subscript e (.Slice lo hi none p2) pos) (tv X.K cl W (eSl f l h)) :=
  peWeak (pe_slice (SlR.or (SlR.or sl_list sl_tupA) sl_str) ha hl hh) fun σ H Q ⟨Hs, ρ, E, h⟩ => by
    refine gv_bind E h fun v x Hs1 H1 _ s1 rx h1 => ?_
    refine gv_bind (E.up s1) h1 fun l1 l2 Hs2 H2 _ t1 el h2 => ?_
    refine gv_bind ((E.up s1).up t1) h2 fun u1 u2 Hs3 H3 _ w1 eu h3 => ?_
    subst el eu
    obtain ⟨w, e, q⟩ := h3.opt
    have rx3 := (rx.mono t1.fs).mono w1.fs
    cases rx3 with
    | lst h ra => cases e; exact .inl (.inl ⟨_, _, rfl, .of (w1.sub _ _ h), fun p n => new_lst q w1.sub n (ra.cut _ _)⟩)
    | src h ra => cases e; exact .inl (.inl ⟨_, _, rfl, w1.sub.seqL h, fun p n => new_lst q w1.sub n (ra.cut _ _)⟩)
    | tup h ra =>
      cases e
      refine .inl (.inr ⟨_, _, rfl, w1.sub.seqT h, fun whole => ?_, fun _ p n => new_tup q w1.sub n (ra.cut _ _)⟩)
      rw [ra.length] at whole
      rw [cut_whole whole] at q
      exact q.here w1.sub (.tup h ra)
    | str z =>
      replace e : (if z.length ≤ sizeLine then some (PV.str (cutS z l2 u2)) else none) = some w := e
      split at e
      · cases e; exact .inr ⟨_, rfl, by assumption, q.here w1.sub (.str _)⟩
      · cases e
    | _ => cases e
end
end VL
namespace VL
open PySem PySem.Spec PyProof.Rows L2
/-! ### the operations of values -/
/-- what a divisor stays below -/
def bigI : Int := 2 ^ 4000
theorem lt_bigI {j : Int} (h : j < 2 ^ 64) : j < bigI := Int.lt_trans h (by unfold bigI; decide +kernel)
def addP : PV → PV → Option PV
  | .int i, .int j => some (.int (i + j))
  | .str a, .str b => if a.length + b.length ≤ sizeLine then some (.str (a ++ b)) else none
  | .lst xs, .lst ys => if xs.length + ys.length ≤ sizeLine then some (.lst (xs ++ ys)) else none
  | .tup xs, .tup ys => if xs.length + ys.length ≤ sizeLine then some (.tup (xs ++ ys)) else none
  | _, _ => none
def subP : PV → PV → Option PV
  | .int i, .int j => some (.int (i - j))
  | _, _ => none
def mulOk (i j : Int) : Bool := ((decide (-(2 ^ 64) < i) && decide (i < 2 ^ 64)) || (decide (-(2 ^ 64) < j) && decide (j < 2 ^ 64))) || ((decide (-bigI < i) && decide (i < bigI)) && (decide (-bigI < j) && decide (j < bigI)))
def mulP : PV → PV → Option PV
  | .int i, .int j => if mulOk i j = true then some (.int (i * j)) else none
  | .lst xs, .int k => if -(2 ^ 63) ≤ k ∧ k < 2 ^ 63 ∧ xs.length * k.toNat ≤ sizeLine then some (.lst (List.replicate k.toNat xs).flatten) else none
  | _, _ => none
def modP : PV → PV → Option PV
  | .int i, .int j => if 0 < j then some (.int (i % j)) else none
  | _, _ => none
def divP : PV → PV → Option PV
  | .int i, .int j => if 0 < j ∧ j < bigI then some (.int (i / j)) else if j < 0 ∧ -bigI < j then some (.int ((-i) / (-j))) else none
  | _, _ => none
def powP : PV → PV → Option PV
  | .int i, .int j => if 0 ≤ j ∧ j ≤ 1000 ∧ -(2 ^ 60) < i ∧ i < 2 ^ 60 then some (.int (i ^ j.toNat)) else none
  | _, _ => none
/-- == -/
def eqB : PV → PV → Option Bool
  | .int i, .int j => some (decide (i = j))
  | .str i, .str j => some (decide (i = j))
  | .bl i, .bl j => some (decide (i = j))
  | .non, .non => some true
  | x, y => match x.data, y.data with
    | some d, some e => if SeqAt.shaped d = true ∧ SeqAt.shaped e = true then some (PyData.eqv d e) else none
    | _, _ => none
def eqP (x y : PV) : Option PV := (eqB x y).map .bl
def neP (x y : PV) : Option PV := (eqB x y).map fun b => .bl (!b)
def isP : PV → PV → Option PV
  | .non, .non => some (.bl true)
  | _, .non => some (.bl false)
  | .bl a, .bl b => some (.bl (decide (a = b)))
  | _, _ => none
def isntP : PV → PV → Option PV
  | .non, .non => some (.bl false)
  | _, .non => some (.bl true)
  | .bl a, .bl b => some (.bl (!decide (a = b)))
  | _, _ => none
def intsP : List PV → Option (List Int)
  | [] => some []
  | .int i :: r => (intsP r).map (i :: ·)
  | _ :: _ => none
def ltP : PV → PV → Option PV
  | .int i, .int j => some (.bl (decide (i < j)))
  | .str i, .str j => some (.bl (decide (i.cps.toList < j.cps.toList)))
  | .tup xs, .tup ys => (intsP xs).bind fun ns => (intsP ys).map fun ms => .bl (HT.lexLt ns ms)
  | _, _ => none
def leP : PV → PV → Option PV
  | .int i, .int j => some (.bl (decide (i ≤ j)))
  | .str i, .str j => some (.bl (!decide (j.cps.toList < i.cps.toList)))
  | _, _ => none
def gtP : PV → PV → Option PV
  | .int i, .int j => some (.bl (decide (j < i)))
  | _, _ => none
def geP : PV → PV → Option PV
  | .int i, .int j => some (.bl (decide (j ≤ i)))
  | _, _ => none
def flatP : PV → Bool
  | .non => true | .bl _ => true | .int _ => true | .str _ => true
  | _ => false
def eqF : PV → PV → Bool
  | .non, .non => true
  | .bl a, .bl b => a == b
  | .bl a, .int b => (if a then 1 else 0) == b
  | .int a, .bl b => a == (if b then 1 else 0)
  | .int a, .int b => a == b
  | .str a, .str b => a == b
  | _, _ => false
def dataIn (x : PV) (xs : List PV) : Option Bool := match x.data, PV.datas xs with
  | some d, some ds => if SeqAt.shaped d = true ∧ SeqAt.shaped (.list ds) = true then some (ds.any fun z => PyData.eqv z d) else none
  | _, _ => none
def inB (x : PV) : PV → Option Bool
  | .lst xs => if flatP x = true ∧ xs.all flatP = true then some (xs.any fun y => eqF y x) else dataIn x xs
  | .src xs => if flatP x = true ∧ xs.all flatP = true then some (xs.any fun y => eqF y x) else dataIn x xs
  | .tup xs => if flatP x = true ∧ xs.all flatP = true then some (xs.any fun y => eqF y x) else none
  | .str z => match x with
    | .str c => if c.cps.size = 1 then some (decide (c.cps.getD 0 0 ∈ z.cps.toList)) else some (!(Builtin.Str.occurrences z c 0 z.length 1).isEmpty)
    | _ => none
  | _ => none
def inP (x y : PV) : Option PV := (inB x y).map .bl
def ninP (x y : PV) : Option PV := (inB x y).map fun b => .bl (!b)
def negP : PV → Option PV
  | .int i => some (.int (-i))
  | _ => none

section
variable {K : PySem.W.Frag} {cl : Nat → Addr} {H Hs : Hp}
theorem RpA.ints : ∀ {vs : List V} {xs : List PV} {ns : List Int}, RpA K cl H vs xs → intsP xs = some ns → vs = ns.map V.int
  | _, _, _, .nil, e => by cases e; rfl
  | _, _, _, .cons r t, e => by
    cases r with
    | int i =>
      replace e : (intsP _).map (i :: ·) = some _ := e
      rw [Option.map_eq_some_iff] at e
      obtain ⟨r, e1, rfl⟩ := e
      rw [t.ints e1]
      rfl
    | _ => cases e
theorem RpA.flat : ∀ {vs : List V} {xs : List PV}, RpA K cl H vs xs → xs.all flatP = true → vs.all flatV = true
  | _, _, .nil, e => rfl
  | _, _, .cons r t, e => by
    rw [List.all_cons, Bool.and_eq_true] at e ⊢
    refine ⟨?_, t.flat e.2⟩
    cases r <;> first | rfl | cases e.1
theorem Rp.flat {v : V} {x : PV} (r : Rp K cl H v x) (e : flatP x = true) : flatV v = true := by cases r <;> first | rfl | cases e
theorem eqF_ok {v w : V} {x y : PV} (r : Rp K cl H v x) (q : Rp K cl H w y) : L2.eqV v w = eqF x y := by
  cases r <;> cases q <;> rfl
theorem RpA.any {w : V} {y : PV} (q : Rp K cl H w y) : ∀ {vs : List V} {xs : List PV}, RpA K cl H vs xs → (vs.any fun v => L2.eqV v w) = xs.any fun x => eqF x y
  | _, _, .nil => rfl
  | _, _, .cons r t => by rw [List.any_cons, List.any_cons, eqF_ok r q, RpA.any q t]
theorem Rp.nonIff {v : V} {x : PV} (r : Rp K cl H v x) : decide (v = .non) = (match x with | .non => true | _ => false) := by
  cases r <;> rfl
end

section
variable {X : Cx} {cl : Nat → Addr}
theorem ov_add : OpV X.K cl (fun x y H Q => ((rI0 fun i j => .int (i + j)) x y H Q ∨ (∃ i j, x = V.str i ∧ y = V.str j ∧ i.length + j.length ≤ sizeLine ∧ Q (.str (i ++ j)) H)) ∨ rCat x y H Q ∨ rCatA X.K x y H Q) addP := by
  intro W σ Hs H x y u v w Q s rx ry e q
  cases rx with
  | int i =>
    cases ry with
    | int j => cases e; exact .inl (.inl ⟨_, _, rfl, rfl, q.here s (.int _)⟩)
    | _ => cases e
  | str i =>
    cases ry with
    | str j =>
      replace e : (if i.length + j.length ≤ sizeLine then some (PV.str (i ++ j)) else none) = some w := e
      split at e
      · cases e; exact .inl (.inr ⟨_, _, rfl, rfl, by assumption, q.here s (.str _)⟩)
      · cases e
    | _ => cases e
  | @lst a vs xs h ra =>
    cases ry with
    | @lst b ws ys h' rb =>
      replace e : (if xs.length + ys.length ≤ sizeLine then some (PV.lst (xs ++ ys)) else none) = some w := e
      split at e
      · cases e; exact .inr (.inl ⟨_, _, _, _, rfl, rfl, s _ _ h, s _ _ h', by rw [ra.length, rb.length]; assumption, fun p n => new_lst q s n (ra.append rb)⟩)
      · cases e
    | _ => cases e
  | @tup a vs xs h ra =>
    cases ry with
    | @tup b ws ys h' rb =>
      replace e : (if xs.length + ys.length ≤ sizeLine then some (PV.tup (xs ++ ys)) else none) = some w := e
      split at e
      · cases e
        refine .inr (.inr ⟨_, _, _, _, rfl, rfl, s.seqT h, s.seqT h', by rw [ra.length, rb.length]; assumption, fun z => ?_, fun _ z => ?_, fun _ _ p n => new_tup q s n (ra.append rb)⟩)
        · subst z; cases ra; exact q.here s (.tup h' rb)
        · subst z; cases rb; rw [List.append_nil] at q; exact q.here s (.tup h ra)
      · cases e
    | _ => cases e
  | _ => cases e
theorem or_add : OpR X (binaryOp .Add) (fun x y H Q => ((rI0 fun i j => .int (i + j)) x y H Q ∨ (∃ i j, x = V.str i ∧ y = V.str j ∧ i.length + j.length ≤ sizeLine ∧ Q (.str (i ++ j)) H)) ∨ rCat x y H Q ∨ rCatA X.K x y H Q) := (op_add.or op_add_str).or (op_cat.or op_catA)
theorem ov_sub : OpV X.K cl (rI0 fun i j => .int (i - j)) subP := by
  intro W σ Hs H x y u v w Q s rx ry e q
  cases rx with
  | int i =>
    cases ry with
    | int j => cases e; exact ⟨_, _, rfl, rfl, q.here s (.int _)⟩
    | _ => cases e
  | _ => cases e
theorem log_big {j : Int} (h1 : j < bigI) (h2 : -bigI < j) : j.natAbs.log2 < 9000 := by
  have h5 : 4000 ≤ 9000 := by decide
  refine Nat.lt_of_lt_of_le (PySem.Flt.log2_lt_of (Nat.zero_lt_succ 3999) ?_) h5
  have h3 : (j.natAbs : Int) < ((2 ^ 4000 : Nat) : Int) := by
    rw [Int.natCast_pow]
    have : (j.natAbs : Int) < bigI := by omega
    exact this
  exact Int.ofNat_lt.mp h3
def CMulS (i j : Int) : Prop := mulOk i j = true
theorem CMulS.ok {i j : Int} (h : CMulS i j) : IntMulOk i j := by
  unfold CMulS mulOk at h
  simp only [Bool.or_eq_true, Bool.and_eq_true, decide_eq_true_eq] at h
  rcases h with h | ⟨⟨a, b⟩, c, e⟩
  · exact CMul.ok h
  · have x := log_big b a
    have y := log_big e c
    exact CMulW.ok (show i.natAbs.log2 + j.natAbs.log2 < 1000000 by omega)
theorem op_mulS : OpR X (binaryOp .Mult) (rI CMulS fun i j => .int (i * j)) := opI fun _ _ _ _ _ _ _ hc q => mul_int q (CMulS.ok hc)
theorem iop_mulS : OpR X (inplaceOp .Mult) (rI CMulS fun i j => .int (i * j)) := opI fun _ _ _ _ _ _ _ hc q => imul_int q (CMulS.ok hc)
theorem ov_mul : OpV X.K cl (fun x y H Q => (rI CMulS fun i j => .int (i * j)) x y H Q ∨ rRep x y H Q) mulP := by
  intro W σ Hs H x y u v w Q s rx ry e q
  cases rx with
  | int i =>
    cases ry with
    | int j =>
      replace e : (if mulOk i j = true then some (PV.int (i * j)) else none) = some w := e
      split at e
      · rename_i hk
        cases e
        exact .inl ⟨_, _, rfl, rfl, hk, q.here s (.int _)⟩
      · cases e
    | _ => cases e
  | @lst a vs xs h ra =>
    cases ry with
    | int k =>
      replace e : (if -(2 ^ 63) ≤ k ∧ k < 2 ^ 63 ∧ xs.length * k.toNat ≤ sizeLine then some (PV.lst (List.replicate k.toNat xs).flatten) else none) = some w := e
      split at e
      · rename_i hk
        cases e
        exact .inr ⟨_, _, _, rfl, rfl, s _ _ h, hk.1, hk.2.1, by rw [ra.length]; exact hk.2.2, fun p n => new_lst q s n (ra.rep _)⟩
      · cases e
    | _ => cases e
  | _ => cases e
theorem or_mul : OpR X (binaryOp .Mult) (fun x y H Q => (rI CMulS fun i j => .int (i * j)) x y H Q ∨ rRep x y H Q) := op_mulS.or op_rep
theorem ov_mod : OpV X.K cl (rI (fun _ j => 0 < j) fun i j => .int (i % j)) modP := by
  intro W σ Hs H x y u v w Q s rx ry e q
  cases rx with
  | int i =>
    cases ry with
    | int j =>
      replace e : (if 0 < j then some (PV.int (i % j)) else none) = some w := e
      split at e
      · cases e; exact ⟨_, _, rfl, rfl, by assumption, q.here s (.int _)⟩
      · cases e
    | _ => cases e
  | _ => cases e
def CDivS (_ j : Int) : Prop := j ≠ 0 ∧ j.natAbs.log2 < 9000
theorem op_fdivS : OpR X (binaryOp .FloorDiv) (rI CDivS fun i j => .int (i.fdiv j)) := opI fun i j _ _ _ _ _ hc q => floordiv_int hc.1 q (.inl (PyProof.noPylong_of_log2 hc.2))
theorem big_log {j : Int} (h0 : j ≠ 0) (h1 : j < bigI) (h2 : -bigI < j) : CDivS 0 j := by
  have h5 : 4000 ≤ 9000 := by decide
  refine ⟨h0, Nat.lt_of_lt_of_le (PySem.Flt.log2_lt_of (Nat.zero_lt_succ 3999) ?_) h5⟩
  have h3 : (j.natAbs : Int) < ((2 ^ 4000 : Nat) : Int) := by
    rw [Int.natCast_pow]
    have : (j.natAbs : Int) < bigI := by omega
    exact this
  exact Int.ofNat_lt.mp h3
theorem ov_div : OpV X.K cl (rI CDivS fun i j => .int (i.fdiv j)) divP := by
  intro W σ Hs H x y u v w Q s rx ry e q
  cases rx with
  | int i =>
    cases ry with
    | int j =>
      replace e : (if 0 < j ∧ j < bigI then some (PV.int (i / j)) else if j < 0 ∧ -bigI < j then some (.int ((-i) / (-j))) else none) = some w := e
      split at e
      · rename_i hk
        cases e
        have hB : (0 : Int) < bigI := Int.lt_trans hk.1 hk.2
        refine ⟨_, _, rfl, rfl, (big_log (by omega) hk.2 (by omega) : CDivS i j), ?_⟩
        have e3 : i.fdiv j = i / j := Int.fdiv_eq_ediv_of_nonneg i (by omega)
        show Q (.int (i.fdiv j)) H
        rw [e3]
        exact q.here s (.int _)
      · split at e
        · rename_i hk
          cases e
          have hB : (0 : Int) < bigI := by omega
          refine ⟨_, _, rfl, rfl, (big_log (by omega) (by omega) hk.2 : CDivS i j), ?_⟩
          have e3 : i.fdiv j = (-i) / (-j) := by rw [← Int.neg_fdiv_neg, Int.fdiv_eq_ediv_of_nonneg _ (by omega)]
          show Q (.int (i.fdiv j)) H
          rw [e3]
          exact q.here s (.int _)
        · cases e
    | _ => cases e
  | _ => cases e
theorem ov_pow : OpV X.K cl (rI CPow fun i j => .int (i ^ j.toNat)) powP := by
  intro W σ Hs H x y u v w Q s rx ry e q
  cases rx with
  | int i =>
    cases ry with
    | int j =>
      replace e : (if 0 ≤ j ∧ j ≤ 1000 ∧ -(2 ^ 60) < i ∧ i < 2 ^ 60 then some (PV.int (i ^ j.toNat)) else none) = some w := e
      split at e
      · rename_i hk
        cases e
        exact ⟨_, _, rfl, rfl, ⟨hk.1, by omega, by omega⟩, q.here s (.int _)⟩
      · cases e
    | _ => cases e
  | _ => cases e
theorem eq_split {Hs H : Hp} {x y : V} {u v : PV} {b : Bool} (s : Sub Hs H) (rx : Rp X.K cl Hs x u) (ry : Rp X.K cl Hs y v) (e : eqB u v = some b) :
    (scal x y = true ∧ decide (x = y) = b) ∨ ∃ d e, Dp X.K H x d ∧ Dp X.K H y e ∧ SeqAt.shaped d = true ∧ SeqAt.shaped e = true ∧ PyData.eqv d e = b := by
  have gen : (match u.data, v.data with
    | some d, some e => if SeqAt.shaped d = true ∧ SeqAt.shaped e = true then some (PyData.eqv d e) else none
    | _, _ => none) = some b → ∃ d e, Dp X.K H x d ∧ Dp X.K H y e ∧ SeqAt.shaped d = true ∧ SeqAt.shaped e = true ∧ PyData.eqv d e = b := by
    intro h
    split at h
    · rename_i d e1 h1 h2
      split at h
      · rename_i hs
        cases h
        exact ⟨d, e1, (rx.mono s).dp h1, (ry.mono s).dp h2, hs.1, hs.2, rfl⟩
      · cases h
    · cases h
  have tail : ∀ {u' v' : PV}, (∀ {o : Option Bool}, o = o) → True := fun _ => trivial
  cases rx with
  | int i =>
    cases ry with
    | int j => cases e; exact .inl ⟨rfl, by simp⟩
    | _ => exact .inr (gen e)
  | str i =>
    cases ry with
    | str j => cases e; exact .inl ⟨rfl, by simp⟩
    | _ => exact .inr (gen e)
  | bl i =>
    cases ry with
    | bl j => cases e; exact .inl ⟨rfl, by simp⟩
    | _ => exact .inr (gen e)
  | non =>
    cases ry with
    | non => cases e; exact .inl ⟨rfl, rfl⟩
    | _ => exact .inr (gen e)
  | tup h ra => cases ry <;> exact .inr (gen e)
  | lst h ra => cases ry <;> exact .inr (gen e)
  | src h ra => cases ry <;> exact .inr (gen e)
  | dct h ra => cases ry <;> exact .inr (gen e)
  | dlk h ra => cases ry <;> exact .inr (gen e)
  | obj h ra => cases ry <;> exact .inr (gen e)
  | ty n => cases ry <;> exact .inr (gen e)
theorem ov_eq : OpV X.K cl (fun x y H Q => rEq x y H Q ∨ rEqD X.K x y H Q) eqP := by
  intro W σ Hs H x y u v w Q s rx ry e q
  unfold eqP at e
  rw [Option.map_eq_some_iff] at e
  obtain ⟨b, e1, rfl⟩ := e
  rcases eq_split s rx ry e1 with ⟨h1, h2⟩ | ⟨d, e2, h1, h2, h3, h4, h5⟩
  · exact .inl ⟨h1, by rw [h2]; exact q.here s (.bl b)⟩
  · exact .inr ⟨d, e2, h1, h2, h3, h4, by rw [h5]; exact q.here s (.bl b)⟩
theorem ov_ne : OpV X.K cl (fun x y H Q => rNe x y H Q ∨ rNeD X.K x y H Q) neP := by
  intro W σ Hs H x y u v w Q s rx ry e q
  unfold neP at e
  rw [Option.map_eq_some_iff] at e
  obtain ⟨b, e1, rfl⟩ := e
  rcases eq_split s rx ry e1 with ⟨h1, h2⟩ | ⟨d, e2, h1, h2, h3, h4, h5⟩
  · exact .inl ⟨h1, by rw [h2]; exact q.here s (.bl (!b))⟩
  · exact .inr ⟨d, e2, h1, h2, h3, h4, by rw [h5]; exact q.here s (.bl (!b))⟩
theorem or_eq (hu : X.A.units + 64 < cLine) : OpR X (compareOp .Eq) (fun x y H Q => rEq x y H Q ∨ rEqD X.K x y H Q) := op_eq.or (op_eqD hu)
theorem or_ne (hu : X.A.units + 64 < cLine) : OpR X (compareOp .NotEq) (fun x y H Q => rNe x y H Q ∨ rNeD X.K x y H Q) := op_ne.or (op_neD hu)
theorem ov_is : OpV X.K cl (fun x y H Q => (y = .non ∧ Q (.bl (decide (x = .non))) H) ∨ ∃ a b, x = V.bl a ∧ y = V.bl b ∧ Q (.bl (decide (a = b))) H) isP := by
  intro W σ Hs H x y u v w Q s rx ry e q
  cases ry with
  | non => exact .inl ⟨rfl, by cases rx <;> (cases e; exact q.here s (.bl _))⟩
  | bl b =>
    cases rx with
    | bl a => cases e; exact .inr ⟨_, _, rfl, rfl, q.here s (.bl _)⟩
    | _ => cases e
  | _ => cases rx <;> cases e
theorem ov_isnt : OpV X.K cl (fun x y H Q => (y = .non ∧ Q (.bl (!decide (x = .non))) H) ∨ ∃ a b, x = V.bl a ∧ y = V.bl b ∧ Q (.bl (!decide (a = b))) H) isntP := by
  intro W σ Hs H x y u v w Q s rx ry e q
  cases ry with
  | non => exact .inl ⟨rfl, by cases rx <;> (cases e; exact q.here s (.bl _))⟩
  | bl b =>
    cases rx with
    | bl a => cases e; exact .inr ⟨_, _, rfl, rfl, q.here s (.bl _)⟩
    | _ => cases e
  | _ => cases rx <;> cases e
theorem or_is : OpR X (compareOp .Is) (fun x y H Q => (y = .non ∧ Q (.bl (decide (x = .non))) H) ∨ ∃ a b, x = V.bl a ∧ y = V.bl b ∧ Q (.bl (decide (a = b))) H) := op_isN.or op_is_bl
theorem or_isnt : OpR X (compareOp .IsNot) (fun x y H Q => (y = .non ∧ Q (.bl (!decide (x = .non))) H) ∨ ∃ a b, x = V.bl a ∧ y = V.bl b ∧ Q (.bl (!decide (a = b))) H) := op_notN.or op_isnot_bl
theorem ov_lt : OpV X.K cl (fun x y H Q => ((rI0 fun i j => .bl (decide (i < j))) x y H Q ∨ (∃ i j, x = V.str i ∧ y = V.str j ∧ Q (.bl (decide (i.cps.toList < j.cps.toList))) H)) ∨ rLtT X.K x y H Q) ltP := by
  intro W σ Hs H x y u v w Q s rx ry e q
  cases rx with
  | int i =>
    cases ry with
    | int j => cases e; exact .inl (.inl ⟨_, _, rfl, rfl, q.here s (.bl _)⟩)
    | _ => cases e
  | str i =>
    cases ry with
    | str j => cases e; exact .inl (.inr ⟨_, _, rfl, rfl, q.here s (.bl _)⟩)
    | _ => cases e
  | @tup a vs xs h ra =>
    cases ry with
    | @tup b ws ys h' rb =>
      replace e : ((intsP xs).bind fun ns => (intsP ys).map fun ms => PV.bl (HT.lexLt ns ms)) = some w := e
      rw [Option.bind_eq_some_iff] at e
      obtain ⟨ns, e1, e⟩ := e
      rw [Option.map_eq_some_iff] at e
      obtain ⟨ms, e2, rfl⟩ := e
      have z1 := ra.ints e1
      have z2 := rb.ints e2
      subst z1 z2
      exact .inr ⟨_, _, _, _, rfl, rfl, s.seqT h, s.seqT h', q.here s (.bl _)⟩
    | _ => cases e
  | _ => cases e
theorem or_lt (hu : X.A.units < cLine) : OpR X (compareOp .Lt) (fun x y H Q => ((rI0 fun i j => .bl (decide (i < j))) x y H Q ∨ (∃ i j, x = V.str i ∧ y = V.str j ∧ Q (.bl (decide (i.cps.toList < j.cps.toList))) H)) ∨ rLtT X.K x y H Q) := (op_lt.or op_lt_str).or (op_ltT hu)
theorem ov_le : OpV X.K cl (fun x y H Q => (rI0 fun i j => .bl (decide (i ≤ j))) x y H Q ∨ (∃ i j, x = V.str i ∧ y = V.str j ∧ Q (.bl (!decide (j.cps.toList < i.cps.toList))) H)) leP := by
  intro W σ Hs H x y u v w Q s rx ry e q
  cases rx with
  | int i =>
    cases ry with
    | int j => cases e; exact .inl ⟨_, _, rfl, rfl, q.here s (.bl _)⟩
    | _ => cases e
  | str i =>
    cases ry with
    | str j => cases e; exact .inr ⟨_, _, rfl, rfl, q.here s (.bl _)⟩
    | _ => cases e
  | _ => cases e
theorem or_le : OpR X (compareOp .LtE) (fun x y H Q => (rI0 fun i j => .bl (decide (i ≤ j))) x y H Q ∨ (∃ i j, x = V.str i ∧ y = V.str j ∧ Q (.bl (!decide (j.cps.toList < i.cps.toList))) H)) := op_le.or op_le_str
theorem ov_gt : OpV X.K cl (rI0 fun i j => .bl (decide (j < i))) gtP := by
  intro W σ Hs H x y u v w Q s rx ry e q
  cases rx with
  | int i =>
    cases ry with
    | int j => cases e; exact ⟨_, _, rfl, rfl, q.here s (.bl _)⟩
    | _ => cases e
  | _ => cases e
theorem ov_ge : OpV X.K cl (rI0 fun i j => .bl (decide (j ≤ i))) geP := by
  intro W σ Hs H x y u v w Q s rx ry e q
  cases rx with
  | int i =>
    cases ry with
    | int j => cases e; exact ⟨_, _, rfl, rfl, q.here s (.bl _)⟩
    | _ => cases e
  | _ => cases e
def rInAll (K : PySem.W.Frag) : R2 := fun x y H Q => (rIn K false x y H Q ∨ rInD K x y H Q) ∨ (∃ (c : Nat) (z : Str), x = .str ⟨#[c]⟩ ∧ y = .str z ∧ Q (.bl (decide (c ∈ z.cps.toList))) H) ∨ ∃ i j, x = V.str i ∧ y = V.str j ∧ Q (.bl (!(Builtin.Str.occurrences j i 0 j.length 1).isEmpty)) H
def rNinAll (K : PySem.W.Frag) : R2 := fun x y H Q => (rIn K true x y H Q ∨ rNotInD K x y H Q) ∨ (∃ (c : Nat) (z : Str), x = .str ⟨#[c]⟩ ∧ y = .str z ∧ Q (.bl (!decide (c ∈ z.cps.toList))) H) ∨ ∃ i j, x = V.str i ∧ y = V.str j ∧ Q (.bl (!(!(Builtin.Str.occurrences j i 0 j.length 1).isEmpty))) H
theorem or_in (hu : X.A.units + 65 < cLine) : OpR X (compareOp .In) (rInAll X.K) := (op_in_seq.or (op_inD hu)).or (op_in_sign.or op_in_str)
theorem or_nin (hu : X.A.units + 65 < cLine) : OpR X (compareOp .NotIn) (rNinAll X.K) := (op_notIn_seq.or (op_notInD hu)).or (op_notIn_sign.or op_notin_str)
theorem one_sign {c : Str} (h : c.cps.size = 1) : c = ⟨#[c.cps.getD 0 0]⟩ := by
  obtain ⟨⟨l⟩⟩ := c
  match l, h with
  | [x], _ => rfl
theorem in_split {Hs H : Hp} {x y : V} {u v : PV} {b : Bool} (s : Sub Hs H) (rx : Rp X.K cl Hs x u) (ry : Rp X.K cl Hs y v) (e : inB u v = some b) :
    (∃ p xs, y = .ref p ∧ (SqL X.K H p xs ∨ SqT X.K H p xs) ∧ flatV x = true ∧ xs.all flatV = true ∧ inV x xs = b) ∨ (∃ d ds, Dp X.K H x d ∧ Dp X.K H y (.list ds) ∧ SeqAt.shaped d = true ∧ SeqAt.shaped (.list ds) = true ∧ (ds.any fun z => PyData.eqv z d) = b) ∨
      (∃ (c : Nat) (z : Str), x = .str ⟨#[c]⟩ ∧ y = .str z ∧ decide (c ∈ z.cps.toList) = b) ∨ ∃ i j, x = V.str i ∧ y = V.str j ∧ (!(Builtin.Str.occurrences j i 0 j.length 1).isEmpty) = b := by
  have deep : ∀ {a : Addr} {vs : List V} {xs : List PV}, SqL X.K H a vs → RpA X.K cl Hs vs xs → dataIn u xs = some b → ∃ d ds, Dp X.K H x d ∧ Dp X.K H (.ref a) (.list ds) ∧ SeqAt.shaped d = true ∧ SeqAt.shaped (.list ds) = true ∧ (ds.any fun z => PyData.eqv z d) = b := by
    intro a vs xs h ra h2
    unfold dataIn at h2
    split at h2
    · rename_i d ds e1 e2
      split at h2
      · rename_i hs
        cases h2
        exact ⟨d, ds, (rx.mono s).dp e1, .lst h ((ra.mono s).dp e2), hs.1, hs.2, rfl⟩
      · cases h2
    · cases h2
  cases ry with
  | @lst a vs xs h ra =>
    replace e : (if flatP u = true ∧ xs.all flatP = true then some (xs.any fun y => eqF y u) else dataIn u xs) = some b := e
    split at e
    · rename_i hf
      cases e
      exact .inl ⟨_, _, rfl, .inl (.of (s _ _ h)), rx.flat hf.1, ra.flat hf.2, RpA.any rx ra⟩
    · exact .inr (.inl (deep (.of (s _ _ h)) ra e))
  | @src a vs xs h ra =>
    replace e : (if flatP u = true ∧ xs.all flatP = true then some (xs.any fun y => eqF y u) else dataIn u xs) = some b := e
    split at e
    · rename_i hf
      cases e
      exact .inl ⟨_, _, rfl, .inl (s.seqL h), rx.flat hf.1, ra.flat hf.2, RpA.any rx ra⟩
    · exact .inr (.inl (deep (s.seqL h) ra e))
  | @tup a vs xs h ra =>
    replace e : (if flatP u = true ∧ xs.all flatP = true then some (xs.any fun y => eqF y u) else none) = some b := e
    split at e
    · rename_i hf
      cases e
      exact .inl ⟨_, _, rfl, .inr (s.seqT h), rx.flat hf.1, ra.flat hf.2, RpA.any rx ra⟩
    · cases e
  | str z =>
    cases rx with
    | str c =>
      replace e : (if c.cps.size = 1 then some (decide (c.cps.getD 0 0 ∈ z.cps.toList)) else some (!(Builtin.Str.occurrences z c 0 z.length 1).isEmpty)) = some b := e
      split at e
      · rename_i hc
        cases e
        exact .inr (.inr (.inl ⟨_, _, congrArg V.str (one_sign hc), rfl, rfl⟩))
      · cases e
        exact .inr (.inr (.inr ⟨_, _, rfl, rfl, rfl⟩))
    | _ => cases e
  | _ => cases e
theorem ov_in : OpV X.K cl (rInAll X.K) inP := by
  intro W σ Hs H x y u v w Q s rx ry e q
  unfold inP at e
  rw [Option.map_eq_some_iff] at e
  obtain ⟨b, e1, rfl⟩ := e
  have q := q.here s (.bl b)
  rcases in_split s rx ry e1 with ⟨p, xs, h1, h2, h3, h4, h5⟩ | ⟨d, ds, h1, h2, h3, h4, h5⟩ | ⟨c, z, h1, h2, h5⟩ | ⟨i, j, h1, h2, h5⟩
  · exact .inl (.inl ⟨p, xs, h1, h2, h3, h4, by rw [if_neg Bool.false_ne_true, h5]; exact q⟩)
  · exact .inl (.inr ⟨d, ds, h1, h2, h3, h4, by rw [h5]; exact q⟩)
  · exact .inr (.inl ⟨c, z, h1, h2, by rw [h5]; exact q⟩)
  · exact .inr (.inr ⟨i, j, h1, h2, by rw [h5]; exact q⟩)
theorem ov_nin : OpV X.K cl (rNinAll X.K) ninP := by
  intro W σ Hs H x y u v w Q s rx ry e q
  unfold ninP at e
  rw [Option.map_eq_some_iff] at e
  obtain ⟨b, e1, rfl⟩ := e
  have q := q.here s (.bl (!b))
  rcases in_split s rx ry e1 with ⟨p, xs, h1, h2, h3, h4, h5⟩ | ⟨d, ds, h1, h2, h3, h4, h5⟩ | ⟨c, z, h1, h2, h5⟩ | ⟨i, j, h1, h2, h5⟩
  · exact .inl (.inl ⟨p, xs, h1, h2, h3, h4, by rw [if_pos rfl, h5]; exact q⟩)
  · exact .inl (.inr ⟨d, ds, h1, h2, h3, h4, by rw [h5]; exact q⟩)
  · exact .inr (.inl ⟨c, z, h1, h2, by rw [h5]; exact q⟩)
  · exact .inr (.inr ⟨i, j, h1, h2, by rw [h5]; exact q⟩)
theorem ve_neg {W : WX} {a : Expr} {f : Ex} {pos : Pos} (ha : PE X a (tv X.K cl W f)) : PE X (.UnaryOp .USub a pos) (tv X.K cl W (e1 negP f)) :=
  peWeak (pe_un un_neg ha) fun σ H Q ⟨Hs, ρ, E, h⟩ => by
    refine gv_bind E h fun v x Hs1 H1 _ s1 rx h1 => ?_
    obtain ⟨w, e, q⟩ := h1.opt
    cases rx with
    | int i => cases e; exact ⟨i, rfl, q.here s1.sub (.int _)⟩
    | _ => cases e
end

/-! ### built-in functions -/
def lenP : List PV → Option PV
  | [.str y] => if y.length ≤ sizeLine then some (.int y.length) else none
  | [.lst xs] => some (.int xs.length)
  | [.src xs] => some (.int xs.length)
  | [.tup xs] => some (.int xs.length)
  | _ => none
def absP : List PV → Option PV
  | [.int i] => some (.int (if i < 0 then -i else i))
  | _ => none
def intP : List PV → Option PV
  | [.int i] => some (.int i)
  | [.bl b] => some (.int (if b then 1 else 0))
  | _ => none
def minL : List Int → Int
  | [] => 0
  | [x] => x
  | x :: r => min x (minL r)
def maxL : List Int → Int
  | [] => 0
  | [x] => x
  | x :: r => max x (maxL r)
theorem minL_ok : ∀ {ns : List Int}, ns ≠ [] → minL ns ∈ ns ∧ ∀ y ∈ ns, minL ns ≤ y
  | [], h => absurd rfl h
  | [x], _ => by simp [minL]
  | x :: y :: r, _ => by
    obtain ⟨h1, h2⟩ := minL_ok (ns := y :: r) (by simp)
    have e : minL (x :: y :: r) = min x (minL (y :: r)) := rfl
    rw [e]
    refine ⟨?_, fun z hz => ?_⟩
    · by_cases c : x ≤ minL (y :: r)
      · rw [Int.min_eq_left c]; exact List.mem_cons_self
      · rw [Int.min_eq_right (by omega)]; exact List.mem_cons_of_mem _ h1
    · rcases List.mem_cons.mp hz with rfl | hz
      · exact Int.min_le_left _ _
      · exact Int.le_trans (Int.min_le_right _ _) (h2 z hz)
theorem maxL_ok : ∀ {ns : List Int}, ns ≠ [] → maxL ns ∈ ns ∧ ∀ y ∈ ns, y ≤ maxL ns
  | [], h => absurd rfl h
  | [x], _ => by simp [maxL]
  | x :: y :: r, _ => by
    obtain ⟨h1, h2⟩ := maxL_ok (ns := y :: r) (by simp)
    have e : maxL (x :: y :: r) = max x (maxL (y :: r)) := rfl
    rw [e]
    refine ⟨?_, fun z hz => ?_⟩
    · by_cases c : maxL (y :: r) ≤ x
      · rw [Int.max_eq_left c]; exact List.mem_cons_self
      · rw [Int.max_eq_right (by omega)]; exact List.mem_cons_of_mem _ h1
    · rcases List.mem_cons.mp hz with rfl | hz
      · exact Int.le_max_left _ _
      · exact Int.le_trans (h2 z hz) (Int.le_max_right _ _)
def minP : List PV → Option PV
  | [.int i, .int j] => some (.int (if j < i then j else i))
  | [.lst xs] => (intsP xs).bind fun ns => if ns = [] then none else some (.int (minL ns))
  | _ => none
def maxP : List PV → Option PV
  | [.int i, .int j] => some (.int (if j > i then j else i))
  | [.lst xs] => (intsP xs).bind fun ns => if ns = [] then none else some (.int (maxL ns))
  | _ => none
def sumP : List PV → Option PV
  | [.lst xs] => (intsP xs).map fun ns => .int ns.sum
  | _ => none
def sortI (ns : List Int) : List Int := ns.mergeSort (fun a b => decide (a ≤ b))
theorem sortI_ok (ns : List Int) : (sortI ns).Perm ns ∧ (sortI ns).Pairwise (· ≤ ·) := by
  refine ⟨List.mergeSort_perm _ _, ?_⟩
  have h := List.pairwise_mergeSort (le := fun a b : Int => decide (a ≤ b)) (fun a b c h1 h2 => by simp at *; omega) (fun a b => by simp; omega) ns
  exact h.imp fun h => by simpa using h
def sortP : List PV → Option PV
  | [.lst xs] => (intsP xs).map fun ns => .lst ((sortI ns).map .int)
  | _ => none
def listP : List PV → Option PV
  | [.lst xs] => some (.lst xs)
  | [.src xs] => some (.lst xs)
  | [.tup xs] => some (.lst xs)
  | _ => none
def tupleP : List PV → Option PV
  | [.lst xs] => some (.tup xs)
  | [.tup xs] => some (.tup xs)
  | _ => none
def strP : List PV → Option PV
  | [.int i] => if -(2 ^ 1000) < i ∧ i < 2 ^ 1000 then some (.str (toString i)) else none
  | _ => none
def tyName : PV → Option String
  | .non => some "NoneType" | .bl _ => some "bool" | .int _ => some "int" | .str _ => some "str"
  | .tup _ => some "tuple" | .lst _ => some "list" | .src _ => some "list" | .dct _ => some "dict"
  | _ => none
/-- isinstance of built-in classes -/
def isaT (a b : String) : Option Bool :=
  if b = "int" ∨ b = "str" ∨ b = "tuple" ∨ b = "list" ∨ b = "bool" ∨ b = "dict" then
    some (decide (a = b) || (decide (a = "bool") && decide (b = "int")))
  else none
def isaP : List PV → Option PV
  | [x, .ty n] => (tyName x).bind fun t => (isaT t n).map .bl
  | _ => none
theorem isaT_ok {K : PySem.W.Frag} {x : PV} {t n : String} {b : Bool} (ht : tyName x = some t) (h : isaT t n = some b) : PySem.W.kitOne K (.type t) (.type n) = some b := by
  have ha : t = "NoneType" ∨ t = "bool" ∨ t = "int" ∨ t = "str" ∨ t = "tuple" ∨ t = "list" ∨ t = "dict" := by
    cases x <;> simp only [tyName, Option.some.injEq] at ht <;> first | (subst ht; simp) | cases ht
  refine kit_ty ?_
  unfold isaT at h
  split at h
  · rename_i hb
    cases h
    rcases ha with rfl | rfl | rfl | rfl | rfl | rfl | rfl <;> rcases hb with rfl | rfl | rfl | rfl | rfl | rfl <;> decide +kernel
  · cases h
section
variable {X : Cx} {cl : Nat → Addr}
theorem cv_len : CallV X.K cl (fun xs H Q => ∃ x n, xs = [x] ∧ LenV X.K x H n ∧ Q (.int n) H) lenP := by
  intro W σ Hs H xs us w Q s r e q
  cases r with
  | nil => cases e
  | cons r t =>
    cases t with
    | cons _ _ => cases r <;> cases e
    | nil =>
      cases r with
      | str z =>
        replace e : (if z.length ≤ sizeLine then some (PV.int z.length) else none) = some w := e
        split at e
        · cases e; exact ⟨_, _, rfl, ⟨by assumption, rfl⟩, q.here s (.int _)⟩
        · cases e
      | lst h ra => cases e; exact ⟨_, _, rfl, .inl ⟨_, .of (s _ _ h), rfl⟩, by rw [ra.length]; exact q.here s (.int _)⟩
      | src h ra => cases e; exact ⟨_, _, rfl, .inl ⟨_, s.seqL h, rfl⟩, by rw [ra.length]; exact q.here s (.int _)⟩
      | tup h ra => cases e; exact ⟨_, _, rfl, .inr ⟨_, s.seqT h, rfl⟩, by rw [ra.length]; exact q.here s (.int _)⟩
      | _ => cases e
theorem cv_abs : CallV X.K cl (fun xs H Q => ∃ i, xs = [V.int i] ∧ Q (.int (if i < 0 then -i else i)) H) absP := by
  intro W σ Hs H xs us w Q s r e q
  cases r with
  | nil => cases e
  | cons r t =>
    cases t with
    | cons _ _ => cases r <;> cases e
    | nil =>
      cases r with
      | int i => cases e; exact ⟨i, rfl, q.here s (.int _)⟩
      | _ => cases e
theorem cv_int : CallV X.K cl (fun xs H Q => (∃ i, xs = [V.int i] ∧ Q (.int i) H) ∨ ∃ k, xs = [V.bl k] ∧ Q (.int (if k then 1 else 0)) H) intP := by
  intro W σ Hs H xs us w Q s r e q
  cases r with
  | nil => cases e
  | cons r t =>
    cases t with
    | cons _ _ => cases r <;> cases e
    | nil =>
      cases r with
      | int i => cases e; exact .inl ⟨i, rfl, q.here s (.int _)⟩
      | bl i => cases e; exact .inr ⟨i, rfl, q.here s (.int _)⟩
      | _ => cases e
def rMin2 (K : PySem.W.Frag) : List V → Hp → VK → Prop := fun xs H Q => (∃ i j, xs = [V.int i, V.int j] ∧ Q (.int (if j < i then j else i)) H) ∨ rMin K xs H Q
def rMax2 (K : PySem.W.Frag) : List V → Hp → VK → Prop := fun xs H Q => (∃ i j, xs = [V.int i, V.int j] ∧ Q (.int (if j > i then j else i)) H) ∨ rMax K xs H Q
theorem cr_min2 (hc : X.calm = true) : CallR X (.builtin "min") (rMin2 X.K) := (call_min2 hc).or (cr_min hc)
theorem cr_max2 (hc : X.calm = true) : CallR X (.builtin "max") (rMax2 X.K) := (call_max2 hc).or (cr_max hc)
theorem cv_min : CallV X.K cl (rMin2 X.K) minP := by
  intro W σ Hs H xs us w Q s r e q
  cases r with
  | nil => cases e
  | cons r t =>
    cases t with
    | cons r2 t2 =>
      cases t2 with
      | cons _ _ => cases r <;> cases r2 <;> cases e
      | nil =>
        cases r with
        | int i =>
          cases r2 with
          | int j => cases e; exact .inl ⟨i, j, rfl, q.here s (.int _)⟩
          | _ => cases e
        | _ => cases r2 <;> cases e
    | nil =>
      cases r with
      | @lst a vs xs h ra =>
        replace e : ((intsP xs).bind fun ns => if ns = [] then none else some (PV.int (minL ns))) = some w := e
        rw [Option.bind_eq_some_iff] at e
        obtain ⟨ns, e1, e⟩ := e
        split at e
        · cases e
        · rename_i hn
          cases e
          have z := ra.ints e1
          subst z
          obtain ⟨m1, m2⟩ := minL_ok hn
          refine .inr ⟨_, ns, rfl, .of (s _ _ h), List.length_pos_iff.mpr hn, fun m h1 h2 => ?_⟩
          have em : m = minL ns := Int.le_antisymm (h2 _ m1) (m2 _ h1)
          rw [em]
          exact q.here s (.int _)
      | _ => cases e
theorem cv_max : CallV X.K cl (rMax2 X.K) maxP := by
  intro W σ Hs H xs us w Q s r e q
  cases r with
  | nil => cases e
  | cons r t =>
    cases t with
    | cons r2 t2 =>
      cases t2 with
      | cons _ _ => cases r <;> cases r2 <;> cases e
      | nil =>
        cases r with
        | int i =>
          cases r2 with
          | int j => cases e; exact .inl ⟨i, j, rfl, q.here s (.int _)⟩
          | _ => cases e
        | _ => cases r2 <;> cases e
    | nil =>
      cases r with
      | @lst a vs xs h ra =>
        replace e : ((intsP xs).bind fun ns => if ns = [] then none else some (PV.int (maxL ns))) = some w := e
        rw [Option.bind_eq_some_iff] at e
        obtain ⟨ns, e1, e⟩ := e
        split at e
        · cases e
        · rename_i hn
          cases e
          have z := ra.ints e1
          subst z
          obtain ⟨m1, m2⟩ := maxL_ok hn
          refine .inr ⟨_, ns, rfl, .of (s _ _ h), List.length_pos_iff.mpr hn, fun m h1 h2 => ?_⟩
          have em : m = maxL ns := Int.le_antisymm (m2 _ h1) (h2 _ m1)
          rw [em]
          exact q.here s (.int _)
      | _ => cases e
theorem cv_sum : CallV X.K cl (rSum X.K) sumP := by
  intro W σ Hs H xs us w Q s r e q
  cases r with
  | nil => cases e
  | cons r t =>
    cases t with
    | cons _ _ => cases r <;> cases e
    | nil =>
      cases r with
      | @lst a vs xs h ra =>
        replace e : ((intsP xs).map fun ns => PV.int ns.sum) = some w := e
        rw [Option.map_eq_some_iff] at e
        obtain ⟨ns, e1, rfl⟩ := e
        have z := ra.ints e1
        subst z
        exact ⟨_, ns, rfl, .of (s _ _ h), q.here s (.int _)⟩
      | _ => cases e
theorem rpa_ints {K : PySem.W.Frag} {H : Hp} : ∀ ns : List Int, RpA K cl H (ns.map V.int) (ns.map PV.int)
  | [] => .nil
  | n :: r => .cons (.int n) (rpa_ints r)
theorem cv_sort : CallV X.K cl (rSortedI X.K) sortP := by
  intro W σ Hs H xs us w Q s r e q
  cases r with
  | nil => cases e
  | cons r t =>
    cases t with
    | cons _ _ => cases r <;> cases e
    | nil =>
      cases r with
      | @lst a vs xs h ra =>
        replace e : ((intsP xs).map fun ns => PV.lst ((sortI ns).map .int)) = some w := e
        rw [Option.map_eq_some_iff] at e
        obtain ⟨ns, e1, rfl⟩ := e
        have z := ra.ints e1
        subst z
        refine ⟨_, ns, rfl, .of (s _ _ h), fun ns' p h1 h2 n => ?_⟩
        obtain ⟨g1, g2⟩ := sortI_ok ns
        have ee : ns' = sortI ns := PySem.W.ksm_same (h1.trans g1.symm) h2 g2
        rw [ee]
        exact new_lst q s n (rpa_ints _)
      | _ => cases e
theorem cv_list : CallV X.K cl (fun xs H Q => ∃ p ys, xs = [V.ref p] ∧ (SqL X.K H p ys ∨ SqT X.K H p ys) ∧ ∀ l, H l = none → Q (.ref l) (upd H l (.lst ys))) listP := by
  intro W σ Hs H xs us w Q s r e q
  cases r with
  | nil => cases e
  | cons r t =>
    cases t with
    | cons _ _ => cases r <;> cases e
    | nil =>
      cases r with
      | lst h ra => cases e; exact ⟨_, _, rfl, .inl (.of (s _ _ h)), fun l n => new_lst q s n ra⟩
      | src h ra => cases e; exact ⟨_, _, rfl, .inl (s.seqL h), fun l n => new_lst q s n ra⟩
      | tup h ra => cases e; exact ⟨_, _, rfl, .inr (s.seqT h), fun l n => new_lst q s n ra⟩
      | _ => cases e
theorem cv_tuple : CallV X.K cl (fun xs H Q => ∃ p ys, xs = [V.ref p] ∧ ((SqL X.K H p ys ∧ ∀ l, H l = none → Q (.ref l) (upd H l (.tup ys))) ∨ (SqT X.K H p ys ∧ Q (.ref p) H))) tupleP := by
  intro W σ Hs H xs us w Q s r e q
  cases r with
  | nil => cases e
  | cons r t =>
    cases t with
    | cons _ _ => cases r <;> cases e
    | nil =>
      cases r with
      | lst h ra => cases e; exact ⟨_, _, rfl, .inl ⟨.of (s _ _ h), fun l n => new_tup q s n ra⟩⟩
      | tup h ra => cases e; exact ⟨_, _, rfl, .inr ⟨s.seqT h, q.here s (.tup h ra)⟩⟩
      | _ => cases e
theorem cv_str : CallV X.K cl (fun xs H Q => ∃ i, xs = [V.int i] ∧ i.natAbs.log2 < 1920 ∧ Q (.str (toString i)) H) strP := by
  intro W σ Hs H xs us w Q s r e q
  cases r with
  | nil => cases e
  | cons r t =>
    cases t with
    | cons _ _ => cases r <;> cases e
    | nil =>
      cases r with
      | int i =>
        replace e : (if -(2 ^ 1000) < i ∧ i < 2 ^ 1000 then some (PV.str (toString i)) else none) = some w := e
        split at e
        · rename_i hk
          cases e
          refine ⟨i, rfl, Nat.lt_of_lt_of_le (PySem.Flt.log2_lt_of (k := 1000) (by decide) ?_) (by decide), q.here s (.str _)⟩
          have h1 : (i.natAbs : Int) < ((2 ^ 1000 : Nat) : Int) := by
            rw [Int.natCast_pow]
            have h2 : ((2 : Nat) : Int) ^ 1000 = 2 ^ 1000 := rfl
            rw [h2]
            generalize (2 : Int) ^ 1000 = z at hk
            omega
          exact Int.ofNat_lt.mp h1
        · cases e
      | _ => cases e
theorem tyX_of {Hs H : Hp} {x : V} {u : PV} {t : String} (s : Sub Hs H) (r : Rp X.K cl Hs x u) (e : tyName u = some t) : TyX X.K H x (.type t) := by
  cases r with
  | non => cases e; exact .base .non
  | bl b => cases e; exact .base (.bl b)
  | int b => cases e; exact .base (.int b)
  | str b => cases e; exact .base (.str b)
  | tup h ra =>
    cases e
    rcases s.seqT h with (h | ⟨o, h⟩) | ⟨o, its, n, h1, h2, _⟩
    · exact .base (.tup h)
    · exact .fTuple h
    · exact .kTuple h1 h2
  | lst h ra => cases e; exact .base (.lst (s _ _ h))
  | src h ra =>
    cases e
    rcases s.seqL h with (h | ⟨o, h⟩) | ⟨o, its, n, h1, h2, _⟩
    · exact .base (.lst h)
    · exact .base (.frz h)
    · exact .kList h1 h2
  | dct h ra => cases e; exact .base (.dK (s _ _ h))
  | dlk h ra => cases e
  | obj h ra => cases e
  | ty n => cases e
theorem cv_isa : CallV X.K cl (rIsi X.K) isaP := by
  intro W σ Hs H xs us w Q s r e q
  cases r with
  | nil => cases e
  | @cons _ _ u _ r t =>
    cases t with
    | nil => cases e
    | cons r2 t2 =>
      cases t2 with
      | cons _ _ => cases r2 <;> cases e
      | nil =>
        cases r2 with
        | ty n =>
          replace e : ((tyName u).bind fun t => (isaT t n).map PV.bl) = some w := e
          rw [Option.bind_eq_some_iff] at e
          obtain ⟨t, e1, e⟩ := e
          rw [Option.map_eq_some_iff] at e
          obtain ⟨b, e2, rfl⟩ := e
          exact ⟨_, _, _, _, b, rfl, .ty n, tyX_of s r e1, isaT_ok e1 e2, q.here s (.bl b)⟩
        | _ => cases e
theorem ve_ty {W : WX} {x : Str} {n : String} {pos : Pos} (hm : X.mg x = none) (hv : bootBuiltins x = some (.type n)) (hg : Gl X x := by rfl) (hn : x ≠ "__name__" := by decide) (hd : (x == ("__debug__" : Str)) = false := by decide) : PE X (.Name x pos) (tv X.K cl W (eC (.ty n))) :=
  ve_c (pe_bltn (v := .ty n) hg hm hv rfl hn hd) fun _ => .ty n
end
end VL
namespace VL
open PySem PySem.Spec PyProof.Rows L2
/-! ### a def's slots: nothing, a value that stays as it is, a list of the def's own, another thing of its own (a dict, an object), maybe the one that was passed to be changed -/
inductive Sl where
  | no | fz (v : PV) | own (xs : List PV) | om (t : Option Nat) (v : PV)
abbrev Env := List Sl
inductive Out where
  | next (ρ : Env) | brk (ρ : Env) | cont (ρ : Env) | ret (v : PV) | exc (c : Nat) (fs : List (Str × PV)) (ρ : Env) | stuck
/-- what a slot owns -/
def ownv : Sl → Option (Option Nat × PV)
  | .own xs => some (none, .lst xs)
  | .om t v => some (t, v)
  | _ => none
def ownAt (ρ : Env) (i : Nat) : Option (Option Nat × PV) := (ρ[i]?).bind ownv
theorem ownAt_own {ρ : Env} {i : Nat} {xs : List PV} (h : ρ[i]? = some (.own xs)) : ownAt ρ i = some (none, .lst xs) := by unfold ownAt; rw [h]; rfl
theorem ownAt_om {ρ : Env} {i : Nat} {t : Option Nat} {v : PV} (h : ρ[i]? = some (.om t v)) : ownAt ρ i = some (t, v) := by unfold ownAt; rw [h]; rfl
/-- what an expression sees that names the slots of bs -/
def vw : List Bool → Env → Ev
  | _, [] => []
  | bs, .no :: ρ => none :: vw bs.tail ρ
  | bs, .fz v :: ρ => some v :: vw bs.tail ρ
  | bs, .own xs :: ρ => (if bs.headD false = true then some (.lst xs) else none) :: vw bs.tail ρ
  | bs, .om _ v :: ρ => (if bs.headD false = true then some v else none) :: vw bs.tail ρ
/-- the own things among bs stay as they are from now on -/
def fr : List Bool → Env → Env
  | _, [] => []
  | bs, .no :: ρ => .no :: fr bs.tail ρ
  | bs, .fz v :: ρ => .fz v :: fr bs.tail ρ
  | bs, .own xs :: ρ => (if bs.headD false = true then .fz (.lst xs) else .own xs) :: fr bs.tail ρ
  | bs, .om t v :: ρ => (if bs.headD false = true then .fz v else .om t v) :: fr bs.tail ρ
mutual
/-- no list within -/
def PV.nol : PV → Bool
  | .non => true | .bl _ => true | .int _ => true | .str _ => true | .ty _ => true
  | .tup xs => PV.nols xs
  | .lst _ => false | .src _ => false | .dct _ => false | .dlk _ => false | .obj _ _ => false
def PV.nols : List PV → Bool
  | [] => true
  | x :: xs => PV.nol x && PV.nols xs
end
def settle (bs : List Bool) (b : Bool) (ρ : Env) : Env := if b = true then ρ else fr bs ρ

/-- the heap bears the own thing at a; Hs bears what it leans on -/
def OwnAt (K : PySem.W.Frag) (cl : Nat → Addr) (H Hs : Hp) (a : Addr) : PV → Prop
  | .lst xs => ∃ vs, H a = some (.lst vs) ∧ RpA K cl Hs vs xs
  | .dct xs => ∃ vs, H a = some (.dK vs) ∧ RpK K cl Hs vs xs
  | .obj c fs => ∃ dx vs, H a = some (.ins (cl c) dx vs) ∧ RpF K cl Hs vs fs
  | _ => False
section
variable {K : PySem.W.Frag} {cl : Nat → Addr} {H H' Hs Hs' : Hp} {a : Addr} {v : PV}
theorem OwnAt.mono (h : OwnAt K cl H Hs a v) (s : Sub Hs Hs') (e : H' a = H a) : OwnAt K cl H' Hs' a v := by
  cases v with
  | lst xs => obtain ⟨vs, e1, r⟩ := h; exact ⟨vs, by rw [e, e1], r.mono s⟩
  | dct xs => obtain ⟨vs, e1, r⟩ := h; exact ⟨vs, by rw [e, e1], r.mono s⟩
  | obj c xs => obtain ⟨dx, vs, e1, r⟩ := h; exact ⟨dx, vs, by rw [e, e1], r.mono s⟩
  | _ => exact h.elim
/-- what an own thing is -/
def Ownk (o : HO) : Prop := (∃ vs, o = .lst vs) ∨ (∃ vs, o = .dK vs) ∨ ∃ C dx vs, o = .ins C dx vs
theorem OwnAt.some (h : OwnAt K cl H Hs a v) : ∃ o, H a = some o ∧ Ownk o := by
  cases v with
  | lst xs => obtain ⟨vs, e1, r⟩ := h; exact ⟨_, e1, .inl ⟨vs, rfl⟩⟩
  | dct xs => obtain ⟨vs, e1, r⟩ := h; exact ⟨_, e1, .inr (.inl ⟨vs, rfl⟩)⟩
  | obj c xs => obtain ⟨dx, vs, e1, r⟩ := h; exact ⟨_, e1, .inr (.inr ⟨_, dx, vs, rfl⟩)⟩
  | _ => exact h.elim
/-- the thing, if it stays -/
theorem OwnAt.rp (h : OwnAt K cl H Hs a v) (s : Sub Hs Hs') (e : Hs' a = H a) : Rp K cl Hs' (.ref a) v := by
  cases v with
  | lst xs => obtain ⟨vs, e1, r⟩ := h; exact .lst (by rw [e, e1]) (r.mono s)
  | dct xs => obtain ⟨vs, e1, r⟩ := h; exact .dct (by rw [e, e1]) (r.mono s)
  | obj c xs => obtain ⟨dx, vs, e1, r⟩ := h; exact .obj (by rw [e, e1]) (r.mono s)
  | _ => exact h.elim
end
section
variable (K : PySem.W.Frag) (cl : Nat → Addr) (He H0 : Hp) (pin : List Addr)
structure SEnv (Hs H : Hp) (σ : St) (ρ : Env) : Prop where
  ext : Ext He H0 Hs H
  len : σ.length = ρ.length
  fz : ∀ (i : Nat) (v : PV), ρ[i]? = some (.fz v) → ∃ x, σ[i]? = some (some x) ∧ Rp K cl Hs x v
  ow : ∀ (i : Nat) (t : Option Nat) (v : PV), ownAt ρ i = some (t, v) → ∃ a, σ[i]? = some (some (.ref a)) ∧ OwnAt K cl H Hs a v ∧ Hs a = none ∧ H0 a = none ∧ ∀ k, t = some k → pin[k]? = some a
  ij : ∀ (i j : Nat) (p q : Option Nat × PV) (a : Addr), ownAt ρ i = some p → ownAt ρ j = some q → σ[i]? = some (some (.ref a)) → σ[j]? = some (some (.ref a)) → i = j
variable (W : WX)
/-- how a returned value is told: by itself; with what became of the thing that was passed to be changed -/
def JR (pin : List Addr) (Hs H : Hp) (x : V) (p : PV) : Prop := match pin with
  | [] => Rp K cl Hs x p
  | [a] => ∃ v s, p = .tup [v, s] ∧ Rp K cl Hs x v ∧ OwnAt K cl H Hs a s ∧ Hs a = none
  | _ => False
def Post (Hs : Hp) (D : Ends) : Out → Prop
  | .next ρ => ∀ σ Hs' H', Sub Hs Hs' → SEnv K cl He H0 pin Hs' H' σ ρ → D.nx σ H'
  | .brk ρ => ∀ σ Hs' H', Sub Hs Hs' → SEnv K cl He H0 pin Hs' H' σ ρ → D.bk σ H'
  | .cont ρ => ∀ σ Hs' H', Sub Hs Hs' → SEnv K cl He H0 pin Hs' H' σ ρ → D.ct σ H'
  | .ret v => ∀ x Hs' H', Ext He H0 Hs' H' → JR K cl pin Hs' H' x v → D.rt x H'
  | .exc c fs ρ => ∀ σ Hs' H' d fvs, Sub Hs Hs' → SEnv K cl He H0 pin Hs' H' σ ρ → Hs' d = some (.xd fvs) → RpF K cl Hs' fvs fs → W (.ref (cl c)) (some d) σ H'
  | .stuck => False
def ts (s : Env → Out) : TS := fun D σ H => ∃ Hs ρ, SEnv K cl He H0 pin Hs H σ ρ ∧ Post K cl He H0 pin W Hs D (s ρ)
end

section
variable {K : PySem.W.Frag} {cl : Nat → Addr} {He H0 : Hp} {pin : List Addr} {W : WX} {Hs Hs1 H H1 : Hp} {σ : St} {ρ : Env} {D : Ends} {o : Out}
theorem Post.up (h : Post K cl He H0 pin W Hs D o) (s : Sub Hs Hs1) : Post K cl He H0 pin W Hs1 D o := by
  cases o with
  | next ρ => exact fun σ Hs' H' t => h σ Hs' H' (s.trans t)
  | brk ρ => exact fun σ Hs' H' t => h σ Hs' H' (s.trans t)
  | cont ρ => exact fun σ Hs' H' t => h σ Hs' H' (s.trans t)
  | ret v => exact h
  | exc c fs ρ => exact fun σ Hs' H' d fvs t => h σ Hs' H' d fvs (s.trans t)
  | stuck => exact h
theorem SEnv.sub (S : SEnv K cl He H0 pin Hs H σ ρ) : Sub Hs H := S.ext.sub

/-! the slots that are seen -/
def vwS (b : Bool) : Sl → Option PV
  | .no => none
  | .fz v => some v
  | .own xs => if b = true then some (.lst xs) else none
  | .om _ v => if b = true then some v else none
def frS (b : Bool) : Sl → Sl
  | .own xs => if b = true then .fz (.lst xs) else .own xs
  | .om t v => if b = true then .fz v else .om t v
  | s => s
theorem vw_get : ∀ {bs : List Bool} {ρ : Env} {i : Nat}, (vw bs ρ)[i]? = (ρ[i]?).map (vwS (bs.getD i false))
  | _, [], _ => by simp [vw]
  | bs, s :: ρ, 0 => by cases bs <;> cases s <;> simp [vw, vwS]
  | bs, s :: ρ, i + 1 => by
    have := vw_get (bs := bs.tail) (ρ := ρ) (i := i)
    cases bs <;> cases s <;> simpa [vw] using this
theorem fr_get : ∀ {bs : List Bool} {ρ : Env} {i : Nat}, (fr bs ρ)[i]? = (ρ[i]?).map (frS (bs.getD i false))
  | _, [], _ => by simp [fr]
  | bs, s :: ρ, 0 => by cases bs <;> cases s <;> simp [fr, frS]
  | bs, s :: ρ, i + 1 => by
    have := fr_get (bs := bs.tail) (ρ := ρ) (i := i)
    cases bs <;> cases s <;> simpa [fr] using this
theorem getD_true {bs : List Bool} {i : Nat} (h : bs.getD i false = true) : bs[i]? = some true := by
  rw [List.getD_eq_getElem?_getD] at h
  cases e : bs[i]? with
  | none => rw [e] at h; cases h
  | some b => rw [e] at h; rw [show b = true from h]
theorem getD_not {bs : List Bool} {i : Nat} (h : ¬ bs.getD i false = true) : bs[i]? ≠ some true := by
  rw [List.getD_eq_getElem?_getD] at h
  intro e
  rw [e] at h
  exact h rfl
theorem vw_fz {bs : List Bool} {ρ : Env} {i : Nat} {v : PV} (h : (vw bs ρ)[i]? = some (some v)) : ρ[i]? = some (.fz v) ∨ ∃ t, ownAt ρ i = some (t, v) ∧ bs[i]? = some true := by
  rw [vw_get] at h
  cases e : ρ[i]? with
  | none => rw [e] at h; cases h
  | some s =>
    rw [e] at h
    simp only [Option.map_some, Option.some.injEq] at h
    cases s with
    | no => cases h
    | fz u => cases h; exact .inl rfl
    | own xs =>
      simp only [vwS] at h
      split at h
      · cases h; exact .inr ⟨none, ownAt_own e, getD_true (by assumption)⟩
      · cases h
    | om t u =>
      simp only [vwS] at h
      split at h
      · cases h; exact .inr ⟨t, ownAt_om e, getD_true (by assumption)⟩
      · cases h
theorem vw_len : ∀ (bs : List Bool) (ρ : Env), (vw bs ρ).length = ρ.length
  | _, [] => rfl
  | bs, .no :: ρ => by simp [vw, vw_len]
  | bs, .fz v :: ρ => by simp [vw, vw_len]
  | bs, .own v :: ρ => by simp [vw, vw_len]
  | bs, .om _ v :: ρ => by simp [vw, vw_len]
theorem fr_len : ∀ (bs : List Bool) (ρ : Env), (fr bs ρ).length = ρ.length
  | _, [] => rfl
  | bs, .no :: ρ => by simp [fr, fr_len]
  | bs, .fz v :: ρ => by simp [fr, fr_len]
  | bs, .own v :: ρ => by simp [fr, fr_len]
  | bs, .om _ v :: ρ => by simp [fr, fr_len]
theorem fr_own {bs : List Bool} {ρ : Env} {i : Nat} {p : Option Nat × PV} (h : ownAt (fr bs ρ) i = some p) : ownAt ρ i = some p ∧ bs[i]? ≠ some true := by
  unfold ownAt at h ⊢
  rw [fr_get] at h
  cases e : ρ[i]? with
  | none => rw [e] at h; cases h
  | some s =>
    rw [e] at h
    simp only [Option.map_some, Option.bind_some] at h ⊢
    cases s with
    | no => cases h
    | fz u => cases h
    | own xs =>
      simp only [frS] at h
      split at h
      · cases h
      · exact ⟨h, getD_not (by assumption)⟩
    | om t u =>
      simp only [frS] at h
      split at h
      · cases h
      · exact ⟨h, getD_not (by assumption)⟩
theorem fr_fz {bs : List Bool} {ρ : Env} {i : Nat} {v : PV} (h : (fr bs ρ)[i]? = some (.fz v)) : ρ[i]? = some (.fz v) ∨ ∃ t, ownAt ρ i = some (t, v) ∧ bs[i]? = some true := by
  rw [fr_get] at h
  cases e : ρ[i]? with
  | none => rw [e] at h; cases h
  | some s =>
    rw [e] at h
    simp only [Option.map_some, Option.some.injEq] at h
    cases s with
    | no => cases h
    | fz u => cases h; exact .inl rfl
    | own xs =>
      simp only [frS] at h
      split at h
      · cases h; exact .inr ⟨none, ownAt_own e, getD_true (by assumption)⟩
      · cases h
    | om t u =>
      simp only [frS] at h
      split at h
      · cases h; exact .inr ⟨t, ownAt_om e, getD_true (by assumption)⟩
      · cases h
/-- what an own list asks -/
theorem SEnv.own (S : SEnv K cl He H0 pin Hs H σ ρ) (i : Nat) (xs : List PV) (h : ρ[i]? = some (.own xs)) : ∃ a vs, σ[i]? = some (some (.ref a)) ∧ H a = some (.lst vs) ∧ RpA K cl Hs vs xs ∧ Hs a = none ∧ H0 a = none := by
  obtain ⟨a, e1, ⟨vs, e2, r⟩, e3, e4, _⟩ := S.ow i none (.lst xs) (ownAt_own h)
  exact ⟨a, vs, e1, e2, r, e3, e4⟩
theorem SEnv.inj (S : SEnv K cl He H0 pin Hs H σ ρ) (i j : Nat) (xs ys : List PV) (a : Addr) (h1 : ρ[i]? = some (.own xs)) (h2 : ρ[j]? = some (.own ys)) (g1 : σ[i]? = some (some (.ref a))) (g2 : σ[j]? = some (some (.ref a))) : i = j :=
  S.ij i j _ _ a (ownAt_own h1) (ownAt_own h2) g1 g2
theorem SEnv.up (S : SEnv K cl He H0 pin Hs H σ ρ) (x : Ext Hs H Hs1 H1) : SEnv K cl He H0 pin Hs1 H1 σ ρ :=
  ⟨S.ext.trans x, S.len, fun j v' e => let ⟨q, a1, a2⟩ := S.fz j v' e; ⟨q, a1, a2.mono x.fs⟩, fun j t v e => by
    obtain ⟨a, e1, o, e3, e4, e5⟩ := S.ow j t v e
    obtain ⟨w, hw, _⟩ := o.some
    exact ⟨a, e1, o.mono x.fs (by rw [hw]; exact x.same _ _ hw), x.nw a (by rw [hw]; simp) e3, e4, e5⟩, S.ij⟩

/-! the own things that are seen stand as if they stayed -/
def isOwn (bs : List Bool) (ρ : Env) (σ : St) (a : Addr) : Prop := ∃ (i : Nat) (p : Option Nat × PV), bs[i]? = some true ∧ ownAt ρ i = some p ∧ σ[i]? = some (some (V.ref a))
open Classical in
noncomputable def plus (P : Addr → Prop) (Hs H : Hp) : Hp := fun a => if P a then H a else Hs a
open Classical in
noncomputable def cut (P : Addr → Prop) (Hs : Hp) : Hp := fun a => if P a then none else Hs a
theorem plus_yes {P : Addr → Prop} {a : Addr} (h : P a) : plus P Hs H a = H a := if_pos h
theorem plus_no {P : Addr → Prop} {a : Addr} (h : ¬ P a) : plus P Hs H a = Hs a := if_neg h
theorem cut_yes {P : Addr → Prop} {a : Addr} (h : P a) : cut P Hs a = none := if_pos h
theorem cut_no {P : Addr → Prop} {a : Addr} (h : ¬ P a) : cut P Hs a = Hs a := if_neg h
theorem SEnv.ownAt (S : SEnv K cl He H0 pin Hs H σ ρ) {bs : List Bool} {a : Addr} (h : isOwn bs ρ σ a) : (∃ o, H a = some o ∧ Ownk o) ∧ Hs a = none ∧ H0 a = none := by
  obtain ⟨i, ⟨t, v⟩, _, h1, h2⟩ := h
  obtain ⟨b, e1, o, e3, e4, _⟩ := S.ow i t v h1
  rw [h2] at e1
  cases e1
  exact ⟨o.some, e3, e4⟩
theorem SEnv.plusExt (S : SEnv K cl He H0 pin Hs H σ ρ) (bs : List Bool) : Sub Hs (plus (isOwn bs ρ σ) Hs H) ∧ Sub (plus (isOwn bs ρ σ) Hs H) H ∧ ∀ a, H0 a ≠ none → He a = none → plus (isOwn bs ρ σ) Hs H a = none := by
  refine ⟨fun a o h => ?_, fun a o h => ?_, fun a h n => ?_⟩
  · by_cases p : isOwn bs ρ σ a
    · rw [(S.ownAt p).2.1] at h; cases h
    · rw [plus_no p]; exact h
  · by_cases p : isOwn bs ρ σ a
    · rw [plus_yes p] at h; exact h
    · rw [plus_no p] at h; exact S.sub a o h
  · by_cases p : isOwn bs ρ σ a
    · exact absurd (S.ownAt p).2.2 h
    · rw [plus_no p]; exact S.ext.nw a h n
theorem SEnv.pe (S : SEnv K cl He H0 pin Hs H σ ρ) (bs : List Bool) : PEnv K cl (plus (isOwn bs ρ σ) Hs H) H σ (vw bs ρ) := by
  obtain ⟨s1, s2, _⟩ := S.plusExt bs
  refine ⟨s2, by rw [vw_len, S.len], fun i v h => ?_⟩
  rcases vw_fz h with e | ⟨t, e1, e2⟩
  · obtain ⟨x, e3, r⟩ := S.fz i v e
    exact ⟨x, e3, r.mono s1⟩
  · obtain ⟨a, e3, o, _, _, _⟩ := S.ow i t v e1
    exact ⟨.ref a, e3, o.rp s1 (plus_yes ⟨i, _, e2, e1, e3⟩)⟩
/-- behind an expression: what was seen stays -/
theorem SEnv.froze (S : SEnv K cl He H0 pin Hs H σ ρ) {bs : List Bool} (x : Ext (plus (isOwn bs ρ σ) Hs H) H Hs1 H1) : SEnv K cl He H0 pin Hs1 H1 σ (fr bs ρ) := by
  obtain ⟨s1, s2, s3⟩ := S.plusExt bs
  refine ⟨Ext.trans ⟨S.ext.fs.trans s1, s2, S.ext.same, s3⟩ x, by rw [fr_len]; exact S.len, fun i v h => ?_, fun i t v h => ?_, fun i j p q a h1 h2 => S.ij i j p q a (fr_own h1).1 (fr_own h2).1⟩
  · rcases fr_fz h with e | ⟨t, e1, e2⟩
    · obtain ⟨y, e3, r⟩ := S.fz i v e
      exact ⟨y, e3, (r.mono s1).mono x.fs⟩
    · obtain ⟨a, e3, o, _, _, _⟩ := S.ow i t v e1
      exact ⟨.ref a, e3, (o.rp s1 (plus_yes ⟨i, _, e2, e1, e3⟩)).mono x.fs⟩
  · obtain ⟨h1, h2⟩ := fr_own h
    obtain ⟨a, e3, o, e5, e6, e7⟩ := S.ow i t v h1
    obtain ⟨w, hw, _⟩ := o.some
    refine ⟨a, e3, o.mono (s1.trans x.fs) (by rw [hw]; exact x.same _ _ hw), x.nw a (by rw [hw]; simp) ?_, e6, e7⟩
    rw [plus_no]
    · exact e5
    · rintro ⟨j, q, g1, g2, g3⟩
      have := S.ij j i q _ a g2 h1 g3 e3
      subst this
      exact h2 g1
/-- .. or is the def's own again -/
theorem SEnv.back (S : SEnv K cl He H0 pin Hs H σ ρ) {bs : List Bool} (x : Ext (plus (isOwn bs ρ σ) Hs H) H Hs1 H1) : SEnv K cl He H0 pin (cut (isOwn bs ρ σ) Hs1) H1 σ ρ ∧ Sub Hs (cut (isOwn bs ρ σ) Hs1) := by
  obtain ⟨s1, s2, s3⟩ := S.plusExt bs
  have up : Sub Hs (cut (isOwn bs ρ σ) Hs1) := fun a o h => by
    rw [cut_no]
    · exact x.fs _ _ (s1 a o h)
    · intro p
      rw [(S.ownAt p).2.1] at h; cases h
  refine ⟨⟨⟨S.ext.fs.trans up, fun a o h => ?_, S.ext.same.trans x.same, fun a h n => ?_⟩, S.len, fun i v h => ?_, fun i t v h => ?_, S.ij⟩, up⟩
  · by_cases p : isOwn bs ρ σ a
    · rw [cut_yes p] at h; cases h
    · rw [cut_no p] at h; exact x.sub a o h
  · by_cases p : isOwn bs ρ σ a
    · exact cut_yes p
    · rw [cut_no p]
      refine x.nw a (fun z => ?_) (s3 a h n)
      cases q : H0 a with
      | none => exact h q
      | some o => rw [S.ext.same a o q] at z; cases z
  · obtain ⟨y, e3, r⟩ := S.fz i v h
    exact ⟨y, e3, r.mono up⟩
  · obtain ⟨a, e3, o, e5, e6, e7⟩ := S.ow i t v h
    obtain ⟨w, hw, _⟩ := o.some
    refine ⟨a, e3, o.mono up (by rw [hw]; exact x.same _ _ hw), ?_, e6, e7⟩
    by_cases p : isOwn bs ρ σ a
    · exact cut_yes p
    · rw [cut_no p]
      exact x.nw a (by rw [hw]; simp) (by rw [plus_no p]; exact e5)
/-- a value without a list leans on no own thing -/
structure NoL (P : Addr → Prop) (Hs : Hp) : Prop where
  l : ∀ a, P a → ∃ o, Hs a = some o ∧ Ownk o
theorem NoL.tup {P : Addr → Prop} (n : NoL P Hs) {a : Addr} {vs : List V} (h : SqT K Hs a vs) : SqT K (cut P Hs) a vs := by
  rcases h with (h | ⟨o, h⟩) | h
  · refine .inl (.inl ?_)
    rw [cut_no]
    · exact h
    · intro p
      obtain ⟨o, e, k⟩ := n.l a p
      rw [h] at e; cases e
      rcases k with ⟨_, k⟩ | ⟨_, k⟩ | ⟨_, _, _, k⟩ <;> cases k
  · refine .inl (.inr ⟨o, ?_⟩)
    rw [cut_no]
    · exact h
    · intro p
      obtain ⟨o, e, k⟩ := n.l a p
      rw [h] at e; cases e
      rcases k with ⟨_, k⟩ | ⟨_, k⟩ | ⟨_, _, _, k⟩ <;> cases k
  · exact .inr h
mutual
theorem Rp.nolist {P : Addr → Prop} (n : NoL P Hs) : ∀ {v : V} {x : PV}, Rp K cl Hs v x → x.nol = true → Rp K cl (cut P Hs) v x
  | _, _, .non, _ => .non
  | _, _, .bl b, _ => .bl b
  | _, _, .int b, _ => .int b
  | _, _, .str b, _ => .str b
  | _, _, .ty b, _ => .ty b
  | _, _, .tup h r, e => .tup (n.tup h) (r.nolist n (by simpa [PV.nol] using e))
  | _, _, .lst h r, e => by simp [PV.nol] at e
  | _, _, .src h r, e => by simp [PV.nol] at e
  | _, _, .dct h r, e => by simp [PV.nol] at e
  | _, _, .dlk h r, e => by simp [PV.nol] at e
  | _, _, .obj h r, e => by simp [PV.nol] at e
theorem RpA.nolist {P : Addr → Prop} (n : NoL P Hs) : ∀ {v : List V} {x : List PV}, RpA K cl Hs v x → PV.nols x = true → RpA K cl (cut P Hs) v x
  | _, _, .nil, _ => .nil
  | _, _, .cons h r, e => by
    simp only [PV.nols, Bool.and_eq_true] at e
    exact .cons (h.nolist n e.1) (r.nolist n e.2)
end
/-- a way of bearing that goes with a test «no list» -/
structure Bears (K : PySem.W.Frag) (cl : Nat → Addr) {α β : Type} (rel : Hp → β → α → Prop) (nl : α → Bool) : Prop where
  cut : ∀ {P : Addr → Prop} {Hs : Hp} {x : β} {v : α}, NoL P Hs → rel Hs x v → nl v = true → rel (cut P Hs) x v
theorem bears_v : Bears K cl (Rp K cl) PV.nol := ⟨fun n r e => r.nolist n e⟩
theorem bears_a : Bears K cl (RpA K cl) PV.nols := ⟨fun n r e => r.nolist n e⟩
theorem bears_b : Bears K cl (fun _ b c => b = (c : Bool)) (fun _ => true) := ⟨fun _ r _ => r⟩
/-- an expression within a statement -/
def onE {α : Type} (nl : α → Bool) (f : Ev → R α) (bs : List Bool) (ρ : Env) (k : α → Env → Out) : Out := match f (vw bs ρ) with
  | .ok v => k v (settle bs (nl v) ρ)
  | .exc c fs => .exc c fs (fr bs ρ)
  | .stuck => .stuck
theorem onE_use {α β : Type} {rel : Hp → β → α → Prop} {nl : α → Bool} (B : Bears K cl rel nl) {f : Ev → R α} {bs : List Bool} {k : α → Env → Out} {Q : β → Hp → Prop} (S : SEnv K cl He H0 pin Hs H σ ρ) (h : Post K cl He H0 pin W Hs D (onE nl f bs ρ k))
    (hk : ∀ v x Hs1 H1 ρ1, Sub Hs Hs1 → SEnv K cl He H0 pin Hs1 H1 σ ρ1 → rel Hs1 x v → f (vw bs ρ) = .ok v → ρ1 = settle bs (nl v) ρ → Sub H H1 → Post K cl He H0 pin W Hs1 D (k v ρ1) → Q x H1) : gv K cl rel W f σ H Q := by
  refine ⟨_, _, S.pe bs, ?_⟩
  unfold onE at h
  have s1 := (S.plusExt bs).1
  cases e : f (vw bs ρ) with
  | ok v =>
    rw [e] at h
    replace h : Post K cl He H0 pin W Hs D (k v (settle bs (nl v) ρ)) := h
    intro x Hs1 H1 X r
    cases en : nl v with
    | false =>
      have es : settle bs (nl v) ρ = fr bs ρ := by unfold settle; rw [en]; rfl
      have up := s1.trans X.fs
      exact hk v x Hs1 H1 _ up (by rw [es]; exact S.froze X) r e rfl X.same (Post.up h up)
    | true =>
      have es : settle bs (nl v) ρ = ρ := by unfold settle; rw [en]; rfl
      obtain ⟨S1, up⟩ := S.back X
      refine hk v x _ H1 _ up (by rw [es]; exact S1) (B.cut ⟨fun a p => ?_⟩ r en) e rfl X.same (Post.up h up)
      obtain ⟨o, e1, k1⟩ := (S.ownAt p).1
      exact ⟨o, X.fs _ _ (by rw [plus_yes p]; exact e1), k1⟩
  | exc c fs =>
    rw [e] at h
    intro d fvs Hs1 H1 X e1 r
    exact h σ Hs1 H1 d fvs (s1.trans X.fs) (S.froze X) e1 r
  | stuck => rw [e] at h; exact h

/-! changes of the slots -/
theorem set_get {ρ : Env} {i j : Nat} {s u : Sl} (h : (ρ.set i s)[j]? = some u) : (j = i ∧ u = s ∧ i < ρ.length) ∨ (j ≠ i ∧ ρ[j]? = some u) := by
  by_cases e : i = j
  · subst e
    by_cases hl : i < ρ.length
    · rw [List.getElem?_set_self hl] at h
      cases h
      exact .inl ⟨rfl, rfl, hl⟩
    · rw [List.getElem?_eq_none (by simpa using hl)] at h; cases h
  · rw [List.getElem?_set_ne e] at h
    exact .inr ⟨Ne.symm e, h⟩
theorem set_own {ρ : Env} {i j : Nat} {s : Sl} {p : Option Nat × PV} (h : VL.ownAt (ρ.set i s) j = some p) : (j = i ∧ ownv s = some p ∧ i < ρ.length) ∨ (j ≠ i ∧ VL.ownAt ρ j = some p) := by
  unfold VL.ownAt at h ⊢
  cases e : (ρ.set i s)[j]? with
  | none => rw [e] at h; cases h
  | some u =>
    rw [e] at h
    rcases set_get e with ⟨h1, h2, h3⟩ | ⟨h1, h2⟩
    · subst h2; exact .inl ⟨h1, h, h3⟩
    · exact .inr ⟨h1, by rw [h2]; exact h⟩
theorem SEnv.set (S : SEnv K cl He H0 pin Hs H σ ρ) {x : V} {v : PV} (r : Rp K cl Hs x v) (i : Nat) : SEnv K cl He H0 pin Hs H (σ.set i (some x)) (ρ.set i (.fz v)) := by
  refine ⟨S.ext, by simpa using S.len, fun j u h => ?_, fun j t u h => ?_, fun j k p q a h1 h2 g1 g2 => ?_⟩
  · rcases set_get h with ⟨e1, e2, hl⟩ | ⟨e1, h⟩
    · cases e2; subst e1
      exact ⟨x, List.getElem?_set_self (by rw [S.len]; exact hl), r⟩
    · rw [List.getElem?_set_ne (Ne.symm e1)]
      exact S.fz j u h
  · rcases set_own h with ⟨_, e2, _⟩ | ⟨e1, h⟩
    · cases e2
    · rw [List.getElem?_set_ne (Ne.symm e1)]
      exact S.ow j t u h
  · rcases set_own h1 with ⟨_, e2, _⟩ | ⟨e1, h1⟩
    · cases e2
    · rcases set_own h2 with ⟨_, e2, _⟩ | ⟨e2, h2⟩
      · cases e2
      · rw [List.getElem?_set_ne (Ne.symm e1)] at g1
        rw [List.getElem?_set_ne (Ne.symm e2)] at g2
        exact S.ij j k p q a h1 h2 g1 g2
/-- a new own thing -/
theorem SEnv.setOm (S : SEnv K cl He H0 pin Hs H σ ρ) {a : Addr} {s : Sl} {v : PV} (es : ownv s = some (none, v)) (o : OwnAt K cl H Hs a v) (n1 : Hs a = none) (n2 : H0 a = none)
    (new : ∀ (j : Nat) (p : Option Nat × PV), VL.ownAt ρ j = some p → σ[j]? ≠ some (some (V.ref a))) (i : Nat) : SEnv K cl He H0 pin Hs H (σ.set i (some (.ref a))) (ρ.set i s) := by
  refine ⟨S.ext, by simpa using S.len, fun j u h => ?_, fun j t u h => ?_, fun j k p q b h1 h2 g1 g2 => ?_⟩
  · rcases set_get h with ⟨_, e2, _⟩ | ⟨e1, h⟩
    · rw [← e2] at es; cases es
    · rw [List.getElem?_set_ne (Ne.symm e1)]
      exact S.fz j u h
  · rcases set_own h with ⟨e1, e2, hl⟩ | ⟨e1, h⟩
    · rw [es] at e2
      cases e2; subst e1
      exact ⟨a, List.getElem?_set_self (by rw [S.len]; exact hl), o, n1, n2, fun k e => by cases e⟩
    · rw [List.getElem?_set_ne (Ne.symm e1)]
      exact S.ow j t u h
  · rcases set_own h1 with ⟨e1, _, hl⟩ | ⟨e1, k1⟩
    · rcases set_own h2 with ⟨e2, _, _⟩ | ⟨e2, k2⟩
      · rw [e1, e2]
      · rw [e1, List.getElem?_set_self (by rw [S.len]; exact hl)] at g1
        rw [List.getElem?_set_ne (Ne.symm e2)] at g2
        cases g1
        exact absurd g2 (new k q k2)
    · rcases set_own h2 with ⟨e2, _, hl⟩ | ⟨e2, k2⟩
      · rw [e2, List.getElem?_set_self (by rw [S.len]; exact hl)] at g2
        rw [List.getElem?_set_ne (Ne.symm e1)] at g1
        cases g2
        exact absurd g1 (new j p k1)
      · rw [List.getElem?_set_ne (Ne.symm e1)] at g1
        rw [List.getElem?_set_ne (Ne.symm e2)] at g2
        exact S.ij j k p q b k1 k2 g1 g2
theorem SEnv.setOwn (S : SEnv K cl He H0 pin Hs H σ ρ) {a : Addr} {vs : List V} {xs : List PV} (e : H a = some (.lst vs)) (r : RpA K cl Hs vs xs) (n1 : Hs a = none) (n2 : H0 a = none)
    (new : ∀ (j : Nat) (p : Option Nat × PV), VL.ownAt ρ j = some p → σ[j]? ≠ some (some (V.ref a))) (i : Nat) : SEnv K cl He H0 pin Hs H (σ.set i (some (.ref a))) (ρ.set i (.own xs)) :=
  S.setOm (v := .lst xs) rfl ⟨vs, e, r⟩ n1 n2 new i
/-- an own thing is changed -/
theorem SEnv.putOm (S : SEnv K cl He H0 pin Hs H σ ρ) {i : Nat} {s : Sl} {t : Option Nat} {u v : PV} {a : Addr} {o : HO} (h : VL.ownAt ρ i = some (t, u)) (es : ownv s = some (t, v)) (hσ : σ[i]? = some (some (.ref a))) (r : OwnAt K cl (upd H a o) Hs a v) :
    SEnv K cl He H0 pin Hs (upd H a o) σ (ρ.set i s) := by
  obtain ⟨b, e1, _, e3, e4, e5⟩ := S.ow i t u h
  rw [hσ] at e1
  cases e1
  refine ⟨⟨S.ext.fs, S.sub.upd e3, S.ext.same.upd e4, S.ext.nw⟩, by simpa using S.len, fun j w h' => ?_, fun j t' w h' => ?_, fun j k p q c h1 h2 g1 g2 => ?_⟩
  · rcases set_get h' with ⟨_, e2, _⟩ | ⟨_, h'⟩
    · rw [← e2] at es; cases es
    · exact S.fz j w h'
  · rcases set_own h' with ⟨e6, e7, _⟩ | ⟨e6, h'⟩
    · rw [es] at e7
      cases e7; subst e6
      exact ⟨a, hσ, r, e3, e4, e5⟩
    · obtain ⟨c, g1, g2, g3, g4, g5⟩ := S.ow j t' w h'
      have hc : c ≠ a := by
        rintro rfl
        exact e6 (S.ij j i _ _ c h' h g1 hσ)
      exact ⟨c, g1, g2.mono (Sub.refl _) (upd_ne hc), g3, g4, g5⟩
  · rcases set_own h1 with ⟨e6, _⟩ | ⟨e6, k1⟩ <;> rcases set_own h2 with ⟨e7, _⟩ | ⟨e7, k2⟩
    · rw [e6, e7]
    · subst e6
      exact S.ij j k _ _ c h k2 g1 g2
    · subst e7
      exact S.ij j k _ _ c k1 h g1 g2
    · exact S.ij j k _ _ c k1 k2 g1 g2
theorem SEnv.put (S : SEnv K cl He H0 pin Hs H σ ρ) {i : Nat} {xs ys : List PV} {a : Addr} {ws : List V} (h : ρ[i]? = some (.own xs)) (hσ : σ[i]? = some (some (.ref a))) (r : RpA K cl Hs ws ys) :
    SEnv K cl He H0 pin Hs (upd H a (.lst ws)) σ (ρ.set i (.own ys)) :=
  S.putOm (v := .lst ys) (ownAt_own h) rfl hσ ⟨ws, upd_same, r⟩
end
end VL
namespace VL
open PySem PySem.Spec PyProof.Rows L2
/-! ### a list that was just made -/
section
variable (K : PySem.W.Frag) (cl : Nat → Addr) (W : WX)
def GO (Hs H : Hp) (σ : St) (r : R (List PV)) (Q : VK) : Prop := match r with
  | .ok xs => ∀ a vs Hs' H', Ext Hs H Hs' H' → H' a = some (.lst vs) → Hs' a = none → H a = none → RpA K cl Hs' vs xs → Q (.ref a) H'
  | .exc c fs => ∀ d fvs Hs' H', Ext Hs H Hs' H' → Hs' d = some (.xd fvs) → RpF K cl Hs' fvs fs → W (.ref (cl c)) (some d) σ H'
  | .stuck => False
def to (f : Ev → R (List PV)) : TE := fun σ H Q => ∃ Hs ρ, PEnv K cl Hs H σ ρ ∧ GO K cl W Hs H σ (f ρ) Q
end
section
variable {K : PySem.W.Frag} {cl : Nat → Addr} {W : WX} {Hs Hs1 H H1 : Hp} {σ : St} {ρ : Ev}
theorem GO.up {r : R (List PV)} {Q : VK} (h : GO K cl W Hs H σ r Q) (s : Ext Hs H Hs1 H1) : GO K cl W Hs1 H1 σ r Q := by
  cases r with
  | ok v => exact fun a vs Hs' H' t e n1 n2 => h a vs Hs' H' (s.trans t) e n1 (by
      cases q : H a with
      | none => rfl
      | some o => rw [s.same a o q] at n2; cases n2)
  | exc c fs => exact fun d fvs Hs' H' t => h d fvs Hs' H' (s.trans t)
  | stuck => exact h
theorem go_bind {α β : Type} {rel : Hp → β → α → Prop} {Q : β → Hp → Prop} {f : Ev → R α} {k : α → R (List PV)} {Q' : VK} (E : PEnv K cl Hs H σ ρ) (h : GO K cl W Hs H σ ((f ρ).bind k) Q')
    (hk : ∀ v x Hs1 H1, f ρ = .ok v → Ext Hs H Hs1 H1 → rel Hs1 x v → GO K cl W Hs1 H1 σ (k v) Q' → Q x H1) : gv K cl rel W f σ H Q := by
  refine ⟨Hs, ρ, E, ?_⟩
  cases e : f ρ with
  | ok v =>
    rw [e] at h
    exact fun x Hs1 H1 s1 rx => hk v x Hs1 H1 e s1 rx (GO.up h s1)
  | exc c fs => rw [e] at h; exact h
  | stuck => rw [e] at h; exact h
theorem own_lst {p : Addr} {vs : List V} {xs : List PV} {Q : VK} (h : GO K cl W Hs H σ (.ok xs) Q) (s : Sub Hs H) (n : H p = none) (r : RpA K cl Hs vs xs) : Q (.ref p) (upd H p (.lst vs)) :=
  h p vs Hs _ (Ext.newO s n) upd_same (s.none n) n r
end
def eLst1 (fs : List Ex) : Ev → R (List PV) := fun ρ => (evs fs ρ).bind fun xs => if xs.length ≤ sizeLine then .ok xs else .stuck
def asLst (f : Ev → R (List PV)) : Ex := fun ρ => (f ρ).bind fun xs => .ok (.lst xs)
def lstOf : Option PV → R (List PV)
  | some (.lst xs) => .ok xs
  | _ => .stuck
section
variable {X : Cx} {cl : Nat → Addr} {W : WX} {pos : Pos} {a b : Expr} {f f' : Ex}
theorem vo_lst {es : List Expr} {fs : List Ex} (h : PA X es (ta X.K cl W (evs fs))) : PE X (.List es pos) (to X.K cl W (eLst1 fs)) :=
  peWeak (pe_lst h) fun σ H Q ⟨Hs, ρ, E, h⟩ => by
    refine go_bind E h fun v x Hs1 H1 _ s1 rx h1 => ?_
    split at h1
    · exact ⟨by rw [rx.length]; assumption, fun p n => own_lst h1 s1.sub n rx⟩
    · exact h1.elim
/-- a list made by an operation -/
def eO2 (g : PV → PV → Option PV) (a b : Ex) : Ev → R (List PV) := fun ρ => (a ρ).bind fun x => (b ρ).bind fun y => lstOf (g x y)
theorem vo_add (ha : PE X a (tv X.K cl W f)) (hb : PE X b (tv X.K cl W f')) : PE X (.BinOp a .Add b pos) (to X.K cl W (eO2 addP f f')) :=
  peWeak (pe_op op_cat ha hb) fun σ H Q ⟨Hs, ρ, E, h⟩ => by
    refine go_bind E h fun v x Hs1 H1 _ s1 rx h1 => ?_
    refine go_bind (E.up s1) h1 fun u y Hs2 H2 _ t1 ry h2 => ?_
    have rx2 := rx.mono t1.fs
    cases rx2 with
    | @lst a vs xs h ra =>
      cases ry with
      | @lst b ws ys h' rb =>
        replace h2 : GO X.K cl W Hs2 H2 σ (lstOf (if xs.length + ys.length ≤ sizeLine then some (PV.lst (xs ++ ys)) else none)) Q := h2
        split at h2
        · exact ⟨_, _, _, _, rfl, rfl, t1.sub _ _ h, t1.sub _ _ h', by rw [ra.length, rb.length]; assumption, fun p n => own_lst h2 t1.sub n (ra.append rb)⟩
        · exact h2.elim
      | _ => exact h2.elim
    | int i =>
      cases ry with
      | _ => exact h2.elim
    | str i =>
      cases ry with
      | str j =>
        replace h2 : GO X.K cl W Hs2 H2 σ (lstOf (if i.length + j.length ≤ sizeLine then some (PV.str (i ++ j)) else none)) Q := h2
        split at h2 <;> exact h2.elim
      | _ => exact h2.elim
    | @tup a vs xs h ra =>
      cases ry with
      | @tup b ws ys h' rb =>
        replace h2 : GO X.K cl W Hs2 H2 σ (lstOf (if xs.length + ys.length ≤ sizeLine then some (PV.tup (xs ++ ys)) else none)) Q := h2
        split at h2 <;> exact h2.elim
      | _ => exact h2.elim
    | _ => cases ry <;> exact h2.elim
theorem vo_mul (ha : PE X a (tv X.K cl W f)) (hb : PE X b (tv X.K cl W f')) : PE X (.BinOp a .Mult b pos) (to X.K cl W (eO2 mulP f f')) :=
  peWeak (pe_op op_rep ha hb) fun σ H Q ⟨Hs, ρ, E, h⟩ => by
    refine go_bind E h fun v x Hs1 H1 _ s1 rx h1 => ?_
    refine go_bind (E.up s1) h1 fun u y Hs2 H2 _ t1 ry h2 => ?_
    have rx2 := rx.mono t1.fs
    cases rx2 with
    | @lst a vs xs h ra =>
      cases ry with
      | int k =>
        replace h2 : GO X.K cl W Hs2 H2 σ (lstOf (if -(2 ^ 63) ≤ k ∧ k < 2 ^ 63 ∧ xs.length * k.toNat ≤ sizeLine then some (PV.lst (List.replicate k.toNat xs).flatten) else none)) Q := h2
        split at h2
        · rename_i hk
          exact ⟨_, _, _, rfl, rfl, t1.sub _ _ h, hk.1, hk.2.1, by rw [ra.length]; exact hk.2.2, fun p n => own_lst h2 t1.sub n (ra.rep _)⟩
        · exact h2.elim
      | _ => exact h2.elim
    | int i =>
      cases ry with
      | int j =>
        replace h2 : GO X.K cl W Hs2 H2 σ (lstOf (if mulOk i j = true then some (PV.int (i * j)) else none)) Q := h2
        split at h2 <;> exact h2.elim
      | _ => exact h2.elim
    | _ => cases ry <;> exact h2.elim
def eOsl (a : Ex) (lo hi : Pt) : Ev → R (List PV) := fun ρ => (a ρ).bind fun x => (lo ρ).bind fun l => (hi ρ).bind fun h => match x with
  | .lst xs => .ok (cutP xs l h)
  | .src xs => .ok (cutP xs l h)
  | _ => .stuck
theorem vo_slice {e : Expr} {lo hi : Option Expr} {p2 : Pos} {l h : Pt} (ha : PE X e (tv X.K cl W f)) (hl : PO X lo (tpt X.K cl W l)) (hh : PO X hi (tpt X.K cl W h)) : PE X (.Subscript e (.Slice lo hi none p2) pos) (to X.K cl W (eOsl f l h)) :=
  peWeak (pe_slice sl_list ha hl hh) fun σ H Q ⟨Hs, ρ, E, h⟩ => by
    refine go_bind E h fun v x Hs1 H1 _ s1 rx h1 => ?_
    refine go_bind (E.up s1) h1 fun l1 l2 Hs2 H2 _ t1 el h2 => ?_
    refine go_bind ((E.up s1).up t1) h2 fun u1 u2 Hs3 H3 _ w1 eu h3 => ?_
    subst el eu
    have rx3 := (rx.mono t1.fs).mono w1.fs
    cases rx3 with
    | lst h ra => exact ⟨_, _, rfl, .of (w1.sub _ _ h), fun p n => own_lst h3 w1.sub n (ra.cut _ _)⟩
    | src h ra => exact ⟨_, _, rfl, w1.sub.seqL h, fun p n => own_lst h3 w1.sub n (ra.cut _ _)⟩
    | _ => exact h3.elim
def eOlist (a : Ex) : Ev → R (List PV) := fun ρ => (a ρ).bind fun x => lstOf (listP [x])
theorem vo_list {p : Pos} (ha : PE X a (tv X.K cl W f)) (hm : X.mg "list" = none) (hgl : Gl X "list" := by rfl) (he : starEach (a :: []) X.env = (false, eval a X.env) :: starEach [] X.env := by rfl) (hpl : (backTo pos (starEach [] X.env)).any (·.1) = false := by rfl) : PE X (.Call (.Name "list" p) [a] [] pos) (to X.K cl W (eOlist f)) :=
  peWeak (pe_callTy call_list_of hgl hm boot_list (pa_cons ha pa_nil he) (he := he) (hpl := hpl)) fun σ H Q ⟨Hs, ρ, E, h⟩ => by
    refine go_bind E h fun v x Hs1 H1 _ s1 rx h1 => ?_
    cases rx with
    | lst h ra => exact ⟨_, _, rfl, .inl (.of (s1.sub _ _ h)), fun p n => own_lst h1 s1.sub n ra⟩
    | src h ra => exact ⟨_, _, rfl, .inl (s1.sub.seqL h), fun p n => own_lst h1 s1.sub n ra⟩
    | tup h ra => exact ⟨_, _, rfl, .inr (s1.sub.seqT h), fun p n => own_lst h1 s1.sub n ra⟩
    | _ => exact h1.elim
/-- .. as a value that stays -/
theorem ve_ofO {e : Expr} {g : Ev → R (List PV)} (h : PE X e (to X.K cl W g)) : PE X e (tv X.K cl W (asLst g)) :=
  peWeak h fun σ H Q ⟨Hs, ρ, E, h⟩ => by
    refine ⟨Hs, ρ, E, ?_⟩
    unfold asLst at h
    cases e : g ρ with
    | ok xs =>
      rw [e] at h
      intro a vs Hs' H' s e1 n1 n2 r
      have n' : Hs a = none := by
        cases q : Hs a with
        | none => rfl
        | some o => rw [s.fs a o q] at n1; cases n1
      refine h _ (upd Hs' a (.lst vs)) H' ⟨s.fs.trans (Sub.new n1), fun b o q => ?_, s.same, fun b hb n => ?_⟩ (.lst upd_same (r.mono (Sub.new n1)))
      · by_cases hb : b = a
        · subst hb; rw [upd_same] at q; rw [e1]; exact q
        · rw [upd_ne hb] at q; exact s.sub b o q
      · rw [upd_ne (fun z => hb (by rw [z]; exact n2))]
        exact s.nw b hb n
    | exc c fs => rw [e] at h; exact h
    | stuck => rw [e] at h; exact h
end

/-! ### what is walked -/
structure Wk (K : PySem.W.Frag) (cl : Nat → Addr) (Hs : Hp) (J : It) (xs : List PV) : Prop where
  go : ∀ (i : Nat) H Hs', Sub Hs Hs' → Sub Hs' H → i < xs.length → J.go i H
  stop : ∀ (i : Nat) H Hs', Sub Hs Hs' → Sub Hs' H → xs.length ≤ i → J.stop i H
  yld : ∀ (i : Nat) x H H' Hs' v, Sub Hs Hs' → Sub Hs' H → xs[i]? = some v → J.yld i H x H' → ∃ Hs'', Ext Hs' H Hs'' H' ∧ Rp K cl Hs'' x v
/-- .. whatever the heap -/
def WkA (K : PySem.W.Frag) (cl : Nat → Addr) (_ : Hp) (J : It) (xs : List PV) : Prop := ∀ Hs, Wk K cl Hs J xs
theorem bears_wk {K : PySem.W.Frag} {cl : Nat → Addr} : Bears K cl (Wk K cl) (fun _ => false) := ⟨fun _ _ e => Bool.noConfusion e⟩
theorem bears_wkA {K : PySem.W.Frag} {cl : Nat → Addr} : Bears K cl (WkA K cl) (fun _ => true) := ⟨fun _ r _ => r⟩
section
variable {K : PySem.W.Frag} {cl : Nat → Addr} {Hs : Hp}
theorem wk_list {a : Addr} {vs : List V} {xs : List PV} (h : SqL K Hs a vs) (r : RpA K cl Hs vs xs) : Wk K cl Hs (Itl K a) xs := by
  refine ⟨fun i H Hs' s1 s2 hi => ?_, fun i H Hs' s1 s2 hi => ⟨vs, (s1.trans s2).seqL h, by rw [r.length]; exact hi⟩, fun i x H H' Hs' v s1 s2 e y => ?_⟩
  · rw [← r.length] at hi
    exact ⟨vs, vs[i], (s1.trans s2).seqL h, by simp [hi]⟩
  · obtain ⟨e1, y⟩ := y
    subst e1
    obtain ⟨u, e2, ru⟩ := r.get e
    have e3 := y vs ((s1.trans s2).seqL h)
    rw [e2] at e3
    cases e3
    exact ⟨Hs', Ext.refl s2, ru.mono s1⟩
theorem wk_tup {a : Addr} {vs : List V} {xs : List PV} (h : SqT K Hs a vs) (r : RpA K cl Hs vs xs) : Wk K cl Hs (Itt K a) xs := by
  refine ⟨fun i H Hs' s1 s2 hi => ?_, fun i H Hs' s1 s2 hi => ⟨vs, (s1.trans s2).seqT h, by rw [r.length]; exact hi⟩, fun i x H H' Hs' v s1 s2 e y => ?_⟩
  · rw [← r.length] at hi
    exact ⟨vs, vs[i], (s1.trans s2).seqT h, by simp [hi]⟩
  · obtain ⟨e1, y⟩ := y
    subst e1
    obtain ⟨u, e2, ru⟩ := r.get e
    have e3 := y vs ((s1.trans s2).seqT h)
    rw [e2] at e3
    cases e3
    exact ⟨Hs', Ext.refl s2, ru.mono s1⟩
def signsP (z : Str) : List PV := z.cps.toList.map fun c => .str ⟨#[c]⟩
theorem wk_str {z : Str} : Wk K cl Hs (Its z) (signsP z) := by
  have hl : (signsP z).length = z.cps.size := by simp [signsP]
  refine ⟨fun i H Hs' s1 s2 hi => by rw [hl] at hi; exact hi, fun i H Hs' s1 s2 hi => by rw [hl] at hi; exact hi, fun i x H H' Hs' v s1 s2 e y => ?_⟩
  obtain ⟨e1, c, e2, e3⟩ := y
  subst e1 e3
  refine ⟨Hs', Ext.refl s2, ?_⟩
  unfold signsP at e
  rw [List.getElem?_map] at e
  have e4 : z.cps.toList[i]? = some c := by simpa using e2
  rw [e4] at e
  cases e
  exact .str _
def rangeP (lo : Int) (n : Nat) : List PV := (List.range n).map fun (i : Nat) => .int (lo + (i : Int))
theorem wk_range {lo : Int} {n : Nat} : Wk K cl Hs (Itr lo n) (rangeP lo n) := by
  have hl : (rangeP lo n).length = n := by simp [rangeP]
  refine ⟨fun i H Hs' s1 s2 hi => by rw [hl] at hi; exact hi, fun i H Hs' s1 s2 hi => by rw [hl] at hi; exact hi, fun i x H H' Hs' v s1 s2 e y => ?_⟩
  obtain ⟨e1, e2⟩ := y
  subst e1 e2
  refine ⟨Hs', Ext.refl s2, ?_⟩
  have hi : i < n := by
    have := (List.getElem?_eq_some_iff.mp e).1
    rw [hl] at this
    exact this
  unfold rangeP at e
  rw [List.getElem?_map, List.getElem?_range hi] at e
  cases e
  exact .int _
def zipP (xs ys : List PV) : List PV := List.zipWith (fun x y => .tup [x, y]) xs ys
theorem wk_zip {a b : Addr} {vs ws : List V} {xs ys : List PV} (h : SqL K Hs a vs) (h' : SqL K Hs b ws) (r : RpA K cl Hs vs xs) (r' : RpA K cl Hs ws ys) : Wk K cl Hs (Itz K a b) (zipP xs ys) := by
  have hl : (zipP xs ys).length = min xs.length ys.length := by simp [zipP]
  refine ⟨fun i H Hs' s1 s2 hi => ?_, fun i H Hs' s1 s2 hi => ?_, fun i x H H' Hs' v s1 s2 e y => ?_⟩
  · rw [hl] at hi
    have h1 : i < vs.length := by rw [r.length]; omega
    have h2 : i < ws.length := by rw [r'.length]; omega
    exact ⟨vs, ws, vs[i], ws[i], (s1.trans s2).seqL h, (s1.trans s2).seqL h', by simp [h1], by simp [h2]⟩
  · rw [hl] at hi
    exact ⟨vs, ws, (s1.trans s2).seqL h, (s1.trans s2).seqL h', by rw [r.length, r'.length]; omega⟩
  · obtain ⟨T, x1, y1, rfl, n, rfl, f1, f2⟩ := y
    unfold zipP at e
    rw [List.getElem?_zipWith] at e
    cases ex : xs[i]? with
    | none => rw [ex] at e; simp at e
    | some xv =>
      cases ey : ys[i]? with
      | none => rw [ex, ey] at e; simp at e
      | some yv =>
        rw [ex, ey] at e
        simp at e
        subst e
        obtain ⟨u, e2, ru⟩ := r.get ex
        obtain ⟨u', e2', ru'⟩ := r'.get ey
        have e3 := f1 vs ((s1.trans s2).seqL h)
        have e3' := f2 ws ((s1.trans s2).seqL h')
        rw [e2] at e3; cases e3
        rw [e2'] at e3'; cases e3'
        have n' : Hs' T = none := s2.none n
        refine ⟨upd Hs' T (.tup [x1, y1]), Ext.new s2 n, .tup (.of upd_same) ?_⟩
        exact .cons ((ru.mono s1).mono (Sub.new n')) (.cons ((ru'.mono s1).mono (Sub.new n')) .nil)
def enumP (i : Nat) : List PV → List PV
  | [] => []
  | x :: r => .tup [.int (i : Int), x] :: enumP (i + 1) r
theorem enumP_len : ∀ (xs : List PV) (i : Nat), (enumP i xs).length = xs.length
  | [], _ => rfl
  | x :: r, i => by simp [enumP, enumP_len r]
theorem enumP_get : ∀ (xs : List PV) (i k : Nat) (v : PV), (enumP i xs)[k]? = some v → ∃ x, xs[k]? = some x ∧ v = .tup [.int ((i + k : Nat) : Int), x]
  | [], _, _, _, h => by simp [enumP] at h
  | x :: r, i, 0, v, h => by simp [enumP] at h; exact ⟨x, rfl, by simp [← h]⟩
  | x :: r, i, k + 1, v, h => by
    obtain ⟨y, e1, e2⟩ := enumP_get r (i + 1) k v (by simpa [enumP] using h)
    exact ⟨y, by simpa using e1, by rw [e2, show i + 1 + k = i + (k + 1) by omega]⟩
theorem wk_enum {a : Addr} {vs : List V} {xs : List PV} (h : SqL K Hs a vs) (r : RpA K cl Hs vs xs) : Wk K cl Hs (Ite K a) (enumP 0 xs) := by
  refine ⟨fun i H Hs' s1 s2 hi => ?_, fun i H Hs' s1 s2 hi => ⟨vs, (s1.trans s2).seqL h, by rw [r.length, ← enumP_len xs 0]; exact hi⟩, fun i x H H' Hs' v s1 s2 e y => ?_⟩
  · rw [enumP_len, ← r.length] at hi
    exact ⟨vs, vs[i], (s1.trans s2).seqL h, by simp [hi]⟩
  · obtain ⟨T, x1, rfl, n, rfl, f1⟩ := y
    obtain ⟨xv, ex, rfl⟩ := enumP_get _ _ _ _ e
    obtain ⟨u, e2, ru⟩ := r.get ex
    have e3 := f1 vs ((s1.trans s2).seqL h)
    rw [e2] at e3; cases e3
    have n' : Hs' T = none := s2.none n
    refine ⟨upd Hs' T (.tup [.int (i : Nat), x1]), Ext.new s2 n, .tup (.of upd_same) (.cons ?_ (.cons ((ru.mono s1).mono (Sub.new n')) .nil))⟩
    rw [Nat.zero_add]
    exact .int _
end
theorem piWeak {X : Cx} {tg e : Expr} {t t' : TI} (h : PI X tg e t) (w : ∀ σ H Q, t' σ H Q → t σ H Q) : PI X tg e t' := ⟨fun pins s σ H R I q => h.run pins s σ H R I (w σ H R q)⟩
theorem piOr {X : Cx} {tg e : Expr} {t t' : TI} (h : PI X tg e t) (h' : PI X tg e t') : PI X tg e (fun σ H R => t σ H R ∨ t' σ H R) := ⟨fun pins s σ H R I q => q.elim (h.run pins s σ H R I) (h'.run pins s σ H R I)⟩
/-- the items of a list, a tuple, a text -/
def itemsP : PV → R (List PV)
  | .lst xs => .ok xs
  | .src xs => .ok xs
  | .tup xs => .ok xs
  | .str z => .ok (signsP z)
  | _ => .stuck
def iSeq (a : Ex) : Ev → R (List PV) := fun ρ => (a ρ).bind itemsP
def iR1 (a : Ex) : Ev → R (List PV) := fun ρ => (a ρ).bind fun x => match x with
  | .int j => if -(2 ^ 62) ≤ j ∧ j < 2 ^ 62 then .ok (rangeP 0 j.toNat) else .stuck
  | _ => .stuck
def iR2 (a b : Ex) : Ev → R (List PV) := fun ρ => (a ρ).bind fun x => (b ρ).bind fun y => match x, y with
  | .int i, .int j => if -(2 ^ 62) ≤ i ∧ i < 2 ^ 62 ∧ -(2 ^ 62) ≤ j ∧ j < 2 ^ 62 then .ok (rangeP i (j - i).toNat) else .stuck
  | _, _ => .stuck
def iZipP (a b : Ex) : Ev → R (List PV) := fun ρ => (a ρ).bind fun x => (b ρ).bind fun y => match x, y with
  | .lst xs, .lst ys => .ok (zipP xs ys)
  | _, _ => .stuck
def iEnumP (a : Ex) : Ev → R (List PV) := fun ρ => (a ρ).bind fun x => match x with
  | .lst xs => .ok (enumP 0 xs)
  | _ => .stuck
section
variable {X : Cx} {cl : Nat → Addr} {W : WX} {pos p : Pos} {tg a b : Expr} {f f' : Ex}
theorem vi_seq (h : PE X a (tv X.K cl W f)) : PI X tg a (gv X.K cl (Wk X.K cl) W (iSeq f)) :=
  piWeak (piOr (piOr (pi_list h) (pi_tup h)) (pi_str h)) fun σ H Q ⟨Hs, ρ, E, h⟩ => by
    have go : ∀ {P : V → Hp → Prop}, (∀ v x Hs1 H1, f ρ = .ok v → Ext Hs H Hs1 H1 → Rp X.K cl Hs1 x v → GP X.K cl (Wk X.K cl) W Hs1 H1 σ (itemsP v) Q → P x H1) → tv X.K cl W f σ H P := fun {P} hk => gv_bind E h hk
    unfold iSeq at h
    cases e : f ρ with
    | ok v =>
      cases v with
      | lst xs =>
        refine .inl (.inl (go fun v x Hs1 H1 e1 s1 rx h1 => ?_))
        rw [e] at e1; cases e1
        cases rx with
        | lst h ra => exact ⟨_, rfl, ⟨_, .of (s1.sub _ _ h)⟩, h1.here s1.sub (wk_list (.of h) ra)⟩
      | src xs =>
        refine .inl (.inl (go fun v x Hs1 H1 e1 s1 rx h1 => ?_))
        rw [e] at e1; cases e1
        cases rx with
        | src h ra => exact ⟨_, rfl, ⟨_, s1.sub.seqL h⟩, h1.here s1.sub (wk_list h ra)⟩
      | tup xs =>
        refine .inl (.inr (go fun v x Hs1 H1 e1 s1 rx h1 => ?_))
        rw [e] at e1; cases e1
        cases rx with
        | tup h ra => exact ⟨_, rfl, ⟨_, s1.sub.seqT h⟩, h1.here s1.sub (wk_tup h ra)⟩
      | str z =>
        refine .inr (go fun v x Hs1 H1 e1 s1 rx h1 => ?_)
        rw [e] at e1; cases e1
        cases rx with
        | str z => exact ⟨_, rfl, h1.here s1.sub wk_str⟩
      | _ => rw [e] at h; exact h.elim
    | exc c fs => exact .inr (go fun v x Hs1 H1 e1 s1 rx h1 => by rw [e] at e1; cases e1)
    | stuck => rw [e] at h; exact h.elim
theorem vi_r1 (h : PE X a (tv X.K cl W f)) (hm : X.mg "range" = none) (hg : Gl X "range" := by rfl) (hs : starEach [a] X.env = [(false, eval a X.env)] := by rfl) : PI X tg (.Call (.Name "range" p) [a] [] pos) (gv X.K cl (WkA X.K cl) W (iR1 f)) :=
  piWeak (pi_range1 hg hm (pa_cons h pa_nil hs) hs) fun σ H Q ⟨Hs, ρ, E, h⟩ => by
    refine gv_bind E h fun v x Hs1 H1 e1 s1 rx h1 => ?_
    cases rx with
    | int j =>
      replace h1 : GP X.K cl (WkA X.K cl) W Hs1 H1 σ (if -(2 ^ 62) ≤ j ∧ j < 2 ^ 62 then .ok (rangeP 0 j.toNat) else .stuck) Q := h1
      split at h1
      · rename_i hk
        exact ⟨j, rfl, hk.1, hk.2, h1.here s1.sub fun _ => wk_range⟩
      · exact h1.elim
    | _ => exact h1.elim
theorem vi_r2 (h : PE X a (tv X.K cl W f)) (h' : PE X b (tv X.K cl W f')) (hm : X.mg "range" = none) (hg : Gl X "range" := by rfl) (hs : starEach [a, b] X.env = [(false, eval a X.env), (false, eval b X.env)] := by rfl) (hs2 : starEach [b] X.env = [(false, eval b X.env)] := by rfl) :
    PI X tg (.Call (.Name "range" p) [a, b] [] pos) (gv X.K cl (WkA X.K cl) W (iR2 f f')) :=
  piWeak (pi_range2 hg hm (pa_cons h (pa_cons h' pa_nil hs2) (by rw [hs, hs2])) hs hs2) fun σ H Q ⟨Hs, ρ, E, h⟩ => by
    refine gv_bind E h fun v x Hs1 H1 e1 s1 rx h1 => ?_
    refine gv_bind (E.up s1) h1 fun u y Hs2 H2 e2 t1 ry h2 => ?_
    cases rx with
    | int i =>
      cases ry with
      | int j =>
        replace h2 : GP X.K cl (WkA X.K cl) W Hs2 H2 σ (if -(2 ^ 62) ≤ i ∧ i < 2 ^ 62 ∧ -(2 ^ 62) ≤ j ∧ j < 2 ^ 62 then .ok (rangeP i (j - i).toNat) else .stuck) Q := h2
        split at h2
        · rename_i hk
          exact ⟨i, j, rfl, hk, h2.here t1.sub fun _ => wk_range⟩
        · exact h2.elim
      | _ => exact h2.elim
    | _ => cases ry <;> exact h2.elim
theorem vi_zip {elts : List Expr} {kk : Nat} {tpos : Pos} (h : PE X a (tv X.K cl W f)) (h' : PE X b (tv X.K cl W f')) (hm : X.mg "zip" = none) (hg : Gl X "zip" := by rfl) (hs : starEach [a, b] X.env = (false, eval a X.env) :: starEach [b] X.env := by rfl) (hs2 : starEach [b] X.env = [(false, eval b X.env)] := by rfl)
    (hpl : (backTo pos (starEach [b] X.env)).any (·.1) = false := by rfl) : PI X (.Tuple elts kk tpos) (.Call (.Name "zip" p) [a, b] [] pos) (gv X.K cl (Wk X.K cl) W (iZipP f f')) :=
  piWeak (pi_zip hg hm (pa_cons h (pa_cons h' pa_nil hs2) hs) hs hpl) fun σ H Q ⟨Hs, ρ, E, h⟩ => by
    refine gv_bind E h fun v x Hs1 H1 e1 s1 rx h1 => ?_
    refine gv_bind (E.up s1) h1 fun u y Hs2 H2 e2 t1 ry h2 => ?_
    have rx2 := rx.mono t1.fs
    cases rx2 with
    | lst h ra =>
      cases ry with
      | lst h' rb => exact ⟨_, _, _, _, rfl, .of (t1.sub _ _ h), .of (t1.sub _ _ h'), h2.here t1.sub (wk_zip (.of h) (.of h') ra rb)⟩
      | _ => exact h2.elim
    | _ => cases ry <;> exact h2.elim
theorem vi_enum {elts : List Expr} {kk : Nat} {tpos : Pos} (h : PE X a (tv X.K cl W f)) (hm : X.mg "enumerate" = none) (hg : Gl X "enumerate" := by rfl) (hs : starEach [a] X.env = [(false, eval a X.env)] := by rfl) :
    PI X (.Tuple elts kk tpos) (.Call (.Name "enumerate" p) [a] [] pos) (gv X.K cl (Wk X.K cl) W (iEnumP f)) :=
  piWeak (pi_enum hg hm (pa_cons h pa_nil hs) hs) fun σ H Q ⟨Hs, ρ, E, h⟩ => by
    refine gv_bind E h fun v x Hs1 H1 e1 s1 rx h1 => ?_
    cases rx with
    | lst h ra => exact ⟨_, _, rfl, .of (s1.sub _ _ h), h1.here s1.sub (wk_enum (.of h) ra)⟩
    | _ => exact h1.elim
end

/-! ### targets -/
abbrev As := List (Nat × PV)
abbrev Tg := PV → Option As
def tN (i : Nat) : Tg := fun v => some [(i, v)]
def tTs : List Tg → List PV → Option As
  | [], [] => some []
  | t :: ts, v :: vs => (t v).bind fun a => (tTs ts vs).map (a ++ ·)
  | _, _ => none
def tT (ts : List Tg) : Tg
  | .tup vs => tTs ts vs
  | _ => none
def setV : List (Nat × V) → St → St
  | [], σ => σ
  | (i, x) :: r, σ => setV r (σ.set i (some x))
def setS : As → Env → Env
  | [], ρ => ρ
  | (i, v) :: r, ρ => setS r (ρ.set i (.fz v))
def setE : As → Ev → Ev
  | [], ρ => ρ
  | (i, v) :: r, ρ => setE r (ρ.set i (some v))
inductive RelAs (K : PySem.W.Frag) (cl : Nat → Addr) (Hs : Hp) : List (Nat × V) → As → Prop
  | nil : RelAs K cl Hs [] []
  | cons {i : Nat} {x : V} {v : PV} {xs : List (Nat × V)} {vs : As} : Rp K cl Hs x v → RelAs K cl Hs xs vs → RelAs K cl Hs ((i, x) :: xs) ((i, v) :: vs)
section
variable {K : PySem.W.Frag} {cl : Nat → Addr} {Hs H : Hp}
theorem RelAs.append {a b : List (Nat × V)} {c d : As} (h : RelAs K cl Hs a c) (h' : RelAs K cl Hs b d) : RelAs K cl Hs (a ++ b) (c ++ d) := by
  induction h with
  | nil => exact h'
  | cons r _ ih => exact .cons r ih
theorem setV_append : ∀ (a b : List (Nat × V)) (σ : St), setV (a ++ b) σ = setV b (setV a σ)
  | [], _, _ => rfl
  | (i, x) :: r, b, σ => setV_append r b _
theorem SEnv.sets {He H0 : Hp} {pin : List Addr} : ∀ {xs : List (Nat × V)} {as : As} {σ : St} {ρ : Env}, SEnv K cl He H0 pin Hs H σ ρ → RelAs K cl Hs xs as → SEnv K cl He H0 pin Hs H (setV xs σ) (setS as ρ)
  | _, _, _, _, S, .nil => S
  | _, _, σ, ρ, S, .cons (i := i) (x := x) (v := v) r t => SEnv.sets (σ := σ.set i (some x)) (ρ := ρ.set i (.fz v)) (S.set r i) t
theorem PEnv.set {σ : St} {ρ : Ev} (E : PEnv K cl Hs H σ ρ) {x : V} {v : PV} (r : Rp K cl Hs x v) (i : Nat) : PEnv K cl Hs H (σ.set i (some x)) (ρ.set i (some v)) := by
  have hl := E.len
  refine ⟨E.sub, by simpa using hl, fun j u h => ?_⟩
  by_cases e : i = j
  · subst e
    by_cases hi : i < ρ.length
    · rw [List.getElem?_set_self hi] at h
      cases h
      exact ⟨x, List.getElem?_set_self (by rw [← hl]; exact hi), r⟩
    · rw [List.getElem?_eq_none (by simpa using hi)] at h; cases h
  · rw [List.getElem?_set_ne e] at h ⊢
    exact E.at_ j u h
theorem PEnv.sets : ∀ {xs : List (Nat × V)} {as : As} {σ : St} {ρ : Ev}, PEnv K cl Hs H σ ρ → RelAs K cl Hs xs as → PEnv K cl Hs H (setV xs σ) (setE as ρ)
  | _, _, _, _, E, .nil => E
  | _, _, σ, ρ, E, .cons (i := i) (x := x) (v := v) r t => PEnv.sets (σ := σ.set i (some x)) (ρ := ρ.set i (some v)) (E.set r i) t
end
/-- a target's rule and what it stores -/
def TgOk (K : PySem.W.Frag) (cl : Nat → Addr) (g : TG) (t : Tg) : Prop := ∀ (Hs H : Hp) (σ : St) (x : V) (v : PV) (as : As) (Q : St → Hp → Prop), Sub Hs H → Rp K cl Hs x v → t v = some as → (∀ xs, RelAs K cl Hs xs as → Q (setV xs σ) H) → g x σ H Q
def TgsOk (K : PySem.W.Frag) (cl : Nat → Addr) (g : TGs) (t : List PV → Option As) : Prop := ∀ (Hs H : Hp) (σ : St) (xs : List V) (vs : List PV) (as : As) (Q : St → Hp → Prop), Sub Hs H → RpA K cl Hs xs vs → t vs = some as → (∀ xs, RelAs K cl Hs xs as → Q (setV xs σ) H) → g xs σ H Q
section
variable {K : PySem.W.Frag} {cl : Nat → Addr}
theorem tg_name (i : Nat) : TgOk K cl (gName i) (tN i) := fun Hs H σ x v as Q _ r e q => by
  cases e
  exact q [(i, x)] (.cons r .nil)
theorem tgs_nil : TgsOk K cl gNil (tTs []) := fun Hs H σ xs vs as Q _ r e q => by
  cases r with
  | nil => cases e; exact ⟨rfl, q [] .nil⟩
  | cons _ _ => cases e
theorem tgs_cons {g : TG} {gs : TGs} {t : Tg} {ts : List Tg} (h : TgOk K cl g t) (hs : TgsOk K cl gs (tTs ts)) : TgsOk K cl (gCons g gs) (tTs (t :: ts)) := fun Hs H σ xs vs as Q s r e q => by
  cases r with
  | nil => cases e
  | cons r t =>
    simp only [tTs, Option.bind_eq_some_iff, Option.map_eq_some_iff] at e
    obtain ⟨a, e1, b, e2, rfl⟩ := e
    exact ⟨_, _, rfl, h Hs H σ _ _ a _ s r e1 fun xs rx => hs Hs H _ _ _ b Q s t e2 fun ys ry => by rw [← setV_append]; exact q _ (rx.append ry)⟩
theorem tTs_len : ∀ {ts : List Tg} {vs : List PV} {as : As}, tTs ts vs = some as → vs.length = ts.length
  | [], [], _, _ => rfl
  | [], _ :: _, _, h => by cases h
  | _ :: _, [], _, h => by cases h
  | t :: ts, v :: vs, _, h => by
    simp only [tTs, Option.bind_eq_some_iff, Option.map_eq_some_iff] at h
    obtain ⟨a, e1, b, e2, rfl⟩ := h
    simp [tTs_len e2]
theorem tg_tup {gs : TGs} {ts : List Tg} {n : Nat} (hs : TgsOk K cl gs (tTs ts)) (hn : ts.length = n := by rfl) : TgOk K cl (gTup K n gs) (tT ts) := fun Hs H σ x v as Q s r e q => by
  cases r with
  | tup h ra => exact ⟨_, _, rfl, s.seqT h, by rw [ra.length, tTs_len e, hn], hs Hs H σ _ _ as Q s ra e q⟩
  | _ => cases e
end
/-- the slots that a target may store -/
def TgIn (t : Tg) (own : List Nat) : Prop := ∀ v as, t v = some as → ∀ p ∈ as, p.1 ∈ own
theorem tin_n {i : Nat} {own : List Nat} (h : i ∈ own) : TgIn (tN i) own := fun v as e p hp => by
  cases e
  simp at hp
  subst hp
  exact h
theorem tin_ts {own : List Nat} : ∀ {ts : List Tg}, (∀ t ∈ ts, TgIn t own) → ∀ vs as, tTs ts vs = some as → ∀ p ∈ as, p.1 ∈ own
  | [], _, [], _, e, p, hp => by cases e; simp at hp
  | [], _, _ :: _, _, e, _, _ => by cases e
  | _ :: _, _, [], _, e, _, _ => by cases e
  | t :: ts, h, v :: vs, _, e, p, hp => by
    simp only [tTs, Option.bind_eq_some_iff, Option.map_eq_some_iff] at e
    obtain ⟨a, e1, b, e2, rfl⟩ := e
    rcases List.mem_append.mp hp with hp | hp
    · exact h t List.mem_cons_self v a e1 p hp
    · exact tin_ts (fun t ht => h t (List.mem_cons_of_mem _ ht)) vs b e2 p hp
theorem tin_t {ts : List Tg} {own : List Nat} (h : ∀ t ∈ ts, TgIn t own) : TgIn (tT ts) own := fun v as e => by
  cases v with
  | tup vs => exact tin_ts h vs as e
  | _ => cases e

/-! ### comprehensions -/
def wipeE (ρ : Ev) : List Nat → Ev
  | [] => ρ
  | v :: vs => (wipeE ρ vs).set v none
theorem wipeE_len (ρ : Ev) : ∀ vs, (wipeE ρ vs).length = ρ.length
  | [] => rfl
  | v :: vs => by simp [wipeE, wipeE_len ρ vs]
def lcL (t : Tg) (c : Ev → R Bool) (e : Ex) (ρ : Ev) : List PV → R (List PV)
  | [] => .ok []
  | v :: vs => match t v with
    | none => .stuck
    | some as => match c (setE as ρ) with
      | .ok true => match e (setE as ρ) with
        | .ok y => match lcL t c e ρ vs with
          | .ok ys => .ok (y :: ys)
          | _ => .stuck
        | _ => .stuck
      | .ok false => lcL t c e ρ vs
      | _ => .stuck
def szO : R (List PV) → R (List PV)
  | .ok ys => if ys.length ≤ sizeLine then .ok ys else .stuck
  | _ => .stuck
def eLc (own : List Nat) (t : Tg) (it : Ev → R (List PV)) (c : Ev → R Bool) (e : Ex) : Ev → R (List PV) := fun ρ => (it ρ).bind fun xs => szO (lcL t c e (wipeE ρ own) xs)
def cYes : Ev → R Bool := fun _ => .ok true
theorem wipe_set {σ : St} {i : Nat} {x : Option V} : ∀ {vs : List Nat}, i ∈ vs → wipe (σ.set i x) vs = wipe σ vs
  | v :: vs, h => by
    unfold wipe
    by_cases e : i ∈ vs
    · rw [wipe_set e]
    · have e2 : i = v := by rcases List.mem_cons.mp h with h | h; exact h; exact absurd h e
      subst e2
      have gen : ∀ (ws : List Nat), i ∉ ws → wipe (σ.set i x) ws = (wipe σ ws).set i x := by
        intro ws
        induction ws with
        | nil => intro _; rfl
        | cons w ws ih =>
          intro hw
          simp only [List.mem_cons, not_or] at hw
          unfold wipe
          rw [ih hw.2, List.set_comm _ _ hw.1]
      rw [gen vs e, List.set_set]
theorem wipe_setV : ∀ (xs : List (Nat × V)) (σ : St) (vs : List Nat), (∀ p ∈ xs, p.1 ∈ vs) → wipe (setV xs σ) vs = wipe σ vs
  | [], _, _, _ => rfl
  | (i, x) :: r, σ, vs, h => by
    show wipe (setV r (σ.set i (some x))) vs = _
    rw [wipe_setV r _ vs fun p hp => h p (List.mem_cons_of_mem _ hp), wipe_set (h (i, x) List.mem_cons_self)]
theorem wipe_wipe (σ : St) (vs : List Nat) : wipe (wipe σ vs) vs = wipe σ vs := by
  have gen : ∀ (ws : List Nat), (∀ w ∈ ws, w ∈ vs) → wipe (wipe σ ws) vs = wipe σ vs := by
    intro ws
    induction ws with
    | nil => intro _; rfl
    | cons w ws ih =>
      intro h
      show wipe ((wipe σ ws).set w none) vs = _
      rw [wipe_set (h w List.mem_cons_self)]
      exact ih fun w hw => h w (List.mem_cons_of_mem _ hw)
  exact gen vs fun _ h => h
theorem RelAs.fst {K : PySem.W.Frag} {cl : Nat → Addr} {Hs : Hp} {xs : List (Nat × V)} {as : As} (h : RelAs K cl Hs xs as) : ∀ p ∈ xs, ∃ q ∈ as, q.1 = p.1 := by
  induction h with
  | nil => intro p hp; simp at hp
  | cons r _ ih =>
    intro p hp
    rcases List.mem_cons.mp hp with rfl | hp
    · exact ⟨_, List.mem_cons_self, rfl⟩
    · obtain ⟨q, h1, h2⟩ := ih p hp
      exact ⟨q, List.mem_cons_of_mem _ h1, h2⟩
section
variable {K : PySem.W.Frag} {cl : Nat → Addr} {Hs H : Hp}
theorem PEnv.wipe {σ : St} {ρ : Ev} (E : PEnv K cl Hs H σ ρ) : ∀ vs : List Nat, PEnv K cl Hs H (L2.wipe σ vs) (wipeE ρ vs)
  | [] => E
  | v :: vs => by
    have ih := E.wipe vs
    refine ⟨E.sub, by rw [wipeE_len, wipe_length]; exact E.len, fun i u h => ?_⟩
    have h : ((wipeE ρ vs).set v none)[i]? = some (some u) := h
    show ∃ x, ((L2.wipe σ vs).set v none)[i]? = some (some x) ∧ _
    by_cases e : v = i
    · subst e
      by_cases hi : v < (wipeE ρ vs).length
      · rw [List.getElem?_set_self hi] at h; cases h
      · rw [List.getElem?_eq_none (by simpa using hi)] at h; cases h
    · rw [List.getElem?_set_ne e] at h ⊢
      exact ih.at_ i u h
end
/-- nothing raised is wished for -/
abbrev W0 : WX := fun _ _ _ _ => False
section
variable {X : Cx} {cl : Nat → Addr} {W : WX} {pos : Pos}
theorem vts_nil {c : Cx} : PTs c [] (tt c.K cl W0 cYes) := ⟨fun pins s σ H Q I hw => pts_nil.run pins s σ H Q I (by
  obtain ⟨Hs, ρ, E, h⟩ := hw
  exact GP.here (x := true) h E.sub rfl)⟩
theorem vts_one {c : Cx} {e : Expr} {t : Ev → R Bool} (h : PT c e (tt c.K cl W0 t)) : PTs c [e] (tt c.K cl W0 t) := pts_one h
theorem lc_use {rel : Hp → It → List PV → Prop} {it : Ev → R (List PV)} {g : TG} {t : Tg} {c : Ev → R Bool} {e : Ex} {own : List Nat} (hR : ∀ Hs J xs, rel Hs J xs → Wk X.K cl Hs J xs) (hG : TgOk X.K cl g t) (hI : TgIn t own) {σ : St} {H : Hp} {Q : VK}
    (h : to X.K cl W (eLc own t it c e) σ H Q) : tLc (gv X.K cl rel W it) g (tt X.K cl W0 c) (tv X.K cl W0 e) own σ H Q := by
  obtain ⟨Hs, ρ, E, h⟩ := h
  refine go_bind E h fun xs J Hs1 H1 e1 s1 rx h1 => ?_
  have Wj := hR _ _ _ rx
  intro D hD
  have E1 := (E.up s1).wipe own
  -- the result is told
  cases e2 : lcL t c e (wipeE ρ own) xs with
  | exc c' fs => rw [e2] at h1; exact h1.elim
  | stuck => rw [e2] at h1; exact h1.elim
  | ok ys =>
    rw [e2] at h1
    replace h1 : GO X.K cl W Hs1 H1 σ (if ys.length ≤ sizeLine then .ok ys else .stuck) Q := h1
    split at h1
    · rename_i hsz
      refine ⟨fun i m H2 => ∃ Hs2 acc accP zs, i + m = xs.length ∧ Ext Hs1 H1 Hs2 H2 ∧ Hs2 D = none ∧ H2 D = some (.lst acc) ∧ RpA X.K cl Hs2 acc accP ∧ lcL t c e (wipeE ρ own) (xs.drop i) = .ok zs ∧ accP ++ zs = ys,
        ⟨xs.length, Hs1, [], [], ys, by omega, Ext.newO s1.sub hD, s1.sub.none hD, upd_same, .nil, by simpa using e2, rfl⟩, ?_⟩
      rintro i m H2 ⟨Hs2, acc, accP, zs, em, x2, nD, eD, rA, el, ea⟩
      by_cases hi : i < xs.length
      · refine .inr ⟨Wj.go i H2 Hs2 x2.fs x2.sub hi, fun H3 => ∃ Hs2 acc accP zs, Ext Hs1 H1 Hs2 H3 ∧ Hs2 D = none ∧ H3 D = some (.lst acc) ∧ RpA X.K cl Hs2 acc accP ∧ lcL t c e (wipeE ρ own) (xs.drop (i + 1)) = .ok zs ∧ accP ++ zs = ys,
          fun H3 ⟨Hs3, acc3, accP3, zs3, q⟩ => ⟨m - 1, by omega, Hs3, acc3, accP3, zs3, by omega, q⟩, fun x H3 hy => ?_⟩
        have ev : xs[i]? = some xs[i] := List.getElem?_eq_getElem hi
        obtain ⟨Hs3, x3, rx3⟩ := Wj.yld i x H2 H3 Hs2 xs[i] x2.fs x2.sub ev hy
        rw [List.drop_eq_getElem_cons hi] at el
        unfold lcL at el
        cases et : t xs[i] with
        | none => rw [et] at el; cases el
        | some as =>
          rw [et] at el
          have x13 := x2.trans x3
          refine hG Hs3 H3 (wipe σ own) x xs[i] as _ x3.sub rx3 et fun vs rv => ⟨?_, ?_⟩
          · rw [wipe_setV _ _ _ fun p hp => ?_, wipe_wipe]
            obtain ⟨q, h1, h2⟩ := rv.fst p hp
            rw [← h2]
            exact hI _ _ et q h1
          · have E3 : PEnv X.K cl Hs3 H3 (setV vs (wipe σ own)) (setE as (wipeE ρ own)) := (E1.up x13).sets rv
            refine ⟨Hs3, _, E3, ?_⟩
            have nD3 : Hs3 D = none := x3.nw D (by rw [eD]; simp) nD
            have eD3 : H3 D = some (.lst acc) := x3.same _ _ eD
            cases ec : c (setE as (wipeE ρ own)) with
            | ok b =>
              simp only [ec] at el
              intro b' Hs4 H4 x4 eb
              subst eb
              have nD4 : Hs4 D = none := x4.nw D (by rw [eD3]; simp) nD3
              have eD4 : H4 D = some (.lst acc) := x4.same _ _ eD3
              cases b' with
              | true =>
                simp only at el
                rw [if_pos rfl]
                refine ⟨Hs4, _, E3.up x4, ?_⟩
                cases ee : e (setE as (wipeE ρ own)) with
                | ok y =>
                  simp only [ee] at el
                  intro yv Hs5 H5 x5 ry
                  have nD5 : Hs5 D = none := x5.nw D (by rw [eD4]; simp) nD4
                  have eD5 : H5 D = some (.lst acc) := x5.same _ _ eD4
                  cases er : lcL t c e (wipeE ρ own) (xs.drop (i + 1)) with
                  | ok ws =>
                    simp only [er] at el
                    cases el
                    have up : Sub Hs2 Hs5 := (x3.fs.trans x4.fs).trans x5.fs
                    refine ⟨acc, eD5, ?_, Hs5, acc ++ [yv], accP ++ [y], ws, ?_, nD5, upd_same, (rA.mono up).append (.cons ry .nil), rfl, by rw [← ea]; simp⟩
                    · rw [rA.length]
                      have : ys.length = accP.length + (ws.length + 1) := by rw [← ea]; simp
                      omega
                    · have x15 := ((x13.trans x4).trans x5)
                      exact ⟨x15.fs, x15.sub.upd nD5, x15.same.upd hD, x15.nw⟩
                  | exc c' fs => simp only [er] at el; cases el
                  | stuck => simp only [er] at el; cases el
                | exc c' fs => simp only [ee] at el; cases el
                | stuck => simp only [ee] at el; cases el
              | false =>
                simp only at el
                rw [if_neg Bool.false_ne_true]
                exact ⟨Hs4, acc, accP, zs, x13.trans x4, nD4, eD4, (rA.mono x3.fs).mono x4.fs, el, ea⟩
            | exc c' fs => simp only [ec] at el; cases el
            | stuck => simp only [ec] at el; cases el
      · have hz : xs.drop i = [] := List.drop_of_length_le (by omega)
        rw [hz] at el
        cases el
        rw [List.append_nil] at ea
        subst ea
        exact .inl ⟨Wj.stop i H2 Hs2 x2.fs x2.sub (by omega), h1 D acc Hs2 H2 x2 eD nD hD rA⟩
    · exact h1.elim
end
end VL
namespace VL
open PySem PySem.Spec PyProof.Rows L2
section
variable {X : Cx} {cl : Nat → Addr} {W : WX} {pos : Pos}
theorem vo_lc {rel : Hp → It → List PV → Prop} {elt tg iter : Expr} {ifs : List Expr} {scope : Scope} {own : List (Str × Nat)} {it : Ev → R (List PV)} {g : TG} {t : Tg} {c : Ev → R Bool} {e : Ex} (hc : X.calm = true) (hN : X.N.Nodup) (hi : PI X tg iter (gv X.K cl rel W it)) (hR : ∀ Hs J xs, rel Hs J xs → Wk X.K cl Hs J xs)
    (ok : BlkOk X.N X.env.scope scope own) (hG : TgOk X.K cl g t) (hI : TgIn t (own.map (·.2)))
    (hg : ∀ (s : Shared) (H : Hp) (C : Addr) (cl : List (Str × Addr)) (fp : List Addr), PG (X.blk s H scope (compEnvC scope cl C X.env) fp) tg g) (ht : ∀ (s : Shared) (H : Hp) (C : Addr) (cl' : List (Str × Addr)) (fp : List Addr), PTs (X.blk s H scope (compEnvC scope cl' C X.env) fp) ifs (tt X.K cl W0 c))
    (he : ∀ (s : Shared) (H : Hp) (C : Addr) (cl' : List (Str × Addr)) (fp : List Addr), PE (X.blk s H scope (compEnvC scope cl' C X.env) fp) elt (tv X.K cl W0 e)) (hs : ∀ x, foldedSetIterable iter X.env x = pure x := by intro _; rfl) :
    PE X (.ListComp elt [⟨tg, iter, ifs, 0⟩] scope pos) (to X.K cl W (eLc (own.map (·.2)) t it c e)) :=
  peWeak (pe_lc hc hN hi ok hg ht he hs) fun σ H Q h => lc_use hR hG hI h
end

/-! ### the statements -/
def sPass : Env → Out := fun ρ => .next ρ
def sBreak : Env → Out := fun ρ => .brk ρ
def sCont : Env → Out := fun ρ => .cont ρ
def sRetN : Env → Out := fun _ => .ret .non
def sSeq (s t : Env → Out) : Env → Out := fun ρ => match s ρ with
  | .next ρ' => t ρ'
  | .brk ρ' => .brk ρ' | .cont ρ' => .cont ρ' | .ret v => .ret v | .exc c fs ρ' => .exc c fs ρ' | .stuck => .stuck
def sExpr (bs : List Bool) (f : Ex) : Env → Out := fun ρ => onE PV.nol f bs ρ fun _ ρ' => .next ρ'
def sRet (bs : List Bool) (f : Ex) : Env → Out := fun ρ => onE PV.nol f bs ρ fun v _ => .ret v
def sSet (i : Nat) (bs : List Bool) (f : Ex) : Env → Out := fun ρ => onE PV.nol f bs ρ fun v ρ' => .next (ρ'.set i (.fz v))
def sTg (t : Tg) (bs : List Bool) (f : Ex) : Env → Out := fun ρ => onE PV.nol f bs ρ fun v ρ' => match t v with
  | some as => .next (setS as ρ')
  | none => .stuck
def sPar (is : List Nat) (bs : List Bool) (fs : List Ex) : Env → Out := fun ρ => onE PV.nols (evs fs) bs ρ fun vs ρ' => .next (setS (is.zip vs) ρ')
def onO (f : Ev → R (List PV)) (bs : List Bool) (ρ : Env) (k : List PV → Env → Out) : Out := match f (vw bs ρ) with
  | .ok xs => k xs (settle bs (PV.nols xs) ρ)
  | .exc c fs => .exc c fs (fr bs ρ)
  | .stuck => .stuck
def sOwn (i : Nat) (bs : List Bool) (f : Ev → R (List PV)) : Env → Out := fun ρ => onO f bs ρ fun xs ρ' => .next (ρ'.set i (.own xs))
def getO : Env → Nat → Option (List PV)
  | .own xs :: _, 0 => some xs
  | _ :: r, n + 1 => getO r n
  | _, _ => none
theorem getO_eq : ∀ {ρ : Env} {i : Nat} {xs : List PV}, getO ρ i = some xs → ρ[i]? = some (.own xs)
  | [], i, xs, h => by cases i <;> cases h
  | .own ys :: r, 0, xs, h => by cases h; rfl
  | .no :: r, 0, xs, h => by cases h
  | .fz v :: r, 0, xs, h => by cases h
  | .om _ v :: r, 0, xs, h => by cases h
  | s :: r, n + 1, xs, h => by
    rw [List.getElem?_cons_succ]
    exact getO_eq (by cases s <;> exact h)
/-- a method that changes an own list -/
def sMet (i : Nat) (g : List PV → List PV → Option (List PV)) (bs : List Bool) (fs : List Ex) : Env → Out := fun ρ => match getO ρ i with
  | none => .stuck
  | some _ => onE PV.nols (evs fs) bs ρ fun vs ρ' => match getO ρ' i with
    | none => .stuck
    | some xs => match g xs vs with
      | none => .stuck
      | some ys => .next (ρ'.set i (.own ys))
def mApp (xs vs : List PV) : Option (List PV) := match vs with
  | [v] => if xs.length < sizeLine then some (xs ++ [v]) else none
  | _ => none
def mExt (xs vs : List PV) : Option (List PV) := match vs with
  | [.lst ys] => if xs.length + ys.length ≤ sizeLine then some (xs ++ ys) else none
  | _ => none
def mIns (xs vs : List PV) : Option (List PV) := match vs with
  | [.int i, v] => if xs.length < sizeLine ∧ 0 ≤ i ∧ i < 2 ^ 63 then some (xs.take i.toNat ++ [v] ++ xs.drop i.toNat) else none
  | _ => none
/-- x[i] = e -/
def sPut (i : Nat) (bs : List Bool) (fv fi : Ex) : Env → Out := fun ρ => onE PV.nol fv bs ρ fun v ρ1 => match getO ρ1 i with
  | none => .stuck
  | some _ => onE PV.nol fi bs ρ1 fun k ρ2 => match getO ρ2 i, k with
    | some xs, .int z => match ixN xs.length z with
      | some j => .next (ρ2.set i (.own (xs.set j v)))
      | none => .stuck
    | _, _ => .stuck
/-- y = x.pop() -/
def sPop (i : Nat) (t : Tg) : Env → Out := fun ρ => match getO ρ i with
  | none => .stuck
  | some xs => match xs[xs.length - 1]? with
    | none => .stuck
    | some v => match t v with
      | none => .stuck
      | some as => .next (setS as (ρ.set i (.own xs.dropLast)))
def sAug (i : Nat) (g : PV → PV → Option PV) (bs : List Bool) (f : Ex) : Env → Out := fun ρ => match ρ[i]? with
  | some (.fz x) => onE PV.nol f bs ρ fun y ρ' => match g x y with
    | some z => .next (ρ'.set i (.fz z))
    | none => .stuck
  | _ => .stuck
def sIf (bs : List Bool) (c : Ev → R Bool) (s t : Env → Out) : Env → Out := fun ρ => onE (fun _ => true) c bs ρ fun b ρ' => if b = true then s ρ' else t ρ'
def forL (t : Tg) (s : Env → Out) : List PV → Env → Out
  | [], ρ => .next ρ
  | v :: vs, ρ => match t v with
    | none => .stuck
    | some as => match s (setS as ρ) with
      | .next ρ' => forL t s vs ρ'
      | .cont ρ' => forL t s vs ρ'
      | .brk ρ' => .next ρ'
      | .ret v => .ret v
      | .exc c fs ρ' => .exc c fs ρ'
      | .stuck => .stuck
def sFor (nl : Bool) (t : Tg) (bs : List Bool) (it : Ev → R (List PV)) (s : Env → Out) : Env → Out := fun ρ => onE (fun _ => nl) it bs ρ fun xs ρ' => forL t s xs ρ'
def wN (bs : List Bool) (c : Ev → R Bool) (s : Env → Out) : Nat → Env → Option Out
  | 0, _ => none
  | n + 1, ρ => match c (vw bs ρ) with
    | .ok false => some (.next ρ)
    | .ok true => match s ρ with
      | .next ρ' => wN bs c s n ρ'
      | .cont ρ' => wN bs c s n ρ'
      | .brk ρ' => some (.next ρ')
      | .ret v => some (.ret v)
      | .exc c fs ρ' => some (.exc c fs ρ')
      | .stuck => some .stuck
    | .exc c fs => some (.exc c fs (fr bs ρ))
    | .stuck => some .stuck
open Classical in
noncomputable def sWhile (bs : List Bool) (c : Ev → R Bool) (s : Env → Out) : Env → Out := fun ρ =>
  if h : ∃ o n, wN bs c s n ρ = some o then h.choose else .stuck
theorem wN_mono {bs : List Bool} {c : Ev → R Bool} {s : Env → Out} : ∀ {n : Nat} {ρ : Env} {o : Out} (k : Nat), wN bs c s n ρ = some o → wN bs c s (n + k) ρ = some o
  | 0, _, _, _, h => by cases h
  | n + 1, ρ, o, k, h => by
    rw [show n + 1 + k = (n + k) + 1 by omega]
    unfold wN at h ⊢
    cases e : c (vw bs ρ) with
    | ok b =>
      rw [e] at h
      cases b with
      | false => exact h
      | true =>
        cases e2 : s ρ with
        | next ρ' => simp only [e2] at h ⊢; exact wN_mono k h
        | cont ρ' => simp only [e2] at h ⊢; exact wN_mono k h
        | brk ρ' => simp only [e2] at h ⊢; exact h
        | ret v => simp only [e2] at h ⊢; exact h
        | exc c' fs ρ' => simp only [e2] at h ⊢; exact h
        | stuck => simp only [e2] at h ⊢; exact h
    | exc c' fs => rw [e] at h; exact h
    | stuck => rw [e] at h; exact h
theorem sWhile_of {bs : List Bool} {c : Ev → R Bool} {s : Env → Out} {ρ : Env} {n : Nat} {o : Out} (h : wN bs c s n ρ = some o) : sWhile bs c s ρ = o := by
  have hx : ∃ o n, wN bs c s n ρ = some o := ⟨o, n, h⟩
  unfold sWhile
  rw [dif_pos hx]
  obtain ⟨m, hm⟩ := hx.choose_spec
  have h1 := wN_mono m h
  have h2 := wN_mono n hm
  rw [Nat.add_comm] at h2
  rw [h1] at h2
  exact (Option.some.inj h2).symm
/-- a while by a measure: what one turn does -/
theorem sWhile_by {bs : List Bool} {c : Ev → R Bool} {s : Env → Out} {Q : Out → Prop} (I : Nat → Env → Prop)
    (turn : ∀ m ρ, I m ρ → (c (vw bs ρ) = .ok false ∧ Q (.next ρ)) ∨ (c (vw bs ρ) = .ok true ∧ ((∃ m' ρ', m' < m ∧ (s ρ = .next ρ' ∨ s ρ = .cont ρ') ∧ I m' ρ') ∨ (∃ ρ', s ρ = .brk ρ' ∧ Q (.next ρ')) ∨ (∃ v, s ρ = .ret v ∧ Q (.ret v)) ∨ ∃ c fs ρ', s ρ = .exc c fs ρ' ∧ Q (.exc c fs ρ'))))
    {m : Nat} {ρ : Env} (h : I m ρ) : Q (sWhile bs c s ρ) := by
  have go : ∀ m ρ, I m ρ → ∃ n o, wN bs c s n ρ = some o ∧ Q o := by
    intro m
    induction m using Nat.strongRecOn with
    | ind m ih =>
      intro ρ h
      rcases turn m ρ h with ⟨e, q⟩ | ⟨e, ⟨m', ρ', hm, es, h'⟩ | ⟨ρ', es, q⟩ | ⟨v, es, q⟩ | ⟨c, fs, ρ', es, q⟩⟩
      · exact ⟨1, _, by unfold wN; rw [e], q⟩
      · obtain ⟨n, o, h1, h2⟩ := ih m' hm ρ' h'
        refine ⟨n + 1, o, ?_, h2⟩
        unfold wN
        rw [e]
        rcases es with es | es <;> (simp only [es]; exact h1)
      · exact ⟨1, _, by unfold wN; simp only [e, es], q⟩
      · exact ⟨1, _, by unfold wN; simp only [e, es], q⟩
      · exact ⟨1, _, by unfold wN; simp only [e, es], q⟩
  obtain ⟨n, o, h1, h2⟩ := go m ρ h
  rw [sWhile_of h1]
  exact h2

section
variable {X : Cx} {cl : Nat → Addr} {W : WX} {He H0 : Hp} {pin : List Addr} {pos : Pos}
abbrev PV1 (X : Cx) (cl : Nat → Addr) (W : WX) (He H0 : Hp) (pin : List Addr) (st : Stmt) (s : Env → Out) : Prop := PS X st (ts X.K cl He H0 pin W s)
abbrev PVs (X : Cx) (cl : Nat → Addr) (W : WX) (He H0 : Hp) (pin : List Addr) (st : List Stmt) (s : Env → Out) : Prop := PSs X st (ts X.K cl He H0 pin W s)
variable {st : Stmt} {rest : List Stmt} {s t : Env → Out} {e : Expr} {f : Ex} {bs : List Bool}
theorem vs_nil : PVs X cl W He H0 pin [] sPass := pssWeak pss_nil fun D σ H ⟨Hs, ρ, S, h⟩ => h σ Hs H (Sub.refl _) S
theorem vs_one (h : PV1 X cl W He H0 pin st s) : PVs X cl W He H0 pin [st] s := pss_one h
theorem vs_cons (h : PV1 X cl W He H0 pin st s) (h' : PVs X cl W He H0 pin rest t) : PVs X cl W He H0 pin (st :: rest) (sSeq s t) :=
  pssWeak (pss_cons h h') fun D σ H ⟨Hs, ρ, S, h⟩ => by
    refine ⟨Hs, ρ, S, ?_⟩
    unfold sSeq at h
    cases e : s ρ with
    | next ρ' => rw [e] at h; exact fun σ' Hs' H' up S' => ⟨Hs', ρ', S', Post.up h up⟩
    | brk ρ' => rw [e] at h; exact h
    | cont ρ' => rw [e] at h; exact h
    | ret v => rw [e] at h; exact h
    | exc c fs ρ' => rw [e] at h; exact h
    | stuck => rw [e] at h; exact h
theorem vs_pass : PV1 X cl W He H0 pin (.Pass pos) sPass := psWeak ps_pass fun D σ H ⟨Hs, ρ, S, h⟩ => h σ Hs H (Sub.refl _) S
theorem vs_doc {x j pos'} : PV1 X cl W He H0 pin (.Expr (.Constant (.str x) j pos) pos') sPass := psWeak ps_doc fun D σ H ⟨Hs, ρ, S, h⟩ => h σ Hs H (Sub.refl _) S
theorem vs_break : PV1 X cl W He H0 pin (.Break pos) sBreak := psWeak ps_break fun D σ H ⟨Hs, ρ, S, h⟩ => h σ Hs H (Sub.refl _) S
theorem vs_cont : PV1 X cl W He H0 pin (.Continue pos) sCont := psWeak ps_continue fun D σ H ⟨Hs, ρ, S, h⟩ => h σ Hs H (Sub.refl _) S
theorem vs_retN : PV1 X cl W He H0 [] (.Return none pos) sRetN := psWeak ps_retN fun D σ H ⟨Hs, ρ, S, h⟩ => h .non Hs H S.ext .non
theorem vs_expr (he : PE X e (tv X.K cl W f)) (hs : swapsWith e none pos.line X.env = pure false := by rfl) : PV1 X cl W He H0 pin (.Expr e pos) (sExpr bs f) :=
  psWeak (ps_expr he hs) fun D σ H ⟨Hs, ρ, S, h⟩ => onE_use bears_v S h fun v x Hs1 H1 ρ1 up S1 r _ _ _ hp => hp _ _ _ (Sub.refl _) S1
theorem vs_ret (he : PE X e (tv X.K cl W f)) : PV1 X cl W He H0 [] (.Return (some e) pos) (sRet bs f) :=
  psWeak (ps_ret he) fun D σ H ⟨Hs, ρ, S, h⟩ => onE_use bears_v S h fun v x Hs1 H1 ρ1 up S1 r _ _ _ hp => hp _ _ _ S1.ext r
theorem vs_set {i : Nat} {x : Str} {p' : Pos} (hN : X.N.Nodup) (he : PE X e (tv X.K cl W f)) (hi : X.N[i]? = some x := by rfl) (hx : Loc X.env.scope x := by first | exact Or.inl rfl | exact Or.inr rfl) (hs : swapsWith e (some (.Name x p')) pos.line X.env = pure false := by rfl) (hf : X.fn x = true ∨ X.env.scope.names.lookup x = some .local := by first | exact .inl rfl | exact .inr rfl | assumption) :
    PV1 X cl W He H0 pin (.Assign [.Name x p'] e pos) (sSet i bs f) :=
  psWeak (ps_set hN hi hx he hs hf) fun D σ H ⟨Hs, ρ, S, h⟩ => onE_use bears_v S h fun v x Hs1 H1 ρ1 up S1 r _ _ _ hp => hp _ _ _ (Sub.refl _) (S1.set r i)
theorem vs_tg {tg : Expr} {g : TG} {t : Tg} (he : PE X e (tv X.K cl W f)) (hg : PG X tg g) (hG : TgOk X.K cl g t) (hs : swapsWithSole [tg] e pos.line X.env = pure false := by rfl) (hw : swappedStores [tg] e X.env = pure none := by rfl) (h1 : (assignEach [tg] X.env).map (·.2) = [assign tg X.env] := by rfl) :
    PV1 X cl W He H0 pin (.Assign [tg] e pos) (sTg t bs f) :=
  psWeak (ps_asg he hg hs hw h1) fun D σ H ⟨Hs, ρ, S, h⟩ => onE_use bears_v S h fun v x Hs1 H1 ρ1 up S1 r _ _ _ hp => by
    cases e : t v with
    | none => rw [e] at hp; exact hp.elim
    | some as => rw [e] at hp; exact hG Hs1 H1 σ x v as _ S1.sub r e fun xs rx => hp _ _ _ (Sub.refl _) (S1.sets rx)
theorem vs_par {i j : Nat} {x y : Str} {a b : Expr} {fs : List Ex} {px py pt : Pos} {kt k2 pt2} (hc : X.calm = true) (hN : X.N.Nodup) (ha : PA X [a, b] (ta X.K cl W (evs fs))) (hi : X.N[i]? = some x := by rfl) (hj : X.N[j]? = some y := by rfl) (hij : i ≠ j := by decide)
    (hx : X.env.scope.names.lookup x = some .local := by rfl) (hy : X.env.scope.names.lookup y = some .local := by rfl)
    (hw : swappedStores [.Tuple [.Name x px, .Name y py] kt pt] (.Tuple [a, b] k2 pt2) X.env = pure (some [x, y]) := by rfl)
    (hs : swapsWithSole [.Tuple [.Name x px, .Name y py] kt pt] (.Tuple [a, b] k2 pt2) pos.line X.env = pure false := by rfl) (hl : fs.length = 2 := by rfl) :
    PV1 X cl W He H0 pin (.Assign [.Tuple [.Name x px, .Name y py] kt pt] (.Tuple [a, b] k2 pt2) pos) (sPar [i, j] bs fs) :=
  psWeak (ps_par hc hN hi hj hij hx hy ha hw hs) fun D σ H ⟨Hs, ρ, S, h⟩ => onE_use bears_a S h fun v xs Hs1 H1 ρ1 up S1 r ev _ _ hp => by
    have l2 : v.length = 2 := by
      have gen : ∀ (gs : List Ex) (ρ : Ev) (vs : List PV), evs gs ρ = .ok vs → vs.length = gs.length := by
        intro gs
        induction gs with
        | nil => intro ρ vs e; cases e; rfl
        | cons g gs ih =>
          intro ρ vs e
          unfold evs at e
          cases e1 : g ρ with
          | ok x =>
            rw [e1] at e
            replace e : (evs gs ρ).bind (fun xs => R.ok (x :: xs)) = .ok vs := e
            cases e2 : evs gs ρ with
            | ok xs => rw [e2] at e; cases e; simp [ih ρ xs e2]
            | exc c f => rw [e2] at e; cases e
            | stuck => rw [e2] at e; cases e
          | exc c f => rw [e1] at e; cases e
          | stuck => rw [e1] at e; cases e
      rw [gen _ _ _ ev, hl]
    match v, l2, r with
    | [v1, v2], _, .cons (v := x1) r1 (.cons (v := x2) r2 .nil) =>
      exact ⟨x1, x2, rfl, hp _ _ _ (Sub.refl _) ((S1.set r1 i).set r2 j)⟩
/-- a made list becomes the def's own -/
theorem onO_use {g : Ev → R (List PV)} {k : List PV → Env → Out} {D : Ends} {Q : VK} {σ : St} {Hs H : Hp} {ρ : Env} {K : PySem.W.Frag} (S : SEnv K cl He H0 pin Hs H σ ρ) (h : Post K cl He H0 pin W Hs D (onO g bs ρ k))
    (hk : ∀ xs a vs Hs1 H1 ρ1, Sub Hs Hs1 → SEnv K cl He H0 pin Hs1 H1 σ ρ1 → H1 a = some (.lst vs) → RpA K cl Hs1 vs xs → Hs1 a = none → H0 a = none → (∀ (j : Nat) (p : Option Nat × PV), VL.ownAt ρ1 j = some p → σ[j]? ≠ some (some (V.ref a))) → Post K cl He H0 pin W Hs1 D (k xs ρ1) → Q (.ref a) H1) : to K cl W g σ H Q := by
  refine ⟨_, _, S.pe bs, ?_⟩
  unfold onO at h
  have s1 := (S.plusExt bs).1
  have hH0 : ∀ {a : Addr}, H a = none → H0 a = none := fun {a} n => by
    cases q : H0 a with
    | none => rfl
    | some o => rw [S.ext.same a o q] at n; cases n
  have hnew : ∀ {a : Addr}, H a = none → ∀ (j : Nat) (p : Option Nat × PV), VL.ownAt ρ j = some p → σ[j]? ≠ some (some (V.ref a)) := fun {a} n j p e z => by
    obtain ⟨b, e1, o, _⟩ := S.ow j p.1 p.2 e
    rw [z] at e1
    cases e1
    obtain ⟨w, e2, _⟩ := o.some
    rw [n] at e2; cases e2
  cases e : g (vw bs ρ) with
  | ok xs =>
    rw [e] at h
    replace h : Post K cl He H0 pin W Hs D (k xs (settle bs (PV.nols xs) ρ)) := h
    intro a vs Hs1 H1 X e1 n1 n2 r
    cases en : PV.nols xs with
    | false =>
      have es : settle bs (PV.nols xs) ρ = fr bs ρ := by unfold settle; rw [en]; rfl
      have up := s1.trans X.fs
      rw [es] at h
      exact hk xs a vs Hs1 H1 _ up (S.froze X) e1 r n1 (hH0 n2) (fun j ys e => hnew n2 j ys (fr_own e).1) (Post.up h up)
    | true =>
      have es : settle bs (PV.nols xs) ρ = ρ := by unfold settle; rw [en]; rfl
      obtain ⟨S1, up⟩ := S.back X
      rw [es] at h
      have nP : ¬ isOwn bs ρ σ a := fun p => by
        obtain ⟨vs, q, _⟩ := (S.ownAt p).1
        rw [n2] at q; cases q
      refine hk xs a vs _ H1 _ up S1 e1 (r.nolist ⟨fun b p => ?_⟩ en) (by rw [cut_no nP]; exact n1) (hH0 n2) (hnew n2) (Post.up h up)
      obtain ⟨us, e2, k2⟩ := (S.ownAt p).1
      exact ⟨us, X.fs _ _ (by rw [plus_yes p]; exact e2), k2⟩
  | exc c fs =>
    rw [e] at h
    intro d fvs Hs1 H1 X e1 r
    exact h σ Hs1 H1 d fvs (s1.trans X.fs) (S.froze X) e1 r
  | stuck => rw [e] at h; exact h
theorem vs_own {i : Nat} {x : Str} {p' : Pos} {g : Ev → R (List PV)} (hN : X.N.Nodup) (he : PE X e (to X.K cl W g)) (hi : X.N[i]? = some x := by rfl) (hx : Loc X.env.scope x := by first | exact Or.inl rfl | exact Or.inr rfl) (hs : swapsWith e (some (.Name x p')) pos.line X.env = pure false := by rfl) (hf : X.fn x = true ∨ X.env.scope.names.lookup x = some .local := by first | exact .inl rfl | exact .inr rfl | assumption) :
    PV1 X cl W He H0 pin (.Assign [.Name x p'] e pos) (sOwn i bs g) :=
  psWeak (ps_set hN hi hx he hs hf) fun D σ H ⟨Hs, ρ, S, h⟩ => onO_use S h fun xs a vs Hs1 H1 ρ1 up S1 e1 r n1 n0 new hp => hp _ _ _ (Sub.refl _) (S1.setOwn e1 r n1 n0 new i)
/-! a comprehension given to a name -/
section
variable {rel : Hp → It → List PV → Prop} {elt tg iter : Expr} {ifs : List Expr} {scope : Scope} {own : List (Str × Nat)} {it : Ev → R (List PV)} {g : TG} {t : Tg} {c : Ev → R Bool} {e : Ex} {i : Nat} {y : Str} {py p2 : Pos}
theorem vs_ownLc (hc : X.calm = true) (hN : X.N.Nodup) (hi : PI X tg iter (gv X.K cl rel W it)) (hR : ∀ Hs J xs, rel Hs J xs → Wk X.K cl Hs J xs)
    (ok : BlkOk X.N X.env.scope scope own) (hG : TgOk X.K cl g t) (hI : TgIn t (own.map (·.2)))
    (hg : ∀ (s : Shared) (H : Hp) (C : Addr) (cl : List (Str × Addr)) (fp : List Addr), PG (X.blk s H scope (compEnvC scope cl C X.env) fp) tg g) (ht : ∀ (s : Shared) (H : Hp) (C : Addr) (cl' : List (Str × Addr)) (fp : List Addr), PTs (X.blk s H scope (compEnvC scope cl' C X.env) fp) ifs (tt X.K cl W0 c))
    (he : ∀ (s : Shared) (H : Hp) (C : Addr) (cl' : List (Str × Addr)) (fp : List Addr), PE (X.blk s H scope (compEnvC scope cl' C X.env) fp) elt (tv X.K cl W0 e)) (hs : ∀ x, foldedSetIterable iter X.env x = pure x := by intro _; rfl)
    (hy : X.N[i]? = some y := by rfl) (hyl : X.env.scope.names.lookup y = some .local := by rfl) (hsw : swapsWith (.ListComp elt [⟨tg, iter, ifs, 0⟩] scope p2) (some (.Name y py)) pos.line X.env = pure true := by rfl) :
    PV1 X cl W He H0 pin (.Assign [.Name y py] (.ListComp elt [⟨tg, iter, ifs, 0⟩] scope p2) pos) (sOwn i bs (eLc (own.map (·.2)) t it c e)) :=
  psWeak (ps_setLc hc hN hy hyl hsw hi ok hg ht he hs) fun D σ H ⟨Hs, ρ, S, h⟩ => lc_use hR hG hI (onO_use S h fun xs a vs Hs1 H1 ρ1 up S1 e1 r n1 n0 new hp => hp _ _ _ (Sub.refl _) (S1.setOwn e1 r n1 n0 new i))
theorem onO_asLst {g : Ev → R (List PV)} {k : PV → Env → Out} {ρ : Env} {D : Ends} {Hs : Hp} {K : PySem.W.Frag} {σ : St} {H : Hp} {Q : VK} (S : SEnv K cl He H0 pin Hs H σ ρ) (h : Post K cl He H0 pin W Hs D (onE PV.nol (asLst g) bs ρ k))
    (hk : ∀ v x Hs1 H1 ρ1, Sub Hs Hs1 → SEnv K cl He H0 pin Hs1 H1 σ ρ1 → Rp K cl Hs1 x v → Post K cl He H0 pin W Hs1 D (k v ρ1) → Q x H1) : to K cl W g σ H Q := by
  refine ⟨_, _, S.pe bs, ?_⟩
  unfold onE asLst at h
  have s1 := (S.plusExt bs).1
  cases e : g (vw bs ρ) with
  | ok xs =>
    rw [e] at h
    replace h : Post K cl He H0 pin W Hs D (k (.lst xs) (fr bs ρ)) := h
    intro a vs Hs1 H1 X e1 n1 n2 r
    have X2 : Ext (plus (isOwn bs ρ σ) Hs H) H (upd Hs1 a (.lst vs)) H1 := ⟨X.fs.trans (Sub.new n1), fun b o q => by
      by_cases hb : b = a
      · subst hb; rw [upd_same] at q; rw [e1]; exact q
      · rw [upd_ne hb] at q; exact X.sub b o q, X.same, fun b hb n => by
      rw [upd_ne (fun z => hb (by rw [z]; exact n2))]
      exact X.nw b hb n⟩
    have up := s1.trans X2.fs
    exact hk _ (.ref a) _ H1 _ up (S.froze X2) (.lst upd_same (r.mono (Sub.new n1))) (Post.up h up)
  | exc c fs =>
    rw [e] at h
    intro d fvs Hs1 H1 X e1 r
    exact h σ Hs1 H1 d fvs (s1.trans X.fs) (S.froze X) e1 r
  | stuck => rw [e] at h; exact h
theorem vs_setLc (hc : X.calm = true) (hN : X.N.Nodup) (hi : PI X tg iter (gv X.K cl rel W it)) (hR : ∀ Hs J xs, rel Hs J xs → Wk X.K cl Hs J xs)
    (ok : BlkOk X.N X.env.scope scope own) (hG : TgOk X.K cl g t) (hI : TgIn t (own.map (·.2)))
    (hg : ∀ (s : Shared) (H : Hp) (C : Addr) (cl : List (Str × Addr)) (fp : List Addr), PG (X.blk s H scope (compEnvC scope cl C X.env) fp) tg g) (ht : ∀ (s : Shared) (H : Hp) (C : Addr) (cl' : List (Str × Addr)) (fp : List Addr), PTs (X.blk s H scope (compEnvC scope cl' C X.env) fp) ifs (tt X.K cl W0 c))
    (he : ∀ (s : Shared) (H : Hp) (C : Addr) (cl' : List (Str × Addr)) (fp : List Addr), PE (X.blk s H scope (compEnvC scope cl' C X.env) fp) elt (tv X.K cl W0 e)) (hs : ∀ x, foldedSetIterable iter X.env x = pure x := by intro _; rfl)
    (hy : X.N[i]? = some y := by rfl) (hyl : X.env.scope.names.lookup y = some .local := by rfl) (hsw : swapsWith (.ListComp elt [⟨tg, iter, ifs, 0⟩] scope p2) (some (.Name y py)) pos.line X.env = pure true := by rfl) :
    PV1 X cl W He H0 pin (.Assign [.Name y py] (.ListComp elt [⟨tg, iter, ifs, 0⟩] scope p2) pos) (sSet i bs (asLst (eLc (own.map (·.2)) t it c e))) :=
  psWeak (ps_setLc hc hN hy hyl hsw hi ok hg ht he hs) fun D σ H ⟨Hs, ρ, S, h⟩ => lc_use hR hG hI (onO_asLst S h fun v x Hs1 H1 ρ1 up S1 r hp => hp _ _ _ (Sub.refl _) (S1.set r i))
end

/-! changing an own list -/
theorem getO_set {ρ : Env} {i : Nat} {xs : List PV} (h : getO ρ i = some xs) : ρ[i]? = some (.own xs) := getO_eq h
/-- the method's rule, by its reading -/
def MetOk (K : PySem.W.Frag) (cl : Nat → Addr) (r : V → List V → Hp → VK → Prop) (g : List PV → List PV → Option (List PV)) : Prop :=
  ∀ (Hs H : Hp) (a : Addr) (vs us : List V) (xs ws ys : List PV) (Q : VK), Sub Hs H → H a = some (.lst vs) → Hs a = none → RpA K cl Hs vs xs → RpA K cl Hs us ws → g xs ws = some ys → (∀ zs, RpA K cl Hs zs ys → Q .non (upd H a (.lst zs))) → r (.ref a) us H Q
theorem met_app {K : PySem.W.Frag} : MetOk K cl rAppend mApp := fun Hs H a vs us xs ws ys Q s e n r ru h q => by
  cases ru with
  | nil => cases h
  | cons r1 t =>
    cases t with
    | cons _ _ => cases h
    | nil =>
      replace h : (if xs.length < sizeLine then some (xs ++ [_]) else none) = some ys := h
      split at h
      · cases h; exact ⟨a, vs, _, rfl, rfl, e, by rw [r.length]; assumption, q _ (r.append (.cons r1 .nil))⟩
      · cases h
theorem met_ext {K : PySem.W.Frag} : MetOk K cl rExtend mExt := fun Hs H a vs us xs ws ys Q s e n r ru h q => by
  cases ru with
  | nil => cases h
  | cons r1 t =>
    cases t with
    | cons _ _ => cases r1 <;> cases h
    | nil =>
      cases r1 with
      | @lst b zs ys' hb rb =>
        replace h : (if xs.length + ys'.length ≤ sizeLine then some (xs ++ ys') else none) = some ys := h
        split at h
        · cases h; exact ⟨a, b, vs, zs, rfl, rfl, e, s _ _ hb, by rw [r.length, rb.length]; assumption, q _ (r.append rb)⟩
        · cases h
      | _ => cases h
def rInsert : V → List V → Hp → VK → Prop := fun x vs H Q => ∃ (l : Addr) (xs : List V) (i : Int) (y : V), x = .ref l ∧ vs = [.int i, y] ∧ H l = some (.lst xs) ∧ xs.length < sizeLine ∧ 0 ≤ i ∧ i < 2 ^ 63 ∧ Q .non (upd H l (.lst (xs.take i.toNat ++ [y] ++ xs.drop i.toNat)))
theorem met_ins {K : PySem.W.Frag} : MetOk K cl rInsert mIns := fun Hs H a vs us xs ws ys Q s e n r ru h q => by
  cases ru with
  | nil => cases h
  | cons r1 t =>
    cases t with
    | nil => cases r1 <;> cases h
    | cons r2 t =>
      cases t with
      | cons _ _ => cases r1 <;> cases h
      | nil =>
        cases r1 with
        | int i =>
          replace h : (if xs.length < sizeLine ∧ 0 ≤ i ∧ i < 2 ^ 63 then some (xs.take i.toNat ++ [_] ++ xs.drop i.toNat) else none) = some ys := h
          split at h
          · rename_i hk
            cases h
            exact ⟨a, vs, i, _, rfl, rfl, e, by rw [r.length]; exact hk.1, hk.2.1, hk.2.2, q _ (((r.take _).append (.cons r2 .nil)).append (r.drop _))⟩
          · cases h
        | _ => cases h
theorem vs_met {i : Nat} {x : Str} {px apos cpos : Pos} {name : Str} {id : String} {r : V → List V → Hp → VK → Prop} {g : List PV → List PV → Option (List PV)} {es : List Expr} {fs : List Ex} (slot : Slot "list" name id) (hty : typeOf (.builtin id) = pure (.type "method_descriptor")) (hm : MtR X id r) (hg : MetOk X.K cl r g)
    (ha : PA X (e :: es) (ta X.K cl W (evs fs))) (hi : X.N[i]? = some x := by rfl) (hv : Vis X.env.scope x := by first | exact Or.inl rfl | exact Or.inr (Or.inl rfl) | exact Or.inr (Or.inr rfl)) (hd : (x == ("__debug__" : Str)) = false := by decide) (hcd : (x == ("__classdict__" : Str)) = false := by decide)
    (hbase : attributeBase (.Name x px) name X.env (eval (.Name x px) X.env) = eval (.Name x px) X.env := by rfl)
    (hfew : ((backTo cpos (starEach (e :: es) X.env)).all (fun x => !x.1) && (backToKw cpos (keywordEach [] X.env)).all (fun x => x.1.isSome)
      && decide ((e :: es).length + ([] : List Keyword).length + (if ([] : List Keyword).isEmpty then 0 else 1) < 30)) = true := by rfl)
    (hline : (apos.endLine == cpos.line) = true := by rfl) (hs : starEach (e :: es) X.env = (false, eval e X.env) :: starEach es X.env := by rfl) (hplain : (backTo cpos (starEach es X.env)).any (·.1) = false := by rfl)
    (hsw : swapsWith (.Call (.Attribute (.Name x px) name apos) (e :: es) [] cpos) none pos.line X.env = pure false := by rfl) :
    PV1 X cl W He H0 pin (.Expr (.Call (.Attribute (.Name x px) name apos) (e :: es) [] cpos) pos) (sMet i g bs fs) :=
  psWeak (ps_expr (pe_bm PySem.F.plainAttrs_list slot hty hm (pe_var hi hv hd hcd) ha hbase hfew hline hs hplain) hsw) fun D σ H ⟨Hs, ρ, S, h⟩ => by
    unfold sMet at h
    cases e0 : getO ρ i with
    | none => rw [e0] at h; exact h.elim
    | some xs0 =>
      rw [e0] at h
      obtain ⟨a, vs, h1, h2, _⟩ := S.own i xs0 (getO_eq e0)
      refine ⟨_, h1, .inl ⟨rfl, vs, .of h2⟩, ?_⟩
      refine onE_use bears_a S h fun ws us Hs1 H1 ρ1 up S1 ru ev e1 sm hp => ?_
      cases e2 : getO ρ1 i with
      | none => rw [e2] at hp; exact hp.elim
      | some xs =>
        rw [e2] at hp
        cases e3 : g xs ws with
        | none => simp only [e3] at hp; exact hp.elim
        | some ys =>
          simp only [e3] at hp
          obtain ⟨b, vs2, g1, g2, g3, g4, g5⟩ := S1.own i xs (getO_eq e2)
          rw [h1] at g1
          cases g1
          exact hg Hs1 H1 a vs2 us xs ws ys _ S1.sub g2 g4 g3 ru e3 fun zs rz => hp _ _ _ (Sub.refl _) (S1.put (getO_eq e2) h1 rz)
/-- x[i] = e -/
theorem vs_put {i : Nat} {x : Str} {px p2 : Pos} {ie : Expr} {fi : Ex} (he : PE X e (tv X.K cl W f)) (hie : PE X ie (tv X.K cl W fi)) (hi : X.N[i]? = some x := by rfl) (hv : Vis X.env.scope x := by first | exact Or.inl rfl | exact Or.inr (Or.inl rfl) | exact Or.inr (Or.inr rfl)) (hd : (x == ("__debug__" : Str)) = false := by decide) (hcd : (x == ("__classdict__" : Str)) = false := by decide)
    (ha : ∀ v, assign (.Subscript (.Name x px) ie p2) X.env v = (do
      let ov ← holding [v] (eval (.Name x px) X.env)
      let iv ← holding [v, ov] (eval ie X.env)
      standAt p2
      holding [v, ov, iv] (setItem ov iv v)
      release [v, ov, iv] []) := by intro _; rfl) (hs : swapsWithSole [.Subscript (.Name x px) ie p2] e pos.line X.env = pure false := by rfl) (hw : swappedStores [.Subscript (.Name x px) ie p2] e X.env = pure none := by rfl) (h1 : (assignEach [.Subscript (.Name x px) ie p2] X.env).map (·.2) = [assign (.Subscript (.Name x px) ie p2) X.env] := by rfl) :
    PV1 X cl W He H0 pin (.Assign [.Subscript (.Name x px) ie p2] e pos) (sPut i bs f fi) :=
  psWeak (ps_asg he (pg_sub (pe_var hi hv hd hcd) hie set_list ha) hs hw h1) fun D σ H ⟨Hs, ρ, S, h⟩ => by
    refine onE_use bears_v S h fun v xv Hs1 H1 ρ1 up S1 r _ _ _ hp => ?_
    cases e0 : getO ρ1 i with
    | none => rw [e0] at hp; exact hp.elim
    | some xs0 =>
      rw [e0] at hp
      obtain ⟨a, vs, h1, h2, _⟩ := S1.own i xs0 (getO_eq e0)
      refine ⟨_, h1, ?_⟩
      refine onE_use bears_v S1 hp fun k kv Hs2 H2 ρ2 up2 S2 rk _ _ _ hp2 => ?_
      cases e2 : getO ρ2 i with
      | none => rw [e2] at hp2; exact hp2.elim
      | some xs =>
        rw [e2] at hp2
        cases rk with
        | int z =>
          cases e3 : ixN xs.length z with
          | none => simp only [e3] at hp2; exact hp2.elim
          | some j =>
            simp only [e3] at hp2
            obtain ⟨b, vs2, g1, g2, g3, g4, g5⟩ := S2.own i xs (getO_eq e2)
            rw [h1] at g1
            cases g1
            exact ⟨a, vs2, z, j, rfl, rfl, g2, by rw [g3.length]; exact e3, hp2 _ _ _ (Sub.refl _) (S2.put (getO_eq e2) h1 (RpA.set (r.mono up2) j g3))⟩
        | _ => exact hp2.elim
theorem vs_pop {i : Nat} {x : Str} {px apos cpos : Pos} {tg : Expr} {g : TG} {t : Tg} (hg : PG X tg g) (hG : TgOk X.K cl g t) (hi : X.N[i]? = some x := by rfl) (hv : Vis X.env.scope x := by first | exact Or.inl rfl | exact Or.inr (Or.inl rfl) | exact Or.inr (Or.inr rfl)) (hd : (x == ("__debug__" : Str)) = false := by decide) (hcd : (x == ("__classdict__" : Str)) = false := by decide)
    (hbase : attributeBase (.Name x px) "pop" X.env (eval (.Name x px) X.env) = eval (.Name x px) X.env := by rfl) (hline : (apos.endLine == cpos.line) = true := by rfl)
    (hs : swapsWithSole [tg] (.Call (.Attribute (.Name x px) "pop" apos) [] [] cpos) pos.line X.env = pure false := by rfl) (hw : swappedStores [tg] (.Call (.Attribute (.Name x px) "pop" apos) [] [] cpos) X.env = pure none := by rfl) (h1 : (assignEach [tg] X.env).map (·.2) = [assign tg X.env] := by rfl) :
    PV1 X cl W He H0 pin (.Assign [tg] (.Call (.Attribute (.Name x px) "pop" apos) [] [] cpos) pos) (sPop i t) :=
  psWeak (ps_asg (pe_bm0 PySem.F.plainAttrs_list PySem.F.slot_list_pop PySem.F.type_list_pop mt_pop (pe_var hi hv hd hcd) hbase hline) hg hs hw h1) fun D σ H ⟨Hs, ρ, S, h⟩ => by
    unfold sPop at h
    cases e0 : getO ρ i with
    | none => rw [e0] at h; exact h.elim
    | some xs =>
      rw [e0] at h
      obtain ⟨a, vs, h1, h2, h3, h4, h5⟩ := S.own i xs (getO_eq e0)
      refine ⟨_, h1, .inl ⟨rfl, vs, .of h2⟩, ?_⟩
      cases e1 : xs[xs.length - 1]? with
      | none => simp only [e1] at h; exact h.elim
      | some v =>
        simp only [e1] at h
        cases e2 : t v with
        | none => simp only [e2] at h; exact h.elim
        | some as =>
          simp only [e2] at h
          obtain ⟨y, g1, g2⟩ := h3.get e1
          have dl : RpA X.K cl Hs vs.dropLast xs.dropLast := by
            rw [List.dropLast_eq_take, List.dropLast_eq_take, h3.length]
            exact h3.take _
          have S2 := S.put (getO_eq e0) h1 dl
          exact ⟨a, vs, y, rfl, rfl, h2, by rw [h3.length]; exact g1, hG Hs _ σ y v as _ S2.sub g2 e2 fun us ru => h _ _ _ (Sub.refl _) (S2.sets ru)⟩
/-- name op= e -/
theorem vs_aug {i : Nat} {x : Str} {op : Operator} {r : R2} {g : PV → PV → Option PV} {p' : Pos} (ho : OpR X (inplaceOp op) r) (hg : OpV X.K cl r g) (hN : X.N.Nodup) (he : PE X e (tv X.K cl W f)) (hi : X.N[i]? = some x := by rfl) (hx : Loc X.env.scope x := by first | exact Or.inl rfl | exact Or.inr rfl) (hf : X.fn x = true ∨ X.env.scope.names.lookup x = some .local := by first | exact .inl rfl | exact .inr rfl | assumption) :
    PV1 X cl W He H0 pin (.AugAssign (.Name x p') op e pos) (sAug i g bs f) :=
  psWeak (ps_aug hN hi hx he ho hf) fun D σ H ⟨Hs, ρ, S, h⟩ => by
    unfold sAug at h
    split at h
    · rename_i v e0
      obtain ⟨y, h1, h2⟩ := S.fz i v e0
      refine ⟨y, h1, onE_use bears_v S h fun u w Hs1 H1 ρ1 up S1 ru _ _ _ hp => ?_⟩
      cases e1 : g v u with
      | none => simp only [e1] at hp; exact hp.elim
      | some z =>
        simp only [e1] at hp
        exact hg W σ Hs1 H1 y w v u z _ S1.sub (h2.mono up) ru e1 fun zz Hs2 H2 x2 rz => hp _ _ _ x2.fs (SEnv.set (S1.up x2) rz i)
    · exact h.elim
theorem vs_if {c : Expr} {a b : List Stmt} {cc : Ev → R Bool} (hc : PT X c (tt X.K cl W cc)) (ha : PVs X cl W He H0 pin a s) (hb : PVs X cl W He H0 pin b t) : PV1 X cl W He H0 pin (.If c a b pos) (sIf bs cc s t) :=
  psWeak (ps_if hc ha hb) fun D σ H ⟨Hs, ρ, S, h⟩ => onE_use bears_b S h fun v x Hs1 H1 ρ1 up S1 r _ _ _ hp => by
    subst r
    cases x with
    | true => rw [if_pos rfl] at hp ⊢; exact ⟨Hs1, ρ1, S1, hp⟩
    | false => rw [if_neg Bool.false_ne_true] at hp ⊢; exact ⟨Hs1, ρ1, S1, hp⟩
theorem vs_while {c : Expr} {body : List Stmt} {cc : Ev → R Bool} (hp : PassesOwn (model X.prog X.w) X.A X.env X.xe) (hc : PT X c (tt X.K cl W cc)) (hb : PVs X cl W He H0 pin body s) : PV1 X cl W He H0 pin (.While c body [] pos) (sWhile bs cc s) :=
  psWeak (ps_while hp hc hb) fun D σ H ⟨Hs, ρ, S, h⟩ => by
    have hx : ∃ n o, wN bs cc s n ρ = some o ∧ Post X.K cl He H0 pin W Hs D o := by
      unfold sWhile at h
      split at h
      · rename_i hx
        obtain ⟨n, e⟩ := hx.choose_spec
        exact ⟨n, _, e, h⟩
      · exact h.elim
    obtain ⟨n0, o0, e0, p0⟩ := hx
    refine ⟨fun m σ H => ∃ Hs1 ρ o, Sub Hs Hs1 ∧ SEnv X.K cl He H0 pin Hs1 H σ ρ ∧ wN bs cc s m ρ = some o ∧ Post X.K cl He H0 pin W Hs1 D o, ⟨n0, Hs, ρ, o0, Sub.refl _, S, e0, p0⟩, ?_⟩
    rintro m σ H ⟨Hs1, ρ, o, up, S, e, p⟩
    cases m with
    | zero => cases e
    | succ m =>
      -- the test
      have key : Post X.K cl He H0 pin W Hs1 { nx := fun σ' H' => False, rt := D.rt, bk := D.bk, ct := D.ct } (onE (fun _ => true) cc bs ρ fun b ρ' => .stuck) ∨ ∃ b, cc (vw bs ρ) = .ok b := by
        unfold wN at e
        cases ec : cc (vw bs ρ) with
        | ok b => exact .inr ⟨b, rfl⟩
        | exc c fs =>
          simp only [ec] at e
          cases e
          refine .inl ?_
          unfold onE
          rw [ec]
          exact p
        | stuck => simp only [ec] at e; cases e; exact p.elim
      rcases key with key | ⟨b, ec⟩
      · exact onE_use (Q := fun b H1 => if b = true then _ else _) bears_b S key fun v x Hs2 H2 ρ2 _ _ _ _ _ _ z => z.elim
      · have S' := S
        refine ⟨_, _, S.pe bs, ?_⟩
        rw [ec]
        intro b' Hs2 H2 x2 eb
        subst eb
        obtain ⟨S2, up2⟩ := S.back x2
        unfold wN at e
        simp only [ec] at e
        cases b' with
        | false =>
          simp only at e
          cases e
          rw [if_neg Bool.false_ne_true]
          exact p _ _ _ up2 S2
        | true =>
          simp only at e
          rw [if_pos rfl]
          refine ⟨fun σ H => ∃ Hs1 ρ o, Sub Hs Hs1 ∧ SEnv X.K cl He H0 pin Hs1 H σ ρ ∧ wN bs cc s m ρ = some o ∧ Post X.K cl He H0 pin W Hs1 D o, fun σ' H' h => ⟨m, Nat.lt_succ_self m, h⟩, ?_⟩
          refine ⟨_, ρ, S2, ?_⟩
          have p2 := Post.up p up2
          cases es : s ρ with
          | next ρ' => simp only [es] at e; exact fun σ' Hs' H' up' S' => ⟨Hs', ρ', o, (up.trans up2).trans up', S', e, Post.up p2 up'⟩
          | cont ρ' => simp only [es] at e; exact fun σ' Hs' H' up' S' => ⟨Hs', ρ', o, (up.trans up2).trans up', S', e, Post.up p2 up'⟩
          | brk ρ' => simp only [es] at e; cases e; exact p2
          | ret v => simp only [es] at e; cases e; exact p2
          | exc c fs ρ' => simp only [es] at e; cases e; exact p2
          | stuck => simp only [es] at e; cases e; exact p2.elim
theorem vs_for {rel : Hp → It → List PV → Prop} {nl : Bool} {tg iter : Expr} {body : List Stmt} {it : Ev → R (List PV)} {g : TG} {t : Tg} (hp : PassesOwn (model X.prog X.w) X.A X.env X.xe) (hc : X.calm = true) (B : Bears X.K cl rel (fun _ => nl)) (hR : ∀ Hs J xs, rel Hs J xs → Wk X.K cl Hs J xs) (hi : PI X tg iter (gv X.K cl rel W it)) (hg : PG X tg g) (hG : TgOk X.K cl g t) (hb : PVs X cl W He H0 pin body s)
    (hs : ∀ x, foldedSetIterable iter X.env x = pure x := by intro _; rfl) : PV1 X cl W He H0 pin (.For tg iter body [] pos) (sFor nl t bs it s) :=
  psWeak (ps_for hp hc hi hg hb hs) fun D σ H ⟨Hs, ρ, S, h⟩ => onE_use B S h fun xs J Hs1 H1 ρ1 up S1 rx _ _ _ hp => by
    have Wj := hR _ _ _ rx
    refine ⟨fun i m σ H => ∃ Hs2 ρ, i + m = xs.length ∧ Sub Hs1 Hs2 ∧ SEnv X.K cl He H0 pin Hs2 H σ ρ ∧ Post X.K cl He H0 pin W Hs2 D (forL t s (xs.drop i) ρ), ⟨xs.length, Hs1, ρ1, by omega, Sub.refl _, S1, by simpa using hp⟩, ?_⟩
    rintro i m σ H ⟨Hs2, ρ, em, up2, S2, hp⟩
    by_cases hi : i < xs.length
    · refine .inr ⟨Wj.go i H Hs2 up2 S2.sub hi, fun σ' H' => ∃ Hs2 ρ, Sub Hs1 Hs2 ∧ SEnv X.K cl He H0 pin Hs2 H' σ' ρ ∧ Post X.K cl He H0 pin W Hs2 D (forL t s (xs.drop (i + 1)) ρ), fun σ' H' ⟨Hs3, ρ3, q⟩ => ⟨m - 1, by omega, Hs3, ρ3, by omega, q⟩, fun x H' hy => ?_⟩
      have ev : xs[i]? = some xs[i] := List.getElem?_eq_getElem hi
      obtain ⟨Hs3, x3, rx3⟩ := Wj.yld i x H H' Hs2 xs[i] up2 S2.sub ev hy
      have S3 : SEnv X.K cl He H0 pin Hs3 H' σ ρ := S2.up x3
      rw [List.drop_eq_getElem_cons hi] at hp
      unfold forL at hp
      cases et : t xs[i] with
      | none => rw [et] at hp; exact hp.elim
      | some as =>
        simp only [et] at hp
        refine hG Hs3 H' σ x xs[i] as _ x3.sub rx3 et fun vs rv => ?_
        refine ⟨Hs3, _, S3.sets rv, ?_⟩
        have hp3 := Post.up hp x3.fs
        have up13 := up2.trans x3.fs
        cases es : s (setS as ρ) with
        | next ρ' => simp only [es] at hp3; exact fun σ' Hs' H' up' S' => ⟨Hs', ρ', up13.trans up', S', Post.up hp3 up'⟩
        | cont ρ' => simp only [es] at hp3; exact fun σ' Hs' H' up' S' => ⟨Hs', ρ', up13.trans up', S', Post.up hp3 up'⟩
        | brk ρ' => simp only [es] at hp3; exact hp3
        | ret v => simp only [es] at hp3; exact hp3
        | exc c fs ρ' => simp only [es] at hp3; exact hp3
        | stuck => simp only [es] at hp3; exact hp3.elim
    · have hz : xs.drop i = [] := List.drop_of_length_le (by omega)
      rw [hz] at hp
      exact .inl ⟨Wj.stop i H Hs2 up2 S2.sub (by omega), hp _ _ _ (Sub.refl _) S2⟩
end
end VL
namespace VL
open PySem PySem.Spec PyProof.Rows L2
open PySem.W (KxsFacts kxs_mw KxsAt kxs_callWith kxs_getMethod kxs_ValueError check_bound_init InstAt)
/-! ### own errors: an __init__ that begins with super().__init__(..) -/
/-- the bound built-in __init__, called -/
theorem mw_call {prog : Program} {w : World} {A : Around} {E : Value → Shared → Prop} {hp : Heap} {gs : Array GenState} {dr : Drawn} {tk : Nat} {os : OsState} {nm qn : Str} {C N : Addr} {bs bm : List Value} {hd : Bool} {sn : List Str} {sb : List Value} {ab : Bool} {co : Option Bool} {dd : Option Addr} {k0 k1 k2 k3 k5 : Option Value} {u x t0 : Addr} {us : List Value} {Q : Value → Shared → Prop}
    (cls : hp.get? C = some (excClassObj nm qn C N bs bm hd sn sb ab co dd k0 k1 k2 k3 k5 "ValueError.__new__")) (hx : hp.get? x = some (PySem.HandSPX.excO C t0)) (hu : hp.get? u = some (kxs_mw "ValueError.__init__" x)) (few : us.length ≤ sizeLine)
    (fin : ∀ hq t1, (∀ b o, b ≠ x → hp.get? b = some o → hq.get? b = some o) → hq.get? x = some (PySem.HandSPX.excO C t1) → Q .none ⟨hq, gs, dr, tk, os⟩) :
    wpAny (model prog w) A (call (.ref u) us) Q E ⟨hp, gs, dr, tk, os⟩ := by
  have FB := PySem.F.excBase_ValueError
  refine wpAny_call (codeAny_of_tree ?_)
  show wpAny (model prog w) A.in1 (callAny (.ref u) ⟨us, []⟩) _ _ ⟨hp, gs, dr, tk, os⟩
  unfold callAny
  refine wpAny_bind (wpAny_load hu ?_)
  have e1 : ((Value.type "method-wrapper" == Value.type "method" || Value.type "method-wrapper" == Value.type "builtin_function_or_method") || Value.type "method-wrapper" == Value.type "method-wrapper") = true := by decide
  simp only [kxs_mw, e1, ite_true]
  refine PySem.W.KFB.if_so (by decide) ?_
  refine wpAny_bind (check_bound_init FB.toExcCallFacts cls hx rfl ?_)
  refine wpAny_bind (wpAny_pure (wpAny_pure ⟨plainId_quiet FB.init.plain _, codeAny_builtin FB.initEntry ?_⟩))
  exact PySem.W.exc_init_tree (cls := .ref C) (t0 := t0) (dv := none) (c2 := .none) (c3 := .none) (b4 := .bool false) hx few fun hq k e _ => fin hq _ k e

/-- what the written part says of an own error's class, at C, whose __init__ (at fI, its cell at cc, its code at cda) begins with super().__init__ -/
structure ExC (K : PySem.W.Frag) (P : Program) (C fI cc cda : Addr) (qual : Str) (sI : Stmt) : Prop where
  base : OexC K C
  fn : ∃ (oc : Value) (od : Option Addr) (kV doc pm : Value) (an : Option Addr) (ct : Value) (osl : Array (Option Value)), K.lookup fI = some ⟨oc, od, .func (PySem.W.ksFn "__init__" qual (defArgs sI) (defBody sI) (defScope sI) .none kV doc pm an (.ref cda) ct cc), osl⟩
  code : PySem.W.codeIn K (.ref cda) qual = true
  file : ∃ (oc : Value) (od : Option Addr) (vs : Array Value) (osl : Array (Option Value)) (f : Str) (tf : Tok), K.lookup cda = some ⟨oc, od, .fields vs, osl⟩ ∧ vs[2]? = some (.str f tf) ∧ ((P.main.file : Str) == f) = true
  cell : ∃ (oc : Value) (od : Option Addr) (osl : Array (Option Value)), K.lookup cc = some ⟨oc, od, .cell (some (.ref C)), osl⟩
  sup : PySem.W.ks_superIn K C C "__init__" = some (some (.builtin "ValueError.__init__"))
  self : PySem.W.mroIn K C (.ref C) = some true
  ve : PySem.W.subIn K (.ref C) (.type "ValueError") = some true
  noS : PySem.W.nsIn K mainGlobals "super" = some none
  third : PySem.W.nsIn K cStatics "thirdparty.any" = some none
  ini : PySem.W.findIn K (.ref C) "__init__" = some (some (.ref fI))
  tyI : PySem.W.typeIn K (.ref fI) = some (.type "function")
/-- the scope of such an __init__: its parameters N, and __class__ -/
structure ExScope (N : List Str) (sc : Scope) : Prop where
  kind : sc.kind = .function
  co : sc.isCoroutine = false
  gen : sc.isGenerator = false
  nd : N.Nodup
  par : ∀ x ∈ N, sc.names.lookup x = some .local
  nocell : ∀ x ∈ sc.names, x.2 ≠ .cell
  only : ∀ x, sc.names.lookup x = some .free → x = "__class__"
  cls : sc.names.lookup ("__class__" : Str) = some .free
  sup : sc.names.lookup ("super" : Str) = some .globalImplicit
/-- the context of the body behind the first statement -/
def exCx (CX : CXT) (P : Program) (w : World) (K : PySem.W.Frag) (mg : Str → Option Value) (base : Heap) (N : List Str) (qual : Str) (scope : Scope) (f : Addr) (cd : Value) (cc : Addr) (A : Around) (outer : List PySem.Env) (s : Shared) (H : Hp) (E : XK) : Cx where
  prog := P
  w := w
  K := K
  mg := mg
  base := base
  A := A.deeper (PySem.W.ksEnv qual scope s.heap.objs.size f cd cc)
  N := N
  s_0 := s
  H_0 := H
  env := PySem.W.ksEnv qual scope s.heap.objs.size f cd cc
  outer := outer
  stack := PySem.W.ksEnv qual scope s.heap.objs.size f cd cc :: outer
  ex := []
  calm := true
  fn := fun _ => false
  pn := []
  xe := fun e s' => wpAny (model P w) (A.deeper (PySem.W.ksEnv qual scope s.heap.objs.size f cd cc)) (leaving (PySem.W.ksEnv qual scope s.heap.objs.size f cd cc) e) (fun _ s'' => CX outer H s E e s'') (fun e' s'' => CX outer H s E e' s'') s'
theorem zip_lookup : ∀ {N : List Str} {us : List Value} {i : Nat} {x : Str} {u : Value}, N.Nodup → N[i]? = some x → us[i]? = some u → (N.zip us).reverse.lookup x = some u := by
  intro N us i x u nd h1 h2
  have hm : (x, u) ∈ (N.zip us).reverse := by
    rw [List.mem_reverse]
    refine List.mem_of_getElem? (i := i) ?_
    rw [List.getElem?_zip_eq_some]
    exact ⟨h1, h2⟩
  have nd2 : ((N.zip us).reverse.map (·.1)).Nodup := by
    rw [List.map_reverse]
    refine (List.reverse_perm _).nodup_iff.mpr ?_
    have : ∀ (N : List Str) (us : List Value), N.Nodup → ((N.zip us).map (·.1)).Nodup := by
      intro N
      induction N with
      | nil => intro us _; simp
      | cons n N ih =>
        intro us nd
        cases us with
        | nil => simp
        | cons v us =>
          simp only [List.zip_cons_cons, List.map_cons, List.nodup_cons]
          rw [List.nodup_cons] at nd
          refine ⟨fun h => nd.1 ?_, ih us nd.2⟩
          rw [List.mem_map] at h
          obtain ⟨⟨a, b⟩, h1, h2⟩ := h
          subst h2
          exact (List.of_mem_zip h1).1
    exact this N us nd
  generalize (N.zip us).reverse = l at hm nd2
  induction l with
  | nil => simp at hm
  | cons p l ih =>
    obtain ⟨a, b⟩ := p
    simp only [List.map_cons, List.nodup_cons] at nd2
    rcases List.mem_cons.mp hm with e | hm
    · cases e; simp [List.lookup]
    · have : x ≠ a := fun e => nd2.1 (by rw [← e]; exact List.mem_map_of_mem (f := (·.1)) hm)
      have e2 : (x == a) = false := by simpa using this
      simp only [List.lookup, e2]
      exact ih hm nd2.2
section
variable {CX : CXT} {P : Program} {w : World} {K : PySem.W.Frag} {mg : Str → Option Value} {base : Heap} {N : List Str} {qual : Str} {scope : Scope} {f C cc cda : Addr} {cd : Value} {A : Around} {outer : List PySem.Env} {s : Shared} {H : Hp} {E : XK} {us : List Value} {vs : List V}
theorem ex_start (S : ExScope N scope) (hd : A.handled = none) (e0 : Env0 P w K mg base A outer s H) (hl : vs.length = N.length) (r : Vals vs us) (hcell : ∃ v, s.heap.IsCell cc v) (hccb : ∃ o, base.get? cc = some o) {h1 : Heap} {tk : Nat}
    (hns : h1.Ns s.heap.objs.size (fun x => (N.zip us).reverse.lookup x)) (hk : ∀ b o, s.heap.get? b = some o → h1.get? b = some o) :
    Inv (exCx CX P w K mg base N qual scope f cd cc A outer s H E) [] (vs.map some) H { s with heap := h1, toks := tk } := by
  have noA : ∀ b : Addr, b ∉ (exCx CX P w K mg base N qual scope f cd cc A outer s H E).ex := fun b z => absurd (show b ∈ ([] : List Addr) from z) (by simp)
  have cl1 : ∀ {y : Str} {c : Addr}, ([(("__class__" : Str), cc)] : List (Str × Addr)).lookup y = some c → y = "__class__" ∧ c = cc := fun {y c} h => by
    by_cases e : y = "__class__"
    · subst e
      simp [List.lookup] at h
      exact ⟨rfl, h.symm⟩
    · have e2 : (y == ("__class__" : Str)) = false := by simpa using e
      simp [List.lookup, e2] at h
  obtain ⟨ob, hob⟩ := hccb
  refine ⟨⟨e0.mod, S.kind, rfl, rfl, Nat.le_refl _, fun y z c h1 h2 => (cl1 h1).1.trans (cl1 h2).1.symm, fun y hy => ?_, fun y c h _ => Bool.noConfusion h, fun _ => hd, Around.frames_deeper e0.frames, .inr ⟨rfl, rfl⟩, fun b z => absurd z (noA b), e0.bs, e0.bsz, fun b _ _ => noA b, fun b z => absurd z (noA b), e0.funs, e0.frf⟩,
    rfl, e0.bare, Un.kept hk, ⟨_, hns, fun i y v h1 h2 h3 => ?_⟩, fun y c h => ?_, e0.hok.fresh (Nat.le_refl _), fun y c h => ?_, fun p hp => absurd (show p ∈ ([] : List (Addr × Obj)) from hp) (by simp), e0.hok.kept hk, by simp only [List.length_map]; exact hl⟩
  · rcases hy with hy | hy
    · have hy : scope.names.lookup y = some .cell := hy
      exact absurd rfl (S.nocell _ (PySem.mem_of_lookup hy))
    · have hy : scope.names.lookup y = some .free := hy
      have e := S.only y hy
      subst e
      exact ⟨cc, by simp [exCx, List.lookup]⟩
  · have h2' : (vs.map some)[i]? = some (some v) := h2
    rw [List.getElem?_map] at h2'
    cases e : vs[i]? with
    | none => rw [e] at h2'; cases h2'
    | some a =>
      rw [e] at h2'
      cases h2'
      obtain ⟨u, hu, rv⟩ := r.get e
      refine ⟨u, rv, .inl ⟨S.par y (List.mem_of_getElem? h1), zip_lookup S.nd h1 hu⟩⟩
  · obtain ⟨_, e⟩ := cl1 h
    subst e
    obtain ⟨v, o, ho, q⟩ := hcell
    exact ⟨v, o, hk _ _ ho, q⟩
  · obtain ⟨_, e⟩ := cl1 h
    subst e
    exact (e0.bs c ob hob).2
end
/-- THE RULE for such an __init__: the written argument of super().__init__ and the rest of the body -/
theorem ex_fn {CX : CXT} {P : Program} {w : World} {K : PySem.W.Frag} {mg : Str → Option Value} {base : Heap} {k : Nat} {C fI cc cda : Addr} {qual : Str} {sI : Stmt} {N : List Str} {sp : Sp} {p0 p1 p2 p3 p4 : Pos} {a0 : Expr} {rest : List Stmt} {ar : Arg}
    (T : ExC K P C fI cc cda qual sI) (S : ExScope N (defScope sI)) (hbody : defBody sI = .Expr (.Call (.Attribute (.Call (.Name "super" p0) [] [] p1) "__init__" p2) [a0] [] p3) p4 :: rest)
    (hpar : ((defArgs sI).posonlyargs ++ (defArgs sI).args).head? = some ar) (h0 : N[0]? = some ar.arg) (htop : (P.main.scope.names.lookup ("super" : Str)).isSome = false)
    (hmg : mg "super" = none)
    (hsw : ∀ env : PySem.Env, swapsWith (.Call (.Attribute (.Call (.Name "super" p0) [] [] p1) "__init__" p2) [a0] [] p3) none p4.line env = pure false)
    (hev : ∀ env : PySem.Env, ∃ pl : Sem Bool, eval (.Call (.Attribute (.Call (.Name "super" p0) [] [] p1) "__init__" p2) [a0] [] p3) env = (do
      let ov ← attributeBase (.Call (.Name "super" p0) [] [] p1) "__init__" env (eval (.Call (.Name "super" p0) [] [] p1) env)
      standAt p2.atName
      let (f, first) ← holding [ov] (getMethod ov "__init__" pl)
      callWith p3 f first (backTo p3 (starEach [a0] env)) []))
    (hst : ∀ env : PySem.Env, starEach [a0] env = [(false, eval a0 env)])
    (len : ∀ vs H Q E, sp vs H Q E → vs.length = N.length)
    (hb : ∀ (A : Around) (outer : List PySem.Env) (s : Shared) (H : Hp) (vs : List V) (Q : VK) (E : XK), Room k (A.deeper (PySem.W.ksEnv qual (defScope sI) s.heap.objs.size fI (.ref cda) cc)) → sp vs H Q E →
      ∃ x ws t0 t, vs = .ref x :: ws ∧ H x = some (exo x C none) ∧ PE (exCx CX P w K mg base N qual (defScope sI) fI (.ref cda) cc A outer s H E) a0 t0 ∧ PSs (exCx CX P w K mg base N qual (defScope sI) fI (.ref cda) cc A outer s H E) rest t ∧
        t0 (vs.map some) H (fun _ H1 => H1 = H) ∧ t { nx := fun _ H' => Q .non H', rt := Q } (vs.map some) H) :
    ∀ fd oc od osl, K.lookup fI = some ⟨oc, od, .func fd, osl⟩ → FnOk P w K mg base CX (k + 1) fI fd N sp := by
  obtain ⟨oc, od, kV, doc, pm, an, ct, osl, lk⟩ := T.fn
  intro fd oc' od' osl' lk'
  rw [lk] at lk'
  obtain ⟨rfl, rfl, rfl, rfl⟩ : oc = oc' ∧ od = od' ∧ PySem.W.ksFn "__init__" qual (defArgs sI) (defBody sI) (defScope sI) .none kV doc pm an (.ref cda) ct cc = fd ∧ osl = osl' := by
    have e := Option.some.inj lk'
    injection e with e1 e2 e3 e4
    injection e3 with e3
    exact ⟨e1, e2, e3, e4⟩
  refine ⟨len, fun A outer s H args us vs Q E hr e0 hbd r hsp => ?_⟩
  have hl := len _ _ _ _ hsp
  have KX : K.In s.heap := e0.mod.kin.keeps fun b o e => (e0.bs b o e).1
  have lim : s.heap.NoLimit := e0.mod.nolimit.keeps fun b o e => (e0.bs b o e).1
  obtain ⟨x, ws, t0, t, evs, eH, hp0, hps, q0, qt⟩ := hb A outer s H vs Q E (hr.deeper _) hsp
  obtain ⟨oc3, od3, osl3, hcell⟩ := T.cell
  have lv : us.length = N.length := by rw [← r.length, hl]
  refine ks_codeAny_call_defAt (fd := PySem.W.ksFn "__init__" qual (defArgs sI) (defBody sI) (defScope sI) .none kV doc pm an (.ref cda) ct cc) (body := defBody sI) (binds := N.zip us) hr.depth (KX _ _ lk) rfl lim (PySem.W.codeRec_of KX T.code) rfl hbd S.nocell (fun y hy => S.par y.1 (List.of_mem_zip (a := y.1) (b := y.2) hy).1) (fun h1 hns hk => ?_) S.co S.gen S.kind
  have I : Inv (exCx CX P w K mg base N qual (defScope sI) fI (.ref cda) cc A outer s H E) [] (vs.map some) H { s with heap := h1, toks := s.toks + (N.zip us).length } :=
    ex_start S hr.hd e0 hl r ⟨_, _, KX _ _ hcell, rfl⟩ ⟨_, e0.mod.kin _ _ hcell⟩ hns hk
  -- the parts
  obtain ⟨nm, qn, Nn, bs, bm, sn, sb, ab, co, dd, k0, k1, k2, k3, k5, hC, hbm⟩ := T.base.cls
  have hcl : PySem.W.clsIn K C = some { name := nm, bases := bs, mro := .ref C :: bm, ns := Nn, qualname := qn, hasDict := true, slotNames := sn, subclasses := sb, abstract := ab, collection := co, hasDel := false } := by
    unfold PySem.W.clsIn
    rw [hC] <;> rfl
  obtain ⟨oc4, od4, fvs, osl4, ff, tf, hcode, hf2, hfile⟩ := T.file
  have K1 : K.In h1 := I.kIn
  obtain ⟨t1, ho⟩ := exo_at I.hok eH
  have hx0 : us[0]? = some (.ref x) := by
    subst evs
    cases r with
    | cons rv rt => cases rv; rfl
  have hself : (N.zip us).reverse.lookup ar.arg = some (.ref x) := zip_lookup S.nd h0 hx0
  have hxs : x < s.heap.objs.size := e0.hok.lt eH
  let env := PySem.W.ksEnv qual (defScope sI) s.heap.objs.size fI (.ref cda) cc
  show PySem.wpAt _ (A.deeper env) (.func (defBody sI) env) (execs (defBody sI) env) _ _ _
  obtain ⟨mb, hb1, hb2⟩ := e0.mod.blt
  have IA : InstAt h1 x (PySem.HandSPX.excO C t1) C none := ⟨ho, rfl, rfl, trivial⟩
  have hxC : x ≠ C := PySem.W.ks_ne K1 IA hcl
  -- behind super().__init__(..): the rest
  have after : ∀ (s2 : Shared), Inv (exCx CX P w K mg base N qual (defScope sI) fI (.ref cda) cc A outer s H E) [] (vs.map some) H s2 →
      wpAny (model P w) (A.deeper env) (execs rest env) (fun fl s' => CR CX outer P w H s Q E (.ok (.ret (match fl with | .ret v => v | _ => .none))) s')
        (fun e s' => wpAny (model P w) (A.deeper env) (leaving env e) (fun _ s'' => CR CX outer P w H s Q E (.error e) s'') (fun e' s'' => CR CX outer P w H s Q E (.error e') s'') s') s2 := by
    intro s2 I2
    refine wpAny_mono (hps.run [] s2 (vs.map some) H _ I2 qt) (fun fl s' hs => ?_) fun e s' hs => hs
    have fin : ∀ {σ' : St} {H' : Hp} {v : V} {u : Value}, Inv (exCx CX P w K mg base N qual (defScope sI) fI (.ref cda) cc A outer s H E) [] σ' H' s' → RelV v u → Q v H' → CE outer P w H s Q u s' :=
      fun {σ' H' v u} J rv q => ⟨v, H', J.os, J.bare, J.base, J.hok, rv, q⟩
    cases fl with
    | ret u =>
      obtain ⟨v, σ', H', J, rv, q⟩ := hs
      exact fin J rv q
    | next =>
      obtain ⟨σ', H', J, q⟩ := hs
      exact fin (v := V.non) (u := Value.none) J rfl q
    | brk => exact hs.elim fun _ z => z.elim fun _ z => z.2.elim
    | cont => exact hs.elim fun _ z => z.elim fun _ z => z.2.elim
  have nx : interactive env = false := by simp [interactive, env, S.kind]
  have go : PySem.wpAt (model P w) (A.deeper env) (.func (defBody sI) env) (eval (.Call (.Attribute (.Call (.Name "super" p0) [] [] p1) "__init__" p2) [a0] [] p3) env)
      (fun _ s2 => Inv (exCx CX P w K mg base N qual (defScope sI) fI (.ref cda) cc A outer s H E) [] (vs.map some) H s2)
      (fun e s' => wpAny (model P w) (A.deeper env) (leaving env e) (fun _ s'' => CR CX outer P w H s Q E (.error e) s'') (fun e' s'' => CR CX outer P w H s Q E (.error e') s'') s') { s with heap := h1, toks := s.toks + (N.zip us).length } := by
    obtain ⟨pl, hev⟩ := hev env
    refine ks_wpAt_MethodCall (pl := pl) ?_ hev
    refine ks_wpAt_super_base (f := fI) (cc := cda) (env := env) (ar := ar) (file := ff) (tf := tf) (vs := fvs) S.sup S.cls (by decide) rfl (K1 _ _ lk) rfl hpar rfl (K1 _ _ hcode) rfl hf2 hfile htop ?_
    refine PySem.W.ks_loadName_global S.kind S.sup (PySem.Calls.loadGlobal_builtin (env := env) (mb := mb) (I.mod.glob.keeps I.bk) hmg (hb1.keeps I.bk) ((hb2 _ (by decide)).trans (by first | boot_by_name | decide +kernel)) ⟨rfl, ?_⟩)
    refine wpAny_loadName_free (c := cc) S.kind S.cls (by simp [env, List.lookup]) ⟨_, K1 _ _ hcell, rfl⟩ ?_
    refine wpAny_loadName_local S.kind (S.par _ (List.mem_of_getElem? h0)) hns hself ?_
    refine ks_wpAny_isType_cls (K1 _ _ hC) rfl ⟨rfl, ?_⟩
    refine ks_wpAny_call_super (K1 _ _ hC) rfl ho rfl (fun c e => nomatch e) (PySem.W.looks_mroIn K1 T.self) (fun h2 e2 kk2 => ?_)
    have I2 : Inv (exCx CX P w K mg base N qual (defScope sI) fI (.ref cda) cc A outer s H E) [] (vs.map some) H { s with heap := h2, toks := s.toks + (N.zip us).length } := I.kept (h' := h2) (t' := s.toks + (N.zip us).length) kk2
    have K2 : K.In h2 := I2.kIn
    have ho2 := kk2 _ _ ho
    have hm2 : (PySem.W.clsIn K C).bind (fun cd => PySem.W.alongIn K "__init__" ((cd.mro.dropWhile (· != .ref C)).drop 1)) = some (some (.builtin "ValueError.__init__")) := T.sup
    rw [hcl] at hm2
    have IA2 : InstAt h2 x (PySem.HandSPX.excO C t1) C none := ⟨ho2, rfl, rfl, trivial⟩
    refine kxs_getMethod kxs_ValueError e2 (PySem.W.looks_opaque K2 T.third) (l₀ := .ref C :: bm) (fun A' Q' E' s' k' q' => wpAny_bind ((PySem.W.looks_clsIn K2 hcl) A' _ E' s' k' (wpAny_pure q'))) rfl K2 hm2 (IA2.type.andThen (PySem.W.looks_subIn K2 T.ve)) hxC (by decide) ?_
    -- the wrapper stands at u
    have I3 : Inv (exCx CX P w K mg base N qual (defScope sI) fI (.ref cda) cc A outer s H E) [] (vs.map some) H { s with heap := h2.push (kxs_mw "ValueError.__init__" x), toks := s.toks + (N.zip us).length + 1 } := I2.kept (t' := s.toks + (N.zip us).length + 1) fun b o e => Heap.get?_push_of_some _ e
    have hu3 : (h2.push (kxs_mw "ValueError.__init__" x)).get? h2.objs.size = some (kxs_mw "ValueError.__init__" x) := Heap.get?_push_size _ rfl
    have hun : H h2.objs.size = none := I2.hok.fresh (Nat.le_refl _)
    have I4 := I3.pins_of (pins' := [(h2.objs.size, kxs_mw "ValueError.__init__" x)]) (fun p hp => by
      have e : p = (h2.objs.size, kxs_mw "ValueError.__init__" x) := by simpa using hp
      subst e
      exact ⟨hu3, hun, Nat.ne_of_gt I2.lt, I2.nofs (Nat.le_refl _), fun v z => nomatch z⟩)
    refine kxs_callWith (i := "ValueError.__init__") (x := x) (by rw [hst]; rfl) ?_
    rw [hst]
    refine PySem.Calls.evalArgs_plain (PySem.Calls.spliced_cons (wpAny_mono (hp0.run _ _ (vs.map some) H _ I4 q0) (fun u s3 ⟨v0, H5, I5, r5, e5⟩ => PySem.Calls.spliced_nil ?_) fun _ _ z => z))
    subst e5
    have hw := (I5.pin (h2.objs.size, kxs_mw "ValueError.__init__" x) (by simp [exCx])).1
    refine ⟨hw, ?_⟩
    obtain ⟨t5, ho5⟩ := exo_at I5.hok eH
    obtain ⟨hp5, g5, d5, tk5, os5⟩ := s3
    refine mw_call (I5.kIn _ _ hC) ho5 hw (by rw [sizeLine_eq]; exact (by decide : 1 ≤ 16777216)) fun hq tq kq eq => ?_
    have J := I5.write (t' := tk5) (x := x) (e := x) (o := exo x C none) (by rw [eH]; exact True.intro) (.inl rfl) kq ⟨_, eq⟩ (exo_ok eq)
    have eu : upd H5 x (exo x C none) = H5 := by
      funext b
      by_cases hb : b = x
      · rw [hb, upd_same, eH]
      · rw [upd_ne hb]
    rw [eu] at J
    exact J.pins_of (pins' := []) (fun p hp => absurd hp (by simp))
  rw [hbody] at go ⊢
  refine ks_wpAt_execs_cons (ks_wpAt_Expr_any (ks_wpAt_mono go (fun _ s2 I2 => ?_) fun _ _ z => z) nx (hsw env))
  exact PySem.wpAt_of_wpAny (after s2 I2)
end VL
namespace VL
open PySem PySem.Spec PyProof.Rows L2
/-! ### calls of the text's own defs -/
/-- a def's promise by a plain function of its arguments -/
def spP (K : PySem.W.Frag) (cl : Nat → Addr) (Hs H : Hp) (Q : VK) (E : XK) : R PV → Prop
  | .ok v => ∀ x Hs' H', Ext Hs H Hs' H' → Rp K cl Hs' x v → Q x H'
  | .exc c fs => ∀ d fvs Hs' H', Ext Hs H Hs' H' → Hs' d = some (.xd fvs) → RpF K cl Hs' fvs fs → E (.ref (cl c)) (some d) H'
  | .stuck => False
def spF (K : PySem.W.Frag) (cl : Nat → Addr) (n : Nat) (g : List PV → R PV) : Sp := fun vs H Q E => ∃ Hs us, Sub Hs H ∧ RpA K cl Hs vs us ∧ vs.length = n ∧ spP K cl Hs H Q E (g us)
def gN (n : Nat) (g : List PV → R PV) : List PV → R PV := fun us => if us.length = n then g us else .stuck
section
variable {X : Cx} {cl : Nat → Addr} {W : WX} {pos p : Pos} {x : Str} {k n : Nat} {f : Addr} {fd : FuncData} {ps : List Str} {g : List PV → R PV}
theorem sp_use {vs : List V} {us : List PV} {σ : St} {Hs H : Hp} {Q : VK} {K : PySem.W.Frag} (s : Sub Hs H) (r : RpA K cl Hs vs us) (h : GP K cl (Rp K cl) W Hs H σ (gN n g us) Q) : spF K cl n g vs H Q (WE W σ) := by
  unfold gN at h
  split at h
  · rename_i hl
    refine ⟨Hs, us, s, r, by rw [r.length, hl], ?_⟩
    cases e : g us with
    | ok v => rw [e] at h; exact h
    | exc c fs => rw [e] at h; exact h
    | stuck => rw [e] at h; exact h
  · exact h.elim
theorem ve_call {e : Expr} {es : List Expr} {fs : List Ex} (F : FnOk X.prog X.w X.K X.mg X.base (L2.CX X.prog X.w) k f fd ps (spF X.K cl n g)) (hr : Room k X.A) (hm : X.mg x = some (.ref f)) (hk : PySem.W.keepIn X.K (.ref f) = true) (hb : Binds X.K fd ps []) (tk : Takes X W) (ha : PA X (e :: es) (ta X.K cl W (evs fs)))
    (hg : Gl X x := by rfl) (hdb : (x == ("__debug__" : Str)) = false := by decide) (he : starEach (e :: es) X.env = (false, eval e X.env) :: starEach es X.env := by rfl) (hpl : (backTo pos (starEach es X.env)).any (·.1) = false := by rfl) :
    PE X (.Call (.Name x p) (e :: es) [] pos) (tv X.K cl W (eArgs (gN n g) fs)) :=
  peWeak (pe_callSD (dvs := []) (E := fun σ => WE W σ) F hr hg hm hk hb .nil (fun σ => passAt tk σ) ha hdb he hpl) fun σ H Q ⟨Hs, ρ, E, h⟩ => by
    refine gv_bind E h fun us vs Hs1 H1 _ s1 rx h1 => ?_
    show spF X.K cl n g (vs ++ []) H1 Q (WE W σ)
    rw [List.append_nil]
    exact sp_use s1.sub rx h1
theorem ve_call0 (F : FnOk X.prog X.w X.K X.mg X.base (L2.CX X.prog X.w) k f fd ps (spF X.K cl n g)) (hr : Room k X.A) (hm : X.mg x = some (.ref f)) (hk : PySem.W.keepIn X.K (.ref f) = true) (hb : Binds X.K fd ps []) (tk : Takes X W)
    (hg : Gl X x := by rfl) (hdb : (x == ("__debug__" : Str)) = false := by decide) : PE X (.Call (.Name x p) [] [] pos) (tv X.K cl W (eArgs (gN n g) [])) := by
  refine ⟨fun pins s σ H Q I ⟨Hs, ρ, E, h⟩ => ?_⟩
  refine wpAny_Call_Name_kw (ld_glob I hg hm ?_ hdb)
  exact PySem.W.callWith_K0 I.kIn hk (run_fnSD (us := []) (vs := []) (dvs := []) (E := fun σ => WE W σ) F hr hb .nil (passAt tk σ) I .nil (sp_use E.sub .nil h))
end
/-- a def's slots at its entry -/
def startE (n : Nat) (us : List PV) : Env := us.map Sl.fz ++ List.replicate (n - us.length) Sl.no
def outR : Out → R PV
  | .next _ => .ok .non
  | .ret v => .ok v
  | .exc c fs _ => .exc c fs
  | _ => .stuck
theorem start_ok {K : PySem.W.Frag} {cl : Nat → Addr} {Hs H : Hp} {N : List Str} {vs : List V} {us : List PV} (s : Sub Hs H) (r : RpA K cl Hs vs us) : SEnv K cl Hs H [] Hs H (L2.start N vs) (startE N.length us) := by
  have get : ∀ {i : Nat} {sl : Sl}, (startE N.length us)[i]? = some sl → (∃ u, us[i]? = some u ∧ sl = .fz u) ∨ sl = .no := fun {i sl} h => by
    unfold startE at h
    by_cases hi : i < us.length
    · rw [List.getElem?_append_left (by simpa using hi), List.getElem?_map] at h
      cases e : us[i]? with
      | none => rw [e] at h; cases h
      | some u => rw [e] at h; cases h; exact .inl ⟨u, rfl, rfl⟩
    · rw [List.getElem?_append_right (by simpa using hi), List.getElem?_replicate] at h
      split at h
      · cases h; exact .inr rfl
      · cases h
  have noOwn : ∀ {i : Nat} {p : Option Nat × PV}, ownAt (startE N.length us) i ≠ some p := fun {i p} h => by
    unfold ownAt at h
    cases e : (startE N.length us)[i]? with
    | none => rw [e] at h; cases h
    | some sl =>
      rw [e] at h
      rcases get e with ⟨u, _, rfl⟩ | rfl <;> cases h
  refine ⟨Ext.refl s, ?_, fun i v h => ?_, fun i t xs h => absurd h noOwn, fun i j p q a h => absurd h noOwn⟩
  · unfold L2.start startE
    simp [r.length]
  · rcases get h with ⟨u, e, e2⟩ | e
    · cases e2
      obtain ⟨x, e3, rx⟩ := r.get e
      refine ⟨x, ?_, rx⟩
      unfold L2.start
      have hi : i < vs.length := (List.getElem?_eq_some_iff.mp e3).1
      rw [List.getElem?_append_left (by simpa using hi), List.getElem?_map, e3]
      rfl
    · cases e
section
variable {P : Program} {w : World} {K : PySem.W.Frag} {mg : Str → Option Value} {base : Heap} {cl : Nat → Addr}
/-- THE RULE for a def: its body as a plain function of the slots -/
theorem def_ok {x qual : Str} {st : Stmt} {f : Addr} {fd : FuncData} {N ps : List Str} {k : Nat} {b : Env → Out} (F : Fun K x qual st f fd) (S : FnScope N ps (defScope st))
    (hbody : ∀ (cdv : Value) (A : Around) (outer : List PySem.Env) (s : Shared) (H : Hp) (E : XK) (He : Hp), Room k (A.deeper (envOfC qual (defScope st) s.heap.objs.size f cdv)) →
      PVs (cxOf (L2.CX P w) P w K mg base N qual (defScope st) f cdv A outer s H E) cl (fun c d _ H => E c d H) He H [] (defBody st) b) : FnOk P w K mg base (L2.CX P w) (k + 1) f fd ps (spF K cl ps.length fun us => outR (b (startE N.length us))) := by
  refine F.okX S (fun vs H Q E ⟨_, _, _, _, e, _⟩ => e) fun cdv A outer s H vs Q E hr ⟨Hs, us, s1, r, hl, h⟩ => ?_
  refine ⟨_, hbody cdv A outer s H E Hs hr, Hs, _, start_ok s1 r, ?_⟩
  replace h : spP K cl Hs H Q E (outR (b (startE N.length us))) := h
  cases e : b (startE N.length us) with
  | next ρ => rw [e] at h; exact fun σ Hs' H' _ S' => h .non Hs' H' S'.ext .non
  | ret v => rw [e] at h; exact h
  | exc c fs ρ => rw [e] at h; exact fun σ Hs' H' d fvs _ S' e1 r1 => h d fvs Hs' H' S'.ext e1 r1
  | brk ρ => rw [e] at h; exact h.elim
  | cont ρ => rw [e] at h; exact h.elim
  | stuck => rw [e] at h; exact h.elim
/-- a def of which nothing is promised -/
theorem def_none {fd : FuncData} {f : Addr} {ps : List Str} {k n : Nat} : FnOk P w K mg base (L2.CX P w) k f fd ps (spF K cl n fun _ => .stuck) :=
  ⟨fun vs H Q E ⟨_, _, _, _, _, h⟩ => h.elim, fun A outer s H args us vs Q E _ _ _ _ ⟨_, _, _, _, _, h⟩ => h.elim⟩
end

/-! ### raise -/
/-- the fields that an __init__ stores behind super().__init__: a written text, or its i-th argument -/
inductive Fv where
  | c (z : Str) | a (i : Nat)
abbrev Fsp := List (Str × Fv)
def fvTE : Fv → TE
  | .c z => tC (.str z)
  | .a i => tVar (i + 1)
def tInit (K : PySem.W.Frag) : Fsp → TS
  | [] => tNext
  | (f, v) :: r => tSeq (tOst K f (tVar 0) (fvTE v)) (tInit K r)
def fvV (vs : List V) : Fv → Option V
  | .c z => some (.str z)
  | .a i => vs[i]?
def fsV (vs : List V) : Fsp → List (Str × V) → Option (List (Str × V))
  | [], acc => some acc
  | (f, v) :: r, acc => (fvV vs v).bind fun y => fsV vs r ((f, y) :: acc)
def fvP (vs : List PV) : Fv → Option PV
  | .c z => some (.str z)
  | .a i => vs[i]?
def fsP (vs : List PV) : Fsp → List (Str × PV) → Option (List (Str × PV))
  | [], acc => some acc
  | (f, v) :: r, acc => (fvP vs v).bind fun y => fsP vs r ((f, y) :: acc)
theorem fs_rel {K : PySem.W.Frag} {cl : Nat → Addr} {Hs : Hp} {vs : List V} {us : List PV} (r : RpA K cl Hs vs us) : ∀ {sp : Fsp} {acc : List (Str × V)} {acc' fs' : List (Str × PV)}, RpF K cl Hs acc acc' → fsP us sp acc' = some fs' → ∃ fs, fsV vs sp acc = some fs ∧ RpF K cl Hs fs fs'
  | [], acc, acc', fs', ra, e => by cases e; exact ⟨acc, rfl, ra⟩
  | (f, v) :: t, acc, acc', fs', ra, e => by
    simp only [fsP, Option.bind_eq_some_iff] at e
    obtain ⟨y, e1, e2⟩ := e
    have hv : ∃ x, fvV vs v = some x ∧ Rp K cl Hs x y := by
      cases v with
      | c z => cases e1; exact ⟨_, rfl, .str z⟩
      | a i => exact r.get e1
    obtain ⟨x, h1, h2⟩ := hv
    obtain ⟨fs, h3, h4⟩ := fs_rel r (acc := (f, x) :: acc) (.cons h2 ra) e2
    exact ⟨fs, by simp only [fsV, h1, Option.bind_some]; exact h3, h4⟩
theorem fvTE_use {v : Fv} {y x : V} {vs : List V} {H : Hp} {Q : VK} (e : fvV vs v = some y) (q : Q y H) : fvTE v ((x :: vs).map some) H Q := by
  cases v with
  | c z => cases e; exact q
  | a i =>
    have e : vs[i]? = some y := e
    refine ⟨y, ?_, q⟩
    rw [List.map_cons, List.getElem?_cons_succ, List.getElem?_map, e]
    rfl
theorem init_more {K : PySem.W.Frag} {C x dx : Addr} (T : OexC K C) {vs : List V} {D : Ends} (hne : x ≠ dx) : ∀ {sp : Fsp} {acc fs : List (Str × V)} {H : Hp}, (∀ p ∈ sp, PySem.W.findIn K (.ref C) p.1 = some none) → fsV vs sp acc = some fs → acc.length + sp.length ≤ 900 → H x = some (exo x C (some dx)) → H dx = some (exd dx acc) →
    (∀ H', H' x = some (exo x C (some dx)) → H' dx = some (exd dx fs) → (∀ b, b ≠ x → b ≠ dx → H' b = H b) → D.nx ((V.ref x :: vs).map some) H') → tInit K sp D ((V.ref x :: vs).map some) H
  | [], acc, fs, H, _, e, _, h1, h2, q => by cases e; exact q H h1 h2 fun _ _ _ => rfl
  | (f, v) :: r, acc, fs, H, hn, e, hl, h1, h2, q => by
    simp only [fsV, Option.bind_eq_some_iff] at e
    obtain ⟨y, e1, e2⟩ := e
    refine fvTE_use e1 ⟨.ref x, rfl, x, C, rfl, T, hn (f, v) List.mem_cons_self, .inr ⟨dx, acc, h1, h2, by simp at hl; omega, ?_⟩⟩
    refine init_more (D := D) T hne (fun p hp => hn p (List.mem_cons_of_mem _ hp)) e2 (by simp at hl ⊢; omega) (by rw [upd_ne hne]; exact h1) upd_same fun H' a b c => q H' a b fun z z1 z2 => by rw [c z z1 z2, upd_ne z2]
theorem init_all {K : PySem.W.Frag} {C x : Addr} (T : OexC K C) {vs : List V} {D : Ends} {f : Str} {v : Fv} {r : Fsp} {fs : List (Str × V)} {H : Hp} (hn : ∀ p ∈ (f, v) :: r, PySem.W.findIn K (.ref C) p.1 = some none) (e : fsV vs ((f, v) :: r) [] = some fs) (hl : r.length ≤ 800) (h1 : H x = some (exo x C none))
    (q : ∀ dx H', H dx = none → dx ≠ x → H' x = some (exo x C (some dx)) → H' dx = some (exd dx fs) → (∀ b, b ≠ x → b ≠ dx → H' b = H b) → D.nx ((V.ref x :: vs).map some) H') : tInit K ((f, v) :: r) D ((V.ref x :: vs).map some) H := by
  simp only [fsV, Option.bind_eq_some_iff] at e
  obtain ⟨y, e1, e2⟩ := e
  refine fvTE_use e1 ⟨.ref x, rfl, x, C, rfl, T, hn (f, v) List.mem_cons_self, .inl ⟨h1, fun dx n ne => ?_⟩⟩
  refine init_more (D := D) (acc := [(f, y)]) T (Ne.symm ne) (fun p hp => hn p (List.mem_cons_of_mem _ hp)) e2 (by simp; omega) upd_same (by rw [upd_ne ne]; exact upd_same) fun H' a b c => q dx H' n ne a b fun z z1 z2 => by rw [c z z1 z2, upd_ne z1, upd_ne z2]
/-- what such an __init__ promises: the fields of its arguments -/
def spI (C : Addr) (n : Nat) (sp : Fsp) : Sp := fun vs H Q E => ∃ x ws fs, vs = .ref x :: ws ∧ ws.length = n ∧ H x = some (exo x C none) ∧ fsV ws sp [] = some fs ∧
  ∀ dx H', H dx = none → dx ≠ x → H' x = some (exo x C (some dx)) → H' dx = some (exd dx fs) → (∀ b, b ≠ x → b ≠ dx → H' b = H b) → Q .non H'
/-- .. by its text -/
theorem init_ok {P : Program} {w : World} {K : PySem.W.Frag} {mg : Str → Option Value} {base : Heap} {k : Nat} {C fI cc cda : Addr} {qual : Str} {sI : Stmt} {N : List Str} {p0 p1 p2 p3 p4 : Pos} {a0 : Expr} {rest : List Stmt} {ar : Arg} {f : Str} {v : Fv} {r : Fsp} {n : Nat}
    (T : ExC K P C fI cc cda qual sI) (S : ExScope N (defScope sI)) (hbody : defBody sI = .Expr (.Call (.Attribute (.Call (.Name "super" p0) [] [] p1) "__init__" p2) [a0] [] p3) p4 :: rest)
    (hpar : ((defArgs sI).posonlyargs ++ (defArgs sI).args).head? = some ar) (h0 : N[0]? = some ar.arg) (htop : (P.main.scope.names.lookup ("super" : Str)).isSome = false) (hmg : mg "super" = none) (hN : N.length = n + 1)
    (hsw : ∀ env : PySem.Env, swapsWith (.Call (.Attribute (.Call (.Name "super" p0) [] [] p1) "__init__" p2) [a0] [] p3) none p4.line env = pure false)
    (hev : ∀ env : PySem.Env, ∃ pl : Sem Bool, eval (.Call (.Attribute (.Call (.Name "super" p0) [] [] p1) "__init__" p2) [a0] [] p3) env = (do
      let ov ← attributeBase (.Call (.Name "super" p0) [] [] p1) "__init__" env (eval (.Call (.Name "super" p0) [] [] p1) env)
      standAt p2.atName
      let (f, first) ← holding [ov] (getMethod ov "__init__" pl)
      callWith p3 f first (backTo p3 (starEach [a0] env)) []))
    (hst : ∀ env : PySem.Env, starEach [a0] env = [(false, eval a0 env)]) (hn : ∀ p ∈ (f, v) :: r, PySem.W.findIn K (.ref C) p.1 = some none) (hl : r.length ≤ 800)
    (ha : ∀ X : Cx, X.N = N → X.env.scope = defScope sI → ∃ t0, PE X a0 t0 ∧ ∀ (x : V) (ws : List V) (H : Hp), ws.length = n → t0 ((x :: ws).map some) H (fun _ H1 => H1 = H))
    (hr : ∀ X : Cx, X.N = N → X.env.scope = defScope sI → PSs X rest (tInit X.K ((f, v) :: r))) {fd : FuncData} {oc : Value} {od : Option Addr} {osl : Array (Option Value)} (lk : K.lookup fI = some ⟨oc, od, .func fd, osl⟩) : FnOk P w K mg base (L2.CX P w) (k + 1) fI fd N (spI C n ((f, v) :: r)) := by
  refine ex_fn (k := k) T S hbody hpar h0 htop hmg hsw hev hst (fun vs H Q E ⟨x, ws, fs, e, hl, _⟩ => by rw [e, hN, List.length_cons, hl]) (fun A outer s H vs Q E hrm ⟨x, ws, fs, e, hw, eH, ef, q⟩ => ?_) fd oc od osl lk
  subst e
  obtain ⟨t0, g1, g2⟩ := ha (exCx (L2.CX P w) P w K mg base N qual (defScope sI) fI (.ref cda) cc A outer s H E) rfl rfl
  exact ⟨x, ws, t0, _, rfl, eH, g1, hr (exCx (L2.CX P w) P w K mg base N qual (defScope sI) fI (.ref cda) cc A outer s H E) rfl rfl, g2 _ _ _ hw, init_all T.base hn ef hl eH q⟩
section
variable {X : Cx} {cl : Nat → Addr} {W : WX} {He H0 : Hp} {pin : List Addr} {pos p p2 : Pos} {x : Str} {k n : Nat} {C fI : Addr} {fd : FuncData} {ps : List Str} {sp : Fsp}
def mkFs (n : Nat) (sp : Fsp) (us : List PV) : Option (List (Str × PV)) := if us.length = n ∧ n ≤ 1000 then fsP us sp [] else none
def sRaise (c : Nat) (mk : List PV → Option (List (Str × PV))) (bs : List Bool) (fs : List Ex) : Env → Out := fun ρ => onE PV.nols (evs fs) bs ρ fun us ρ' => match mk us with
  | some f => .exc c f ρ'
  | none => .stuck
/-- the heap behind a made error -/
theorem made_eq {H1 H2 : Hp} {a d : Addr} {fs : List (Str × V)} {o : HO} (n : H1 a = none) (h : ∀ b, b ≠ a → b ≠ d → H2 b = upd H1 a o b) (hd : d ≠ a) : upd (del H2 a) d (.xd fs) = upd H1 d (.xd fs) := by
  funext b
  by_cases e : b = d
  · rw [e, upd_same, upd_same]
  · rw [upd_ne e, upd_ne e]
    by_cases e2 : b = a
    · rw [e2, del_same, n]
    · rw [del_ne e2, h b e2 e, upd_ne e2]
theorem er_use {ta' : TA} {σ : St} {H : Hp} {D : Ends} {c : Nat} {bs : List Bool} {fs : List Ex} (hC : C = cl c) (h : ts X.K cl He H0 pin W (sRaise c (mkFs n sp) bs fs) D σ H) : tMkO C (spI C n sp) [] (ta X.K cl W (evs fs)) σ H (fun cls d H' => W cls d σ H') := by
  obtain ⟨Hs, ρ, S, h⟩ := h
  refine onE_use bears_a S h fun us vs Hs1 H1 ρ1 up S1 r ev _ _ hp => ?_
  unfold mkFs at hp
  split at hp
  · rename_i f hf
    split at hf
    · rename_i hk
      obtain ⟨hl, hk⟩ := hk
      have hlv : vs.length = n := by rw [r.length, hl]
      obtain ⟨fs', e1, e2⟩ := fs_rel r .nil hf
      refine ⟨by omega, fun a na => ⟨a, vs ++ [], fs', by rw [List.append_nil], by rw [List.append_nil]; exact hlv, upd_same, by rw [List.append_nil]; exact e1, fun dx H2 nd ne h1 h2 hoth => ⟨rfl, dx, fs', h1, h2, ?_, ?_⟩⟩⟩
      · rw [upd_ne ne] at nd; exact nd
      · rw [upd_ne ne] at nd
        rw [made_eq na hoth ne, hC]
        have x2 := Ext.new (o := HO.xd fs') S1.sub nd
        exact hp σ _ _ dx fs' x2.fs (S1.up x2) upd_same (e2.mono x2.fs)
    · cases hf
  · exact hp.elim
theorem vs_raise {e : Expr} {es : List Expr} {fs : List Ex} {bs : List Bool} {c : Nat} (hcalm : X.calm = true) (tk : Takes X W) (T : OexC X.K C) (iC : PySem.W.findIn X.K (.ref C) "__init__" = some (some (.ref fI))) (tI : PySem.W.typeIn X.K (.ref fI) = some (.type "function"))
    (F : FnOk X.prog X.w X.K X.mg X.base (L2.CX X.prog X.w) k fI fd ps (spI C n sp)) (hr : Room (k + 1) X.A) (hb : Binds X.K fd ps []) (hm : X.mg x = some (.ref C)) (hC : C = cl c) (ha : PA X (e :: es) (ta X.K cl W (evs fs)))
    (hg : Gl X x := by rfl) (hdb : (x == ("__debug__" : Str)) = false := by decide) (he : starEach (e :: es) X.env = (false, eval e X.env) :: starEach es X.env := by rfl) (hpl : (backTo p2 (starEach es X.env)).any (·.1) = false := by rfl) :
    PV1 X cl W He H0 pin (.Raise (some (.Call (.Name x p) (e :: es) [] p2)) none pos) (sRaise c (mkFs n sp) bs fs) :=
  psWeak (ps_raise hcalm tk (pmk_oex T iC tI F hr hb .nil (fun _ _ _ _ _ _ _ h => by
    obtain ⟨_, _, _, _, _, _, _, _, _, _, _, _, z⟩ := h
    exact z.elim) hg hm ha hdb he hpl)) fun D σ H h => er_use (ta' := ta X.K cl W (evs fs)) hC h
end
end VL
namespace VL
open PySem PySem.Spec PyProof.Rows L2
/-! ### try: clauses with a name and without -/
abbrev SuT := Addr → Value → Option Addr → TS
/-- a clause: the class, the slot of its name, its suite's reading -/
abbrev ClT := Value × Option Nat × SuT
def endsGone (D : Ends) (i : Nat) : Ends := { nx := fun σ' H' => D.nx (σ'.set i none) H', rt := D.rt, bk := fun σ' H' => D.bk (σ'.set i none) H', ct := fun σ' H' => D.ct (σ'.set i none) H' }
def wMix (K : PySem.W.Frag) (Wout : WX) (D : Ends) : List ClT → WX
  | [] => Wout
  | (c, none, ts) :: r => fun cls d σ H => ∃ b, PySem.W.exmOne K cls c = some b ∧ (b = true → ∀ a, H a = none → ts a cls d D σ H) ∧ (b = false → wMix K Wout D r cls d σ H)
  | (c, some i, ts) :: r => fun cls d σ H => ∃ b, PySem.W.exmOne K cls c = some b ∧ (b = true → ∀ a, H a = none → ts a cls d (endsGone D i) (σ.set i (some (.ref a))) H) ∧ (b = false → wMix K Wout D r cls d σ H)
inductive MixOk (X : Cx) : List ExceptHandler → List ClT → Prop
  | nil : MixOk X [] []
  | un {x : Str} {c : Value} {ts : SuT} {b₀ : Stmt} {suite : List Stmt} {np pos' : Pos} {hds : List ExceptHandler} {l : List ClT} (hc : Names X x c)
      (hsu : ∀ (a : Addr) (oe : Obj) (cls : Value) (d : Option Addr) (pn : List (Addr × Obj)), Zc cls d oe → (∃ vs, oe.data = .fields vs) → PSs (X.suite a ((a, oe) :: pn)) (b₀ :: suite) (ts a cls d)) (r : MixOk X hds l) :
      MixOk X (.ExceptHandler (some (.Name x np)) none (b₀ :: suite) pos' :: hds) ((c, none, ts) :: l)
  | nm {x n : Str} {i : Nat} {c : Value} {ts : SuT} {b₀ : Stmt} {suite : List Stmt} {np pos' : Pos} {hds : List ExceptHandler} {l : List ClT} (hN : X.N.Nodup) (hi : X.N[i]? = some n) (hln : X.env.kindOf n = some .local) (hc : Names X x c)
      (hsu : ∀ (a : Addr) (oe : Obj) (cls : Value) (d : Option Addr) (pn : List (Addr × Obj)), Zc cls d oe → (∃ vs, oe.data = .fields vs) → PSs (X.suite a ((a, oe) :: pn)) (b₀ :: suite) (ts a cls d)) (r : MixOk X hds l) :
      MixOk X (.ExceptHandler (some (.Name x np)) (some n) (b₀ :: suite) pos' :: hds) ((c, some i, ts) :: l)
section
variable {X : Cx} {body : List Stmt} {h₀ : ExceptHandler} {hds : List ExceptHandler} {l : List ClT} {pos : Pos} {tb : WX → TS} {Wout : WX}
theorem ps_try_mix (hs : X.stack = X.env :: X.outer) (hf : X.env.frame = some X.env.locals) (tk : Takes X Wout)
    (hb : ∀ (W : WX) (pn : List (Addr × Obj)) (xe : Value → Shared → Prop), Takes (X.tr pn xe) W → PassesOwn (model X.prog X.w) X.A X.env xe → PSs (X.tr pn xe) body (tb W))
    (hh : MixOk X (h₀ :: hds) l) : PS X (.Try body (h₀ :: hds) [] [] pos) (fun D σ H => tb (wMix X.K Wout D l) D σ H) := by
  refine ⟨fun pins s σ H D I h => ?_⟩
  have ok := I.ok
  have hfr : X.A.frames = some (X.env :: X.outer) := by rw [ok.frames, hs]
  refine wpAny_Try_except ?_
  refine wpAny_mono ((hb (wMix X.K Wout D l) (X.pn ++ pins) (fun e s₁ => wpAny (model X.prog X.w) X.A (noteFrame e X.env) (fun _ s₂ => wpAny (model X.prog X.w) X.A (setFlight e none) (fun _ s₃ =>
    wpAny (model X.prog X.w) X.A (handleBy e X.env (h₀ :: hds)) (SP X pins D) X.xe s₃) X.xe s₂) X.xe s₁) (fun u s' xx => ?_) PassesOwn.looking).run [] s σ H D (I.toTry _) h) (fun f s1 hsp => ?_) (fun e s1 he => he)
  · -- what was raised
    obtain ⟨a, B, sI, pins', σ', H', cls, d, rfl, J', nb, up, sky, na, os, ag, w⟩ := xx
    have J : Inv X pins σ' H' sI := J'.ofTry ok
    have sky' : Sky B (X.env :: X.outer) a (Zc cls d) X.env.locals s'.heap := by rw [← hs]; exact sky
    show wpAny (model X.prog X.w) X.A (noteFrame (.ref a) X.env) _ _ _
    refine Sky.land Zc.steady hfr hf sky' fun h3 fl3 up3 => ?_
    have J3 : Inv X pins σ' H' { s' with heap := h3 } := J.landed nb fl3.1 (up.trans up3) os ag
    obtain ⟨oe3, vs3, he3, hz3, hd3⟩ := fl3.there
    have nfr : a ∉ frs (X.env :: X.outer) := fun hm => by
      obtain ⟨_, o', e', hnf⟩ := fl3.2.2.1.mem hm
      rw [he3] at e'; cases e'
      exact hnf _ hd3
    have nL : a ≠ X.env.locals := fun z => nfr (List.mem_filterMap.mpr ⟨X.env, List.mem_cons_self, by rw [hf, z]⟩)
    have nF : a ∉ X.fs := fun hm => by
      obtain ⟨e, he, q⟩ := List.mem_filterMap.mp hm
      exact nfr (List.mem_filterMap.mpr ⟨e, List.mem_cons_of_mem _ he, q⟩)
    have S3 := J3.suite he3 hd3 na nL nF
    have LT : PySem.W.Looks (model X.prog X.w) h3 (typeOf (.ref a)) cls := fun A Q E s k q => wpAny_typeOf_ref (k _ _ he3) (by rw [hz3.1]; exact q)
    have test : ∀ {x : Str} {np : Pos} {c : Value} {Q : Value → Shared → Prop} {E : Value → Shared → Prop}, Names X x c → Q c { s' with heap := h3 } → wpAny (model X.prog X.w) (X.A.mark (some (.ref a))) (eval (.Name x np) X.env) Q E { s' with heap := h3 } := fun {x np c Q E} hc q => by
      obtain ⟨hg, hdbg, hm | ⟨hm, hv, hnn⟩⟩ := hc
      · exact ld_glob (X := X.suite a ((a, oe3) :: (X.pn ++ pins))) S3 hg hm q hdbg
      · exact ld_blt (X := X.suite a ((a, oe3) :: (X.pn ++ pins))) S3 hg hm hv q hnn hdbg
    have walk : ∀ {hds' : List ExceptHandler} {l' : List ClT}, MixOk X hds' l' → wMix X.K Wout D l' cls d σ' H' →
        wpAny (model X.prog X.w) X.A (handleBy (.ref a) X.env hds') (SP X pins D) X.xe { s' with heap := h3 } := by
      intro hds' l' hk
      induction hk with
      | nil =>
        intro w
        refine wpAny_handleBy_nil ?_
        obtain ⟨k1, k2, k3, oe, vs, T, oT, ts', he, hz, hd, h1, hr⟩ := id fl3
        unfold PySem.passOn
        refine wpAny_bind (wpAny_field he hd h1 ?_)
        rw [if_neg (show ¬ ((Value.ref T == Value.none) = true) from by simp)]
        have fin : wpAny (model X.prog X.w) X.A (setFlight (.ref a) X.env.frame) (fun _ s4 => wpAny (model X.prog X.w) X.A (throw (.ref a) : Sem Flow) (SP X pins D) X.xe s4) X.xe { s' with heap := h3 } := by
          rw [hf]
          refine HandSPX.setFlight_upZ fl3 fun h4 hh4 up4 => wpAny_throw (tk _ _ ?_)
          exact ⟨a, B, sI, pins, σ', H', cls, d, rfl, J, nb, (up.trans up3).trans up4, .inr (.inr (by rw [hs]; exact hh4)), na, os, ag, w⟩
        first
          | exact wpAny_bind (wpAny_pure (wpAny_bind fin))
          | exact wpAny_bind fin
      | @un x c ts b₀ suite np pos' hds2 l2 hc hsu r ih =>
        intro w
        obtain ⟨b, hb1, hyes, hno⟩ := w
        refine wpAny_handleBy_cons (codeAny_handlers_test ?_) (by intro q; cases q)
        refine test hc ((PySem.W.exm_one (M := model X.prog X.w) (J3.kIn) LT hb1).here ?_)
        cases b with
        | true =>
          refine codeAny_handlers_suite (HandSPX.lands_againZ fl3 fun h4 fl4 up4 => ?_)
          have J4 : Inv X pins σ' H' { s' with heap := h4 } := J.landed nb fl4.1 ((up.trans up3).trans up4) os ag
          obtain ⟨oe4, vs4, he4, hz4, hd4⟩ := fl4.there
          refine wpAny_mono ((hsu a oe4 cls d (X.pn ++ pins) hz4 ⟨_, hd4⟩).run [] _ _ H' _ (J4.suite he4 hd4 na nL nF) (hyes rfl a na)) (fun f s6 hsp => ?_) (fun _ _ z => False.elim z)
          cases f with
          | ret u =>
            obtain ⟨v6, σ6, H6, S6, r6, q6⟩ := hsp
            exact ⟨_, _, _, S6.unsuite ok, r6, q6⟩
          | _ =>
            obtain ⟨σ6, H6, S6, q6⟩ := hsp
            exact ⟨_, _, S6.unsuite ok, q6⟩
        | false => exact ih (hno rfl)
      | @nm x n i c ts b₀ suite np pos' hds2 l2 hN hi hln hc hsu r ih =>
        intro w
        obtain ⟨b, hb1, hyes, hno⟩ := w
        refine wpAny_handleBy_cons (codeAny_handlers_test ?_) (by intro q; cases q)
        refine test hc ((PySem.W.exm_one (M := model X.prog X.w) (J3.kIn) LT hb1).here ?_)
        cases b with
        | true =>
          refine codeAny_handlers_suite_as (HandSPX.lands_againZ fl3 fun h4 fl4 up4 => ?_)
          have J4 : Inv X pins σ' H' { s' with heap := h4 } := J.landed nb fl4.1 ((up.trans up3).trans up4) os ag
          obtain ⟨oe4, vs4, he4, hz4, hd4⟩ := fl4.there
          refine store_ok (X := X.suite a ((a, oe4) :: (X.pn ++ pins))) (v := .ref a) (J4.suite he4 hd4 na nL nF) hN hi (.inl hln) rfl (fun s5 S5 => ?_) (.inr hln)
          refine wpAny_mono ((hsu a oe4 cls d (X.pn ++ pins) hz4 ⟨_, hd4⟩).run [] s5 _ H' _ S5 (hyes rfl a na)) (fun f s6 hsp => ?_) (fun _ _ z => False.elim z)
          have gone : ∀ {σ6 : St} {H6 : Hp} {Q : Shared → Prop}, Inv (X.suite a ((a, oe4) :: (X.pn ++ pins))) [] σ6 H6 s6 → (∀ s7, Inv X pins (σ6.set i none) H6 s7 → Q s7) →
              wpAny (model X.prog X.w) X.A (do bindName X.env n .none; unbindBehindTheSuite X.env n pos') (fun _ s7 => Q s7) X.xe s6 := fun {σ6 H6 Q} S6 hq => gone_ok (S6.unsuite ok) hN hi hln hq
          cases f with
          | ret u =>
            obtain ⟨v6, σ6, H6, S6, r6, q6⟩ := hsp
            exact gone S6 fun s7 J7 => ⟨_, _, _, J7, r6, q6⟩
          | _ =>
            obtain ⟨σ6, H6, S6, q6⟩ := hsp
            exact gone S6 fun s7 J7 => ⟨_, _, J7, q6⟩
        | false => exact ih (hno rfl)
    exact walk hh w
  · cases f with
    | next =>
      obtain ⟨σ', H', J', q⟩ := hsp
      exact wpAny_execs_nil ⟨σ', H', J'.ofTry ok, q⟩
    | ret u =>
      obtain ⟨v, σ', H', J', r, q⟩ := hsp
      exact ⟨v, σ', H', J'.ofTry ok, r, q⟩
    | _ =>
      obtain ⟨σ', H', J', q⟩ := hsp
      exact ⟨σ', H', J'.ofTry ok, q⟩
end

/-! ### .. as values -/
inductive Hd where
  | un (mt : Nat → Option Bool) (s : Env → Out)
  | nm (mt : Nat → Option Bool) (i : Nat) (g : Nat → List (Str × PV) → R PV)
def tryH (c : Nat) (fs : List (Str × PV)) (ρ : Env) : List Hd → Out
  | [] => .exc c fs ρ
  | .un mt s :: r => match mt c with
    | some true => match s ρ with
      | .exc _ _ _ => .stuck
      | o => o
    | some false => tryH c fs ρ r
    | none => .stuck
  | .nm mt i g :: r => match mt c with
    | some true => if i < ρ.length then match g c fs with
      | .ok v => .ret v
      | _ => .stuck
      else .stuck
    | some false => tryH c fs ρ r
    | none => .stuck
def sTry (s : Env → Out) (hs : List Hd) : Env → Out := fun ρ => match s ρ with
  | .exc c fs ρ' => tryH c fs ρ' hs
  | o => o

/-! the suites that name the error: fields, written constants, tuples -/
section
variable (K : PySem.W.Frag) (cl : Nat → Addr) (i : Nat) (a : Addr) (cls : Value) (d : Option Addr)
def gx {α β : Type} (rel : Hp → β → α → Prop) (f : Nat → List (Str × PV) → R α) : St → Hp → (β → Hp → Prop) → Prop := fun σ H Q =>
  ∃ Hs c dd fvs fs, σ[i]? = some (some (.ref a)) ∧ cls = .ref (cl c) ∧ d = some dd ∧ Sub Hs H ∧ Hs dd = some (.xd fvs) ∧ RpF K cl Hs fvs fs ∧
    match f c fs with
    | .ok v => ∀ x Hs' H', Ext Hs H Hs' H' → rel Hs' x v → Q x H'
    | _ => False
end
abbrev Xx (α : Type) := Nat → List (Str × PV) → R α
def xC (v : PV) : Xx PV := fun _ _ => .ok v
def lkF (f : Str) : List (Str × PV) → Option PV
  | [] => none
  | (k, v) :: r => if f = k then some v else lkF f r
def xF (c0 : Nat) (f : Str) : Xx PV := fun c fs => if c = c0 then opt (lkF f fs) else .stuck
def xNil : Xx (List PV) := fun _ _ => .ok []
def xCons (f : Xx PV) (r : Xx (List PV)) : Xx (List PV) := fun c fs => (f c fs).bind fun x => (r c fs).bind fun xs => .ok (x :: xs)
def xTup (r : Xx (List PV)) : Xx PV := fun c fs => (r c fs).bind gTupV
theorem lkF_ok {K : PySem.W.Frag} {cl : Nat → Addr} {Hs : Hp} {f : Str} {v : PV} : ∀ {fvs : List (Str × V)} {fs : List (Str × PV)}, RpF K cl Hs fvs fs → lkF f fs = some v → ∃ x, fvs.lookup f = some x ∧ Rp K cl Hs x v
  | _, _, .nil, h => by cases h
  | _, _, .cons (k := k) (v := y) (vs := vs) (x := z) (xs := xs) r t, h => by
    replace h : (if f = k then some z else lkF f xs) = some v := h
    by_cases e : f = k
    · rw [if_pos e] at h
      cases h
      exact ⟨y, by subst e; simp [List.lookup], r⟩
    · rw [if_neg e] at h
      obtain ⟨x, h1, h2⟩ := lkF_ok t h
      have e2 : (f == k) = false := by simpa using e
      exact ⟨x, by simp only [List.lookup, e2]; exact h1, h2⟩
section
variable {X : Cx} {cl : Nat → Addr} {i : Nat} {a : Addr} {cls : Value} {d : Option Addr} {oe : Obj} {pn : List (Addr × Obj)} {pos : Pos}
abbrev PXv (X : Cx) (cl : Nat → Addr) (i : Nat) (a : Addr) (cls : Value) (d : Option Addr) (oe : Obj) (pn : List (Addr × Obj)) (e : Expr) (f : Xx PV) : Prop := PE (X.suite a ((a, oe) :: pn)) e (gx X.K cl i a cls d (Rp X.K cl) f)
abbrev PXa (X : Cx) (cl : Nat → Addr) (i : Nat) (a : Addr) (cls : Value) (d : Option Addr) (oe : Obj) (pn : List (Addr × Obj)) (e : List Expr) (f : Xx (List PV)) : Prop := PA (X.suite a ((a, oe) :: pn)) e (gx X.K cl i a cls d (RpA X.K cl) f)
theorem xx_c {v : V} {u : PV} {e : Expr} (h : PE (X.suite a ((a, oe) :: pn)) e (tC v)) (r : ∀ H, Rp X.K cl H v u) : PXv X cl i a cls d oe pn e (xC u) :=
  peWeak h fun σ H Q ⟨Hs, c, dd, fvs, fs, _, _, _, s, _, _, q⟩ => q v Hs H (Ext.refl s) (r _)
theorem xx_int {n j} : PXv X cl i a cls d oe pn (.Constant (.int n) j pos) (xC (.int n)) := xx_c pe_int fun _ => .int n
theorem xx_bl {n j} : PXv X cl i a cls d oe pn (.Constant (.bool n) j pos) (xC (.bl n)) := xx_c pe_bl fun _ => .bl n
theorem xx_non {j} : PXv X cl i a cls d oe pn (.Constant .none j pos) (xC .non) := xx_c pe_non fun _ => .non
theorem xx_str {n j} : PXv X cl i a cls d oe pn (.Constant (.str n) j pos) (xC (.str n)) := xx_c pe_str fun _ => .str n
theorem xx_fld {x n : Str} {px : Pos} {c0 : Nat} {C : Addr} (T : XfC X.K C) (hno : PySem.W.findIn X.K (.ref C) n = some none) (hC : C = cl c0) (hz : Zc cls d oe) (hf : ∃ vs, oe.data = .fields vs) (hN : X.N[i]? = some x := by rfl) (hv : Vis X.env.scope x := by first | exact Or.inl rfl | exact Or.inr (Or.inl rfl) | exact Or.inr (Or.inr rfl)) (hd : (x == ("__debug__" : Str)) = false := by decide)
    (hcd : (x == ("__classdict__" : Str)) = false := by decide) (hb : attributeBase (.Name x px) n X.env (eval (.Name x px) X.env) = eval (.Name x px) X.env := by rfl) : PXv X cl i a cls d oe pn (.Attribute (.Name x px) n pos) (xF c0 n) :=
  peWeak (pe_xf T hno hz hf (pe_var (X := X.suite a ((a, oe) :: pn)) (i := i) hN hv hd hcd) hb) fun σ H Q ⟨Hs, c, dd, fvs, fs, h1, h2, h3, s, h4, h5, q⟩ => by
    unfold xF at q
    split at q
    · rename_i v hq
      split at hq
      · rename_i ec
        subst ec
        cases e : lkF n fs with
        | none => rw [e] at hq; cases hq
        | some w =>
          rw [e] at hq
          cases hq
          obtain ⟨y, g1, g2⟩ := lkF_ok h5 e
          exact ⟨.ref a, h1, rfl, by rw [hC]; exact h2, dd, fvs, y, h3, s _ _ h4, g1, q y Hs H (Ext.refl s) g2⟩
      · cases hq
    · exact q.elim
theorem gx_up {α β : Type} {K : PySem.W.Frag} {rel : Hp → β → α → Prop} {f : Xx α} {σ : St} {H : Hp} {Q : β → Hp → Prop} : gx K cl i a cls d rel f σ H Q ↔ gx K cl i a cls d rel f σ H Q := Iff.rfl
theorem xa_nil : PXa X cl i a cls d oe pn [] xNil := paWeak pa_nil fun σ H Q ⟨Hs, c, dd, fvs, fs, _, _, _, s, _, _, q⟩ => q [] Hs H (Ext.refl s) .nil
theorem xa_cons {e : Expr} {es : List Expr} {f : Xx PV} {r : Xx (List PV)} (ha : PXv X cl i a cls d oe pn e f) (hr : PXa X cl i a cls d oe pn es r) (hs : starEach (e :: es) X.env = (false, eval e X.env) :: starEach es X.env := by rfl) : PXa X cl i a cls d oe pn (e :: es) (xCons f r) :=
  paWeak (pa_cons ha hr hs) fun σ H Q ⟨Hs, c, dd, fvs, fs, h1, h2, h3, s, h4, h5, q⟩ => by
    unfold xCons at q
    refine ⟨Hs, c, dd, fvs, fs, h1, h2, h3, s, h4, h5, ?_⟩
    cases e1 : f c fs with
    | ok v =>
      rw [e1] at q
      intro x Hs1 H1 s1 rx
      refine ⟨Hs1, c, dd, fvs, fs, h1, h2, h3, s1.sub, s1.fs _ _ h4, h5.mono s1.fs, ?_⟩
      cases e2 : r c fs with
      | ok vs =>
        rw [e2] at q
        exact fun xs Hs2 H2 s2 rxs => q (x :: xs) Hs2 H2 (s1.trans s2) (.cons (rx.mono s2.fs) rxs)
      | exc c' fs' => rw [e2] at q; exact q.elim
      | stuck => rw [e2] at q; exact q.elim
    | exc c' fs' => rw [e1] at q; exact q.elim
    | stuck => rw [e1] at q; exact q.elim
theorem xx_tup {es : List Expr} {x1} {r : Xx (List PV)} (h : PXa X cl i a cls d oe pn es r) : PXv X cl i a cls d oe pn (.Tuple es x1 pos) (xTup r) :=
  peWeak (pe_tup h) fun σ H Q ⟨Hs, c, dd, fvs, fs, h1, h2, h3, s, h4, h5, q⟩ => by
    unfold xTup at q
    refine ⟨Hs, c, dd, fvs, fs, h1, h2, h3, s, h4, h5, ?_⟩
    cases e1 : r c fs with
    | ok vs =>
      rw [e1, bind_ok] at q
      intro x Hs1 H1 s1 rx
      unfold gTupV at q
      by_cases hl : vs.length ≤ sizeLine
      · rw [if_pos hl] at q
        refine ⟨by rw [rx.length]; exact hl, fun p n => ?_⟩
        exact q (.ref p) (upd Hs1 p (.tup x)) _ (s1.trans (Ext.new s1.sub n)) (.tup (.of upd_same) (rx.mono (Sub.new (s1.sub.none n))))
      · rw [if_neg hl] at q; exact q.elim
    | exc c' fs' => rw [e1] at q; exact q.elim
    | stuck => rw [e1] at q; exact q.elim
/-- the suite's reading -/
def tSx (K : PySem.W.Frag) (cl : Nat → Addr) (i : Nat) (g : Xx PV) : SuT := fun a cls d D σ H => gx K cl i a cls d (Rp K cl) g σ H fun x H' => D.rt x H'
theorem sx_ret {e : Expr} {g : Xx PV} (h : PXv X cl i a cls d oe pn e g) : PSs (X.suite a ((a, oe) :: pn)) [.Return (some e) pos] (tSx X.K cl i g a cls d) := pss_one (ps_ret h)
end
/-- what the clauses are -/
inductive HdsV (X : Cx) (cl : Nat → Addr) (He H0 : Hp) : List ExceptHandler → List Hd → List ClT → Prop
  | nil : HdsV X cl He H0 [] [] []
  | un {x : Str} {c : Value} {mt : Nat → Option Bool} {s : Env → Out} {b₀ : Stmt} {suite : List Stmt} {np pos' : Pos} {hds : List ExceptHandler} {l : List Hd} {l' : List ClT} (hc : Names X x c) (hm : ∀ k b, mt k = some b → PySem.W.exmOne X.K (.ref (cl k)) c = some b)
      (hsu : ∀ (a : Addr) (oe : Obj) (pn : List (Addr × Obj)), (∃ vs, oe.data = .fields vs) → PVs (X.suite a ((a, oe) :: pn)) cl W0 He H0 [] (b₀ :: suite) s) (r : HdsV X cl He H0 hds l l') :
      HdsV X cl He H0 (.ExceptHandler (some (.Name x np)) none (b₀ :: suite) pos' :: hds) (.un mt s :: l) ((c, none, fun _ _ _ => ts X.K cl He H0 [] W0 s) :: l')
  | nm {x n : Str} {i : Nat} {c : Value} {mt : Nat → Option Bool} {g : Xx PV} {b₀ : Stmt} {suite : List Stmt} {np pos' : Pos} {hds : List ExceptHandler} {l : List Hd} {l' : List ClT} (hN : X.N.Nodup) (hi : X.N[i]? = some n) (hln : X.env.kindOf n = some .local) (hc : Names X x c) (hm : ∀ k b, mt k = some b → PySem.W.exmOne X.K (.ref (cl k)) c = some b)
      (hsu : ∀ (a : Addr) (oe : Obj) (cls : Value) (d : Option Addr) (pn : List (Addr × Obj)), Zc cls d oe → (∃ vs, oe.data = .fields vs) → PSs (X.suite a ((a, oe) :: pn)) (b₀ :: suite) (tSx X.K cl i g a cls d)) (r : HdsV X cl He H0 hds l l') :
      HdsV X cl He H0 (.ExceptHandler (some (.Name x np)) (some n) (b₀ :: suite) pos' :: hds) (.nm mt i g :: l) ((c, some i, tSx X.K cl i g) :: l')
section
variable {X : Cx} {cl : Nat → Addr} {He H0 : Hp}
theorem HdsV.mix {hds : List ExceptHandler} {l : List Hd} {l' : List ClT} (h : HdsV X cl He H0 hds l l') : MixOk X hds l' := by
  induction h with
  | nil => exact .nil
  | un hc hm hsu r ih => exact .un hc (fun a oe cls d pn _ hf => hsu a oe pn hf) ih
  | nm hN hi hln hc hm hsu r ih => exact .nm hN hi hln hc hsu ih
theorem HdsV.use {W : WX} {D : Ends} {hds : List ExceptHandler} {l : List Hd} {l' : List ClT} (h : HdsV X cl He H0 hds l l') {c : Nat} {fs : List (Str × PV)} {ρ : Env} {Hs : Hp} (p : Post X.K cl He H0 [] W Hs D (tryH c fs ρ l)) {σ : St} {Hs' H' : Hp} {d : Addr} {fvs : List (Str × V)} (up : Sub Hs Hs') (S : SEnv X.K cl He H0 [] Hs' H' σ ρ)
    (e : Hs' d = some (.xd fvs)) (r : RpF X.K cl Hs' fvs fs) : wMix X.K W D l' (.ref (cl c)) (some d) σ H' := by
  induction h with
  | nil => exact p σ Hs' H' d fvs up S e r
  | @un x cv mt s b₀ suite np pos' hds2 l2 l3 hc hm hsu r2 ih =>
    unfold tryH at p
    cases em : mt c with
    | none => rw [em] at p; exact p.elim
    | some b =>
      rw [em] at p
      refine ⟨b, hm _ _ em, fun hb a na => ?_, fun hb => ?_⟩
      · subst hb
        refine ⟨Hs', ρ, S, ?_⟩
        cases es : s ρ with
        | exc c' fs' ρ' => simp only [es] at p; exact p.elim
        | stuck => simp only [es] at p; exact p.elim
        | next ρ' => simp only [es] at p; exact Post.up (W := W0) (o := .next ρ') p up
        | brk ρ' => simp only [es] at p; exact Post.up (W := W0) (o := .brk ρ') p up
        | cont ρ' => simp only [es] at p; exact Post.up (W := W0) (o := .cont ρ') p up
        | ret v => simp only [es] at p; exact p
      · subst hb
        exact ih p
  | @nm x n i cv mt g b₀ suite np pos' hds2 l2 l3 hN hi hln hc hm hsu r2 ih =>
    unfold tryH at p
    cases em : mt c with
    | none => rw [em] at p; exact p.elim
    | some b =>
      rw [em] at p
      refine ⟨b, hm _ _ em, fun hb a na => ?_, fun hb => ?_⟩
      · subst hb
        simp only at p
        split at p
        · rename_i hl
          rw [← S.len] at hl
          refine ⟨Hs', c, d, fvs, fs, by rw [List.getElem?_set_self hl], rfl, rfl, S.sub, e, r, ?_⟩
          cases eg : g c fs with
          | ok v =>
            simp only [eg] at p
            exact fun x Hs1 H1 s1 rx => p x Hs1 H1 (S.ext.trans s1) rx
          | exc c' fs' => simp only [eg] at p; exact p.elim
          | stuck => simp only [eg] at p; exact p.elim
        · exact p.elim
      · subst hb
        exact ih p
/-- the rule -/
theorem vs_try {W : WX} {body : List Stmt} {h₀ : ExceptHandler} {hds : List ExceptHandler} {l : List Hd} {l' : List ClT} {pos : Pos} {s : Env → Out} (hs : X.stack = X.env :: X.outer) (hf : X.env.frame = some X.env.locals) (tk : Takes X W)
    (hb : ∀ (W : WX) (pn : List (Addr × Obj)) (xe : Value → Shared → Prop), Takes (X.tr pn xe) W → PassesOwn (model X.prog X.w) X.A X.env xe → PVs (X.tr pn xe) cl W He H0 [] body s)
    (hh : HdsV X cl He H0 (h₀ :: hds) l l') : PV1 X cl W He H0 [] (.Try body (h₀ :: hds) [] [] pos) (sTry s l) :=
  psWeak (ps_try_mix (tb := fun W => ts X.K cl He H0 [] W s) hs hf tk hb hh.mix) fun D σ H ⟨Hs, ρ, S, p⟩ => by
    refine ⟨Hs, ρ, S, ?_⟩
    unfold sTry at p
    cases es : s ρ with
    | exc c fs ρ' =>
      simp only [es] at p
      exact fun σ' Hs' H' d fvs up S' e r => hh.use p up S' e r
    | stuck => simp only [es] at p; exact p.elim
    | next ρ' => simp only [es] at p; exact p
    | brk ρ' => simp only [es] at p; exact p
    | cont ρ' => simp only [es] at p; exact p
    | ret v => simp only [es] at p; exact p
end
/-! ### raise C() -/
section
variable {X : Cx} {cl : Nat → Addr} {W : WX} {He H0 : Hp} {pin : List Addr} {pos p p2 : Pos} {x : Str} {k : Nat} {C fI : Addr} {fd : FuncData} {ps : List Str} {sp : Fsp}
theorem pmk_none {spx : Sp} (T : OexC X.K C) (iC : PySem.W.findIn X.K (.ref C) "__init__" = some (some (.ref fI))) (tI : PySem.W.typeIn X.K (.ref fI) = some (.type "function"))
    (F : FnOk X.prog X.w X.K X.mg X.base (L2.CX X.prog X.w) k fI fd ps spx) (hr : Room (k + 1) X.A) (hb : Binds X.K fd ps []) (hx : Passes (L2.CX X.prog X.w) X (fun _ _ _ => False)) (hg : Gl X x) (hm : X.mg x = some (.ref C))
    (hdb : (x == ("__debug__" : Str)) = false := by decide) : PMk X (.Call (.Name x p) [] [] pos) (tMkO C spx [] tNil) := by
  intro pins s σ H Q I h
  obtain ⟨nm, q, N, bs, bm, sn, sub, ab, col, dd, k0, k1, k2, k3, k5, hC, hbm⟩ := T.cls
  refine wpAny_Call_Name_kw (ld_glob I hg hm (PySem.W.callWith_K0 I.kIn T.kC ?_) hdb)
  obtain ⟨hz, q1⟩ := h
  obtain ⟨hp, g, dr, tk, os⟩ := s
  have hsz : hp.objs.size ≤ hp.objs.size + 1 := Nat.le_succ _
  have hq := q1 (hp.objs.size + 1) (I.hok.fresh hsz)
  have keep : ∀ b o, hp.get? b = some o → ((hp.push (PySem.W.kdv_tup [])).push (PySem.HandSPX.excO C hp.objs.size)).get? b = some o := fun b o e => Heap.get?_push_of_some _ (Heap.get?_push_of_some _ e)
  have hget : ((hp.push (PySem.W.kdv_tup [])).push (PySem.HandSPX.excO C hp.objs.size)).get? (hp.objs.size + 1) = some (PySem.HandSPX.excO C hp.objs.size) := by heap_get
  have I2 : Inv X pins σ (upd H (hp.objs.size + 1) (exo (hp.objs.size + 1) C none)) ⟨(hp.push (PySem.W.kdv_tup [])).push (PySem.HandSPX.excO C hp.objs.size), g, dr, tk, os⟩ :=
    I.laid (t' := tk) (a := hp.objs.size + 1) (o := exo (hp.objs.size + 1) C none) (h' := (hp.push (PySem.W.kdv_tup [])).push (PySem.HandSPX.excO C hp.objs.size)) keep hsz (exo_ok hget)
  have hl : ([Value.ref (hp.objs.size + 1)] : List Value).length = ps.length := (F.len _ _ _ _ hq)
  refine wpAny_call (PySem.HandSPX.call_own PySem.F.excBase_ValueError (fun Y => PySem.HandSPX.refsVE_contains Y bm hbm) (I.kIn _ _ hC) (PySem.W.looks_findIn I.kIn iC) (fun self => PySem.W.bind_fn I.kIn self tI) (by rw [sizeLine_eq]; exact Nat.zero_le _)
    (codeAny_mono (F.run _ X.stack _ _ ⟨[Value.ref (hp.objs.size + 1)], []⟩ [Value.ref (hp.objs.size + 1)] [V.ref (hp.objs.size + 1)] _ (fun _ _ _ => False) (hr.make C [] []) (I2.env0.make C [] []) (by have := hb _ [Value.ref (hp.objs.size + 1)] I2.kIn hl; exact this) (.cons rfl .nil) hq) fun r s' hq' => ?_))
  cases r with
  | error er => exact hx pins σ _ _ er s' I2 hq'
  | ok fl =>
    cases fl with
    | ret u =>
      obtain ⟨v, H2, os2, bare2, un2, hok2, rv, ev, d, fs, ea, ed, hd1, q2⟩ := hq'
      subst ev
      obtain ⟨h2, g2, d2, t2, os'⟩ := s'
      exact ⟨rv, mk_end (raises_own T.exC T.tyC) I hsz keep un2 hok2 os2 bare2 ea ed hd1 q2⟩
    | next => exact False.elim hq'
    | brk => exact False.elim hq'
    | cont => exact False.elim hq'
theorem vs_raise0 {bs : List Bool} {c : Nat} (hcalm : X.calm = true) (tk : Takes X W) (T : OexC X.K C) (iC : PySem.W.findIn X.K (.ref C) "__init__" = some (some (.ref fI))) (tI : PySem.W.typeIn X.K (.ref fI) = some (.type "function"))
    (F : FnOk X.prog X.w X.K X.mg X.base (L2.CX X.prog X.w) k fI fd ps (spI C 0 sp)) (hr : Room (k + 1) X.A) (hb : Binds X.K fd ps []) (hm : X.mg x = some (.ref C)) (hC : C = cl c)
    (hg : Gl X x := by rfl) (hdb : (x == ("__debug__" : Str)) = false := by decide) :
    PV1 X cl W He H0 pin (.Raise (some (.Call (.Name x p) [] [] p2)) none pos) (sRaise c (mkFs 0 sp) bs []) :=
  psWeak (ps_raise hcalm tk (pmk_none T iC tI F hr hb (fun _ _ _ _ _ _ _ h => by
    obtain ⟨_, _, _, _, _, _, _, _, _, _, _, _, z⟩ := h
    exact z.elim) hg hm hdb)) fun D σ H h => by
      have q := er_use (X := X) (W := W) (He := He) (H0 := H0) (n := 0) (ta' := tNil) (D := D) hC h
      obtain ⟨Hs, ρ, E, q⟩ := q
      exact q.here E.sub .nil
end
end VL
namespace VL
open PySem PySem.Spec PyProof.Rows L2
/-! ### what a law's text gives, by names -/
section
variable (P : Program) (w : World) (K : PySem.W.Frag) (mg : Str → Option Value) (base : Heap) (cl : Nat → Addr)
/-- a def by its name -/
structure DefAt (k : Nat) (x : Str) (n : Nat) (g : List PV → R PV) : Prop where
  ex : ∃ (f : Addr) (fd : FuncData) (ps : List Str), FnOk P w K mg base (L2.CX P w) k f fd ps (spF K cl n g) ∧ mg x = some (.ref f) ∧ PySem.W.keepIn K (.ref f) = true ∧ Binds K fd ps []
/-- an own error by its name: its number, its __init__'s arguments and fields -/
structure ExcAt (k : Nat) (x : Str) (c n : Nat) (sp : Fsp) : Prop where
  ex : ∃ (C fI : Addr) (fd : FuncData) (ps : List Str), OexC K C ∧ PySem.W.findIn K (.ref C) "__init__" = some (some (.ref fI)) ∧ PySem.W.typeIn K (.ref fI) = some (.type "function") ∧ FnOk P w K mg base (L2.CX P w) k fI fd ps (spI C n sp) ∧ Binds K fd ps [] ∧ mg x = some (.ref C) ∧ C = cl c
/-- a class that an except clause names -/
structure ExmAt (x : Str) (mt : Nat → Option Bool) : Prop where
  ex : ∃ C : Addr, mg x = some (.ref C) ∧ ∀ k b, mt k = some b → PySem.W.exmOne K (.ref (cl k)) (.ref C) = some b
/-- a field of a caught error -/
structure FldAt (c : Nat) (f : Str) : Prop where
  xf : XfC K (cl c)
  no : PySem.W.findIn K (.ref (cl c)) f = some none
end
section
variable {X : Cx} {cl : Nat → Addr} {W : WX} {He H0 : Hp} {pin : List Addr} {pos p p2 : Pos} {x : Str} {k n : Nat} {g : List PV → R PV}
theorem vc {e : Expr} {es : List Expr} {fs : List Ex} (D : DefAt X.prog X.w X.K X.mg X.base cl k x n g) (hr : Room k X.A) (tk : Takes X W) (ha : PA X (e :: es) (ta X.K cl W (evs fs)))
    (hg : Gl X x := by rfl) (hdb : (x == ("__debug__" : Str)) = false := by decide) (he : starEach (e :: es) X.env = (false, eval e X.env) :: starEach es X.env := by rfl) (hpl : (backTo pos (starEach es X.env)).any (·.1) = false := by rfl) :
    PE X (.Call (.Name x p) (e :: es) [] pos) (tv X.K cl W (eArgs (gN n g) fs)) := by
  obtain ⟨f, fd, ps, F, hm, hk, hb⟩ := D.ex
  exact ve_call F hr hm hk hb tk ha hg hdb he hpl
theorem vc0 (D : DefAt X.prog X.w X.K X.mg X.base cl k x n g) (hr : Room k X.A) (tk : Takes X W) (hg : Gl X x := by rfl) (hdb : (x == ("__debug__" : Str)) = false := by decide) :
    PE X (.Call (.Name x p) [] [] pos) (tv X.K cl W (eArgs (gN n g) [])) := by
  obtain ⟨f, fd, ps, F, hm, hk, hb⟩ := D.ex
  exact ve_call0 F hr hm hk hb tk hg hdb
theorem vr {e : Expr} {es : List Expr} {fs : List Ex} {bs : List Bool} {c : Nat} {sp : Fsp} (D : ExcAt X.prog X.w X.K X.mg X.base cl k x c n sp) (hr : Room (k + 1) X.A) (hcalm : X.calm = true) (tk : Takes X W) (ha : PA X (e :: es) (ta X.K cl W (evs fs)))
    (hg : Gl X x := by rfl) (hdb : (x == ("__debug__" : Str)) = false := by decide) (he : starEach (e :: es) X.env = (false, eval e X.env) :: starEach es X.env := by rfl) (hpl : (backTo p2 (starEach es X.env)).any (·.1) = false := by rfl) :
    PV1 X cl W He H0 pin (.Raise (some (.Call (.Name x p) (e :: es) [] p2)) none pos) (sRaise c (mkFs n sp) bs fs) := by
  obtain ⟨C, fI, fd, ps, T, iC, tI, F, hb, hm, hC⟩ := D.ex
  exact vs_raise hcalm tk T iC tI F hr hb hm hC ha hg hdb he hpl
theorem vr0 {bs : List Bool} {c : Nat} {sp : Fsp} (D : ExcAt X.prog X.w X.K X.mg X.base cl k x c 0 sp) (hr : Room (k + 1) X.A) (hcalm : X.calm = true) (tk : Takes X W)
    (hg : Gl X x := by rfl) (hdb : (x == ("__debug__" : Str)) = false := by decide) : PV1 X cl W He H0 pin (.Raise (some (.Call (.Name x p) [] [] p2)) none pos) (sRaise c (mkFs 0 sp) bs []) := by
  obtain ⟨C, fI, fd, ps, T, iC, tI, F, hb, hm, hC⟩ := D.ex
  exact vs_raise0 hcalm tk T iC tI F hr hb hm hC hg hdb
/-- the clauses of a try, some reading of them -/
def Cls (X : Cx) (cl : Nat → Addr) (He H0 : Hp) (hds : List ExceptHandler) (l : List Hd) : Prop := ∃ l', HdsV X cl He H0 hds l l'
theorem hd_nil : Cls X cl He H0 [] [] := ⟨[], .nil⟩
theorem hd_un {mt : Nat → Option Bool} {s : Env → Out} {b₀ : Stmt} {suite : List Stmt} {np pos' : Pos} {hds : List ExceptHandler} {l : List Hd} (D : ExmAt X.K X.mg cl x mt)
    (hsu : ∀ (a : Addr) (oe : Obj) (pn : List (Addr × Obj)), (∃ vs, oe.data = .fields vs) → PVs (X.suite a ((a, oe) :: pn)) cl W0 He H0 [] (b₀ :: suite) s) (r : Cls X cl He H0 hds l) (hg : Gl X x := by rfl) (hdb : (x == ("__debug__" : Str)) = false := by decide) :
    Cls X cl He H0 (.ExceptHandler (some (.Name x np)) none (b₀ :: suite) pos' :: hds) (.un mt s :: l) := by
  obtain ⟨C, hm, hx⟩ := D.ex
  obtain ⟨l', r⟩ := r
  exact ⟨_, .un ⟨hg, hdb, .inl hm⟩ hx hsu r⟩
theorem hd_nm {y : Str} {i : Nat} {mt : Nat → Option Bool} {g : Xx PV} {b₀ : Stmt} {suite : List Stmt} {np pos' : Pos} {hds : List ExceptHandler} {l : List Hd} (D : ExmAt X.K X.mg cl x mt) (hN : X.N.Nodup)
    (hsu : ∀ (a : Addr) (oe : Obj) (cls : Value) (d : Option Addr) (pn : List (Addr × Obj)), Zc cls d oe → (∃ vs, oe.data = .fields vs) → PSs (X.suite a ((a, oe) :: pn)) (b₀ :: suite) (tSx X.K cl i g a cls d)) (r : Cls X cl He H0 hds l) (hi : X.N[i]? = some y := by rfl) (hln : X.env.kindOf y = some .local := by rfl) (hg : Gl X x := by rfl) (hdb : (x == ("__debug__" : Str)) = false := by decide) :
    Cls X cl He H0 (.ExceptHandler (some (.Name x np)) (some y) (b₀ :: suite) pos' :: hds) (.nm mt i g :: l) := by
  obtain ⟨C, hm, hx⟩ := D.ex
  obtain ⟨l', r⟩ := r
  exact ⟨_, .nm hN hi hln ⟨hg, hdb, .inl hm⟩ hx hsu r⟩
theorem vs_tr {body : List Stmt} {h₀ : ExceptHandler} {hds : List ExceptHandler} {l : List Hd} {s : Env → Out} (tk : Takes X W)
    (hb : ∀ (W : WX) (pn : List (Addr × Obj)) (xe : Value → Shared → Prop), Takes (X.tr pn xe) W → PassesOwn (model X.prog X.w) X.A X.env xe → PVs (X.tr pn xe) cl W He H0 [] body s)
    (hh : Cls X cl He H0 (h₀ :: hds) l) (hs : X.stack = X.env :: X.outer := by rfl) (hf : X.env.frame = some X.env.locals := by rfl) : PV1 X cl W He H0 [] (.Try body (h₀ :: hds) [] [] pos) (sTry s l) := by
  obtain ⟨l', hh⟩ := hh
  exact vs_try hs hf tk hb hh
theorem xx_f {px : Pos} {i c0 : Nat} {a : Addr} {cls : Value} {d : Option Addr} {oe : Obj} {pn : List (Addr × Obj)} {f : Str} (D : FldAt X.K cl c0 f) (hz : Zc cls d oe) (hf : ∃ vs, oe.data = .fields vs) (hN : X.N[i]? = some x := by rfl) (hv : Vis X.env.scope x := by first | exact Or.inl rfl | exact Or.inr (Or.inl rfl) | exact Or.inr (Or.inr rfl)) (hd : (x == ("__debug__" : Str)) = false := by decide)
    (hcd : (x == ("__classdict__" : Str)) = false := by decide) (hb : attributeBase (.Name x px) f X.env (eval (.Name x px) X.env) = eval (.Name x px) X.env := by rfl) : PXv X cl i a cls d oe pn (.Attribute (.Name x px) f pos) (xF c0 f) :=
  xx_fld D.xf D.no rfl hz hf hN hv hd hcd hb
end
theorem room64 {A : Around} {k : Nat} (hr : Room k A) : A.units + 64 < cLine := by have := hr.un; omega
theorem room65 {A : Around} {k : Nat} (hr : Room k A) : A.units + 65 < cLine := by have := hr.un; omega
theorem room0 {A : Around} {k : Nat} (hr : Room k A) : A.units < cLine := by have := hr.un; omega
theorem room2 {A : Around} {d : Nat} (hr : Room (d + 2) A) : Room 2 A := hr.mono (by omega)
/-! ### a comprehension's block, as a test -/
def kindB (a b : Option NameKind) : Bool := match a, b with
  | some .local, some .local => true
  | some .cell, some .cell => true
  | some .free, some .free => true
  | some .globalImplicit, some .globalImplicit => true
  | some .globalExplicit, some .globalExplicit => true
  | _, _ => false
theorem kindB_ok {a b : Option NameKind} (h : kindB a b = true) : a = b := by
  cases a with
  | none => cases b <;> cases h
  | some a => cases b with
    | none => cases a <;> cases h
    | some b => cases a <;> cases b <;> first | rfl | cases h
def freeB (k : NameKind) : Bool := match k with | .free => true | _ => false
def locB (k : NameKind) : Bool := match k with | .local => true | .cell => true | _ => false
def blkB (N : List Str) (sc scope : Scope) (own : List (Str × Nat)) : Bool :=
  (match scope.kind with | .function => true | _ => false) && (scope.names.all fun y => kindB (scope.names.lookup y.1) (some y.2)) && (own.all fun p => match N[p.2]? with | some z => z == p.1 | none => false) &&
  (scope.names.all fun y => !freeB y.2 || kindB (sc.names.lookup y.1) (some .cell) || kindB (sc.names.lookup y.1) (some .free)) && (scope.names.all fun y => !locB y.2 || (own.any fun p => p.1 == y.1) || !(N.any fun z => z == y.1))
theorem blk_of {N : List Str} {sc scope : Scope} {own : List (Str × Nat)} (h : blkB N sc scope own = true) : BlkOk N sc scope own := by
  unfold blkB at h
  simp only [Bool.and_eq_true, List.all_eq_true, Bool.or_eq_true, Bool.not_eq_true'] at h
  obtain ⟨⟨⟨⟨h1, h2⟩, h3⟩, h4⟩, h5⟩ := h
  refine ⟨?_, fun y hy => kindB_ok (h2 y hy), fun p hp => ?_, fun y hy e => ?_, fun y hy e => ?_⟩
  · revert h1
    cases scope.kind <;> intro h1 <;> first | rfl | cases h1
  · have := h3 p hp
    revert this
    cases N[p.2]? with
    | none => intro h; cases h
    | some z => intro h; rw [eq_of_beq h]
  · have := h4 y hy
    rw [e] at this
    rcases this with (h | h) | h
    · cases h
    · exact .inl (kindB_ok h)
    · exact .inr (kindB_ok h)
  · rcases h5 y hy with (h | h) | h
    · rcases e with e | e <;> (rw [e] at h; cases h)
    · refine .inl ?_
      rw [List.any_eq_true] at h
      obtain ⟨p, hp, e2⟩ := h
      rw [List.mem_map]
      exact ⟨p, hp, eq_of_beq e2⟩
    · refine .inr fun hm => ?_
      have : (N.any fun z => z == y.1) = true := List.any_eq_true.mpr ⟨y.1, hm, beq_self_eq_true _⟩
      rw [this] at h; cases h
/-! ### the table of the plain functions is made of these -/
theorem mem_tn {i : Nat} {own : List Nat} (h : own.contains i = true) : TgIn (tN i) own := tin_n (by simpa using h)
theorem tin_nil {own : List Nat} : ∀ t ∈ ([] : List Tg), TgIn t own := fun _ h => by simp at h
theorem tin_cons {t : Tg} {ts : List Tg} {own : List Nat} (h : TgIn t own) (r : ∀ t ∈ ts, TgIn t own) : ∀ u ∈ t :: ts, TgIn u own := fun u hu => by
  rcases List.mem_cons.mp hu with e | hu
  · rw [e]; exact h
  · exact r u hu
theorem wk_of {K : PySem.W.Frag} {cl : Nat → Addr} : ∀ Hs J xs, Wk K cl Hs J xs → Wk K cl Hs J xs := fun _ _ _ h => h
theorem wkA_of {K : PySem.W.Frag} {cl : Nat → Addr} : ∀ Hs J xs, WkA K cl Hs J xs → Wk K cl Hs J xs := fun _ _ _ h => h _
/-- constants of the module, read off the written part -/
def valP (K : PySem.W.Frag) : Nat → Value → Option PV
  | _, .none => some .non
  | _, .bool b => some (.bl b)
  | _, .int i _ => some (.int i)
  | _, .str s _ => some (.str s)
  | 0, .ref _ => none
  | n + 1, .ref a => match K.lookup a with
    | some ⟨.type t, _, .seq its _, _⟩ => if t = "tuple" ∧ its.size ≤ sizeLine then (its.toList.mapM (valP K n)).map .tup else none
    | _ => none
  | _, _ => none
theorem valP_ok {K : PySem.W.Frag} {cl : Nat → Addr} : ∀ {n : Nat} {v : Value} {u : PV}, valP K n v = some u → ∃ x : V, RelV x v ∧ ∀ H, Rp K cl H x u := by
  have base : ∀ {n : Nat} {v : Value} {u : PV}, (∀ a, v ≠ .ref a) → valP K n v = some u → ∃ x : V, RelV x v ∧ ∀ H, Rp K cl H x u := by
    intro n v u hr e
    cases v with
    | none => cases n <;> (cases e; exact ⟨.non, rfl, fun _ => .non⟩)
    | bool b => cases n <;> (cases e; exact ⟨.bl b, rfl, fun _ => .bl b⟩)
    | int i t => cases n <;> (cases e; exact ⟨.int i, ⟨_, rfl⟩, fun _ => .int i⟩)
    | str i t => cases n <;> (cases e; exact ⟨.str i, ⟨_, rfl⟩, fun _ => .str i⟩)
    | ref a => exact absurd rfl (hr a)
    | _ => cases n <;> cases e
  intro n
  induction n with
  | zero =>
    intro v u e
    cases v with
    | ref a => cases e
    | _ => exact base (fun a z => by cases z) e
  | succ n ih =>
    intro v u e
    cases v with
    | ref a =>
      unfold valP at e
      split at e
      · rename_i t od its k sl q
        split at e
        · rename_i hk
          obtain ⟨rfl, hz⟩ := hk
          rw [Option.map_eq_some_iff] at e
          obtain ⟨us, e1, rfl⟩ := e
          have go : ∀ (l : List Value) (us : List PV), l.mapM (valP K n) = some us → ∃ xs : List V, Vals xs l ∧ ∀ H, RpA K cl H xs us := by
            intro l
            induction l with
            | nil => intro us e; simp at e; subst e; exact ⟨[], .nil, fun _ => .nil⟩
            | cons v l ih2 =>
              intro us e
              simp only [List.mapM_cons, Option.bind_eq_bind, Option.bind_eq_some_iff] at e
              obtain ⟨y, e2, ys, e3, e4⟩ := e
              cases e4
              obtain ⟨x, g1, g2⟩ := ih e2
              obtain ⟨xs, g3, g4⟩ := ih2 ys e3
              exact ⟨x :: xs, .cons g1 g3, fun H => .cons (g2 H) (g4 H)⟩
          obtain ⟨xs, h1, h2⟩ := go _ _ e1
          exact ⟨.ref a, rfl, fun H => .tup (.inr ⟨_, its, k, q, rfl, rfl, hz, h1⟩) (h2 H)⟩
        · cases e
      · cases e
    | _ => exact base (fun a z => by cases z) e
theorem gl_of {K : PySem.W.Frag} {cl : Nat → Addr} {mg : Str → Option Value} {x : Str} {n : Nat} {v : Value} {u : PV} (h : mg x = some v) (e : valP K n v = some u) : GlobV K cl mg x u := by
  obtain ⟨y, h1, h2⟩ := valP_ok (cl := cl) e
  exact ⟨y, v, h, h1, h2⟩
/-! name op= e -/
def addIP : PV → PV → Option PV
  | .int i, .int j => some (.int (i + j))
  | _, _ => none
def mulIP : PV → PV → Option PV
  | .int i, .int j => if mulOk i j = true then some (.int (i * j)) else none
  | _, _ => none
section
variable {X : Cx} {cl : Nat → Addr}
theorem ov_iadd : OpV X.K cl (rI0 fun i j => .int (i + j)) addIP := by
  intro W σ Hs H x y u v w Q s rx ry e q
  cases rx with
  | int i =>
    cases ry with
    | int j => cases e; exact ⟨_, _, rfl, rfl, q.here s (.int _)⟩
    | _ => cases e
  | _ => cases e
theorem ov_imul : OpV X.K cl (rI CMulS fun i j => .int (i * j)) mulIP := by
  intro W σ Hs H x y u v w Q s rx ry e q
  cases rx with
  | int i =>
    cases ry with
    | int j =>
      replace e : (if mulOk i j = true then some (PV.int (i * j)) else none) = some w := e
      split at e
      · rename_i hk
        cases e
        exact ⟨_, _, rfl, rfl, hk, q.here s (.int _)⟩
      · cases e
    | _ => cases e
  | _ => cases e
end
/-! from a def's text to its promise -/
section
variable {P : Program} {w : World} {K : PySem.W.Frag} {mg : Str → Option Value} {base : Heap} {cl : Nat → Addr} {x : Str} {st : Stmt} {n : Nat} {ps N : List Str}
theorem nun (h : ∃ f fd, Fun K x x st f fd ∧ mg x = some (.ref f)) (hb : ∀ {f : Addr} {fd : FuncData}, Fun K x x st f fd → Binds K fd ps []) : DefAt P w K mg base cl (0 + 2) x n (fun _ => .stuck) := by
  obtain ⟨f, fd, F, hm⟩ := h
  exact ⟨f, fd, ps, def_none, hm, F.kp, hb F⟩
theorem dun {d : Nat} {b : Env → Out} (h : ∃ f fd, Fun K x x st f fd ∧ mg x = some (.ref f)) (S : FnScope N ps (defScope st)) (hb : ∀ {f : Addr} {fd : FuncData}, Fun K x x st f fd → Binds K fd ps [])
    (hbody : ∀ (f : Addr) (cdv : Value) (A : Around) (outer : List PySem.Env) (s : Shared) (H : Hp) (E : XK) (He : Hp), Room (d + 2) (A.deeper (envOfC x (defScope st) s.heap.objs.size f cdv)) →
      PVs (cxOf (L2.CX P w) P w K mg base N x (defScope st) f cdv A outer s H E) cl (fun c d _ H => E c d H) He H [] (defBody st) b) : DefAt P w K mg base cl (d + 1 + 2) x ps.length (fun us => outR (b (startE N.length us))) := by
  obtain ⟨f, fd, F, hm⟩ := h
  exact ⟨f, fd, ps, def_ok F S fun cdv A outer s H E He hr => hbody f cdv A outer s H E He hr, hm, F.kp, hb F⟩
end
end VL
namespace VL
open PySem PySem.Spec PyProof.Rows L2
/-! ### x.index(y) -/
def idxO (xs : List PV) (y : PV) : Option PV := if flatP y = true ∧ xs.all flatP = true then (xs.findIdx? fun x => eqF x y).map fun (j : Nat) => PV.int ((j : Nat) : Int) else none
def eIdxL (a b : Ex) : Ex := fun ρ => (a ρ).bind fun x => match x with
  | .lst xs => (b ρ).bind fun y => opt (idxO xs y)
  | _ => .stuck
def eIdxT (ys : List Str) (b : Ex) : Ex := fun ρ => (b ρ).bind fun y => match y with
  | .str z => opt ((ys.findIdx? fun x => x == z).map fun (j : Nat) => PV.int ((j : Nat) : Int))
  | _ => .stuck
section
variable {X : Cx} {cl : Nat → Addr} {W : WX} {o e : Expr} {apos cpos : Pos} {f f' : Ex}
theorem ve_idxL (ho : PE X o (tv X.K cl W f)) (ha : PE X e (tv X.K cl W f'))
    (hbase : attributeBase o "index" X.env (eval o X.env) = eval o X.env := by rfl)
    (hfew : ((backTo cpos (starEach [e] X.env)).all (fun x => !x.1) && (backToKw cpos (keywordEach [] X.env)).all (fun x => x.1.isSome)
      && decide ([e].length + ([] : List Keyword).length + (if ([] : List Keyword).isEmpty then 0 else 1) < 30)) = true := by rfl)
    (hline : (apos.endLine == cpos.line) = true := by rfl) (hs : starEach [e] X.env = (false, eval e X.env) :: starEach [] X.env := by rfl) (hplain : (backTo cpos (starEach [] X.env)).any (·.1) = false := by rfl) :
    PE X (.Call (.Attribute o "index" apos) [e] [] cpos) (tv X.K cl W (eIdxL f f')) :=
  peWeak (pe_bm PySem.F.plainAttrs_list PySem.F.slot_list_index PySem.F.type_list_index mt_index ho (va_cons ha va_nil hs) hbase hfew hline hs hplain) fun σ H Q ⟨Hs, ρ, E, h⟩ => by
    refine gv_bind E h fun v x Hs1 H1 _ s1 rx h1 => ?_
    cases rx with
    | @lst a vs xs h ra =>
      refine ⟨.inl ⟨rfl, _, .of (s1.sub _ _ h)⟩, ?_⟩
      refine ⟨Hs1, ρ, E.up s1, ?_⟩
      replace h1 : GP X.K cl (Rp X.K cl) W Hs1 H1 σ ((f' ρ).bind fun y => opt (idxO xs y)) Q := h1
      unfold evs
      cases e1 : f' ρ with
      | ok y =>
        rw [e1] at h1
        intro ws Hs2 H2 s2 rw2
        replace h1 : GP X.K cl (Rp X.K cl) W Hs1 H1 σ (opt (idxO xs y)) Q := h1
        obtain ⟨w, e2, q⟩ := h1.opt
        cases rw2 with
        | cons ry rt =>
          cases rt
          unfold idxO at e2
          split at e2
          · rename_i hk
            rw [Option.map_eq_some_iff] at e2
            obtain ⟨j, e3, rfl⟩ := e2
            rw [List.findIdx?_eq_some_iff_getElem] at e3
            obtain ⟨hj, e4, e5⟩ := e3
            obtain ⟨z, g1, g2⟩ := ra.get (List.getElem?_eq_getElem hj)
            refine ⟨a, vs, _, j, z, rfl, rfl, .of (s2.sub _ _ (s2.fs _ _ h)), ry.flat hk.1, ra.flat hk.2, g1, ?_, fun m z' hm hz' => ?_, (GP.up q s2).here s2.sub (.int _)⟩
            · rw [eqF_ok (g2.mono s2.fs) ry]; exact e4
            · have hm2 : m < xs.length := by omega
              obtain ⟨z2, g3, g4⟩ := ra.get (List.getElem?_eq_getElem hm2)
              rw [g3] at hz'
              cases hz'
              rw [eqF_ok (g4.mono s2.fs) ry]
              simpa using e5 m hm
          · cases e2
      | exc c fs => rw [e1] at h1; exact h1
      | stuck => rw [e1] at h1; exact h1
    | _ => exact h1.elim
/-- what the tuple's rule asks -/
theorem idxT_use {σ : St} {Hs H : Hp} {ρ : Ev} {Q : VK} {p : Addr} {ys : List Str} (E : PEnv X.K cl Hs H σ ρ) (h : GP X.K cl (Rp X.K cl) W Hs H σ (eIdxT ys f' ρ) Q) (hp : ∀ Hs' H', Ext Hs H Hs' H' → SqT X.K H' p (ys.map V.str)) :
    ta X.K cl W (evs [f']) σ H fun xs H2 => (∃ q, ∃ ys : List Str, ∃ z j, V.ref p = .ref q ∧ xs = [.str z] ∧ SqT X.K H2 q (ys.map V.str) ∧ ys[j]? = some z ∧ (∀ m, m < j → ys[m]? ≠ some z) ∧ Q (.int (j : Nat)) H2) := by
  refine ⟨Hs, ρ, E, ?_⟩
  unfold evs
  unfold eIdxT at h
  cases e1 : f' ρ with
  | ok y =>
    rw [e1] at h
    intro ws Hs2 H2 s2 rw2
    cases rw2 with
    | cons ry rt =>
      cases rt
      cases ry with
      | str z =>
        obtain ⟨w, e2, q⟩ := GP.opt h
        rw [Option.map_eq_some_iff] at e2
        obtain ⟨j, e3, rfl⟩ := e2
        rw [List.findIdx?_eq_some_iff_getElem] at e3
        obtain ⟨hj, e4, e5⟩ := e3
        refine ⟨p, ys, z, j, rfl, rfl, hp _ _ s2, ?_, fun m hm hz => ?_, (GP.up q s2).here s2.sub (.int _)⟩
        · rw [List.getElem?_eq_getElem hj, eq_of_beq e4]
        · have hm2 : m < ys.length := by omega
          rw [List.getElem?_eq_getElem hm2] at hz
          have := e5 m hm
          rw [Option.some.inj hz] at this
          simp at this
      | _ => exact h.elim
  | exc c fs => rw [e1] at h; exact h
  | stuck => rw [e1] at h; exact h
/-- a tuple of texts of the module -/
def GlobT (K : PySem.W.Frag) (mg : Str → Option Value) (x : Str) (ys : List Str) : Prop := ∃ p o, mg x = some (.ref p) ∧ K.lookup p = some o ∧ o.cls = .type "tuple" ∧ o.dict = none ∧ ∀ H, SqT K H p (ys.map V.str)
theorem ve_idxG {x : Str} {ys : List Str} {p1 : Pos} (G : GlobT X.K X.mg x ys) (ha : PE X e (tv X.K cl W f')) (hg : Gl X x := by rfl) (hd : (x == ("__debug__" : Str)) = false := by decide)
    (hbase : attributeBase (.Name x p1) "index" X.env (eval (.Name x p1) X.env) = eval (.Name x p1) X.env := by rfl)
    (hfew : ((backTo cpos (starEach [e] X.env)).all (fun x => !x.1) && (backToKw cpos (keywordEach [] X.env)).all (fun x => x.1.isSome)
      && decide ([e].length + ([] : List Keyword).length + (if ([] : List Keyword).isEmpty then 0 else 1) < 30)) = true := by rfl)
    (hline : (apos.endLine == cpos.line) = true := by rfl) (hs : starEach [e] X.env = (false, eval e X.env) :: starEach [] X.env := by rfl) (hplain : (backTo cpos (starEach [] X.env)).any (·.1) = false := by rfl) :
    PE X (.Call (.Attribute (.Name x p1) "index" apos) [e] [] cpos) (tv X.K cl W (eIdxT ys f')) := by
  obtain ⟨p, o, hm, hl, hc, hdd, hT⟩ := G
  refine peWeak (pe_bm PySem.F.plainAttrs_tuple PySem.F.slot_tuple_index PySem.F.type_tuple_index mt_tup_index (pe_glob (v := .ref p) hg hm rfl hd) (va_cons ha va_nil hs) hbase hfew hline hs hplain) fun σ H Q ⟨Hs, ρ, E, h⟩ => ?_
  exact ⟨.inr (.inl ⟨rfl, o, hl, hc, hdd⟩), idxT_use E h fun _ _ _ => hT _⟩
/-- a written tuple of texts -/
theorem evs_strs : ∀ (ys : List Str) (ρ : Ev), evs (ys.map fun z => eC (.str z)) ρ = .ok (ys.map .str)
  | [], _ => rfl
  | y :: ys, ρ => by
    show ((eC (.str y) ρ).bind fun x => (evs (ys.map fun z => eC (.str z)) ρ).bind fun xs => .ok (x :: xs)) = _
    rw [evs_strs ys ρ]
    rfl
theorem rpa_strs {K : PySem.W.Frag} {H : Hp} : ∀ {ys : List Str} {vs : List V}, RpA K cl H vs (ys.map .str) → vs = ys.map V.str
  | [], _, .nil => rfl
  | y :: ys, _, .cons r t => by
    cases r
    rw [rpa_strs t]
    rfl
theorem ve_idxD {es : List Expr} {x1 : Nat} {p1 : Pos} {ys : List Str} (he : PA X es (ta X.K cl W (evs (ys.map fun z => eC (.str z))))) (ha : PE X e (tv X.K cl W f')) (hl : ys.length ≤ sizeLine := by decide)
    (hbase : attributeBase (.Tuple es x1 p1) "index" X.env (eval (.Tuple es x1 p1) X.env) = eval (.Tuple es x1 p1) X.env := by rfl)
    (hfew : ((backTo cpos (starEach [e] X.env)).all (fun x => !x.1) && (backToKw cpos (keywordEach [] X.env)).all (fun x => x.1.isSome)
      && decide ([e].length + ([] : List Keyword).length + (if ([] : List Keyword).isEmpty then 0 else 1) < 30)) = true := by rfl)
    (hline : (apos.endLine == cpos.line) = true := by rfl) (hs : starEach [e] X.env = (false, eval e X.env) :: starEach [] X.env := by rfl) (hplain : (backTo cpos (starEach [] X.env)).any (·.1) = false := by rfl) :
    PE X (.Call (.Attribute (.Tuple es x1 p1) "index" apos) [e] [] cpos) (tv X.K cl W (eIdxT ys f')) := by
  refine ⟨fun pins s σ H Q I ⟨Hs, ρ, E, h⟩ => ?_⟩
  refine wpAny_Call_method_late hbase hfew hline rfl ?_
  refine wpAny_Tuple_spliced (thn (he.run p1 pins s σ H (fun xs H1 => xs = ys.map V.str ∧ ∃ Hs1, Ext Hs H Hs1 H1) I ⟨Hs, ρ, E, ?_⟩) fun us s1 hh => ?_)
  · rw [evs_strs]
    exact fun x Hs' H' s' rx => ⟨rpa_strs rx, Hs', s'⟩
  · obtain ⟨xs, H1, I1, r, e1, Hs1, s1'⟩ := hh
    have z : xs.length ≤ sizeLine := by rw [e1, List.length_map]; exact hl
    refine ⟨by rw [← r.length]; exact z, ?_⟩
    have hf : H1 s1.heap.objs.size = none := I1.hok.fresh (Nat.le_refl _)
    have I2 : Inv X pins σ (upd H1 s1.heap.objs.size (.tup xs)) { s1 with heap := s1.heap.push { cls := .type "tuple", data := .seq us.toArray 0 } } :=
      I1.laid (t' := s1.toks) (fun b u e => Heap.get?_push_of_some _ e) (Nat.le_refl _) ⟨z, us, r, ⟨_, Heap.get?_push_size _ rfl, rfl, _, rfl⟩⟩
    refine ⟨"tuple", _, PySem.F.plainAttrs_tuple, PySem.F.slot_tuple_index, PySem.F.type_tuple_index, ⟨_, Heap.get?_push_size _ rfl, rfl⟩, fun a e => ?_, ?_⟩
    · cases e
      exact ⟨_, Heap.get?_push_size _ rfl, rfl⟩
    · subst e1
      have X2 := s1'.trans (Ext.new (o := .tup (ys.map V.str)) s1'.sub hf)
      have q2 := idxT_use (p := s1.heap.objs.size) (E.up X2) (GP.up h X2) fun Hs' H' t => .of (t.same _ _ upd_same)
      have hA := (va_cons ha va_nil hs).run cpos pins _ σ _ _ I2 q2
      rw [hs] at hA ⊢
      refine Calls.callWith_builtin (by show (false || (backTo cpos (starEach [] X.env)).any (·.1)) = false; rw [hplain] <;> rfl) (Calls.evalArgs_plain ?_)
      exact thn hA fun us2 s2 ⟨vs, H3, I3, r3, q3⟩ => mt_tup_index pins s2 σ H3 (.ref s1.heap.objs.size) vs _ us2 Q I3 rfl r3 q3
end
end VL
namespace VL
open PySem PySem.Spec PyProof.Rows L2
/-! ### what the top has written -/
section
variable {K : PySem.W.Frag} {h : Heap} {mg : Str → Option Value} {x : Str}
theorem fun_at {st : Stmt} {f : Addr} {od an : Option Addr} {osl : Array (Option Value)} {oc kV doc pm cdv ct : Value} (X : K.In h) (G : h.Ns mainGlobals mg) (a : PySem.W.nsIn K mainGlobals x = some (some (.ref f)))
    (l : K.lookup f = some ⟨oc, od, .func (PySem.W.fnOf x x (defArgs st) (defBody st) (defScope st) .none kV doc pm an cdv ct), osl⟩) (c : PySem.W.codeIn K cdv x = true) (k : PySem.W.keepIn K (.ref f) = true) : ∃ f fd, Fun K x x st f fd ∧ mg x = some (.ref f) :=
  ⟨f, _, fun_mk l c k, PySem.W.mg_of X G a⟩
theorem none_at (X : K.In h) (G : h.Ns mainGlobals mg) (a : PySem.W.nsIn K mainGlobals x = some none) : mg x = none := PySem.W.mg_none_of X G a
theorem int_at {cl : Nat → Addr} {i : Int} {t : Tok} (X : K.In h) (G : h.Ns mainGlobals mg) (a : PySem.W.nsIn K mainGlobals x = some (some (.int i t))) : GlobV K cl mg x (.int i) := ⟨.int i, _, PySem.W.mg_of X G a, ⟨_, rfl⟩, fun _ => .int i⟩
theorem str_at {cl : Nat → Addr} {z : Str} {t : Tok} (X : K.In h) (G : h.Ns mainGlobals mg) (a : PySem.W.nsIn K mainGlobals x = some (some (.str z t))) : GlobV K cl mg x (.str z) := ⟨.str z, _, PySem.W.mg_of X G a, ⟨_, rfl⟩, fun _ => .str z⟩
/-! a value that is written out -/
mutual
inductive Wr (K : PySem.W.Frag) : Value → PV → Prop
  | non : Wr K .none .non
  | bl (b : Bool) : Wr K (.bool b) (.bl b)
  | int (i : Int) (t : Tok) : Wr K (.int i t) (.int i)
  | str (z : Str) (t : Tok) : Wr K (.str z t) (.str z)
  | tup {a : Addr} {od : Option Addr} {its : Array Value} {n : Nat} {sl : Array (Option Value)} {vs : List Value} {us : List PV} (l : K.lookup a = some ⟨.type "tuple", od, .seq its n, sl⟩) (e : its.toList = vs) (r : Wrs K vs us) (hl : us.length ≤ sizeLine) : Wr K (.ref a) (.tup us)
inductive Wrs (K : PySem.W.Frag) : List Value → List PV → Prop
  | nil : Wrs K [] []
  | cons {v : Value} {vs : List Value} {u : PV} {us : List PV} : Wr K v u → Wrs K vs us → Wrs K (v :: vs) (u :: us)
end
mutual
theorem Wr.rp {cl : Nat → Addr} : ∀ {v : Value} {u : PV}, Wr K v u → ∃ y : V, RelV y v ∧ ∀ H, Rp K cl H y u
  | _, _, .non => ⟨.non, rfl, fun _ => .non⟩
  | _, _, .bl b => ⟨.bl b, rfl, fun _ => .bl b⟩
  | _, _, .int i t => ⟨.int i, ⟨_, rfl⟩, fun _ => .int i⟩
  | _, _, .str z t => ⟨.str z, ⟨_, rfl⟩, fun _ => .str z⟩
  | _, _, .tup (a := a) (its := its) (n := n) l e r hl => by
    obtain ⟨xs, h1, h2⟩ := Wrs.rp (cl := cl) r
    refine ⟨.ref a, rfl, fun H => .tup (.inr ⟨_, its, n, l, rfl, rfl, ?_, by rw [e]; exact h1⟩) (h2 H)⟩
    rw [← Array.length_toList, e, ← h1.length, (h2 H).length]; exact hl
theorem Wrs.rp {cl : Nat → Addr} : ∀ {vs : List Value} {us : List PV}, Wrs K vs us → ∃ xs : List V, Vals xs vs ∧ ∀ H, RpA K cl H xs us
  | _, _, .nil => ⟨[], .nil, fun _ => .nil⟩
  | _, _, .cons r t => by
    obtain ⟨y, h1, h2⟩ := Wr.rp (cl := cl) r
    obtain ⟨xs, h3, h4⟩ := Wrs.rp (cl := cl) t
    exact ⟨y :: xs, .cons h1 h3, fun H => .cons (h2 H) (h4 H)⟩
end
theorem val_at {cl : Nat → Addr} {v : Value} {u : PV} (X : K.In h) (G : h.Ns mainGlobals mg) (a : PySem.W.nsIn K mainGlobals x = some (some v)) (w : Wr K v u) : GlobV K cl mg x u := by
  obtain ⟨y, h1, h2⟩ := w.rp (cl := cl)
  exact ⟨y, v, PySem.W.mg_of X G a, h1, h2⟩
theorem tupT_at {a : Addr} {its : Array Value} {n : Nat} {sl : Array (Option Value)} {ys : List Str} (X : K.In h) (G : h.Ns mainGlobals mg) (e : PySem.W.nsIn K mainGlobals x = some (some (.ref a))) (l : K.lookup a = some ⟨.type "tuple", none, .seq its n, sl⟩) (r : Wrs K its.toList (ys.map PV.str)) (hl : ys.length ≤ sizeLine) : GlobT K mg x ys := by
  have w : Wr K (.ref a) (.tup (ys.map .str)) := .tup l rfl r (by simpa using hl)
  obtain ⟨y, h1, h2⟩ := w.rp (cl := fun _ => 0)
  cases y with
  | ref b =>
    have h1 : Value.ref a = Value.ref b := h1
    cases h1
    refine ⟨a, _, PySem.W.mg_of X G e, l, rfl, rfl, fun H => ?_⟩
    cases h2 H with
    | tup hs hr => rw [← rpa_strs hr]; exact hs
  | str z => obtain ⟨t, e⟩ := h1; cases e
  | int z => obtain ⟨t, e⟩ := h1; cases e
  | byt z => obtain ⟨t, e⟩ := h1; cases e
  | flt z => obtain ⟨t, e⟩ := h1; cases e
  | non => cases h1
  | bl z => cases h1
  | ty z => cases h1
end
/-! own errors -/
theorem sup_of {K : PySem.W.Frag} {C L N NL : Addr} {nm q nmL qL : Str} {bs bm bsL bmL sub subL : List Value} {sn snL : List Str} {ab abL : Bool} {col colL : Option Bool} {dd ddL : Option Addr} {k0 k1 k2 k3 k5 j0 j1 j2 j3 j5 : Option Value} {z : Option (Option Value)} {n : Str}
    (lC : K.lookup C = some (excClassObj nm q C N bs bm true sn sub ab col dd k0 k1 k2 k3 k5 "ValueError.__new__")) (lL : K.lookup L = some (excClassObj nmL qL L NL bsL bmL true snL subL abL colL ddL j0 j1 j2 j3 j5 "ValueError.__new__")) (e : bm = .ref L :: bmL)
    (f : PySem.W.findIn K (.ref L) n = z) : PySem.W.ks_superIn K C C n = z := by
  have h1 : PySem.W.clsIn K C = some { name := nm, bases := bs, mro := .ref C :: bm, ns := N, qualname := q, hasDict := true, slotNames := sn, subclasses := sub, abstract := ab, collection := col, hasDel := false } := by
    unfold PySem.W.clsIn
    rw [lC] <;> rfl
  unfold PySem.W.ks_superIn
  rw [h1]
  show PySem.W.alongIn K n (((Value.ref C :: bm).dropWhile (· != .ref C)).drop 1) = z
  have e2 : (Value.ref C :: bm).dropWhile (· != .ref C) = .ref C :: bm := by simp [List.dropWhile]
  rw [e2, ← f]
  show PySem.W.alongIn K n bm = _
  show PySem.W.alongIn K n bm = (match K.lookup L with
    | some ⟨_, _, .cls cd, _⟩ => PySem.W.alongIn K n cd.mro
    | _ => none)
  rw [lL, e] <;> rfl
theorem exm_of {K : PySem.W.Frag} {C c : Addr} {b : Bool} (h1 : PySem.W.subIn K (.ref C) (.type "BaseException") = some true) (hd : PySem.W.isClsIn K C = true) (ht : PySem.W.typeIn K (.ref C) = some (.type "type")) (h4 : PySem.W.subIn K (.ref c) (.ref C) = some b) : PySem.W.exmOne K (.ref c) (.ref C) = some b := by
  have e1 : (PySem.W.subIn K (.ref C) (.type "BaseException") == some true) = true := by rw [h1] <;> rfl
  have e2 : ((PySem.W.clsIn K C).isSome && PySem.W.typeIn K (.ref C) == some (.type "type")) = true := by
    have h2' : (PySem.W.clsIn K C).isSome = true := hd
    rw [h2', ht] <;> rfl
  show (if (PySem.W.subIn K (.ref C) (.type "BaseException") == some true) = true then (if ((PySem.W.clsIn K C).isSome && PySem.W.typeIn K (.ref C) == some (.type "type")) = true then PySem.W.subIn K (.ref c) (.ref C) else none) else none) = some b
  rw [if_pos e1, if_pos e2]
  exact h4
/-! the law's own promise -/
def spLaw (K : PySem.W.Frag) : Sp := fun vs H Q _ => ∃ (a : Addr) (ns : List Int), vs = [.ref a] ∧ SqL K H a (ns.map V.int) ∧ ns.length ≤ 63 ∧ (∀ z ∈ ns, Builtin.Int.intBits z ≤ 1048576) ∧ ∀ H', Q (.bl true) H'
theorem law_imp {K : PySem.W.Frag} {cl : Nat → Addr} {g : List PV → R PV} (hg : ∀ ns : List Int, ns.length ≤ 63 → (∀ z ∈ ns, Builtin.Int.intBits z ≤ 1048576) → g [.src (ns.map .int)] = .ok (.bl true)) (vs : List V) (H : Hp) (Q : VK) (E : XK) (h : spLaw K vs H Q E) : spF K cl 1 g vs H Q E := by
  obtain ⟨a, ns, rfl, hs, hl, hb, q⟩ := h
  refine ⟨H, [.src (ns.map .int)], Sub.refl H, .cons (.src hs (rpa_ints ns)) .nil, rfl, ?_⟩
  rw [hg ns hl hb]
  intro x Hs' H' _ rx
  cases rx
  exact q H'
/-! the scope and the facts of an own error's __init__ -/
def exScB (N : List Str) (sc : Scope) : Bool := (match sc.kind with | .function => true | _ => false) && !sc.isCoroutine && !sc.isGenerator && (N.all fun x => kindB (sc.names.lookup x) (some .local)) && (sc.names.all fun y => match y.2 with | .cell => false | _ => true) &&
  (sc.names.all fun y => !freeB y.2 || y.1 == ("__class__" : Str)) && kindB (sc.names.lookup ("__class__" : Str)) (some .free) && kindB (sc.names.lookup ("super" : Str)) (some .globalImplicit)
theorem exSc_of {N : List Str} {sc : Scope} (nd : N.Nodup) (h : exScB N sc = true) : ExScope N sc := by
  unfold exScB at h
  simp only [Bool.and_eq_true, List.all_eq_true, Bool.or_eq_true, Bool.not_eq_true'] at h
  obtain ⟨⟨⟨⟨⟨⟨⟨h1, h2⟩, h3⟩, h4⟩, h5⟩, h6⟩, h7⟩, h8⟩ := h
  refine ⟨?_, h2, h3, nd, fun x hx => kindB_ok (h4 x hx), fun x hx e => ?_, fun x e => ?_, kindB_ok h7, kindB_ok h8⟩
  · revert h1
    cases sc.kind <;> intro h1 <;> first | rfl | cases h1
  · have := h5 x hx
    rw [e] at this
    cases this
  · rcases h6 _ (PySem.mem_of_lookup e) with q | q
    · cases q
    · exact eq_of_beq q
theorem exc_facts {K : PySem.W.Frag} {P : Program} {C fI cc cda N : Addr} {qual nm q ff : Str} {sI : Stmt} {bs bm sub : List Value} {sn : List Str} {ab : Bool} {col : Option Bool} {dd od od2 od3 an : Option Addr} {k0 k1 k2 k3 k5 : Option Value} {oc oc2 oc3 kV doc pm ct : Value} {osl osl2 osl3 : Array (Option Value)} {vs : Array Value} {tf : Tok}
    (lC : K.lookup C = some (excClassObj nm q C N bs bm true sn sub ab col dd k0 k1 k2 k3 k5 "ValueError.__new__")) (hbm : PySem.HandSPX.refsVE bm = true) (sa : PySem.W.findIn K (.ref C) "__setattr__" = some (some (.builtin "object.__setattr__"))) (exC : PySem.W.subIn K (.ref C) (.type "BaseException") = some true)
    (tyC : PySem.W.typeIn K (.ref C) = some (.type "type")) (kC : PySem.W.keepIn K (.ref C) = true) (ini : PySem.W.findIn K (.ref C) "__init__" = some (some (.ref fI))) (tyI : PySem.W.typeIn K (.ref fI) = some (.type "function"))
    (lI : K.lookup fI = some ⟨oc, od, .func (PySem.W.ksFn "__init__" qual (defArgs sI) (defBody sI) (defScope sI) .none kV doc pm an (.ref cda) ct cc), osl⟩) (code : PySem.W.codeIn K (.ref cda) qual = true) (lF : K.lookup cda = some ⟨oc2, od2, .fields vs, osl2⟩) (h2 : vs[2]? = some (.str ff tf)) (hfile : ((P.main.file : Str) == ff) = true)
    (lc : K.lookup cc = some ⟨oc3, od3, .cell (some (.ref C)), osl3⟩) (sup : PySem.W.ks_superIn K C C "__init__" = some (some (.builtin "ValueError.__init__"))) (self : PySem.W.mroIn K C (.ref C) = some true) (ve : PySem.W.subIn K (.ref C) (.type "ValueError") = some true) (noS : PySem.W.nsIn K mainGlobals "super" = some none) (third : PySem.W.nsIn K cStatics "thirdparty.any" = some none) :
    ExC K P C fI cc cda qual sI :=
  ⟨⟨⟨nm, q, N, bs, bm, sn, sub, ab, col, dd, k0, k1, k2, k3, k5, lC, hbm⟩, sa, exC, tyC, kC⟩, ⟨oc, od, kV, doc, pm, an, ct, osl, lI⟩, code, ⟨oc2, od2, vs, osl2, ff, tf, lF, h2, hfile⟩, ⟨oc3, od3, osl3, lc⟩, sup, self, ve, noS, third, ini, tyI⟩
/-- a class of own errors, by its __init__'s promise -/
theorem exc_at {K : PySem.W.Frag} {P : Program} {w : World} {h : Heap} {mg : Str → Option Value} {base : Heap} {cl : Nat → Addr} {C fI cc cda : Addr} {qual x : Str} {sI : Stmt} {k c n : Nat} {sp : Fsp} {ps : List Str} (X : K.In h) (G : h.Ns mainGlobals mg) (a : PySem.W.nsIn K mainGlobals x = some (some (.ref C))) (T : ExC K P C fI cc cda qual sI)
    (F : ∀ {fd : FuncData} {oc : Value} {od : Option Addr} {osl : Array (Option Value)}, K.lookup fI = some ⟨oc, od, .func fd, osl⟩ → FnOk P w K mg base (L2.CX P w) k fI fd ps (spI C n sp))
    (hb : ∀ (kV doc pm : Value) (an : Option Addr) (ct : Value) (us : List Value), us.length = ps.length → bindArgs (PySem.W.ksFn "__init__" qual (defArgs sI) (defBody sI) (defScope sI) .none kV doc pm an (.ref cda) ct cc) ⟨us, []⟩ = pure (ps.zip us)) (hC : C = cl c) : ExcAt P w K mg base cl k x c n sp := by
  obtain ⟨oc, od, kV, doc, pm, an, ct, osl, lI⟩ := T.fn
  exact ⟨C, fI, _, ps, T.base, T.ini, T.tyI, F lI, .all (hb kV doc pm an ct), PySem.W.mg_of X G a, hC⟩
theorem exm_at {K : PySem.W.Frag} {h : Heap} {mg : Str → Option Value} {cl : Nat → Addr} {C : Addr} {x : Str} {mt : Nat → Option Bool} (X : K.In h) (G : h.Ns mainGlobals mg) (a : PySem.W.nsIn K mainGlobals x = some (some (.ref C))) (hx : ∀ k b, mt k = some b → PySem.W.exmOne K (.ref (cl k)) (.ref C) = some b) : ExmAt K mg cl x mt := ⟨C, PySem.W.mg_of X G a, hx⟩
theorem cx_no {P : Program} (w : World) (H : Hp) (s : Shared) (e : Value) (s' : Shared) (h : L2.CX P w [] H s (fun _ _ _ => False) e s') : False := by
  obtain ⟨_, _, _, _, _, _, _, _, _, _, _, _, z⟩ := h
  exact z.elim
/-- a table of plain functions -/
def look : List (Nat × (List PV → R PV)) → Nat → List PV → R PV
  | [], _ => fun _ => .stuck
  | (k, g) :: r, n => if Nat.beq k n = true then g else look r n
end VL
namespace VL
open PySem PySem.Spec PyProof.Rows L2
/-! ### xs[::-1] -/
theorem RpA.reverse {K : PySem.W.Frag} {cl : Nat → Addr} {H : Hp} : ∀ {vs : List V} {xs : List PV}, RpA K cl H vs xs → RpA K cl H vs.reverse xs.reverse
  | _, _, .nil => .nil
  | _, _, .cons r t => by
    rw [List.reverse_cons, List.reverse_cons]
    exact t.reverse.append (.cons r .nil)
def revP : PV → Option PV
  | .lst xs => some (.lst xs.reverse)
  | .src xs => some (.lst xs.reverse)
  | _ => none
theorem ve_rev {X : Cx} {cl : Nat → Addr} {W : WX} {e : Expr} {f : Ex} {k : Nat} {p1 p2 p3 pos : Pos} (he : PE X e (tv X.K cl W f)) : PE X (.Subscript e (.Slice none none (some (.UnaryOp .USub (.Constant (.int 1) k p1) p2)) p3) pos) (tv X.K cl W (e1 revP f)) :=
  peWeak (pe_revL he) fun σ H Q ⟨Hs, ρ, E, h⟩ => by
    refine gv_bind E h fun v x Hs1 H1 _ s1 rx h1 => ?_
    obtain ⟨w, e, q⟩ := h1.opt
    cases rx with
    | lst h ra => cases e; exact ⟨_, _, rfl, .of (s1.sub _ _ h), fun p n => new_lst q s1.sub n ra.reverse⟩
    | src h ra => cases e; exact ⟨_, _, rfl, s1.sub.seqL h, fun p n => new_lst q s1.sub n ra.reverse⟩
    | _ => cases e
end VL
namespace VL
open PySem PySem.Spec PyProof.Rows L2
/-! ### [e for x in xs if .. for y in ys if ..] -/
def lcL2 (t : Tg) (c : Ev → R Bool) (vs1 : List Nat) (t1 : Tg) (it1 : Ev → R (List PV)) (c1 : Ev → R Bool) (e : Ex) (ρ : Ev) : List PV → R (List PV)
  | [] => .ok []
  | v :: vs => match t v with
    | none => .stuck
    | some as => match c (setE as ρ) with
      | .ok true => match it1 (setE as ρ) with
        | .ok ws => match lcL t1 c1 e (wipeE (setE as ρ) vs1) ws with
          | .ok ys => match lcL2 t c vs1 t1 it1 c1 e ρ vs with
            | .ok zs => .ok (ys ++ zs)
            | _ => .stuck
          | _ => .stuck
        | _ => .stuck
      | .ok false => lcL2 t c vs1 t1 it1 c1 e ρ vs
      | _ => .stuck
def eLc2 (own : List Nat) (t : Tg) (it : Ev → R (List PV)) (c : Ev → R Bool) (vs1 : List Nat) (t1 : Tg) (it1 : Ev → R (List PV)) (c1 : Ev → R Bool) (e : Ex) : Ev → R (List PV) := fun ρ => (it ρ).bind fun xs => szO (lcL2 t c vs1 t1 it1 c1 e (wipeE ρ own) xs)
section
variable {X : Cx} {cl : Nat → Addr} {W : WX} {pos : Pos}
theorem PEnv.via {K : PySem.W.Frag} {Hs H Hs1 H1 : Hp} {σ : St} {ρ : Ev} (E : PEnv K cl Hs H σ ρ) (s : Sub Hs Hs1) (s1 : Sub Hs1 H1) : PEnv K cl Hs1 H1 σ ρ :=
  ⟨s1, E.len, fun i v h => let ⟨x, e, r⟩ := E.at_ i v h; ⟨x, e, r.mono s⟩⟩
theorem lc2_use {rel rel1 : Hp → It → List PV → Prop} {it it1 : Ev → R (List PV)} {g g1 : TG} {t t1 : Tg} {c c1 : Ev → R Bool} {e : Ex} {own vs1 : List Nat} (hR : ∀ Hs J xs, rel Hs J xs → Wk X.K cl Hs J xs) (hR1 : ∀ Hs J xs, rel1 Hs J xs → Wk X.K cl Hs J xs) (hG : TgOk X.K cl g t) (hI : TgIn t own) (hG1 : TgOk X.K cl g1 t1) (hI1 : TgIn t1 vs1) {σ : St} {H : Hp} {Q : VK}
    (h : to X.K cl W (eLc2 own t it c vs1 t1 it1 c1 e) σ H Q) : tLc2 (gv X.K cl rel W it) g (tt X.K cl W0 c) (gv X.K cl rel1 W0 it1) g1 (tt X.K cl W0 c1) (tv X.K cl W0 e) own vs1 σ H Q := by
  obtain ⟨Hs, ρ, E, h⟩ := h
  refine go_bind E h fun xs J Hs1 H1 e1 s1 rx h1 => ?_
  have Wj := hR _ _ _ rx
  intro D hD
  have E1 := (E.up s1).wipe own
  cases e2 : lcL2 t c vs1 t1 it1 c1 e (wipeE ρ own) xs with
  | exc c' fs => rw [e2] at h1; exact h1.elim
  | stuck => rw [e2] at h1; exact h1.elim
  | ok ys =>
    rw [e2] at h1
    replace h1 : GO X.K cl W Hs1 H1 σ (if ys.length ≤ sizeLine then .ok ys else .stuck) Q := h1
    split at h1
    · rename_i hsz
      refine ⟨fun i m H2 => ∃ Hs2 acc accP zs, i + m = xs.length ∧ Ext Hs1 H1 Hs2 H2 ∧ Hs2 D = none ∧ H2 D = some (.lst acc) ∧ RpA X.K cl Hs2 acc accP ∧ lcL2 t c vs1 t1 it1 c1 e (wipeE ρ own) (xs.drop i) = .ok zs ∧ accP ++ zs = ys,
        ⟨xs.length, Hs1, [], [], ys, by omega, Ext.newO s1.sub hD, s1.sub.none hD, upd_same, .nil, by simpa using e2, rfl⟩, ?_⟩
      rintro i m H2 ⟨Hs2, acc, accP, zs, em, x2, nD, eD, rA, el, ea⟩
      by_cases hi : i < xs.length
      · refine .inr ⟨Wj.go i H2 Hs2 x2.fs x2.sub hi, fun H3 => ∃ Hs2 acc accP zs, Ext Hs1 H1 Hs2 H3 ∧ Hs2 D = none ∧ H3 D = some (.lst acc) ∧ RpA X.K cl Hs2 acc accP ∧ lcL2 t c vs1 t1 it1 c1 e (wipeE ρ own) (xs.drop (i + 1)) = .ok zs ∧ accP ++ zs = ys,
          fun H3 ⟨Hs3, acc3, accP3, zs3, q⟩ => ⟨m - 1, by omega, Hs3, acc3, accP3, zs3, by omega, q⟩, fun x H3 hy => ?_⟩
        have ev : xs[i]? = some xs[i] := List.getElem?_eq_getElem hi
        obtain ⟨Hs3, x3, rx3⟩ := Wj.yld i x H2 H3 Hs2 xs[i] x2.fs x2.sub ev hy
        rw [List.drop_eq_getElem_cons hi] at el
        unfold lcL2 at el
        cases et : t xs[i] with
        | none => rw [et] at el; cases el
        | some as =>
          rw [et] at el
          have x13 := x2.trans x3
          refine hG Hs3 H3 (wipe σ own) x xs[i] as _ x3.sub rx3 et fun vs rv => ⟨?_, ?_⟩
          · rw [wipe_setV _ _ _ fun p hp => ?_, wipe_wipe]
            obtain ⟨q, h1, h2⟩ := rv.fst p hp
            rw [← h2]
            exact hI _ _ et q h1
          · have E3 : PEnv X.K cl Hs3 H3 (setV vs (wipe σ own)) (setE as (wipeE ρ own)) := (E1.up x13).sets rv
            have nD3 : Hs3 D = none := x3.nw D (by rw [eD]; simp) nD
            have eD3 : H3 D = some (.lst acc) := x3.same _ _ eD
            simp only at el
            generalize setE as (wipeE ρ own) = ρ2 at E3 el
            generalize setV vs (wipe σ own) = σ2 at E3 ⊢
            refine ⟨Hs3, ρ2, E3, ?_⟩
            cases ec : c ρ2 with
            | ok b =>
              simp only [ec] at el
              intro b' Hs4 H4 x4 eb
              subst eb
              have nD4 : Hs4 D = none := x4.nw D (by rw [eD3]; simp) nD3
              have eD4 : H4 D = some (.lst acc) := x4.same _ _ eD3
              have x14 := x13.trans x4
              cases b' with
              | false =>
                simp only at el
                rw [if_neg Bool.false_ne_true]
                exact ⟨Hs4, acc, accP, zs, x14, nD4, eD4, (rA.mono x3.fs).mono x4.fs, el, ea⟩
              | true =>
                simp only at el
                rw [if_pos rfl]
                refine ⟨Hs4, ρ2, E3.up x4, ?_⟩
                cases ei : it1 ρ2 with
                | exc c' fs => simp only [ei] at el; cases el
                | stuck => simp only [ei] at el; cases el
                | ok ws =>
                  simp only [ei] at el
                  intro J1 Hs5 H5 x5 rx5
                  have Wj1 := hR1 _ _ _ rx5
                  have nD5 : Hs5 D = none := x5.nw D (by rw [eD4]; simp) nD4
                  have eD5 : H5 D = some (.lst acc) := x5.same _ _ eD4
                  have x15 := x14.trans x5
                  have E5 : PEnv X.K cl Hs5 H5 σ2 ρ2 := (E3.up x4).up x5
                  have rA5 : RpA X.K cl Hs5 acc accP := ((rA.mono x3.fs).mono x4.fs).mono x5.fs
                  cases eI : lcL t1 c1 e (wipeE ρ2 vs1) ws with
                  | exc c' fs => simp only [eI] at el; cases el
                  | stuck => simp only [eI] at el; cases el
                  | ok us =>
                    simp only [eI] at el
                    cases eR : lcL2 t c vs1 t1 it1 c1 e (wipeE ρ own) (xs.drop (i + 1)) with
                    | exc c' fs => simp only [eR] at el; cases el
                    | stuck => simp only [eR] at el; cases el
                    | ok rest =>
                      simp only [eR] at el
                      cases el
                      refine ⟨fun j k H6 => ∃ Hs6 acc6 accP6 zs6, j + k = ws.length ∧ Ext Hs1 H1 Hs6 H6 ∧ Sub Hs5 Hs6 ∧ Hs6 D = none ∧ H6 D = some (.lst acc6) ∧ RpA X.K cl Hs6 acc6 accP6 ∧ lcL t1 c1 e (wipeE ρ2 vs1) (ws.drop j) = .ok zs6 ∧ accP6 ++ (zs6 ++ rest) = ys,
                        ⟨ws.length, Hs5, acc, accP, us, by omega, x15, Sub.refl _, nD5, eD5, rA5, by simpa using eI, ea⟩, ?_⟩
                      rintro j k H6 ⟨Hs6, acc6, accP6, zs6, ek, x6, f6, nD6, eD6, rA6, el6, ea6⟩
                      by_cases hj : j < ws.length
                      · refine .inr ⟨Wj1.go j H6 Hs6 f6 x6.sub hj, fun H7 => ∃ Hs7 acc7 accP7 zs7, Ext Hs1 H1 Hs7 H7 ∧ Sub Hs5 Hs7 ∧ Hs7 D = none ∧ H7 D = some (.lst acc7) ∧ RpA X.K cl Hs7 acc7 accP7 ∧ lcL t1 c1 e (wipeE ρ2 vs1) (ws.drop (j + 1)) = .ok zs7 ∧ accP7 ++ (zs7 ++ rest) = ys,
                          fun H7 ⟨Hs7, acc7, accP7, zs7, q⟩ => ⟨k - 1, by omega, Hs7, acc7, accP7, zs7, by omega, q⟩, fun x7 H7 hy7 => ?_⟩
                        have ev7 : ws[j]? = some ws[j] := List.getElem?_eq_getElem hj
                        obtain ⟨Hs7, y7, ry7⟩ := Wj1.yld j x7 H6 H7 Hs6 ws[j] f6 x6.sub ev7 hy7
                        rw [List.drop_eq_getElem_cons hj] at el6
                        unfold lcL at el6
                        cases et7 : t1 ws[j] with
                        | none => rw [et7] at el6; cases el6
                        | some as7 =>
                          rw [et7] at el6
                          have x17 := x6.trans y7
                          have f7 : Sub Hs5 Hs7 := f6.trans y7.fs
                          have E7w : PEnv X.K cl Hs7 H7 (wipe σ2 vs1) (wipeE ρ2 vs1) := (E5.via f7 y7.sub).wipe vs1
                          refine hG1 Hs7 H7 (wipe σ2 vs1) x7 ws[j] as7 _ y7.sub ry7 et7 fun vs7 rv7 => ⟨?_, ?_⟩
                          · rw [wipe_setV _ _ _ fun p hp => ?_, wipe_wipe]
                            obtain ⟨q, h1, h2⟩ := rv7.fst p hp
                            rw [← h2]
                            exact hI1 _ _ et7 q h1
                          · have E7 : PEnv X.K cl Hs7 H7 (setV vs7 (wipe σ2 vs1)) (setE as7 (wipeE ρ2 vs1)) := E7w.sets rv7
                            refine ⟨Hs7, _, E7, ?_⟩
                            have nD7 : Hs7 D = none := y7.nw D (by rw [eD6]; simp) nD6
                            have eD7 : H7 D = some (.lst acc6) := y7.same _ _ eD6
                            cases ec7 : c1 (setE as7 (wipeE ρ2 vs1)) with
                            | ok b7 =>
                              simp only [ec7] at el6
                              intro b7' Hs8 H8 x8 eb7
                              subst eb7
                              have nD8 : Hs8 D = none := x8.nw D (by rw [eD7]; simp) nD7
                              have eD8 : H8 D = some (.lst acc6) := x8.same _ _ eD7
                              cases b7' with
                              | true =>
                                simp only at el6
                                rw [if_pos rfl]
                                refine ⟨Hs8, _, E7.up x8, ?_⟩
                                cases ee : e (setE as7 (wipeE ρ2 vs1)) with
                                | ok y =>
                                  simp only [ee] at el6
                                  intro yv Hs9 H9 x9 ry
                                  have nD9 : Hs9 D = none := x9.nw D (by rw [eD8]; simp) nD8
                                  have eD9 : H9 D = some (.lst acc6) := x9.same _ _ eD8
                                  cases er : lcL t1 c1 e (wipeE ρ2 vs1) (ws.drop (j + 1)) with
                                  | ok vs9 =>
                                    simp only [er] at el6
                                    cases el6
                                    have up : Sub Hs6 Hs9 := (y7.fs.trans x8.fs).trans x9.fs
                                    have x19 := (x17.trans x8).trans x9
                                    refine ⟨acc6, eD9, ?_, Hs9, acc6 ++ [yv], accP6 ++ [y], vs9, ?_, f6.trans up, nD9, upd_same, (rA6.mono up).append (.cons ry .nil), rfl, by rw [← ea6]; simp⟩
                                    · rw [rA6.length]
                                      have : ys.length = accP6.length + ((vs9.length + 1) + rest.length) := by rw [← ea6]; simp; omega
                                      omega
                                    · exact ⟨x19.fs, x19.sub.upd nD9, x19.same.upd hD, x19.nw⟩
                                  | exc c' fs => simp only [er] at el6; cases el6
                                  | stuck => simp only [er] at el6; cases el6
                                | exc c' fs => simp only [ee] at el6; cases el6
                                | stuck => simp only [ee] at el6; cases el6
                              | false =>
                                simp only at el6
                                rw [if_neg Bool.false_ne_true]
                                exact ⟨Hs8, acc6, accP6, zs6, x17.trans x8, f7.trans x8.fs, nD8, eD8, (rA6.mono y7.fs).mono x8.fs, el6, ea6⟩
                            | exc c' fs => simp only [ec7] at el6; cases el6
                            | stuck => simp only [ec7] at el6; cases el6
                      · have hz : ws.drop j = [] := List.drop_of_length_le (by omega)
                        rw [hz] at el6
                        cases el6
                        exact .inl ⟨Wj1.stop j H6 Hs6 f6 x6.sub (by omega), Hs6, acc6, accP6, rest, x6, nD6, eD6, rA6, rfl, ea6⟩
            | exc c' fs => simp only [ec] at el; cases el
            | stuck => simp only [ec] at el; cases el
      · have hz : xs.drop i = [] := List.drop_of_length_le (by omega)
        rw [hz] at el
        cases el
        rw [List.append_nil] at ea
        subst ea
        exact .inl ⟨Wj.stop i H2 Hs2 x2.fs x2.sub (by omega), h1 D acc Hs2 H2 x2 eD nD hD rA⟩
    · exact h1.elim
section
variable {rel rel1 : Hp → It → List PV → Prop} {elt tg iter tg1 iter1 : Expr} {ifs ifs1 : List Expr} {scope : Scope} {own : List (Str × Nat)} {vs1 : List Nat} {it it1 : Ev → R (List PV)} {g g1 : TG} {t t1 : Tg} {c c1 : Ev → R Bool} {e : Ex}
theorem vo_lc2 (hc : X.calm = true) (hN : X.N.Nodup) (hi : PI X tg iter (gv X.K cl rel W it)) (hR : ∀ Hs J xs, rel Hs J xs → Wk X.K cl Hs J xs) (hR1 : ∀ Hs J xs, rel1 Hs J xs → Wk X.K cl Hs J xs)
    (ok : BlkOk X.N X.env.scope scope own) (hv : ∀ i ∈ vs1, i ∈ own.map (·.2)) (hG : TgOk X.K cl g t) (hI : TgIn t (own.map (·.2))) (hG1 : TgOk X.K cl g1 t1) (hI1 : TgIn t1 vs1)
    (hg : ∀ (s : Shared) (H : Hp) (C : Addr) (cl' : List (Str × Addr)) (fp : List Addr), PG (X.blk s H scope (compEnvC scope cl' C X.env) fp) tg g)
    (ht : ∀ (s : Shared) (H : Hp) (C : Addr) (cl' : List (Str × Addr)) (fp : List Addr), PTs (X.blk s H scope (compEnvC scope cl' C X.env) fp) ifs (tt X.K cl W0 c))
    (hi1 : ∀ (s : Shared) (H : Hp) (C : Addr) (cl' : List (Str × Addr)) (fp : List Addr), PI (X.blk s H scope (compEnvC scope cl' C X.env) fp) tg1 iter1 (gv X.K cl rel1 W0 it1))
    (hg1 : ∀ (s : Shared) (H : Hp) (C : Addr) (cl' : List (Str × Addr)) (fp : List Addr), PG (X.blk s H scope (compEnvC scope cl' C X.env) fp) tg1 g1)
    (ht1 : ∀ (s : Shared) (H : Hp) (C : Addr) (cl' : List (Str × Addr)) (fp : List Addr), PTs (X.blk s H scope (compEnvC scope cl' C X.env) fp) ifs1 (tt X.K cl W0 c1))
    (he : ∀ (s : Shared) (H : Hp) (C : Addr) (cl' : List (Str × Addr)) (fp : List Addr), PE (X.blk s H scope (compEnvC scope cl' C X.env) fp) elt (tv X.K cl W0 e)) (hs : ∀ x, foldedSetIterable iter X.env x = pure x := by intro _; rfl) (hs1 : ∀ env x, foldedSetIterable iter1 env x = pure x := by intro _ _; rfl) :
    PE X (.ListComp elt [⟨tg, iter, ifs, 0⟩, ⟨tg1, iter1, ifs1, 0⟩] scope pos) (to X.K cl W (eLc2 (own.map (·.2)) t it c vs1 t1 it1 c1 e)) :=
  peWeak (pe_lc2 hc hN hi ok hv hg ht hi1 hg1 ht1 he hs hs1) fun σ H Q h => lc2_use hR hR1 hG hI hG1 hI1 h
end
end
section
variable {X : Cx} {cl : Nat → Addr} {W : WX} {He H0 : Hp} {pin : List Addr} {pos : Pos}
variable {rel rel1 : Hp → It → List PV → Prop} {elt tg iter tg1 iter1 : Expr} {ifs ifs1 : List Expr} {scope : Scope} {own : List (Str × Nat)} {vs1 : List Nat} {it it1 : Ev → R (List PV)} {g g1 : TG} {t t1 : Tg} {c c1 : Ev → R Bool} {e : Ex} {i : Nat} {y : Str} {py p2 : Pos} {bs : List Bool}
theorem vs_ownLc2 (hc : X.calm = true) (hN : X.N.Nodup) (hi : PI X tg iter (gv X.K cl rel W it)) (hR : ∀ Hs J xs, rel Hs J xs → Wk X.K cl Hs J xs) (hR1 : ∀ Hs J xs, rel1 Hs J xs → Wk X.K cl Hs J xs)
    (ok : BlkOk X.N X.env.scope scope own) (hv : ∀ i ∈ vs1, i ∈ own.map (·.2)) (hG : TgOk X.K cl g t) (hI : TgIn t (own.map (·.2))) (hG1 : TgOk X.K cl g1 t1) (hI1 : TgIn t1 vs1)
    (hg : ∀ (s : Shared) (H : Hp) (C : Addr) (cl' : List (Str × Addr)) (fp : List Addr), PG (X.blk s H scope (compEnvC scope cl' C X.env) fp) tg g)
    (ht : ∀ (s : Shared) (H : Hp) (C : Addr) (cl' : List (Str × Addr)) (fp : List Addr), PTs (X.blk s H scope (compEnvC scope cl' C X.env) fp) ifs (tt X.K cl W0 c))
    (hi1 : ∀ (s : Shared) (H : Hp) (C : Addr) (cl' : List (Str × Addr)) (fp : List Addr), PI (X.blk s H scope (compEnvC scope cl' C X.env) fp) tg1 iter1 (gv X.K cl rel1 W0 it1))
    (hg1 : ∀ (s : Shared) (H : Hp) (C : Addr) (cl' : List (Str × Addr)) (fp : List Addr), PG (X.blk s H scope (compEnvC scope cl' C X.env) fp) tg1 g1)
    (ht1 : ∀ (s : Shared) (H : Hp) (C : Addr) (cl' : List (Str × Addr)) (fp : List Addr), PTs (X.blk s H scope (compEnvC scope cl' C X.env) fp) ifs1 (tt X.K cl W0 c1))
    (he : ∀ (s : Shared) (H : Hp) (C : Addr) (cl' : List (Str × Addr)) (fp : List Addr), PE (X.blk s H scope (compEnvC scope cl' C X.env) fp) elt (tv X.K cl W0 e)) (hs : ∀ x, foldedSetIterable iter X.env x = pure x := by intro _; rfl) (hs1 : ∀ env x, foldedSetIterable iter1 env x = pure x := by intro _ _; rfl)
    (hy : X.N[i]? = some y := by rfl) (hyl : X.env.scope.names.lookup y = some .local := by rfl) (hsw : swapsWith (.ListComp elt [⟨tg, iter, ifs, 0⟩, ⟨tg1, iter1, ifs1, 0⟩] scope p2) (some (.Name y py)) pos.line X.env = pure true := by rfl) :
    PV1 X cl W He H0 pin (.Assign [.Name y py] (.ListComp elt [⟨tg, iter, ifs, 0⟩, ⟨tg1, iter1, ifs1, 0⟩] scope p2) pos) (sOwn i bs (eLc2 (own.map (·.2)) t it c vs1 t1 it1 c1 e)) :=
  psWeak (ps_setLc2 hc hN hy hyl hsw hi ok hv hg ht hi1 hg1 ht1 he hs hs1) fun D σ H ⟨Hs, ρ, S, h⟩ => lc2_use hR hR1 hG hI hG1 hI1 (onO_use S h fun xs a vs Hs1 H1 ρ1 up S1 e1 r n1 n0 new hp => hp _ _ _ (Sub.refl _) (S1.setOwn e1 r n1 n0 new i))
theorem vs_setLc2 (hc : X.calm = true) (hN : X.N.Nodup) (hi : PI X tg iter (gv X.K cl rel W it)) (hR : ∀ Hs J xs, rel Hs J xs → Wk X.K cl Hs J xs) (hR1 : ∀ Hs J xs, rel1 Hs J xs → Wk X.K cl Hs J xs)
    (ok : BlkOk X.N X.env.scope scope own) (hv : ∀ i ∈ vs1, i ∈ own.map (·.2)) (hG : TgOk X.K cl g t) (hI : TgIn t (own.map (·.2))) (hG1 : TgOk X.K cl g1 t1) (hI1 : TgIn t1 vs1)
    (hg : ∀ (s : Shared) (H : Hp) (C : Addr) (cl' : List (Str × Addr)) (fp : List Addr), PG (X.blk s H scope (compEnvC scope cl' C X.env) fp) tg g)
    (ht : ∀ (s : Shared) (H : Hp) (C : Addr) (cl' : List (Str × Addr)) (fp : List Addr), PTs (X.blk s H scope (compEnvC scope cl' C X.env) fp) ifs (tt X.K cl W0 c))
    (hi1 : ∀ (s : Shared) (H : Hp) (C : Addr) (cl' : List (Str × Addr)) (fp : List Addr), PI (X.blk s H scope (compEnvC scope cl' C X.env) fp) tg1 iter1 (gv X.K cl rel1 W0 it1))
    (hg1 : ∀ (s : Shared) (H : Hp) (C : Addr) (cl' : List (Str × Addr)) (fp : List Addr), PG (X.blk s H scope (compEnvC scope cl' C X.env) fp) tg1 g1)
    (ht1 : ∀ (s : Shared) (H : Hp) (C : Addr) (cl' : List (Str × Addr)) (fp : List Addr), PTs (X.blk s H scope (compEnvC scope cl' C X.env) fp) ifs1 (tt X.K cl W0 c1))
    (he : ∀ (s : Shared) (H : Hp) (C : Addr) (cl' : List (Str × Addr)) (fp : List Addr), PE (X.blk s H scope (compEnvC scope cl' C X.env) fp) elt (tv X.K cl W0 e)) (hs : ∀ x, foldedSetIterable iter X.env x = pure x := by intro _; rfl) (hs1 : ∀ env x, foldedSetIterable iter1 env x = pure x := by intro _ _; rfl)
    (hy : X.N[i]? = some y := by rfl) (hyl : X.env.scope.names.lookup y = some .local := by rfl) (hsw : swapsWith (.ListComp elt [⟨tg, iter, ifs, 0⟩, ⟨tg1, iter1, ifs1, 0⟩] scope p2) (some (.Name y py)) pos.line X.env = pure true := by rfl) :
    PV1 X cl W He H0 pin (.Assign [.Name y py] (.ListComp elt [⟨tg, iter, ifs, 0⟩, ⟨tg1, iter1, ifs1, 0⟩] scope p2) pos) (sSet i bs (asLst (eLc2 (own.map (·.2)) t it c vs1 t1 it1 c1 e))) :=
  psWeak (ps_setLc2 hc hN hy hyl hsw hi ok hv hg ht hi1 hg1 ht1 he hs hs1) fun D σ H ⟨Hs, ρ, S, h⟩ => lc2_use hR hR1 hG hI hG1 hI1 (onO_asLst S h fun v x Hs1 H1 ρ1 up S1 r hp => hp _ _ _ (Sub.refl _) (S1.set r i))
end
/-! run by simp -/
theorem eLc2_S (own t it c vs1 t1 it1 c1 e) (ρ : Ev) : eLc2 own t it c vs1 t1 it1 c1 e ρ = (it ρ).bind fun xs => szO (lcL2 t c vs1 t1 it1 c1 e (wipeE ρ own) xs) := rfl
end VL
namespace VL
open PySem PySem.Spec PyProof.Rows L2
/-! expressions that take from an own list: x.pop() within an expression -/
section
variable {K : PySem.W.Frag} {cl : Nat → Addr} {He H0 : Hp} {pin : List Addr} {Hs Hs1 H H1 : Hp} {σ : St} {ρ : Env}
theorem isOwn_nil {ρ : Env} {σ : St} {a : Addr} : ¬ isOwn [] ρ σ a := fun ⟨i, xs, h, _⟩ => by simp at h
theorem plus_nil : plus (isOwn [] ρ σ) Hs H = Hs := funext fun a => plus_no isOwn_nil
theorem fr_nil : ∀ ρ : Env, fr [] ρ = ρ
  | [] => rfl
  | s :: ρ => by
    have := fr_nil ρ
    cases s <;> simp [fr, this]
theorem SEnv.ext1 (S : SEnv K cl He H0 pin Hs H σ ρ) (x : Ext Hs H Hs1 H1) : SEnv K cl He H0 pin Hs1 H1 σ ρ := by
  have := S.froze (bs := []) (Hs1 := Hs1) (H1 := H1) (by rw [plus_nil]; exact x)
  rwa [fr_nil] at this
end
/-- what a text of an expression leaves -/
abbrev Fx := Env → Option (PV × Env)
def tf (K : PySem.W.Frag) (cl : Nat → Addr) (He H0 : Hp) (pin : List Addr) (f : Fx) : TE := fun σ H Q => ∃ Hs ρ, SEnv K cl He H0 pin Hs H σ ρ ∧ ∃ v ρ', f ρ = some (v, ρ') ∧ ∀ x Hs' H', Sub Hs Hs' → SEnv K cl He H0 pin Hs' H' σ ρ' → Rp K cl Hs' x v → Q x H'
def fPop (i : Nat) : Fx := fun ρ => (getO ρ i).bind fun xs => (xs[xs.length - 1]?).bind fun v => some (v, ρ.set i (.own xs.dropLast))
def okO : R PV → Option PV
  | .ok v => some v
  | _ => none
def fOp (g : PV → PV → Option PV) (f : Fx) (b : Ex) : Fx := fun ρ => (f ρ).bind fun p => (okO (b (vw [] p.2))).bind fun y => (g p.1 y).bind fun w => some (w, p.2)
def fTup (a : Ex) (f : Fx) : Fx := fun ρ => (okO (a (vw [] ρ))).bind fun u => (f ρ).bind fun p => some (.tup [u, p.1], p.2)
def sSetF (i : Nat) (f : Fx) : Env → Out := fun ρ => match f ρ with
  | some p => .next (p.2.set i (.fz p.1))
  | none => .stuck
def sMetF (i : Nat) (g : List PV → List PV → Option (List PV)) (f : Fx) : Env → Out := fun ρ => match getO ρ i with
  | some _ => match f ρ with
    | some p => match getO p.2 i with
      | some xs => match g xs [p.1] with
        | some ys => .next (p.2.set i (.own ys))
        | none => .stuck
      | none => .stuck
    | none => .stuck
  | none => .stuck
theorem okO_some {r : R PV} {v : PV} (h : okO r = some v) : r = .ok v := by
  cases r with
  | ok w => simp [okO] at h; rw [h]
  | exc _ _ => simp [okO] at h
  | stuck => simp [okO] at h
section
variable {X : Cx} {cl : Nat → Addr} {W : WX} {He H0 : Hp} {pin : List Addr} {bs : List Bool}
variable {pos : Pos} {a b e : Expr} {f : Fx} {g : Ex}
theorem vf_pop {i : Nat} {x : Str} {px apos cpos : Pos} (hi : X.N[i]? = some x := by rfl) (hv : Vis X.env.scope x := by first | exact Or.inl rfl | exact Or.inr (Or.inl rfl) | exact Or.inr (Or.inr rfl)) (hd : (x == ("__debug__" : Str)) = false := by decide) (hcd : (x == ("__classdict__" : Str)) = false := by decide)
    (hbase : attributeBase (.Name x px) "pop" X.env (eval (.Name x px) X.env) = eval (.Name x px) X.env := by rfl) (hline : (apos.endLine == cpos.line) = true := by rfl) :
    PE X (.Call (.Attribute (.Name x px) "pop" apos) [] [] cpos) (tf X.K cl He H0 pin (fPop i)) :=
  peWeak (pe_bm0 PySem.F.plainAttrs_list PySem.F.slot_list_pop PySem.F.type_list_pop mt_pop (pe_var hi hv hd hcd) hbase hline) fun σ H Q ⟨Hs, ρ, S, v, ρ', e, h⟩ => by
    unfold fPop at e
    cases e0 : getO ρ i with
    | none => rw [e0] at e; cases e
    | some xs =>
      rw [e0] at e
      obtain ⟨a, vs, h1, h2, h3, h4, h5⟩ := S.own i xs (getO_eq e0)
      refine ⟨_, h1, .inl ⟨rfl, vs, .of h2⟩, ?_⟩
      cases e1 : xs[xs.length - 1]? with
      | none => simp [e1] at e
      | some u =>
        simp [e1] at e
        obtain ⟨rfl, rfl⟩ := e
        obtain ⟨y, g1, g2⟩ := h3.get e1
        have dl : RpA X.K cl Hs vs.dropLast xs.dropLast := by
          rw [List.dropLast_eq_take, List.dropLast_eq_take, h3.length]
          exact h3.take _
        have S2 := S.put (getO_eq e0) h1 dl
        exact ⟨a, vs, y, rfl, rfl, h2, by rw [h3.length]; exact g1, h y Hs _ (Sub.refl _) S2 g2⟩
/-- an operation with a plain right side -/
theorem fop_use {r : R2} {og : PV → PV → Option PV} (hg : OpV X.K cl r og) {σ : St} {H : Hp} {Q : VK} (h : tf X.K cl He H0 pin (fOp og f g) σ H Q) : tOp r (tf X.K cl He H0 pin f) (tv X.K cl W g) σ H Q := by
  obtain ⟨Hs, ρ, S, v, ρ', e, h⟩ := h
  unfold fOp at e
  cases e0 : f ρ with
  | none => rw [e0] at e; cases e
  | some p =>
    obtain ⟨u, ρ1⟩ := p
    rw [e0] at e
    cases e1 : okO (g (vw [] ρ1)) with
    | none => simp [e1] at e
    | some y =>
      obtain ⟨rfl, e2⟩ : ρ' = ρ1 ∧ og u y = some v := by
        cases e2 : og u y with
        | none => simp [e1, e2] at e
        | some w =>
          simp [e1, e2] at e
          exact ⟨e.2.symm, by rw [e.1]⟩
      refine ⟨Hs, ρ, S, u, ρ', e0, fun x Hs1 H1 up S1 rx => ⟨_, _, S1.pe [], ?_⟩⟩
      rw [okO_some e1]
      intro z Hs2 H2 X2 rz
      rw [plus_nil] at X2
      have S2 := S1.ext1 X2
      exact hg W σ Hs2 H2 x z u y v Q X2.sub (rx.mono X2.fs) rz e2 fun q Hs3 H3 X3 rq => h q Hs3 H3 ((up.trans X2.fs).trans X3.fs) (S2.ext1 X3) rq
theorem vf_bin {op : Operator} {r : R2} {og : PV → PV → Option PV} (ho : OpR X (binaryOp op) r) (hg : OpV X.K cl r og) (ha : PE X a (tf X.K cl He H0 pin f)) (hb : PE X b (tv X.K cl W g)) : PE X (.BinOp a op b pos) (tf X.K cl He H0 pin (fOp og f g)) :=
  peWeak (pe_op ho ha hb) fun _ _ _ h => fop_use hg h
theorem ov_ix : OpV X.K cl (rIx X.K) ixP := by
  intro W σ Hs H x y u v w Q s rx ry e q
  cases ry with
  | int i =>
    cases rx with
    | lst h ra => obtain ⟨v, e1, r1⟩ := ra.atI e; exact .inl ⟨_, _, _, v, rfl, rfl, .of (s _ _ h), e1, q.here s r1⟩
    | src h ra => obtain ⟨v, e1, r1⟩ := ra.atI e; exact .inl ⟨_, _, _, v, rfl, rfl, s.seqL h, e1, q.here s r1⟩
    | tup h ra => obtain ⟨v, e1, r1⟩ := ra.atI e; exact .inr (.inl ⟨_, _, _, v, rfl, rfl, s.seqT h, e1, q.here s r1⟩)
    | str z =>
      replace e : (if z.length ≤ sizeLine then (L2.atI z.cps.toList i).map fun c => PV.str ⟨#[c]⟩ else none) = some w := e
      split at e
      · cases e1 : atI z.cps.toList i with
        | none => rw [e1] at e; cases e
        | some c => rw [e1] at e; cases e; exact .inr (.inr ⟨_, _, c, rfl, rfl, by assumption, e1, q.here s (.str _)⟩)
      · cases e
    | _ => cases e
  | _ => cases rx <;> cases e
theorem vf_ix (ha : PE X a (tf X.K cl He H0 pin f)) (hb : PE X b (tv X.K cl W g)) (hs : PlainIx b := by exact fun _ _ => rfl) : PE X (.Subscript a b pos) (tf X.K cl He H0 pin (fOp ixP f g)) :=
  peWeak (pe_ix ix_seq ha hb hs) fun _ _ _ h => fop_use ov_ix h
theorem vf_tup {x1} (ha : PE X a (tv X.K cl W g)) (hb : PE X b (tf X.K cl He H0 pin f)) (h1 : starEach (a :: [b]) X.env = (false, eval a X.env) :: starEach [b] X.env := by rfl) (h2 : starEach (b :: []) X.env = (false, eval b X.env) :: starEach [] X.env := by rfl) :
    PE X (.Tuple [a, b] x1 pos) (tf X.K cl He H0 pin (fTup g f)) :=
  peWeak (pe_tup (pa_cons ha (pa_cons hb pa_nil h2) h1)) fun σ H Q ⟨Hs, ρ, S, v, ρ', e, h⟩ => by
    unfold fTup at e
    cases e1 : okO (g (vw [] ρ)) with
    | none => simp [e1] at e
    | some u =>
      simp only [e1, Option.bind_some] at e
      cases e0 : f ρ with
      | none => simp [e0] at e
      | some p =>
        obtain ⟨w, ρ1⟩ := p
        simp [e0] at e
        obtain ⟨rfl, rfl⟩ := e
        refine ⟨_, _, S.pe [], ?_⟩
        rw [okO_some e1]
        intro z Hs1 H1 X1 rz
        rw [plus_nil] at X1
        have S1 := S.ext1 X1
        refine ⟨Hs1, ρ, S1, w, ρ1, e0, fun y Hs2 H2 up S2 ry => ⟨by show 2 ≤ sizeLine; rw [sizeLine_eq]; omega, fun p n => ?_⟩⟩
        have X2 := Ext.new (o := .tup [z, y]) S2.sub n
        exact h (.ref p) _ _ ((X1.fs.trans up).trans X2.fs) (S2.ext1 X2) (.tup (.of upd_same) (.cons ((rz.mono up).mono X2.fs) (.cons (ry.mono X2.fs) .nil)))
/-- name = .. x.pop() .. -/
theorem vs_setF {i : Nat} {x : Str} {p' : Pos} (hN : X.N.Nodup) (he : PE X e (tf X.K cl He H0 pin f)) (hi : X.N[i]? = some x := by rfl) (hx : Loc X.env.scope x := by first | exact Or.inl rfl | exact Or.inr rfl) (hs : swapsWith e (some (.Name x p')) pos.line X.env = pure false := by rfl) (hf : X.fn x = true ∨ X.env.scope.names.lookup x = some .local := by first | exact .inl rfl | exact .inr rfl | assumption) :
    PV1 X cl W He H0 pin (.Assign [.Name x p'] e pos) (sSetF i f) :=
  psWeak (ps_set hN hi hx he hs hf) fun D σ H ⟨Hs, ρ, S, h⟩ => by
    unfold sSetF at h
    cases e0 : f ρ with
    | none => rw [e0] at h; exact h.elim
    | some p =>
      rw [e0] at h
      exact ⟨Hs, ρ, S, p.1, p.2, e0, fun x Hs1 H1 up S1 r => (Post.up h up) _ _ _ (Sub.refl _) (S1.set r i)⟩
/-- x.append(.. x.pop() ..) -/
theorem vs_metF {i : Nat} {x : Str} {px apos cpos : Pos} {name : Str} {id : String} {r : V → List V → Hp → VK → Prop} {og : List PV → List PV → Option (List PV)} (slot : Slot "list" name id) (hty : typeOf (.builtin id) = pure (.type "method_descriptor")) (hm : MtR X id r) (hg : MetOk X.K cl r og)
    (ha : PE X e (tf X.K cl He H0 pin f)) (hi : X.N[i]? = some x := by rfl) (hv : Vis X.env.scope x := by first | exact Or.inl rfl | exact Or.inr (Or.inl rfl) | exact Or.inr (Or.inr rfl)) (hd : (x == ("__debug__" : Str)) = false := by decide) (hcd : (x == ("__classdict__" : Str)) = false := by decide)
    (hbase : attributeBase (.Name x px) name X.env (eval (.Name x px) X.env) = eval (.Name x px) X.env := by rfl)
    (hfew : ((backTo cpos (starEach (e :: []) X.env)).all (fun x => !x.1) && (backToKw cpos (keywordEach [] X.env)).all (fun x => x.1.isSome)
      && decide ((e :: ([] : List Expr)).length + ([] : List Keyword).length + (if ([] : List Keyword).isEmpty then 0 else 1) < 30)) = true := by rfl)
    (hline : (apos.endLine == cpos.line) = true := by rfl) (hs : starEach (e :: []) X.env = (false, eval e X.env) :: starEach [] X.env := by rfl) (hplain : (backTo cpos (starEach [] X.env)).any (·.1) = false := by rfl)
    (hsw : swapsWith (.Call (.Attribute (.Name x px) name apos) (e :: []) [] cpos) none pos.line X.env = pure false := by rfl) :
    PV1 X cl W He H0 pin (.Expr (.Call (.Attribute (.Name x px) name apos) (e :: []) [] cpos) pos) (sMetF i og f) :=
  psWeak (ps_expr (pe_bm PySem.F.plainAttrs_list slot hty hm (pe_var hi hv hd hcd) (pa_cons ha pa_nil hs) hbase hfew hline hs hplain) hsw) fun D σ H ⟨Hs, ρ, S, h⟩ => by
    unfold sMetF at h
    cases e0 : getO ρ i with
    | none => rw [e0] at h; exact h.elim
    | some xs0 =>
      simp only [e0] at h
      obtain ⟨a, vs, h1, h2, _⟩ := S.own i xs0 (getO_eq e0)
      refine ⟨_, h1, .inl ⟨rfl, vs, .of h2⟩, ?_⟩
      cases e1 : f ρ with
      | none => simp only [e1] at h; exact h.elim
      | some p =>
        simp only [e1] at h
        refine ⟨Hs, ρ, S, p.1, p.2, e1, fun z Hs1 H1 up S1 rz => ?_⟩
        cases e2 : getO p.2 i with
        | none => simp only [e2] at h; exact h.elim
        | some xs =>
          simp only [e2] at h
          cases e3 : og xs [p.1] with
          | none => simp only [e3] at h; exact h.elim
          | some ys =>
            simp only [e3] at h
            obtain ⟨b, vs2, g1, g2, g3, g4, g5⟩ := S1.own i xs (getO_eq e2)
            rw [h1] at g1
            cases g1
            exact hg Hs1 H1 a vs2 [z] xs [p.1] ys _ S1.sub g2 g4 g3 (.cons rz .nil) e3 fun zs rz => (Post.up h up) _ _ _ (Sub.refl _) (S1.put (getO_eq e2) h1 rz)
end
end VL
namespace VL
open PySem PySem.Spec PyProof.Rows L2
/-! sets of texts -/
/-- the texts, each once -/
def ded (xs : List Str) : List Str := xs.foldl step_dedup []
theorem ded_snoc (xs : List Str) (x : Str) : ded (xs ++ [x]) = step_dedup (ded xs) x := by
  unfold ded
  rw [List.foldl_append]
  rfl
theorem sd_any (σ : List Str) (v k : Str) : (step_dedup σ v).any (· == k) = (σ.any (· == k) || decide (k = v)) := by
  unfold step_dedup
  by_cases h : σ.any (· == v) = true
  · rw [if_pos h]
    by_cases e : k = v
    · rw [e, h]; rfl
    · rw [decide_eq_false e, Bool.or_false]
  · rw [if_neg h, List.any_append, List.any_cons, List.any_nil, Bool.or_false]
    congr 1
    rw [Bool.eq_iff_iff, beq_iff_eq, decide_eq_true_iff]
    exact eq_comm
theorem sd_len (σ : List Str) (v : Str) : (step_dedup σ v).length = if σ.any (· == v) = true then σ.length else σ.length + 1 := by
  unfold step_dedup
  split
  · rfl
  · rw [List.length_append]; rfl
theorem any_snoc (l : List Str) (x k : Str) : (l ++ [x]).any (· == k) = (l.any (· == k) || decide (k = x)) := by
  rw [List.any_append, List.any_cons, List.any_nil, Bool.or_false]
  congr 1
  rw [Bool.eq_iff_iff, beq_iff_eq, decide_eq_true_iff]
  exact eq_comm
theorem take_snoc {xs : List Str} {i : Nat} (h : i < xs.length) : xs.take (i + 1) = xs.take i ++ [xs.getD i Str.empty] := by
  rw [List.take_succ, List.getElem?_eq_getElem h, List.getD_eq_getElem?_getD, List.getElem?_eq_getElem h]
  rfl
theorem ded_any (k : Str) : ∀ n (xs : List Str), xs.length = n → (ded xs).any (· == k) = xs.any (· == k)
  | 0, xs, h => by
    have : xs = [] := List.eq_nil_of_length_eq_zero h
    subst this; rfl
  | n + 1, xs, h => by
    rcases List.eq_nil_or_concat xs with rfl | ⟨ys, y, rfl⟩
    · rfl
    · rw [List.concat_eq_append] at h ⊢
      have hy : ys.length = n := by simpa using h
      rw [ded_snoc, sd_any, any_snoc, ded_any k n ys hy]
theorem ded_le (xs : List Str) : (ded xs).length ≤ xs.length := by
  have := length_foldl_step_dedup_le (K := Str) xs []
  simpa [ded] using this
section
variable {prog : Program} {w : World} {A : Around} {R : Result → Shared → Prop} {I : Addr} {fp wr : List Addr} {G : Array GenState → Array GenState → Prop} {n : Nat} {P : Nat → Value → Prop} {St : Nat → Shared → Prop}
theorem setLoop (W : WalksS prog w A.in1 I fp wr G n P St) (S : Addr) (hSf : S ∉ fp) (xs : List Str) (hsz : xs.length = n) (hb : n + 1 < scanBound)
    (hval : ∀ i v, P i v → ∃ t, v = .str (xs.getD i Str.empty) t) (k : Nat) : ∀ (i : Nat) (s : Shared), n - i = k → i ≤ n → St i s →
      s.heap.SetOf (PySem.strKind prog w) S (fun k' => (xs.take i).any (· == k')) (ded (xs.take i)).length →
      (∀ s', Moved (S :: wr) G s s' → s'.heap.SetOf (PySem.strKind prog w) S (fun k' => xs.any (· == k')) (ded xs).length → R (.ok (.ret .none)) s') →
      codeAny (model prog w) A (.builtin "set.update.loop" ⟨[.ref S, .ref I], []⟩) R s := by
  have nw : S ∉ wr := fun h => hSf (W.sub _ h)
  have up : ∀ b ∈ wr, b ∈ S :: wr := fun b hb => List.mem_cons_of_mem _ hb
  induction k with
  | zero =>
    intro i s hk hi st hS fin
    obtain rfl : i = n := by omega
    refine codeAny_builtin PyProof.Rows.F.entry_set_update_loop ?_
    rw [Around.under_plainId PyProof.Rows.F.plain_set_update_loop _]
    refine wpAny_bind (m := pyNext (.ref I)) (W.done s _ _ st fun s' hm => ?_)
    refine wpAny_pure (fin s' (hm.mono up) ?_)
    obtain ⟨o, es, ep, t, ho, rest⟩ := hS
    rw [← hsz, List.take_length] at rest
    exact ⟨o, es, ep, t, hm.heap S _ nw ho, rest⟩
  | succ k ih =>
    intro i s hk hi st hS fin
    have lt : i < n := by omega
    refine codeAny_builtin PyProof.Rows.F.entry_set_update_loop ?_
    rw [Around.under_plainId PyProof.Rows.F.plain_set_update_loop _]
    refine wpAny_bind (m := pyNext (.ref I)) (W.item i s _ _ lt st fun v s' hv st' hm => ?_)
    obtain ⟨t, rfl⟩ := hval i v hv
    have hS' : s'.heap.SetOf (PySem.strKind prog w) S (fun k' => (xs.take i).any (· == k')) (ded (xs.take i)).length := by
      obtain ⟨o, es, ep, tb, ho, rest⟩ := hS
      exact ⟨o, es, ep, tb, hm.heap S _ nw ho, rest⟩
    have room : (ded (xs.take i)).length + 1 < scanBound := by
      have h1 := ded_le (xs.take i)
      rw [List.length_take] at h1
      omega
    refine wpAny_bind (m := holding [Value.str (xs.getD i Str.empty) t] (setAdd S (.str (xs.getD i Str.empty) t))) (wpAny_holding ?_)
    unfold setAdd
    refine wpAny_holding (wpAny_bind ((PySem.strKind prog w).pyHash (k := xs.getD i Str.empty) (strKind_is _ _ _ _) ?_))
    refine wpAny_setAddHashed_of (knd := PySem.strKind prog w) (s := { s' with toks := s'.toks + 1 }) (strKind_is _ _ _ _) rfl hS' room fun h' sb new => ?_
    have next : h'.SetOf (PySem.strKind prog w) S (fun k' => (xs.take (i + 1)).any (· == k')) (ded (xs.take (i + 1))).length :=
      SetOf_congr new (fun k' => by rw [take_snoc (by omega : i < xs.length), any_snoc]) (by
        rw [take_snoc (by omega : i < xs.length), ded_snoc, sd_len, ded_any _ _ _ rfl])
    refine wpAny_pure ⟨plainId_quiet PyProof.Rows.F.plain_set_update_loop _, ih (i + 1) _ (by omega) lt (W.frame _ s' _ _ st' (Nat.le_succ _) fun b hb o e => ?_) next fun s2 hm2 hS2 => ?_⟩
    · exact (sb.2 b fun h : b = S => hSf (h ▸ hb)).trans e
    · refine fin s2 (Moved.trans W.gtrans ((hm.mono up).then_heap (Nat.le_succ _) fun b o hb e => ?_) hm2) hS2
      exact (sb.2 b fun h : b = S => hb (h ▸ List.mem_cons_self)).trans e
end
end VL
namespace VL
open PySem PySem.Spec PyProof.Rows L2
section
variable {prog : Program} {w : World} {A : Around} {E : Value → Shared → Prop} {s : Shared}
/-- the new set, before it is filled -/
abbrev set0 (led : Bool) : Obj := { cls := .type "set", dict := none, data := .set #[] 0 (.fresh 0 0 led) }
/-- what set(xs) leaves: a new set; all else stays -/
def SetMade (P : Program) (w : World) (s : Shared) (xs : List Str) (h' : Heap) : Prop :=
  h'.SetOf (PySem.strKind P w) s.heap.objs.size (fun k' => xs.any (· == k')) (ded xs).length ∧ ∀ b o, b < s.heap.objs.size → s.heap.get? b = some o → h'.get? b = some o
/-- what the filling leaves -/
def Filled (P : Program) (w : World) (s : Shared) (xs : List Str) (r : Value) (s2 : Shared) : Prop :=
  r = .none ∧ ∃ h' tk, s2 = { s with heap := h', toks := tk } ∧ SetMade P w s xs h'
theorem fill {l : Addr} {items : Array Value} {xs : List Str} (led : Bool) (hh : A.in1.in1.in1.handled = none) (hl : s.heap.IsList l items) (hi : StrsAre items.toList xs) (hb : xs.length + 1 < scanBound)
    (B : Around) (hB : B = A.in1) :
    codeAny (model prog w) B (.call (.builtin "set.__init__") ⟨[.ref s.heap.objs.size, .ref l], []⟩) (wants (Filled prog w s xs) E) { s with heap := s.heap.push (set0 led) } := by
  subst hB
  have hS : (s.heap.push (set0 led)).get? s.heap.objs.size = some (set0 led) := Heap.get?_push_size _ rfl
  have hT : Shared.TypeIs { s with heap := s.heap.push (set0 led) } (.ref s.heap.objs.size) "set" := ⟨_, hS, rfl⟩
  refine codeAny_call_builtin (R := wants (Filled prog w s xs) E) PySem.F.called_set.init.plain PySem.F.entry_set_init (check_set_init_1 hT ?_)
  obtain ⟨ol, hol, hcl, nl, hdl⟩ := hl
  obtain ⟨ocls, odict, odata, oslots⟩ := ol
  simp only at hcl hdl
  subst hcl; subst hdl
  have hlS : l < s.heap.objs.size := Heap.lt_size hol
  have hol' : (s.heap.push (set0 led)).get? l = some { cls := .type "list", dict := odict, data := .seq items nl, slots := oslots } := Heap.get?_push_of_some _ hol
  have hsls := PySem.F.sub_list_set
  have hslf := PySem.F.sub_list_frozenset
  have hne : (Value.type "list" == Value.type "dict") = false := by decide
  have hl1 : (s.heap.push (set0 led)).IsList l items := ⟨_, hol', rfl, nl, rfl⟩
  unfold Builtin.«set.__init__» noKeywords Builtin.Frozenset.updateFrom
  generalize hPI : pyIter = PI
  wp_walk
  subst hPI
  refine wpAny_pyIter_list hl1 (wpAny_bind (wpAny_runValue ?_))
  have pne : l ≠ (s.heap.push (set0 led)).objs.size := by rw [Heap.size_push]; exact Nat.ne_of_lt (Nat.lt_succ_of_lt hlS)
  have off : s.heap.objs.size ∉ [(s.heap.push (set0 led)).objs.size, l] := by
    rw [Heap.size_push]
    simp only [List.mem_cons, List.mem_singleton, List.not_mem_nil, or_false, not_or]
    exact ⟨Nat.ne_of_lt (Nat.lt_succ_self _), Nat.ne_of_gt hlS⟩
  have hsz : xs.length = items.size := by rw [← StrsAre.len_eq hi, Array.length_toList]
  have hval : ∀ (i : Nat) (v : Value), items[i]? = some v → ∃ t, v = .str (xs.getD i Str.empty) t := fun i v hv => SS.strs_at hi i v (by rw [Array.getElem?_toList]; exact hv)
  refine setLoop ((Walks.list hh _ l pne items).toS) s.heap.objs.size off xs hsz (by omega) hval (items.size - 0) 0 _ rfl (Nat.zero_le _) ⟨⟨_, Heap.get?_push_size _ rfl, rfl, rfl⟩, hl1.push _⟩ ?start ?fin
  case start => exact SetOf_congr ((setObjOf_fresh (knd := PySem.strKind prog w) led).setOf (Heap.get?_push_of_some _ hS) (by unfold scanBound; omega)) (fun _ => rfl) rfl
  case fin =>
    intro s' hm hS'
    obtain ⟨h', g', d', tk', os'⟩ := s'
    obtain rfl : g' = s.gens := hm.gens
    obtain rfl : d' = s.drawn := hm.drawn
    obtain rfl : os' = s.os := hm.os
    refine wpAny_pure ?_
    show wpAny _ _ (ret Value.none) _ _ _
    refine wpAny_pure ⟨rfl, h', tk', rfl, hS', fun b o hb e => ?_⟩
    refine hm.heap b o ?_ (Heap.get?_push_of_some _ (Heap.get?_push_of_some _ e))
    rw [Heap.size_push]
    simp only [List.mem_cons, List.mem_singleton, List.not_mem_nil, or_false, not_or]
    exact ⟨Nat.ne_of_lt hb, Nat.ne_of_lt (Nat.lt_succ_of_lt hb)⟩
theorem call_setS {l : Addr} {items : Array Value} {xs : List Str} {Q : Value → Shared → Prop} (hh : A.handled = none) (hl : s.heap.IsList l items) (hi : StrsAre items.toList xs) (hb : xs.length + 1 < scanBound)
    (h : ∀ h' tk, SetMade prog w s xs h' → Q (.ref s.heap.objs.size) { s with heap := h', toks := tk }) : wpAny (model prog w) A (call (.type "set") [.ref l]) Q E s := by
  obtain ⟨c, tl, hmro⟩ := PySem.F.called_set.mro
  have hmade := PySem.F.called_set.made
  have hsub := PySem.F.called_set.sub
  refine wpAny_call (codeAny_of_tree ?_)
  show wpAny _ _ (callAny (.type "set") _) _ _ _
  refine wpAny_pure ⟨Code.quiet_builtin _ (by decide +kernel), codeAny_builtin PySem.F.entry_type_call ?_⟩
  rw [Around.under_plain (weight_type_call_type "set" [.ref l] []) rfl]
  have h1 := PySem.F.called_set.notType
  have h2 := PySem.F.called_set.canCreate
  have hct := PySem.F.typeCall_set_1 (.ref l)
  repeat (any_goals (first | assumption | wp_step))
  refine codeAny_mono (code_set_new_1 (.ref l) (E := E) (Q₁ := fun obj s₁ => ∃ led : Bool, obj = .ref s.heap.objs.size ∧ s₁ = { s with heap := s.heap.push (set0 led) }) fun led => ⟨led, rfl, rfl⟩) fun r s₁ hr => ?_
  match r, hr with
  | .error e, hr => exact hr
  | .ok (.ret obj), hr =>
    obtain ⟨led, rfl, rfl⟩ := hr
    have hS : (s.heap.push (set0 led)).get? s.heap.objs.size = some (set0 led) := Heap.get?_push_size _ rfl
    have hT : Shared.TypeIs { s with heap := s.heap.push (set0 led) } (.ref s.heap.objs.size) "set" := ⟨_, hS, rfl⟩
    have hli := PySem.F.called_set.init.lookup
    have hbi := PySem.F.called_set.init.bind (.ref s.heap.objs.size)
    repeat (any_goals (first | assumption | wp_step))
    refine codeAny_mono (fill (E := E) (A := A) led (by simp [hh]) hl hi hb _ rfl) fun r₂ s₂ hr₂ => ?_
    match r₂, hr₂ with
    | .error e, hr₂ => exact hr₂
    | .ok (.ret r), hr₂ =>
      obtain ⟨rfl, h', tk, rfl, hS'⟩ := hr₂
      repeat (any_goals (first | assumption | wp_step))
      exact h _ _ hS'
    | .ok .next, hr₂ => exact hr₂.elim
    | .ok .brk, hr₂ => exact hr₂.elim
    | .ok .cont, hr₂ => exact hr₂.elim
  | .ok .next, hr => exact hr.elim
  | .ok .brk, hr => exact hr.elim
  | .ok .cont, hr => exact hr.elim
end
end VL
namespace PySem.F
theorem entry_set_eq : entryFor table "set.__eq__" = some Builtin.«frozenset.__eq__» := entryFor_alias (id' := "frozenset.__eq__") (by kernel_rfl) rfl (by decide +kernel) (by kernel_rfl)
theorem entry_set_ne : entryFor table "set.__ne__" = some Builtin.«frozenset.__ne__» := entryFor_alias (id' := "frozenset.__ne__") (by kernel_rfl) rfl (by decide +kernel) (by kernel_rfl)
end PySem.F
namespace VL
open PySem PySem.Spec PyProof.Rows L2
section
variable {prog : Program} {w : World} {A : Around} {E : Value → Shared → Prop} {s : Shared}
theorem sizeOf_at {a : Addr} {S : Str → Bool} {n : Nat} {Q : Nat → Shared → Prop} (ha : s.heap.SetOf (PySem.strKind prog w) a S n) (h : Q n s) : wpAny (model prog w) A (Builtin.Frozenset.sizeOf a) Q E s := by
  obtain ⟨o, es, ep, t, ho, _, hd, _, _, _, hf, hn⟩ := ha
  unfold Builtin.Frozenset.sizeOf
  exact wpAny_bind (wpAny_setEntries_of ho hd hf (wpAny_pure (by rw [hn]; exact h)))
/-- the body of == of two sets, up to what is wanted of the parts -/
theorem rc_sets {a b : Addr} {S T : Str → Bool} {n m : Nat} {r : Bool} (ha : s.heap.SetOf (PySem.strKind prog w) a S n) (hb : s.heap.SetOf (PySem.strKind prog w) b T m) (hu : A.units < cLine) (Q : Value → Shared → Prop)
    (hsubs : n = m → ∀ (id : String) (B : Around) (Q' : Bool → Shared → Prop) (E' : Value → Shared → Prop) (s' : Shared), s'.heap = s.heap → (∀ s2 : Shared, s2.heap = s.heap → s2.gens = s'.gens → s2.drawn = s'.drawn → s2.os = s'.os → Q' r s2) → wpAny (model prog w) B (Builtin.Frozenset.subsetOf id a b) Q' E' s')
    (h : ∀ s2 : Shared, s2.heap = s.heap → s2.gens = s.gens → s2.drawn = s.drawn → s2.os = s.os → Q (.bool (decide (n = m) && r)) s2) : wpAny (model prog w) A (richCompare .Eq (.ref a) (.ref b)) Q E s := by
  refine wpAny_richCompare_same_room (op := .Eq) ha.typeIs hb.typeIs PySem.F.slot_set_eq (wpAny_call_entry PySem.F.slot_set_eq ha.typeIs PySem.F.entry_set_eq ?_ (PySem.F.args_set_eq_2 _ _)) hu
  show wpAny _ _ (Builtin.Frozenset.slot1 "__eq__" ⟨[.ref a, .ref b], []⟩ >>= _) _ _ s
  refine wpAny_bind ?_
  unfold Builtin.Frozenset.slot1 slotArgs
  simp only [List.isEmpty_nil, Bool.not_true, Bool.false_eq_true, ↓reduceIte, bind_assoc, List.length_nil, bne_self_eq_false]
  have ta := ha.typeIs
  have tb := hb.typeIs
  have hsub := PySem.sub_set_self
  have hsub2 := PySem.F.sub_set_frozenset
  generalize hSO : Builtin.Frozenset.sizeOf = SO
  generalize hSU : Builtin.Frozenset.subsetOf = SU
  wp_walk
  subst hSO
  refine sizeOf_at ha ?_
  refine wpAny_bind (sizeOf_at hb ?_)
  by_cases c : n = m
  · have c' : (n != m) = false := by simpa using c
    simp only [c', Bool.false_eq_true, ↓reduceIte]
    wp_walk
    subst hSU
    refine hsubs c _ _ _ _ s rfl fun s2 e1 e2 e3 e4 => ?_
    have q := h s2 e1 e2 e3 e4
    rw [decide_eq_true c, Bool.true_and] at q
    exact wpAny_pure ⟨_, rfl, (fun z => nomatch z), q⟩
  · have c' : (n != m) = true := by simpa using c
    simp only [c', if_true]
    wp_walk
    have q := h s rfl rfl rfl rfl
    rw [decide_eq_false c] at q
    exact ⟨_, rfl, (fun z => nomatch z), q⟩
/-- the body of != of two sets, up to what is wanted of the parts -/
theorem rc_setsN {a b : Addr} {S T : Str → Bool} {n m : Nat} {r : Bool} (ha : s.heap.SetOf (PySem.strKind prog w) a S n) (hb : s.heap.SetOf (PySem.strKind prog w) b T m) (hu : A.units < cLine) (Q : Value → Shared → Prop)
    (hsubs : n = m → ∀ (id : String) (B : Around) (Q' : Bool → Shared → Prop) (E' : Value → Shared → Prop) (s' : Shared), s'.heap = s.heap → (∀ s2 : Shared, s2.heap = s.heap → s2.gens = s'.gens → s2.drawn = s'.drawn → s2.os = s'.os → Q' r s2) → wpAny (model prog w) B (Builtin.Frozenset.subsetOf id a b) Q' E' s')
    (h : ∀ s2 : Shared, s2.heap = s.heap → s2.gens = s.gens → s2.drawn = s.drawn → s2.os = s.os → Q (.bool (!(decide (n = m) && r))) s2) : wpAny (model prog w) A (richCompare .NotEq (.ref a) (.ref b)) Q E s := by
  refine wpAny_richCompare_same_room (op := .NotEq) ha.typeIs hb.typeIs PySem.F.slot_set_ne (wpAny_call_entry PySem.F.slot_set_ne ha.typeIs PySem.F.entry_set_ne ?_ (PySem.F.args_set_ne_2 _ _)) hu
  show wpAny _ _ (Builtin.Frozenset.slot1 "__ne__" ⟨[.ref a, .ref b], []⟩ >>= _) _ _ s
  refine wpAny_bind ?_
  unfold Builtin.Frozenset.slot1 slotArgs
  simp only [List.isEmpty_nil, Bool.not_true, Bool.false_eq_true, ↓reduceIte, bind_assoc, List.length_nil, bne_self_eq_false]
  have ta := ha.typeIs
  have tb := hb.typeIs
  have hsub := PySem.sub_set_self
  have hsub2 := PySem.F.sub_set_frozenset
  generalize hSO : Builtin.Frozenset.sizeOf = SO
  generalize hSU : Builtin.Frozenset.subsetOf = SU
  wp_walk
  subst hSO
  refine sizeOf_at ha ?_
  refine wpAny_bind (sizeOf_at hb ?_)
  by_cases c : n = m
  · have c' : (n != m) = false := by simpa using c
    simp only [c', Bool.false_eq_true, ↓reduceIte]
    wp_walk
    subst hSU
    refine hsubs c _ _ _ _ s rfl fun s2 e1 e2 e3 e4 => ?_
    have q := h s2 e1 e2 e3 e4
    rw [decide_eq_true c, Bool.true_and] at q
    exact wpAny_pure ⟨_, rfl, (fun z => nomatch z), q⟩
  · have c' : (n != m) = true := by simpa using c
    simp only [c', if_true]
    wp_walk
    have q := h s rfl rfl rfl rfl
    rw [decide_eq_false c] at q
    exact ⟨_, rfl, (fun z => nomatch z), q⟩
theorem subset_at {a b : Addr} {S T : Str → Bool} {n m : Nat} {id : String} (ha : s.heap.SetOf (PySem.strKind prog w) a S n) (hb : s.heap.SetOf (PySem.strKind prog w) b T m) (hnm : n ≤ m) (Q : Bool → Shared → Prop)
    (h : ∀ (r : Bool) (s2 : Shared), (r = true ↔ ∀ k, S k = true → T k = true) → s2.heap = s.heap → s2.gens = s.gens → s2.drawn = s.drawn → s2.os = s.os → Q r s2) : wpAny (model prog w) A (Builtin.Frozenset.subsetOf id a b) Q E s := by
  unfold Builtin.Frozenset.subsetOf
  refine wpAny_bind (sizeOf_at ha ?_)
  refine wpAny_bind (sizeOf_at hb ?_)
  have c : ¬ n > m := by omega
  simp only [c, ↓reduceIte]
  obtain ⟨oa, ea, epa, ta, hoa, hxa, hda, hea, hma, hba, hfa, hna⟩ := ha
  refine wpAny_bind (wpAny_setEpoch_of hoa hda hfa ?_)
  unfold Builtin.Frozenset.walkUnseen
  have hb2 := hb
  obtain ⟨ob, eb, epb, tb, hob, hxb, hdb, heb, hmb, hbb, hfb, hnb⟩ := hb2
  have hstr : ∀ e ∈ ea.toList ++ eb.toList, ∃ k t, e.2 = Value.str k t := fun e he => by
    rcases List.mem_append.mp he with he | he
    · obtain ⟨⟨k, hk, _⟩, _⟩ := hea e he
      obtain ⟨t, ht⟩ := Value.isStrOf_shape hk
      exact ⟨k, t, ht⟩
    · obtain ⟨⟨k, hk, _⟩, _⟩ := heb e he
      obtain ⟨t, ht⟩ := Value.isStrOf_shape hk
      exact ⟨k, t, ht⟩
  refine wpAny_bind (wpAny_bind (wpAny_setEntries_of hoa hda hfa (wpAny_bind (wpAny_setEntries_of hob hdb hfb ?_))))
  refine wpAny_bind (wpAny_forIn_list _ (fun (l : List (Int × Value)) b s' => b = (none, ()) ∧ s' = s ∧ ∀ e ∈ l, ∃ k t, e.2 = Value.str k t) _ (fun x rest b s' ⟨e1, e2, hl⟩ => ?_) (fun b s' ⟨e1, e2, _⟩ => ?_) _ _ ⟨rfl, rfl, hstr⟩)
  · subst e1; subst e2
    obtain ⟨hh, v⟩ := x
    obtain ⟨k, t, e⟩ := hl _ List.mem_cons_self
    simp only at e
    subst e
    refine wpAny_bind (m := Builtin.Frozenset.quietEq (Value.str k t)) (wpAny_pure ?_)
    simp only [Bool.not_true, Bool.false_eq_true, ↓reduceIte]
    exact wpAny_pure ⟨rfl, rfl, fun e he => hl e (List.mem_cons_of_mem _ he)⟩
  · subst e1; subst e2
    refine wpAny_pure ?_
    refine wpAny_bind (wpAny_forIn_list _ (fun (l : List (Int × Value)) b s2 => b = (none, ()) ∧ s2 = s' ∧ (∀ e ∈ l, e ∈ ea.toList) ∧ ∀ k, S k = true → T k = true ∨ ∃ e ∈ l, (PySem.strKind prog w).is k e.2 = true) _ (fun x rest b s2 ⟨e1, e2, hl, hp⟩ => ?_) (fun b s2 ⟨e1, e2, _, hp⟩ => ?_) _ _ ⟨rfl, rfl, fun e he => he, fun k hk => .inr ((hma k).mp hk)⟩)
    · subst e1; subst e2
      obtain ⟨hh, v⟩ := x
      obtain ⟨⟨k, hk, hhash⟩, hsc⟩ := hea _ (hl _ List.mem_cons_self)
      simp only at hk hhash hsc
      subst hhash
      refine wpAny_bind (wpAny_holding (wpAny_setFind_of (knd := PySem.strKind prog w) hk hsc hb fun r hr => ?_))
      cases hT : T k with
      | false =>
        rw [hT] at hr
        have : r.isNone = true := by cases r <;> simp_all
        simp only [this, ↓reduceIte]
        refine wpAny_pure ?_
        refine wpAny_pure (h false _ ?_ rfl rfl rfl rfl)
        refine ⟨fun z => (nomatch z), fun z => ?_⟩
        have := z k ((hma k).mpr ⟨_, hl _ List.mem_cons_self, hk⟩)
        rw [hT] at this
        exact this
      | true =>
        rw [hT] at hr
        have : r.isNone = false := by cases r <;> simp_all
        simp only [this, Bool.false_eq_true, ↓reduceIte]
        unfold Builtin.Frozenset.unchanged
        refine wpAny_bind (wpAny_bind (wpAny_setEpoch_of hoa hda hfa ?_))
        simp only [bne_self_eq_false, Bool.false_eq_true, ↓reduceIte]
        refine wpAny_pure (wpAny_pure ⟨rfl, rfl, fun e he => hl e (List.mem_cons_of_mem _ he), fun k' hk' => ?_⟩)
        rcases hp k' hk' with h1 | ⟨e, he, hke⟩
        · exact .inl h1
        · rcases List.mem_cons.mp he with h2 | h2
          · left
            subst h2
            have := (PySem.strKind prog w).inj _ _ _ hk hke
            rw [← this]; exact hT
          · exact .inr ⟨e, h2, hke⟩
    · subst e1; subst e2
      refine wpAny_pure (h true _ ⟨fun _ k hk => ?_, fun _ => rfl⟩ rfl rfl rfl rfl)
      rcases hp k hk with h1 | ⟨e, he, _⟩
      · exact h1
      · cases he
end
end VL
namespace VL
open PySem PySem.Spec PyProof.Rows L2
/-- the texts of a list of texts -/
def strsP : List PV → Option (List Str)
  | [] => some []
  | .str z :: r => (strsP r).map (z :: ·)
  | _ => none
theorem strsP_map (zs : List Str) : strsP (zs.map .str) = some zs := by
  induction zs with
  | nil => rfl
  | cons z zs ih => simp [strsP, ih]
theorem RpA.texts {K : PySem.W.Frag} {cl : Nat → Addr} {H : Hp} : ∀ {vs : List V} {xs : List PV} {zs : List Str}, RpA K cl H vs xs → strsP xs = some zs → vs = zs.map V.str
  | [], _, zs, .nil, e => by cases e; rfl
  | _ :: _, _, zs, .cons r t, e => by
    cases r with
    | str z =>
      replace e : (strsP _).map (z :: ·) = some _ := e
      cases e1 : strsP _ with
      | none => rw [e1] at e; cases e
      | some ys =>
        rw [e1] at e
        cases e
        rw [List.map_cons, RpA.texts t e1]
    | _ => cases e
def setOk (zs : List Str) : Bool := decide (zs.length + 1 < scanBound)
/-- len(set(xs)) -/
def lenSetP : PV → Option PV
  | .lst xs => (strsP xs).bind fun zs => if setOk zs = true then some (.int ((ded zs).length : Int)) else none
  | _ => none
def setEq (xs ys : List Str) : Bool := decide ((ded xs).length = (ded ys).length ∧ ∀ k ∈ xs, k ∈ ys)
def setCmp (f : Bool → Bool) : PV → PV → Option PV
  | .lst xs, .lst ys => (strsP xs).bind fun zs => (strsP ys).bind fun ws => if setOk zs = true ∧ setOk ws = true then some (.bl (f (setEq zs ws))) else none
  | _, _ => none
/-- a set of texts at a -/
def SetS (P : Program) (w : World) (a : Addr) (xs : List Str) : HO := .ext fun h => h.SetOf (PySem.strKind P w) a (fun k => xs.any (· == k)) (ded xs).length
section
variable {X : Cx}
theorem setS_at {P : Program} {w : World} {h h' : Heap} {a : Addr} {S : Str → Bool} {n : Nat} (R : h.SetOf (PySem.strKind P w) a S n) (k : ∀ o, h.get? a = some o → h'.get? a = some o) : h'.SetOf (PySem.strKind P w) a S n := by
  obtain ⟨o, es, ep, t, ho, rest⟩ := R
  exact ⟨o, es, ep, t, k o ho, rest⟩
theorem setS_new {P : Program} {w : World} {H : Hp} {h : Heap} {a : Addr} {xs : List Str} (R : h.SetOf (PySem.strKind P w) a (fun k => xs.any (· == k)) (ded xs).length) : ObjOk P w H h a (SetS P w a xs) := by
  have ⟨o, _, _, _, ho, _⟩ := R
  exact ⟨R, ⟨o, ho⟩, fun h1 h2 p k => setS_at p k⟩
theorem setS_get {pins : List (Addr × Obj)} {σ : St} {H : Hp} {s : Shared} {a : Addr} {xs : List Str} (I : Inv X pins σ H s) (ha : H a = some (SetS X.prog X.w a xs)) : s.heap.SetOf (PySem.strKind X.prog X.w) a (fun k => xs.any (· == k)) (ded xs).length := (I.hok a _ ha).1
def rSetS (K : PySem.W.Frag) (P : Program) (w : World) : List V → Hp → VK → Prop := fun vs H Q => ∃ (l : Addr) (zs : List Str), vs = [V.ref l] ∧ SqL K H l (zs.map V.str) ∧ setOk zs = true ∧ ∀ a, H a = none → Q (.ref a) (upd H a (SetS P w a zs))
theorem cr_setS (hc : X.calm = true) : CallR X (.type "set") (rSetS X.K X.prog X.w) := by
  intro pins s σ H xs us Q I r h
  obtain ⟨l, zs, rfl, hl, hk, q⟩ := h
  rw [Vals.ref1 r]
  obtain ⟨its, rv, pl, hz⟩ := I.list hl
  have hn : H s.heap.objs.size = none := I.hok.fresh (Nat.le_refl _)
  refine call_setS (I.ok.hd hc) pl.isList (by simpa using strsAre_of rv) (of_decide_eq_true hk) fun h' tk m => ?_
  exact ⟨.ref s.heap.objs.size, upd H s.heap.objs.size (SetS X.prog X.w s.heap.objs.size zs), I.laid (t' := tk) (fun b u e => m.2 b u (Heap.lt_size e) e) (Nat.le_refl _) (setS_new m.1), rfl, q _ hn⟩
def rLenS (P : Program) (w : World) : List V → Hp → VK → Prop := fun vs H Q => ∃ (a : Addr) (zs : List Str), vs = [V.ref a] ∧ H a = some (SetS P w a zs) ∧ Q (.int ((ded zs).length : Int)) H
theorem cr_lenS : CallR X (.builtin "len") (rLenS X.prog X.w) := by
  intro pins s σ H xs us Q I r h
  obtain ⟨a, zs, rfl, ha, q⟩ := h
  rw [Vals.ref1 r]
  obtain ⟨o, es, ep, t, ho, hex, hd, _, _, hb, hf, hn⟩ := setS_get I ha
  have : es.size < 4096 := hb
  exact call_len_set ho hex hd hf (by omega) ⟨.int ((ded zs).length : Int), H, I.tok _, ⟨_, by rw [hn]⟩, q⟩
def subB (xs ys : List Str) : Bool := xs.all fun k => ys.any (· == k)
theorem subB_iff {xs ys : List Str} : subB xs ys = true ↔ ∀ k, xs.any (· == k) = true → ys.any (· == k) = true := by
  unfold subB
  simp
theorem setEq_of (xs ys : List Str) : (decide ((ded xs).length = (ded ys).length) && subB xs ys) = setEq xs ys := by
  unfold setEq
  rw [Bool.eq_iff_iff, Bool.and_eq_true, decide_eq_true_iff, decide_eq_true_iff, subB_iff]
  simp
theorem same_but {s s2 : Shared} (e1 : s2.heap = s.heap) (e2 : s2.gens = s.gens) (e3 : s2.drawn = s.drawn) (e4 : s2.os = s.os) : s2 = { s with toks := s2.toks } := by
  cases s2
  cases s
  simp only at e1 e2 e3 e4
  subst e1; subst e2; subst e3; subst e4
  rfl
def rEqS (P : Program) (w : World) (f : Bool → Bool) : R2 := fun x y H Q => ∃ (a b : Addr) (xs ys : List Str), x = .ref a ∧ y = .ref b ∧ H a = some (SetS P w a xs) ∧ H b = some (SetS P w b ys) ∧ Q (.bl (f (setEq xs ys))) H
theorem or_eqS (hu : X.A.units < cLine) : OpR X (compareOp .Eq) (rEqS X.prog X.w id) := by
  intro pins s σ H x y v u Q I rx ry h
  obtain ⟨a, b, xs, ys, rfl, rfl, ha, hb, q⟩ := h
  cases rx
  cases ry
  have A := setS_get I ha
  have B := setS_get I hb
  show wpAny _ _ (richCompare .Eq (.ref a) (.ref b)) _ _ _
  refine rc_sets (r := subB xs ys) A B hu _ (fun hnm id B' Q' E' s' hs' hq => ?_) fun s2 e1 e2 e3 e4 => ?_
  · rw [← hs'] at A B
    refine subset_at A B (by omega) Q' fun r s2 hr f1 f2 f3 f4 => ?_
    have : r = subB xs ys := by rw [Bool.eq_iff_iff, hr, subB_iff]
    rw [this]
    exact hq s2 (f1.trans hs') f2 f3 f4
  · rw [same_but e1 e2 e3 e4, setEq_of]
    exact ⟨.bl _, H, I.tok _, rfl, q⟩
theorem or_neS (hu : X.A.units < cLine) : OpR X (compareOp .NotEq) (rEqS X.prog X.w not) := by
  intro pins s σ H x y v u Q I rx ry h
  obtain ⟨a, b, xs, ys, rfl, rfl, ha, hb, q⟩ := h
  cases rx
  cases ry
  have A := setS_get I ha
  have B := setS_get I hb
  show wpAny _ _ (richCompare .NotEq (.ref a) (.ref b)) _ _ _
  refine rc_setsN (r := subB xs ys) A B hu _ (fun hnm id B' Q' E' s' hs' hq => ?_) fun s2 e1 e2 e3 e4 => ?_
  · rw [← hs'] at A B
    refine subset_at A B (by omega) Q' fun r s2 hr f1 f2 f3 f4 => ?_
    have : r = subB xs ys := by rw [Bool.eq_iff_iff, hr, subB_iff]
    rw [this]
    exact hq s2 (f1.trans hs') f2 f3 f4
  · rw [same_but e1 e2 e3 e4, setEq_of]
    exact ⟨.bl _, H, I.tok _, rfl, q⟩
end
section
variable {X : Cx} {cl : Nat → Addr} {W : WX} {a b : Expr} {f g : Ex} {p p2 p3 q q2 pos : Pos}
/-- set(a) of a list of texts, as it stands -/
theorem mk_set {Q : VK} {σ : St} {H : Hp} {h : PV → R PV} {Q0 : VK} {Hs : Hp} {ρ : Ev} (E : PEnv X.K cl Hs H σ ρ) (hg : GP X.K cl (Rp X.K cl) W Hs H σ ((f ρ).bind h) Q0)
    (k : ∀ xs zs p Hs1 H1, f ρ = .ok (.lst xs) → strsP xs = some zs → setOk zs = true → Ext Hs H Hs1 H1 → H1 p = some (SetS X.prog X.w p zs) → GP X.K cl (Rp X.K cl) W Hs1 H1 σ (h (.lst xs)) Q0 → Q (.ref p) H1)
    (ok : ∀ v, f ρ = .ok v → h v ≠ .stuck → (∃ xs zs, v = .lst xs ∧ strsP xs = some zs ∧ setOk zs = true)) : tCB (rSetS X.K X.prog X.w) (tCons (tv X.K cl W f) tNil) σ H Q := by
  refine gv_bind E hg fun v x Hs1 H1 ev X1 rx h1 => ?_
  have hns : h v ≠ .stuck := fun z => by rw [z] at h1; exact h1
  obtain ⟨xs, zs, rfl, hz, hk⟩ := ok v ev hns
  show rSetS X.K X.prog X.w [x] H1 Q
  cases rx with
  | lst hl ra =>
    refine ⟨_, zs, rfl, ?_, hk, fun p n => ?_⟩
    · rw [← ra.texts hz]; exact .of (X1.sub _ _ hl)
    · have X2 := Ext.newO (o := SetS X.prog X.w p zs) X1.sub n
      exact k xs zs p _ _ ev hz hk (X1.trans X2) upd_same (h1.up X2)
theorem ve_lenSet (hc : X.calm = true) (hm : X.mg "len" = none) (hm2 : X.mg "set" = none) (ha : PE X a (tv X.K cl W f))
    (hg : Gl X "len" := by rfl) (hg2 : Gl X "set" := by rfl) (he : starEach [a] X.env = (false, eval a X.env) :: starEach [] X.env := by rfl) (he2 : starEach [.Call (.Name "set" p2) [a] [] q] X.env = (false, eval (.Call (.Name "set" p2) [a] [] q) X.env) :: starEach [] X.env := by rfl)
    (hpl : (backTo q (starEach [] X.env)).any (·.1) = false := by rfl) (hpl2 : (backTo pos (starEach [] X.env)).any (·.1) = false := by rfl) :
    PE X (.Call (.Name "len" p) [.Call (.Name "set" p2) [a] [] q] [] pos) (tv X.K cl W (fun ρ => (f ρ).bind fun x => opt (lenSetP x))) :=
  peWeak (pe_callB cr_lenS hg hm boot_len (pa_cons (pe_callTy (cr_setS hc) hg2 hm2 boot_set (pa_cons ha pa_nil he) (he := he) (hpl := hpl)) pa_nil he2) (he := he2) (hpl := hpl2)) fun σ H Q ⟨Hs, ρ, E, h⟩ => by
    refine mk_set E h (fun xs zs p Hs1 H1 ev hz hk X1 hp h1 => ?_) fun v ev hn => ?_
    · refine ⟨p, zs, rfl, hp, ?_⟩
      have e : lenSetP (.lst xs) = some (.int ((ded zs).length : Int)) := by
        show ((strsP xs).bind fun zs => if setOk zs = true then some (PV.int ((ded zs).length : Int)) else none) = _
        rw [hz]
        exact if_pos hk
      rw [e] at h1
      exact h1.here X1.sub (.int _)
    · cases v with
      | lst xs =>
        have hn : opt ((strsP xs).bind fun zs => if setOk zs = true then some (PV.int ((ded zs).length : Int)) else none) ≠ .stuck := hn
        cases e : strsP xs with
        | none => rw [e] at hn; exact absurd rfl hn
        | some zs =>
          rw [e] at hn
          by_cases c : setOk zs = true
          · exact ⟨xs, zs, rfl, e, c⟩
          · refine absurd ?_ hn
            show opt (if setOk zs = true then some (PV.int ((ded zs).length : Int)) else none) = R.stuck
            rw [if_neg c]
            rfl
      | _ => exact absurd rfl hn
end
end VL
namespace VL
open PySem PySem.Spec PyProof.Rows L2
/-- the texts that a set is made of -/
def txtsV : PV → Option (List Str)
  | .lst xs => (strsP xs).bind fun zs => if setOk zs = true then some zs else none
  | _ => none
theorem txtsV_ok {v : PV} {zs : List Str} (h : txtsV v = some zs) : ∃ xs, v = .lst xs ∧ strsP xs = some zs ∧ setOk zs = true := by
  cases v with
  | lst xs =>
    replace h : ((strsP xs).bind fun zs => if setOk zs = true then some zs else none) = some zs := h
    cases e : strsP xs with
    | none => rw [e] at h; cases h
    | some ys =>
      rw [e] at h
      replace h : (if setOk ys = true then some ys else none) = some zs := h
      split at h
      · rename_i c
        cases h
        exact ⟨xs, rfl, e, c⟩
      · cases h
  | _ => cases h
def eSetCmp (F : Bool → Bool) (f g : Ex) : Ex := fun ρ => (f ρ).bind fun x => (opt (txtsV x)).bind fun zs => (g ρ).bind fun y => (opt (txtsV y)).bind fun ws => .ok (.bl (F (setEq zs ws)))
section
variable {X : Cx} {cl : Nat → Addr} {W : WX} {a b : Expr} {f g : Ex} {p p2 p3 q q2 pos : Pos}
theorem mk_set2 {α' β' : Type} {rel' : Hp → β' → α' → Prop} {Q : VK} {σ : St} {H : Hp} {h : List Str → R α'} {Q0 : β' → Hp → Prop} {Hs : Hp} {ρ : Ev} (E : PEnv X.K cl Hs H σ ρ) (hg : GP X.K cl rel' W Hs H σ ((f ρ).bind fun x => (opt (txtsV x)).bind h) Q0)
    (k : ∀ zs p Hs1 H1, Ext Hs H Hs1 H1 → H1 p = some (SetS X.prog X.w p zs) → GP X.K cl rel' W Hs1 H1 σ (h zs) Q0 → Q (.ref p) H1) : tCB (rSetS X.K X.prog X.w) (tCons (tv X.K cl W f) tNil) σ H Q := by
  refine gv_bind E hg fun v x Hs1 H1 ev X1 rx h1 => ?_
  cases e : txtsV v with
  | none => rw [e] at h1; exact h1.elim
  | some zs =>
    rw [e] at h1
    obtain ⟨xs, rfl, hz, hk⟩ := txtsV_ok e
    show rSetS X.K X.prog X.w [x] H1 Q
    cases rx with
    | lst hl ra =>
      refine ⟨_, zs, rfl, ?_, hk, fun p n => ?_⟩
      · rw [← ra.texts hz]; exact .of (X1.sub _ _ hl)
      · have X2 := Ext.newO (o := SetS X.prog X.w p zs) X1.sub n
        exact k zs p _ _ (X1.trans X2) upd_same (GP.up (r := h zs) h1 X2)
theorem ve_setCmp {op : CmpOp} {F : Bool → Bool} (ho : OpR X (compareOp op) (rEqS X.prog X.w F)) (hc : X.calm = true) (hm2 : X.mg "set" = none) (ha : PE X a (tv X.K cl W f)) (hb : PE X b (tv X.K cl W g))
    (hg2 : Gl X "set" := by rfl) (hea : starEach [a] X.env = (false, eval a X.env) :: starEach [] X.env := by rfl) (heb : starEach [b] X.env = (false, eval b X.env) :: starEach [] X.env := by rfl)
    (hpl : (backTo q (starEach [] X.env)).any (·.1) = false := by rfl) (hpl2 : (backTo q2 (starEach [] X.env)).any (·.1) = false := by rfl) (hmk : behindInMarks op (.Call (.Name "set" p3) [b] [] q2) = false := by first | exact nomark _ | rfl) :
    PE X (.Compare (.Call (.Name "set" p2) [a] [] q) [op] [.Call (.Name "set" p3) [b] [] q2] pos) (tv X.K cl W (eSetCmp F f g)) :=
  peWeak (pe_cmpR ho (pe_callTy (cr_setS hc) hg2 hm2 boot_set (pa_cons ha pa_nil hea) (he := hea) (hpl := hpl)) (pe_callTy (cr_setS hc) hg2 hm2 boot_set (pa_cons hb pa_nil heb) (he := heb) (hpl := hpl2)) hmk) fun σ H Q ⟨Hs, ρ, E, h⟩ => by
    refine mk_set2 E h fun zs p Hs1 H1 X1 hp h1 => ?_
    refine mk_set2 (E.up X1) h1 fun ws p2 Hs2 H2 X2 hp2 h2 => ?_
    exact ⟨p, p2, zs, ws, rfl, rfl, X2.same _ _ hp, hp2, h2.here X2.sub (.bl _)⟩
/-- .. as a test -/
def cSetCmp (F : Bool → Bool) (f g : Ex) : Ev → R Bool := fun ρ => (f ρ).bind fun x => (opt (txtsV x)).bind fun zs => (g ρ).bind fun y => (opt (txtsV y)).bind fun ws => .ok (F (setEq zs ws))
theorem vt_setCmp {op : CmpOp} {F : Bool → Bool} (ho : OpR X (compareOp op) (rEqS X.prog X.w F)) (hc : X.calm = true) (hm2 : X.mg "set" = none) (ha : PE X a (tv X.K cl W f)) (hb : PE X b (tv X.K cl W g))
    (hg2 : Gl X "set" := by rfl) (hea : starEach [a] X.env = (false, eval a X.env) :: starEach [] X.env := by rfl) (heb : starEach [b] X.env = (false, eval b X.env) :: starEach [] X.env := by rfl)
    (hpl : (backTo q (starEach [] X.env)).any (·.1) = false := by rfl) (hpl2 : (backTo q2 (starEach [] X.env)).any (·.1) = false := by rfl) (hmk : behindInMarks op (.Call (.Name "set" p3) [b] [] q2) = false := by first | exact nomark _ | rfl) :
    PT X (.Compare (.Call (.Name "set" p2) [a] [] q) [op] [.Call (.Name "set" p3) [b] [] q2] pos) (tt X.K cl W (cSetCmp F f g)) :=
  ptWeak (pt_cmpR ho (pe_callTy (cr_setS hc) hg2 hm2 boot_set (pa_cons ha pa_nil hea) (he := hea) (hpl := hpl)) (pe_callTy (cr_setS hc) hg2 hm2 boot_set (pa_cons hb pa_nil heb) (he := heb) (hpl := hpl2)) hmk) fun σ H Q ⟨Hs, ρ, E, h⟩ => by
    refine mk_set2 E h fun zs p Hs1 H1 X1 hp h1 => ?_
    refine mk_set2 (E.up X1) h1 fun ws p2 Hs2 H2 X2 hp2 h2 => ?_
    exact ⟨p, p2, zs, ws, rfl, rfl, X2.same _ _ hp, hp2, _, rfl, h2.here X2.sub rfl⟩
/-- runs -/
abbrev eLenSet (f : Ex) : Ex := fun ρ => (f ρ).bind fun x => opt (lenSetP x)
end
theorem eLenSet_S (f : Ex) (ρ : Ev) : eLenSet f ρ = (f ρ).bind fun x => opt (lenSetP x) := rfl
theorem eSetCmp_S (F : Bool → Bool) (f g : Ex) (ρ : Ev) : eSetCmp F f g ρ = (f ρ).bind fun x => (opt (txtsV x)).bind fun zs => (g ρ).bind fun y => (opt (txtsV y)).bind fun ws => .ok (.bl (F (setEq zs ws))) := rfl
theorem cSetCmp_S (F : Bool → Bool) (f g : Ex) (ρ : Ev) : cSetCmp F f g ρ = (f ρ).bind fun x => (opt (txtsV x)).bind fun zs => (g ρ).bind fun y => (opt (txtsV y)).bind fun ws => .ok (F (setEq zs ws)) := rfl
theorem txtsV_l {zs : List Str} (h : setOk zs = true) : txtsV (.lst (zs.map .str)) = some zs := by
  show ((strsP (zs.map .str)).bind fun zs => if setOk zs = true then some zs else none) = some zs
  rw [strsP_map]
  exact if_pos h
theorem lenSetP_l {zs : List Str} (h : setOk zs = true) : lenSetP (.lst (zs.map .str)) = some (.int ((ded zs).length : Int)) := by
  show ((strsP (zs.map .str)).bind fun zs => if setOk zs = true then some (PV.int ((ded zs).length : Int)) else none) = _
  rw [strsP_map]
  exact if_pos h
end VL
namespace VL
open PySem PySem.Spec PySem.SeqAt PyProof.Rows L2
/-! < and min of nested data -/
def some1 : PyData → Bool
  | .none => false
  | _ => true
theorem some1_ne {d : PyData} (h : some1 d = true) : d ≠ .none := fun z => by rw [z] at h; cases h
/-- < of two data of one kind -/
def ltD (x y : PV) : Option PV := match x.data, y.data with
  | some d, some e => if PySem.W.alike d e = true ∧ some1 d = true ∧ d.depth ≤ 64 then some (.bl (PySem.W.dataLt d e)) else none
  | _, _ => none
section
variable {X : Cx} {cl : Nat → Addr}
def rLtD (K : PySem.W.Frag) : R2 := fun x y H Q => ∃ d e, Dp K H x d ∧ Dp K H y e ∧ PySem.W.alike d e = true ∧ some1 d = true ∧ d.depth ≤ 64 ∧ Q (.bl (PySem.W.dataLt d e)) H
theorem or_ltD (hu : X.A.units + 64 < cLine) : OpR X (compareOp .Lt) (rLtD X.K) := by
  intro pins s σ H x y v u Q I rx ry h
  obtain ⟨d, e, hd, he, ha, hn, h64, q⟩ := h
  obtain ⟨as, r1⟩ := Dp.reads I d x v hd rx
  obtain ⟨bs, r2⟩ := Dp.reads I e y u he ry
  exact PySem.W.lt_data r1 r2 ha (some1_ne hn) (by have := Nat.min_le_left d.depth e.depth; omega) ⟨.bl _, H, I, rfl, q⟩
theorem ov_ltD : OpV X.K cl (rLtD X.K) ltD := by
  intro W σ Hs H x y u v w Q s rx ry e q
  unfold ltD at e
  split at e
  · rename_i d e1 h1 h2
    split at e
    · rename_i hs
      cases e
      exact ⟨d, e1, (rx.mono s).dp h1, (ry.mono s).dp h2, hs.1, hs.2.1, hs.2.2, q.here s (.bl _)⟩
    · cases e
  · cases e
/-! min -/
def lessAt (ds : List PyData) : Nat → Nat → Bool := fun i j => PySem.W.dataLt (ds.getD i .none) (ds.getD j .none)
def alikeB (ds : List PyData) : Bool := (ds.all fun x => ds.all fun y => PySem.W.alike x y) && ds.all some1
theorem alikeB_ok {ds : List PyData} (h : alikeB ds = true) : PySem.W.AlikeAll ds := by
  unfold alikeB at h
  rw [Bool.and_eq_true, List.all_eq_true, List.all_eq_true] at h
  exact ⟨fun x hx y hy => List.all_eq_true.mp (h.1 x hx) y hy, fun x hx => some1_ne (h.2 x hx)⟩
/-- the least of nested data -/
def minDP : List PV → Option PV
  | [.lst xs] => match PV.datas xs with
    | some (d :: ds) => if alikeB (d :: ds) = true ∧ PyData.depthAll (d :: ds) ≤ 60 then xs[argBest (lessAt (d :: ds)) ds.length]? else none
    | _ => none
  | _ => none
def rMinD (K : PySem.W.Frag) : List V → Hp → VK → Prop := fun vs H Q => ∃ (a : Addr) (xs : List V) (d : PyData) (ds : List PyData) (y : V), vs = [V.ref a] ∧ SqL K H a xs ∧ DpAll K H xs (d :: ds) ∧ alikeB (d :: ds) = true ∧ PyData.depthAll (d :: ds) ≤ 60 ∧ xs[argBest (lessAt (d :: ds)) ds.length]? = some y ∧ Q y H
theorem cr_minD (hc : X.calm = true) (hu : X.A.units + 64 < cLine) : CallR X (.builtin "min") (rMinD X.K) := by
  intro pins s σ H vs us Q I r h
  obtain ⟨a, xs, d, ds, y, rfl, hs, hd, ha, h60, hy, q⟩ := h
  obtain ⟨its, rv, pl, _⟩ := I.list hs
  rw [Vals.ref1 r]
  obtain ⟨as, hr⟩ := Dp.readsAll I (d :: ds) xs its hd rv
  have hl : s.heap.IsList a its.toArray := pl.isList
  have hr' : ReadsAll s.heap its.toArray.toList (d :: ds) as := by simpa using hr
  have hn : its.toArray.size = ds.length + 1 := PySem.W.readsAll_len hr'
  refine call_min_walkH (PySem.W.iter_listW (A := X.A.in1) (I.ok.hd hc) hl fun s₂ e W st hfp hw hk => ?_)
  refine ⟨_, _, _, _, _, _, _, s.heap, _, rfl, W, st, hfp, by omega, hw, hk, PySem.W.cmpIn_lt (A := X.A.in1) hr' (alikeB_ok ha) (by show X.A.units + 1 + _ < _; omega), fun v s' hP m => ?_⟩
  obtain ⟨h', tk, rfl, hk'⟩ := PySem.W.moved_old e rfl m
  obtain ⟨u, hu2, ru⟩ := rv.get hy
  have e1 : its.toArray.size - 1 = ds.length := by omega
  have hP' : its.toArray[argBest (lessAt (d :: ds)) (its.toArray.size - 1)]? = some v := hP
  rw [e1] at hP'
  have e2 : its[argBest (lessAt (d :: ds)) ds.length]? = some v := by simpa using hP'
  rw [hu2] at e2
  cases e2
  exact ⟨y, H, I.kept hk', ru, q⟩
theorem cv_minD : CallV X.K cl (rMinD X.K) minDP := by
  intro W σ Hs H xs us w Q s r e q
  cases r with
  | nil => cases e
  | cons r t =>
    cases t with
    | cons _ _ => cases r <;> cases e
    | nil =>
      cases r with
      | @lst a vs xs h ra =>
        replace e : (match PV.datas xs with
          | some (d :: ds) => if alikeB (d :: ds) = true ∧ PyData.depthAll (d :: ds) ≤ 60 then xs[argBest (lessAt (d :: ds)) ds.length]? else none
          | _ => none) = some w := e
        split at e
        · rename_i d ds e1
          split at e
          · rename_i hs
            obtain ⟨v, g1, g2⟩ := ra.get e
            exact ⟨a, vs, d, ds, v, rfl, .of (s _ _ h), (ra.mono s).dp e1, hs.1, hs.2, g1, q.here s g2⟩
          · cases e
        · cases e
      | _ => cases e
end
end VL
namespace VL
open PySem PySem.Spec PySem.SeqAt PyProof.Rows L2
/-! ### new own things: dicts, objects -/
section
variable (K : PySem.W.Frag) (cl : Nat → Addr) (W : WX)
def GN (Hs H : Hp) (σ : St) (r : R PV) (Q : VK) : Prop := match r with
  | .ok v => ∀ a Hs' H', Ext Hs H Hs' H' → OwnAt K cl H' Hs' a v → Hs' a = none → H a = none → Q (.ref a) H'
  | .exc c fs => ∀ d fvs Hs' H', Ext Hs H Hs' H' → Hs' d = some (.xd fvs) → RpF K cl Hs' fvs fs → W (.ref (cl c)) (some d) σ H'
  | .stuck => False
def tn (f : Ex) : TE := fun σ H Q => ∃ Hs ρ, PEnv K cl Hs H σ ρ ∧ GN K cl W Hs H σ (f ρ) Q
end
section
variable {K : PySem.W.Frag} {cl : Nat → Addr} {W : WX} {Hs Hs1 H H1 : Hp} {σ : St} {ρ : Ev}
theorem GN.up {r : R PV} {Q : VK} (h : GN K cl W Hs H σ r Q) (s : Ext Hs H Hs1 H1) : GN K cl W Hs1 H1 σ r Q := by
  cases r with
  | ok v => exact fun a Hs' H' t e n1 n2 => h a Hs' H' (s.trans t) e n1 (by
      cases q : H a with
      | none => rfl
      | some o => rw [s.same a o q] at n2; cases n2)
  | exc c fs => exact fun d fvs Hs' H' t => h d fvs Hs' H' (s.trans t)
  | stuck => exact h
theorem gn_bind {α β : Type} {rel : Hp → β → α → Prop} {Q : β → Hp → Prop} {f : Ev → R α} {k : α → R PV} {Q' : VK} (E : PEnv K cl Hs H σ ρ) (h : GN K cl W Hs H σ ((f ρ).bind k) Q')
    (hk : ∀ v x Hs1 H1, f ρ = .ok v → Ext Hs H Hs1 H1 → rel Hs1 x v → GN K cl W Hs1 H1 σ (k v) Q' → Q x H1) : gv K cl rel W f σ H Q := by
  refine ⟨Hs, ρ, E, ?_⟩
  cases e : f ρ with
  | ok v =>
    rw [e] at h
    exact fun x Hs1 H1 s1 rx => hk v x Hs1 H1 e s1 rx (GN.up h s1)
  | exc c fs => rw [e] at h; exact h
  | stuck => rw [e] at h; exact h
theorem RpK.vals : ∀ {vs : List (Key × V)} {xs : List (Key × PV)}, RpK K cl Hs vs xs → RpA K cl Hs (vs.map (·.2)) (xs.map (·.2))
  | _, _, .nil => .nil
  | _, _, .cons r t => .cons r t.vals
theorem RpK.nolist {P : Addr → Prop} (n : NoL P Hs) : ∀ {vs : List (Key × V)} {xs : List (Key × PV)}, RpK K cl Hs vs xs → PV.nols (xs.map (·.2)) = true → RpK K cl (cut P Hs) vs xs
  | _, _, .nil, _ => .nil
  | _, _, .cons r t, e => by
    simp only [List.map_cons, PV.nols, Bool.and_eq_true] at e
    exact .cons (r.nolist n e.1) (t.nolist n e.2)
theorem RpF.nolist {P : Addr → Prop} (n : NoL P Hs) : ∀ {vs : List (Str × V)} {xs : List (Str × PV)}, RpF K cl Hs vs xs → PV.nols (xs.map (·.2)) = true → RpF K cl (cut P Hs) vs xs
  | _, _, .nil, _ => .nil
  | _, _, .cons r t, e => by
    simp only [List.map_cons, PV.nols, Bool.and_eq_true] at e
    exact .cons (r.nolist n e.1) (t.nolist n e.2)
end
/-- no list within the own thing -/
def PV.noi : PV → Bool
  | .lst xs => PV.nols xs
  | .dct kvs => PV.nols (kvs.map (·.2))
  | .obj _ fs => PV.nols (fs.map (·.2))
  | _ => false
theorem OwnAt.nolist {K : PySem.W.Frag} {cl : Nat → Addr} {P : Addr → Prop} {H Hs : Hp} {a : Addr} {v : PV} (n : NoL P Hs) (o : OwnAt K cl H Hs a v) (e : v.noi = true) : OwnAt K cl H (cut P Hs) a v := by
  cases v with
  | lst xs => obtain ⟨vs, e1, r⟩ := o; exact ⟨vs, e1, r.nolist n e⟩
  | dct xs => obtain ⟨vs, e1, r⟩ := o; exact ⟨vs, e1, r.nolist n e⟩
  | obj c xs => obtain ⟨dx, vs, e1, r⟩ := o; exact ⟨dx, vs, e1, r.nolist n e⟩
  | _ => exact o.elim
/-- an expression that makes a thing, within a statement -/
def onN (f : Ex) (bs : List Bool) (ρ : Env) (k : PV → Env → Out) : Out := match f (vw bs ρ) with
  | .ok v => k v (settle bs v.noi ρ)
  | .exc c fs => .exc c fs (fr bs ρ)
  | .stuck => .stuck
def sOm (i : Nat) (bs : List Bool) (f : Ex) : Env → Out := fun ρ => onN f bs ρ fun v ρ' => .next (ρ'.set i (.om none v))
section
variable {X : Cx} {cl : Nat → Addr} {W : WX} {He H0 : Hp} {pin : List Addr} {pos : Pos} {bs : List Bool}
theorem onN_use {g : Ex} {k : PV → Env → Out} {D : Ends} {Q : VK} {σ : St} {Hs H : Hp} {ρ : Env} {K : PySem.W.Frag} (S : SEnv K cl He H0 pin Hs H σ ρ) (h : Post K cl He H0 pin W Hs D (onN g bs ρ k))
    (hk : ∀ v a Hs1 H1 ρ1, Sub Hs Hs1 → SEnv K cl He H0 pin Hs1 H1 σ ρ1 → OwnAt K cl H1 Hs1 a v → Hs1 a = none → H0 a = none → (∀ (j : Nat) (p : Option Nat × PV), VL.ownAt ρ1 j = some p → σ[j]? ≠ some (some (V.ref a))) → Post K cl He H0 pin W Hs1 D (k v ρ1) → Q (.ref a) H1) : tn K cl W g σ H Q := by
  refine ⟨_, _, S.pe bs, ?_⟩
  unfold onN at h
  have s1 := (S.plusExt bs).1
  have hH0 : ∀ {a : Addr}, H a = none → H0 a = none := fun {a} n => by
    cases q : H0 a with
    | none => rfl
    | some o => rw [S.ext.same a o q] at n; cases n
  have hnew : ∀ {a : Addr}, H a = none → ∀ (j : Nat) (p : Option Nat × PV), VL.ownAt ρ j = some p → σ[j]? ≠ some (some (V.ref a)) := fun {a} n j p e z => by
    obtain ⟨b, e1, o, _⟩ := S.ow j p.1 p.2 e
    rw [z] at e1
    cases e1
    obtain ⟨w, e2, _⟩ := o.some
    rw [n] at e2; cases e2
  cases e : g (vw bs ρ) with
  | ok v =>
    rw [e] at h
    replace h : Post K cl He H0 pin W Hs D (k v (settle bs v.noi ρ)) := h
    intro a Hs1 H1 X o n1 n2
    cases en : v.noi with
    | false =>
      have es : settle bs v.noi ρ = fr bs ρ := by unfold settle; rw [en]; rfl
      have up := s1.trans X.fs
      rw [es] at h
      exact hk v a Hs1 H1 _ up (S.froze X) o n1 (hH0 n2) (fun j p e => hnew n2 j p (fr_own e).1) (Post.up h up)
    | true =>
      have es : settle bs v.noi ρ = ρ := by unfold settle; rw [en]; rfl
      obtain ⟨S1, up⟩ := S.back X
      rw [es] at h
      have nP : ¬ isOwn bs ρ σ a := fun p => by
        obtain ⟨vs, q, _⟩ := (S.ownAt p).1
        rw [n2] at q; cases q
      refine hk v a _ H1 _ up S1 (o.nolist ⟨fun b p => ?_⟩ en) (by rw [cut_no nP]; exact n1) (hH0 n2) (hnew n2) (Post.up h up)
      obtain ⟨us, e2, k2⟩ := (S.ownAt p).1
      exact ⟨us, X.fs _ _ (by rw [plus_yes p]; exact e2), k2⟩
  | exc c fs =>
    rw [e] at h
    intro d fvs Hs1 H1 X e1 r
    exact h σ Hs1 H1 d fvs (s1.trans X.fs) (S.froze X) e1 r
  | stuck => rw [e] at h; exact h
theorem vs_om {i : Nat} {x : Str} {p' : Pos} {e : Expr} {g : Ex} (hN : X.N.Nodup) (he : PE X e (tn X.K cl W g)) (hi : X.N[i]? = some x := by rfl) (hx : Loc X.env.scope x := by first | exact Or.inl rfl | exact Or.inr rfl) (hs : swapsWith e (some (.Name x p')) pos.line X.env = pure false := by rfl) (hf : X.fn x = true ∨ X.env.scope.names.lookup x = some .local := by first | exact .inl rfl | exact .inr rfl | assumption) :
    PV1 X cl W He H0 pin (.Assign [.Name x p'] e pos) (sOm i bs g) :=
  psWeak (ps_set hN hi hx he hs hf) fun D σ H ⟨Hs, ρ, S, h⟩ => onN_use S h fun v a Hs1 H1 ρ1 up S1 o n1 n0 new hp => hp _ _ _ (Sub.refl _) (S1.setOm rfl o n1 n0 new i)
end
/-! ### dicts -/
def keyP : PV → Option Key
  | .int i => some (.inl i)
  | .str x => some (.inr x)
  | _ => none
def keyPV : Key → PV
  | .inl i => .int i
  | .inr x => .str x
def putP (kvs : List (Key × PV)) (k : Key) (v : PV) : List (Key × PV) :=
  if (kvs.any fun kv => decide (kv.1 = k)) = true then kvs.map (fun kv => if kv.1 = k then (kv.1, v) else kv) else kvs ++ [(k, v)]
def mergeP (kvs more : List (Key × PV)) : List (Key × PV) := more.foldl (fun acc kv => putP acc kv.1 kv.2) kvs
def lkP (kvs : List (Key × PV)) (k : Key) : Option PV := (kvs.find? fun kv => decide (kv.1 = k)).map (·.2)
section
variable {K : PySem.W.Frag} {cl : Nat → Addr} {Hs : Hp}
theorem keyP_rp {x : V} {u : PV} {k : Key} (r : Rp K cl Hs x u) (e : keyP u = some k) : x = kV k := by
  cases r with
  | int i => cases e; rfl
  | str i => cases e; rfl
  | _ => cases e
theorem keyPV_rp (k : Key) : Rp K cl Hs (kV k) (keyPV k) := by cases k with
  | inl i => exact .int i
  | inr x => exact .str x
theorem RpK.length : ∀ {vs : List (Key × V)} {xs : List (Key × PV)}, RpK K cl Hs vs xs → vs.length = xs.length
  | _, _, .nil => rfl
  | _, _, .cons _ t => congrArg (· + 1) t.length
theorem RpK.getK {k : Key} {w : V} : ∀ {vs : List (Key × V)} {kvs : List (Key × PV)} {i : Nat}, RpK K cl Hs vs kvs → vs[i]? = some (k, w) → ∃ u, kvs[i]? = some (k, u)
  | _, _, _, .nil, e => by simp at e
  | _, _, 0, .cons (x := x) r t, e => by simp at e; exact ⟨x, by simp [e.1]⟩
  | _, _, i + 1, .cons r t, e => by
    obtain ⟨u, h⟩ := RpK.getK (i := i) t (by simpa using e)
    exact ⟨u, by simpa using h⟩
theorem RpK.any (k : Key) : ∀ {vs : List (Key × V)} {xs : List (Key × PV)}, RpK K cl Hs vs xs → (vs.any fun kv => decide (kv.1 = k)) = xs.any fun kv => decide (kv.1 = k)
  | _, _, .nil => rfl
  | _, _, .cons r t => by simp only [List.any_cons, t.any k]
theorem RpK.over {k : Key} {v : V} {u : PV} (r0 : Rp K cl Hs v u) : ∀ {vs : List (Key × V)} {xs : List (Key × PV)}, RpK K cl Hs vs xs → RpK K cl Hs (vs.map fun kv => if kv.1 = k then (kv.1, v) else kv) (xs.map fun kv => if kv.1 = k then (kv.1, u) else kv)
  | _, _, .nil => .nil
  | _, _, .cons (k := k') r t => by
    simp only [List.map_cons]
    by_cases e : k' = k
    · rw [if_pos e, if_pos e]; exact .cons r0 (t.over r0)
    · rw [if_neg e, if_neg e]; exact .cons r (t.over r0)
theorem RpK.snoc {k : Key} {v : V} {u : PV} (r0 : Rp K cl Hs v u) : ∀ {vs : List (Key × V)} {xs : List (Key × PV)}, RpK K cl Hs vs xs → RpK K cl Hs (vs ++ [(k, v)]) (xs ++ [(k, u)])
  | _, _, .nil => .cons r0 .nil
  | _, _, .cons r t => .cons r (t.snoc r0)
theorem RpK.put {k : Key} {v : V} {u : PV} (r0 : Rp K cl Hs v u) {vs : List (Key × V)} {xs : List (Key × PV)} (r : RpK K cl Hs vs xs) : RpK K cl Hs (putK vs k v) (putP xs k u) := by
  unfold putK putP
  rw [r.any k]
  split
  · exact r.over r0
  · exact r.snoc r0
theorem RpK.merge : ∀ {ws vs : List (Key × V)} {ys xs : List (Key × PV)}, RpK K cl Hs ws ys → RpK K cl Hs vs xs → RpK K cl Hs (mergeK vs ws) (mergeP xs ys)
  | _, _, _, _, .nil, r => r
  | _, _, _, _, .cons (k := k) (v := v) (vs := ws) (x := u) (xs := ys) r0 t, r => RpK.merge (ws := ws) (ys := ys) t (r.put r0)
theorem RpK.lk (k : Key) : ∀ {vs : List (Key × V)} {xs : List (Key × PV)}, RpK K cl Hs vs xs → (∀ u, lkP xs k = some u → ∃ v, valV vs k = some v ∧ Rp K cl Hs v u) ∧ (lkP xs k = none → valV vs k = none)
  | _, _, .nil => ⟨fun u e => (by cases e), fun _ => rfl⟩
  | _, _, .cons (k := k') (v := v) (x := x) r t => by
    obtain ⟨a, b⟩ := t.lk k
    unfold lkP valV at *
    by_cases e : k' = k
    · subst e
      simp only [List.find?_cons, decide_true, Option.map_some]
      exact ⟨fun u q => by cases q; exact ⟨_, rfl, r⟩, fun q => by cases q⟩
    · simp only [List.find?_cons, decide_eq_false (show ¬ (k', v).1 = k from e), decide_eq_false (show ¬ (k', x).1 = k from e)]
      exact ⟨a, b⟩
end
def pairsE : List (Ex × Ex) → Ev → R (List (Key × PV))
  | [], _ => .ok []
  | (a, b) :: r, ρ => (a ρ).bind fun x => (b ρ).bind fun y => (opt (keyP x)).bind fun k => (pairsE r ρ).bind fun t => .ok ((k, y) :: t)
def relPP (K : PySem.W.Frag) (cl : Nat → Addr) (Hs : Hp) (vs : List (V × V)) (us : List (Key × PV)) : Prop := ∃ kvs : List (Key × V), vs = kvs.map (fun kv => (kV kv.1, kv.2)) ∧ RpK K cl Hs kvs us
def eDisp (ps : List (Ex × Ex)) : Ex := fun ρ => (pairsE ps ρ).bind fun kvs => .ok (.dct (mergeP [] kvs))
def eDct0 : Ex := fun _ => .ok (.dct [])
section
variable {X : Cx} {cl : Nat → Addr} {W : WX} {pos : Pos}
theorem pairs_use {K : PySem.W.Frag} {σ : St} : ∀ {ps : List (Ex × Ex)} {H : Hp} {Q : List (V × V) → Hp → Prop}, gv K cl (relPP K cl) W (pairsE ps) σ H Q → tPairs (ps.map fun p => (tv K cl W p.1, tv K cl W p.2)) σ H Q
  | [], H, Q, ⟨Hs, ρ, E, h⟩ => h [] Hs H (Ext.refl E.sub) ⟨[], rfl, .nil⟩
  | (a, b) :: r, H, Q, ⟨Hs, ρ, E, h⟩ => by
    show tv K cl W a σ H fun x H1 => tv K cl W b σ H1 fun y H2 => tPairs _ σ H2 fun ps H3 => Q ((x, y) :: ps) H3
    refine gv_bind E h fun v x Hs1 H1 _ s1 rx h1 => ?_
    refine gv_bind (E.up s1) h1 fun u y Hs2 H2 _ t1 ry h2 => ?_
    have E2 := (E.up s1).up t1
    cases e : keyP v with
    | none => rw [e] at h2; exact h2.elim
    | some k =>
      rw [e] at h2
      have ek := keyP_rp rx e
      refine pairs_use (gv_bind (f := pairsE r) E2 (k := fun t => .ok ((k, u) :: t)) h2 fun w z Hs3 H3 _ w1 rz h3 => ?_)
      obtain ⟨kvs, e3, rk⟩ := rz
      exact h3.here w1.sub ⟨(k, y) :: kvs, by rw [e3, ek]; rfl, .cons (ry.mono w1.fs) rk⟩
theorem new_dct {p : Addr} {vs : List (Key × V)} {xs : List (Key × PV)} {Q : VK} {K : PySem.W.Frag} {Hs H : Hp} {σ : St} (h : GN K cl W Hs H σ (.ok (.dct xs)) Q) (s : Sub Hs H) (n : H p = none) (r : RpK K cl Hs vs xs) : Q (.ref p) (upd H p (.dK vs)) :=
  h p Hs _ (Ext.newO s n) ⟨vs, upd_same, r⟩ (s.none n) n
theorem vn_d0 : PE X (.Dict [] [] pos) (tn X.K cl W eDct0) := peWeak pe_dnewK fun σ H Q ⟨Hs, ρ, E, h⟩ p n => new_dct h E.sub n .nil
theorem pps_v0 : PPs X pos [] [] (([] : List (Ex × Ex)).map fun p => (tv X.K cl W p.1, tv X.K cl W p.2)) := pps_nil
theorem pps_v {k v : Expr} {ks : List (Option Expr)} {vs : List Expr} {a b : Ex} {r : List (Ex × Ex)} (hk : PE X k (tv X.K cl W a)) (hv : PE X v (tv X.K cl W b)) (hr : PPs X pos ks vs (r.map fun p => (tv X.K cl W p.1, tv X.K cl W p.2))) :
    PPs X pos (some k :: ks) (v :: vs) (((a, b) :: r).map fun p => (tv X.K cl W p.1, tv X.K cl W p.2)) := pps_cons hk hv hr
theorem pairsE_len : ∀ {ps : List (Ex × Ex)} {ρ : Ev} {kvs : List (Key × PV)}, pairsE ps ρ = .ok kvs → kvs.length = ps.length
  | [], _, _, e => by cases e; rfl
  | (a, b) :: r, ρ, kvs, e => by
    unfold pairsE at e
    cases e1 : a ρ with
    | ok x =>
      cases e2 : b ρ with
      | ok y =>
        cases e3 : keyP x with
        | some k =>
          cases e4 : pairsE r ρ with
          | ok t =>
            simp only [e1, e2, e3, e4, R.bind, opt] at e
            cases e
            simp [pairsE_len e4]
          | _ => simp only [e1, e2, e3, e4, R.bind, opt] at e; cases e
        | none => simp only [e1, e2, e3, R.bind, opt] at e; cases e
      | _ => simp only [e1, e2, R.bind] at e; cases e
    | _ => simp only [e1, R.bind] at e; cases e
theorem vn_disp {keys : List (Option Expr)} {values : List Expr} {ps : List (Ex × Ex)} (h : PPs X pos keys values (ps.map fun p => (tv X.K cl W p.1, tv X.K cl W p.2))) (hall : keys.all (·.isSome) = true := by rfl) (hl : keys.length = values.length := by rfl) (h0 : keys ≠ [] := by exact List.cons_ne_nil _ _) (h15 : keys.length ≤ 15 := by decide) (hp : ps.length = keys.length := by rfl) :
    PE X (.Dict keys values pos) (tn X.K cl W (eDisp ps)) :=
  peWeak (pe_disp h hall hl h0 h15) fun σ H Q ⟨Hs, ρ, E, h⟩ p n => by
    have X1 : Ext Hs H Hs (upd H p (.dK [])) := Ext.newO E.sub n
    have E1 := E.up X1
    refine pairs_use ?_
    refine ⟨Hs, ρ, E1, ?_⟩
    unfold eDisp at h
    cases e : pairsE ps ρ with
    | ok kvs =>
      rw [e] at h
      intro vs Hs2 H2 X2 ⟨ws, ew, rw_⟩
      have hp2 : H2 p = some (.dK []) := X2.same _ _ upd_same
      have n2 : Hs2 p = none := X2.nw p (by rw [upd_same]; simp) (E.sub.none n)
      refine ⟨hp2, ws, ew, by rw [rw_.length, pairsE_len e, hp]; exact h15, ?_⟩
      have X3 : Ext Hs H Hs2 (upd H2 p (.dK (mergeK [] ws))) := by
        refine ⟨X2.fs, X2.sub.upd n2, fun b o q => ?_, fun b hb q => X2.nw b (fun z => hb ?_) q⟩
        · have hb : b ≠ p := fun z => by rw [z, n] at q; cases q
          rw [upd_ne hb]
          exact X2.same b o (X1.same b o q)
        · cases q2 : H b with
          | none => rfl
          | some o => rw [X1.same b o q2] at z; cases z
      exact h p Hs2 _ X3 ⟨_, upd_same, rw_.merge .nil⟩ n2 n
    | exc c fs =>
      rw [e] at h
      exact fun d fvs Hs' H' X2 => h d fvs Hs' H' (X1.trans X2)
    | stuck => rw [e] at h; exact h
end
/-! the own dict is changed -/
def getDc (ρ : Env) (i : Nat) : Option (Option Nat × List (Key × PV)) := match ρ[i]? with
  | some (.om t (.dct kvs)) => some (t, kvs)
  | _ => none
theorem getDc_eq {ρ : Env} {i : Nat} {t : Option Nat} {kvs : List (Key × PV)} (h : getDc ρ i = some (t, kvs)) : ρ[i]? = some (.om t (.dct kvs)) := by
  unfold getDc at h
  split at h
  · rename_i e; cases h; exact e
  · cases h
/-- d[k] = v -/
def sPutD (i : Nat) (bs : List Bool) (fv fi : Ex) : Env → Out := fun ρ => onE PV.nol fv bs ρ fun v ρ1 => match getDc ρ1 i with
  | none => .stuck
  | some _ => onE PV.nol fi bs ρ1 fun k ρ2 => match getDc ρ2 i, keyP k with
    | some (t, kvs), some key => if kvs.length < sizeLine then .next (ρ2.set i (.om t (.dct (putP kvs key v)))) else .stuck
    | _, _ => .stuck
section
variable {X : Cx} {cl : Nat → Addr} {W : WX} {He H0 : Hp} {pin : List Addr} {pos : Pos} {bs : List Bool}
theorem vs_putD {i : Nat} {x : Str} {px p2 : Pos} {e ie : Expr} {f fi : Ex} (hu : X.A.units + 1 < cLine) (he : PE X e (tv X.K cl W f)) (hie : PE X ie (tv X.K cl W fi)) (hi : X.N[i]? = some x := by rfl) (hv : Vis X.env.scope x := by first | exact Or.inl rfl | exact Or.inr (Or.inl rfl) | exact Or.inr (Or.inr rfl)) (hd : (x == ("__debug__" : Str)) = false := by decide) (hcd : (x == ("__classdict__" : Str)) = false := by decide)
    (ha : ∀ v, assign (.Subscript (.Name x px) ie p2) X.env v = (do
      let ov ← holding [v] (eval (.Name x px) X.env)
      let iv ← holding [v, ov] (eval ie X.env)
      standAt p2
      holding [v, ov, iv] (setItem ov iv v)
      release [v, ov, iv] []) := by intro _; rfl) (hs : swapsWithSole [.Subscript (.Name x px) ie p2] e pos.line X.env = pure false := by rfl) (hw : swappedStores [.Subscript (.Name x px) ie p2] e X.env = pure none := by rfl) (h1 : (assignEach [.Subscript (.Name x px) ie p2] X.env).map (·.2) = [assign (.Subscript (.Name x px) ie p2) X.env] := by rfl) :
    PV1 X cl W He H0 pin (.Assign [.Subscript (.Name x px) ie p2] e pos) (sPutD i bs f fi) :=
  psWeak (ps_asg he (pg_sub (pe_var hi hv hd hcd) hie (set_dict hu) ha) hs hw h1) fun D σ H ⟨Hs, ρ, S, h⟩ => by
    refine onE_use bears_v S h fun v xv Hs1 H1 ρ1 up S1 r _ _ _ hp => ?_
    cases e0 : getDc ρ1 i with
    | none => simp only [e0] at hp; exact hp.elim
    | some p0 =>
      simp only [e0] at hp
      obtain ⟨a, h1, _⟩ := S1.ow i p0.1 (.dct p0.2) (ownAt_om (getDc_eq e0))
      refine ⟨_, h1, ?_⟩
      refine onE_use bears_v S1 hp fun k kv Hs2 H2 ρ2 up2 S2 rk _ _ _ hp2 => ?_
      cases e2 : getDc ρ2 i with
      | none => simp only [e2] at hp2; exact hp2.elim
      | some p1 =>
        obtain ⟨t, kvs⟩ := p1
        cases e3 : keyP k with
        | none => simp only [e2, e3] at hp2; exact hp2.elim
        | some key =>
          simp only [e2, e3] at hp2
          split at hp2
          · rename_i hlt
            have eo := ownAt_om (getDc_eq e2)
            obtain ⟨b, g1, ⟨vs, g2, g3⟩, g4, g5, g6⟩ := S2.ow i t (.dct kvs) eo
            rw [h1] at g1
            cases g1
            have ek := keyP_rp rk e3
            subst ek
            exact ⟨a, _, rfl, .k g2 (by rw [g3.length]; exact hlt), hp2 _ _ _ (Sub.refl _) (S2.putOm (v := .dct (putP kvs key v)) eo rfl h1 ⟨_, upd_same, g3.put (r.mono up2)⟩)⟩
          · exact hp2.elim
/-! the own dict is only read from here on -/
theorem ps_lock1 {st : Stmt} {t : TS} (h : PS X st t) : PS X st (fun D σ H => ∃ d u, H d = some u ∧ Mut (some u) ∧ ∀ od, t D σ (upd H d (.frz od u))) := ⟨fun pins s σ H D I hw => by
  obtain ⟨d, u, hd, mu, hw⟩ := hw
  obtain ⟨od, I1⟩ := I.lock hd mu
  exact h.run pins s σ _ D I1 (hw od)⟩
end
def sLock (i : Nat) (s : Env → Out) : Env → Out := fun ρ => match ρ[i]? with
  | some (.om none (.dct kvs)) => s (ρ.set i (.fz (.dlk kvs)))
  | _ => .stuck
section
variable {K : PySem.W.Frag} {cl : Nat → Addr} {He H0 Hs H : Hp} {pin : List Addr} {σ : St} {ρ : Env}
theorem SEnv.lock (S : SEnv K cl He H0 pin Hs H σ ρ) {i : Nat} {kvs : List (Key × PV)} (h : ρ[i]? = some (.om none (.dct kvs))) : ∃ d vs, H d = some (.dK vs) ∧ ∀ od, Sub Hs (upd Hs d (.frz od (.dK vs))) ∧ SEnv K cl He H0 pin (upd Hs d (.frz od (.dK vs))) (upd H d (.frz od (.dK vs))) σ (ρ.set i (.fz (.dlk kvs))) := by
  have ho := ownAt_om h
  obtain ⟨d, e1, ⟨vs, e2, r⟩, e3, e4, _⟩ := S.ow i none (.dct kvs) ho
  refine ⟨d, vs, e2, fun od => ?_⟩
  have up : Sub Hs (upd Hs d (.frz od (.dK vs))) := Sub.new e3
  refine ⟨up, ⟨⟨S.ext.fs.trans up, S.sub.upd2, S.ext.same.upd e4, fun a h0 n => ?_⟩, by simpa using S.len, fun j v h' => ?_, fun j t v h' => ?_, fun j k p q a h1 h2 => ?_⟩⟩
  · rw [upd_ne (fun z => h0 (by rw [z]; exact e4))]
    exact S.ext.nw a h0 n
  · rcases set_get h' with ⟨e5, e6, _⟩ | ⟨_, h'⟩
    · cases e6; subst e5
      exact ⟨.ref d, e1, .dlk upd_same (r.mono up)⟩
    · obtain ⟨x, g1, g2⟩ := S.fz j v h'
      exact ⟨x, g1, g2.mono up⟩
  · rcases set_own h' with ⟨_, e6, _⟩ | ⟨e5, h'⟩
    · cases e6
    · obtain ⟨a, g1, g2, g3, g4, g5⟩ := S.ow j t v h'
      have hne : a ≠ d := fun z => e5 (S.ij j i _ _ d h' ho (by rw [← z]; exact g1) e1)
      exact ⟨a, g1, g2.mono up (upd_ne hne), by rw [upd_ne hne]; exact g3, g4, g5⟩
  · rcases set_own h1 with ⟨_, e6, _⟩ | ⟨_, h1⟩
    · cases e6
    · rcases set_own h2 with ⟨_, e6, _⟩ | ⟨_, h2⟩
      · cases e6
      · exact S.ij j k p q a h1 h2
end
section
variable {X : Cx} {cl : Nat → Addr} {W : WX} {He H0 : Hp} {pin : List Addr} {pos : Pos}
theorem vs_lock {i : Nat} {st : Stmt} {s : Env → Out} (h : PV1 X cl W He H0 pin st s) : PV1 X cl W He H0 pin st (sLock i s) :=
  psWeak (ps_lock1 h) fun D σ H ⟨Hs, ρ, S, h⟩ => by
    unfold sLock at h
    split at h
    · rename_i kvs e
      obtain ⟨d, vs, hd, q⟩ := S.lock e
      exact ⟨d, .dK vs, hd, trivial, fun od => ⟨_, _, (q od).2, Post.up h (q od).1⟩⟩
    · exact h.elim
/-! the keys, walked -/
def keysP : PV → R (List PV)
  | .dlk kvs => .ok (kvs.map fun kv => keyPV kv.1)
  | _ => .stuck
def iKeysP (a : Ex) : Ev → R (List PV) := fun ρ => (a ρ).bind keysP
theorem wk_keys {K : PySem.W.Frag} {Hs : Hp} {d : Addr} {o : Obj} {vs : List (Key × V)} {kvs : List (Key × PV)} (h : Hs d = some (.frz o (.dK vs))) (r : RpK K cl Hs vs kvs) : Wk K cl Hs (Itk d o vs) (kvs.map fun kv => keyPV kv.1) := by
  have hl := r.length
  refine ⟨fun i H Hs' s t hi => ⟨t _ _ (s _ _ h), by rw [List.length_map] at hi; omega⟩, fun i H Hs' s t hi => ⟨t _ _ (s _ _ h), by rw [List.length_map] at hi; omega⟩, fun i x H H' Hs' v s t hv hy => ?_⟩
  obtain ⟨rfl, k, w, e1, rfl⟩ := hy
  refine ⟨Hs', Ext.refl t, ?_⟩
  rw [List.getElem?_map] at hv
  obtain ⟨u, e2⟩ := r.getK e1
  rw [e2] at hv
  simp only [Option.map_some, Option.some.injEq] at hv
  rw [← hv]
  exact keyPV_rp k
theorem vi_keys {tg a : Expr} {f : Ex} (h : PE X a (tv X.K cl W f)) : PI X tg a (gv X.K cl (Wk X.K cl) W (iKeysP f)) :=
  piWeak (pi_keys h) fun σ H Q ⟨Hs, ρ, E, h⟩ => by
    refine gv_bind E h fun v x Hs1 H1 e1 s1 rx h1 => ?_
    cases rx with
    | @dlk d o vs xs hd r => exact ⟨d, o, rfl, .inl ⟨vs, s1.sub _ _ hd, h1.here s1.sub (wk_keys hd r)⟩⟩
    | _ => exact h1.elim
end
end VL
namespace VL
open PySem PySem.Spec PySem.SeqAt PyProof.Rows L2
/-! sorted of nested data -/
def tup1 : PyData → Bool
  | .tuple (_ :: _) => true
  | _ => false
def ntup : PyData → Bool
  | .tuple _ => false
  | .none => false
  | _ => true
def sortB (ds : List PyData) : Bool := (ds.all fun x => ds.all fun y => PySem.W.alike x y) && (ds.all tup1 || ds.all ntup)
def leD {α : Type} (p q : α × PyData) : Bool := !PySem.W.dataLt q.2 p.2
def sortDP : List PV → Option PV
  | [.lst xs] => match PV.datas xs with
    | some ds => if sortB ds = true ∧ PyData.depthAll ds ≤ 60 ∧ xs.length ≤ sizeLine then some (.lst (((xs.zip ds).mergeSort leD).map (·.1))) else none
    | none => none
  | _ => none
theorem sortB_ok {ds : List PyData} (h : sortB ds = true) : PySem.W.AllAlike ds ∧ PySem.W.Sortable ds := by
  unfold sortB at h
  rw [Bool.and_eq_true, Bool.or_eq_true, List.all_eq_true, List.all_eq_true, List.all_eq_true] at h
  refine ⟨fun d hd d' hd' => List.all_eq_true.mp (h.1 d hd) d' hd', ?_⟩
  rcases h.2 with h | h
  · refine .inl fun d hd => ?_
    have := h d hd
    cases d with
    | tuple xs =>
      cases xs with
      | nil => cases this
      | cons x r => exact ⟨x, r, rfl⟩
    | _ => cases this
  · refine .inr fun d hd => ?_
    have := h d hd
    cases d with
    | tuple xs => cases this
    | none => cases this
    | _ => exact ⟨fun z => (by cases z), fun xs z => (by cases z)⟩
section
variable {X : Cx} {cl : Nat → Addr}
def rSortD (K : PySem.W.Frag) : List V → Hp → VK → Prop := fun vs H Q => ∃ (a : Addr) (xs : List V) (ds : List PyData), vs = [V.ref a] ∧ SqL K H a xs ∧ DpAll K H xs ds ∧ sortB ds = true ∧ PyData.depthAll ds ≤ 60 ∧ xs.length ≤ sizeLine ∧ ∀ p, H p = none → Q (.ref p) (upd H p (.lst (((xs.zip ds).mergeSort leD).map (·.1))))
theorem each_zip {its : List Value} {xs : List V} {ds : List PyData} (r : Vals xs its) (hl : xs.length = ds.length) : PySem.W.EachIs (fun v (b : V × PyData) => RelV b.1 v) its (xs.zip ds) := by
  induction r generalizing ds with
  | nil => cases ds with
    | nil => exact .nil
    | cons => simp at hl
  | cons r t ih => cases ds with
    | nil => simp at hl
    | cons d ds => exact .cons r (ih (by simpa using hl))
theorem each_reads {h : Heap} : ∀ {its : List Value} {xs : List V} {ds : List PyData} {as : List Addr}, ReadsAll h its ds as → xs.length = ds.length → PySem.W.EachIs (fun v (b : V × PyData) => ∃ as, Reads h v b.2 as) its (xs.zip ds)
  | _, xs, _, _, .nil, hl => by cases xs with | nil => exact .nil | cons => simp at hl
  | _, xs, _, _, .cons r t, hl => by
    cases xs with
    | nil => simp at hl
    | cons x xs => exact .cons ⟨_, r⟩ (each_reads t (by simpa using hl))
theorem vals_of_each {out : List Value} {bs : List (V × PyData)} (e : PySem.W.EachIs (fun v (b : V × PyData) => RelV b.1 v) out bs) : Vals (bs.map (·.1)) out := by
  induction e with
  | nil => exact .nil
  | cons r t ih => exact .cons r ih
theorem dpAll_len {K : PySem.W.Frag} {H : Hp} : ∀ {xs : List V} {ds : List PyData}, DpAll K H xs ds → xs.length = ds.length
  | _, _, .nil => rfl
  | _, _, .cons _ t => congrArg (· + 1) (dpAll_len t)
theorem depth_le_depthAll' : ∀ (xs : List PyData) (x : PyData), x ∈ xs → x.depth ≤ PyData.depthAll xs
  | [], _, h => by simp at h
  | y :: ys, x, h => by
    rw [PyData.depthAll]
    rcases List.mem_cons.mp h with rfl | h
    · omega
    · have := depth_le_depthAll' ys x h
      omega
theorem zip3 {α β γ : Type} : ∀ {a : List α} {b : List β} {c : List γ}, b.length = c.length → (a.zip (b.zip c)).map (fun z => (z.1, z.2.2)) = a.zip c
  | [], _, _, _ => rfl
  | _ :: _, [], [], _ => rfl
  | _ :: _, [], _ :: _, h => by simp at h
  | _ :: _, _ :: _, [], h => by simp at h
  | x :: a, y :: b, z :: c, h => by
    simp only [List.zip_cons_cons, List.map_cons]
    rw [zip3 (a := a) (b := b) (c := c) (by simpa using h)]
theorem depth_mem : ∀ {ds : List PyData} {d : PyData}, d ∈ ds → d.depth ≤ PyData.depthAll ds := fun {ds d} h => depth_le_depthAll' ds d h
theorem cr_sortD (hu : X.A.units + 64 < cLine) : CallR X (.builtin "sorted") (rSortD X.K) := by
  intro pins s σ H vs us Q I r h
  obtain ⟨a, xs, ds, rfl, hs, hd, hB, h60, hz, q⟩ := h
  obtain ⟨its, rv, hl, _⟩ := I.list hs
  rw [Vals.ref1 r]
  obtain ⟨as, hr⟩ := Dp.readsAll I ds xs its hd rv
  obtain ⟨hal, hsr⟩ := sortB_ok hB
  have hlen := dpAll_len hd
  have e2 : (xs.zip ds).map (·.2) = ds := List.map_snd_zip (by omega)
  have hle : PySem.W.dataLe false (fun b : V × PyData => b.2) = leD := by
    rw [PySem.W.dataLe_eq]
    rfl
  refine PySem.W.sorted_data (β := V × PyData) (vs := its) (bs := xs.zip ds) (enc := fun b => b.2) (R := fun v b => RelV b.1 v) (by have := hl.isList; exact this) (each_zip rv hlen) (each_reads hr hlen) (by rw [e2]; exact hal) (by rw [e2]; exact hsr)
    (by rw [List.length_zip]; omega) (fun b hb => ?_) fun out h1 h2 => ?_
  · have : b.2 ∈ ds := (List.of_mem_zip hb).2
    have := depth_mem this
    omega
  · rw [hle] at h2
    obtain ⟨ep, he'⟩ := PyProof.Rows.sortedAll_at s.heap its out.toArray
    have hv := vals_of_each h2
    have hlen2 : (((xs.zip ds).mergeSort leD).map (·.1)).length ≤ sizeLine := by
      rw [List.length_map, List.length_mergeSort, List.length_zip]
      omega
    exact ⟨.ref _, upd H (s.heap.objs.size + 1) (.lst (((xs.zip ds).mergeSort leD).map (·.1))), I.laid (t' := s.toks) (fun _ _ => PyProof.Rows.sortedAll_old) (Nat.le_succ _) ⟨hlen2, out, ep, hv, he'⟩, rfl, q _ (I.hok.fresh (Nat.le_succ _))⟩
theorem rpA_of_all {K : PySem.W.Frag} {Hs : Hp} : ∀ {zs : List (V × PV × PyData)}, (∀ z ∈ zs, Rp K cl Hs z.1 z.2.1) → RpA K cl Hs (zs.map (·.1)) (zs.map fun z => z.2.1)
  | [], _ => .nil
  | z :: zs, h => .cons (h z List.mem_cons_self) (rpA_of_all fun y hy => h y (List.mem_cons_of_mem _ hy))
theorem rpA_zip {K : PySem.W.Frag} {Hs : Hp} : ∀ {vs : List V} {us : List PV}, RpA K cl Hs vs us → ∀ {ds : List PyData}, ∀ z ∈ vs.zip (us.zip ds), Rp K cl Hs z.1 z.2.1
  | _, _, .nil, _, z, h => by simp at h
  | _, _, .cons r t, [], z, h => by simp at h
  | _, _, .cons r t, d :: ds, z, h => by
    simp only [List.zip_cons_cons, List.mem_cons] at h
    rcases h with rfl | h
    · exact r
    · exact rpA_zip t z h
theorem rpA_sort {K : PySem.W.Frag} {Hs : Hp} {vs : List V} {us : List PV} (r : RpA K cl Hs vs us) {ds : List PyData} (hl : us.length = ds.length) : RpA K cl Hs (((vs.zip ds).mergeSort leD).map (·.1)) (((us.zip ds).mergeSort leD).map (·.1)) := by
  have hv := r.length
  let zs := vs.zip (us.zip ds)
  have e1 : zs.map (fun z => (z.1, z.2.2)) = vs.zip ds := zip3 hl
  have e2 : zs.map (fun z => z.2) = us.zip ds := List.map_snd_zip (by rw [List.length_zip]; omega)
  have m1 : (zs.mergeSort fun p q => !PySem.W.dataLt q.2.2 p.2.2).map (fun z => (z.1, z.2.2)) = (vs.zip ds).mergeSort leD := by
    rw [← e1]
    exact List.map_mergeSort fun a _ b _ => rfl
  have m2 : (zs.mergeSort fun p q => !PySem.W.dataLt q.2.2 p.2.2).map (fun z => z.2) = (us.zip ds).mergeSort leD := by
    rw [← e2]
    exact List.map_mergeSort fun a _ b _ => rfl
  rw [← m1, ← m2, List.map_map, List.map_map]
  exact rpA_of_all fun z hz => rpA_zip r z (List.mem_mergeSort.mp hz)
theorem cv_sortD : CallV X.K cl (rSortD X.K) sortDP := by
  intro W σ Hs H xs us w Q s r e q
  cases r with
  | nil => cases e
  | cons r t =>
    cases t with
    | cons _ _ => cases r <;> cases e
    | nil =>
      cases r with
      | @lst a vs xs h ra =>
        replace e : (match PV.datas xs with
          | some ds => if sortB ds = true ∧ PyData.depthAll ds ≤ 60 ∧ xs.length ≤ sizeLine then some (PV.lst (((xs.zip ds).mergeSort leD).map (·.1))) else none
          | none => none) = some w := e
        split at e
        · rename_i ds e1
          split at e
          · rename_i hs
            cases e
            have hd := (ra.mono s).dp e1
            have hl : xs.length = ds.length := by rw [← ra.length]; exact dpAll_len hd
            exact ⟨a, vs, ds, rfl, .of (s _ _ h), hd, hs.1, hs.2.1, by rw [ra.length]; exact hs.2.2, fun p n => new_lst q s n (rpA_sort ra hl)⟩
          · cases e
        · cases e
      | _ => cases e
end
end VL
namespace VL
open PySem PySem.Spec PyProof.Rows L2
/-! len(set(ints)), list.count -/
def dedI (ns : List Int) : List Int := ns.foldl step_dedup []
def lenSetIP : PV → Option PV
  | .lst xs => (intsP xs).bind fun ns => if ns.length < 64 then some (.int ((dedI ns).length : Int)) else none
  | _ => none
def countP : PV → PV → Option PV
  | .lst xs, .int k => (intsP xs).map fun ns => .int ((ns.count k : Nat) : Int)
  | _, _ => none
theorem dedI_of (ns : List Int) : firstMet (fun i => ns.getD i 0) ns.length = dedI ns := by
  unfold firstMet dedI
  congr 1
  apply List.ext_getElem?
  intro i
  rw [List.getElem?_map]
  by_cases h : i < ns.length
  · rw [List.getElem?_range h, List.getElem?_eq_getElem h]
    simp [h]
  · rw [List.getElem?_eq_none (by simpa using h), List.getElem?_eq_none (by omega)]
    rfl
def tLenSetJ (K : PySem.W.Frag) (ta : TE) : TE := fun σ H Q => ta σ H fun x H1 => ∃ (l : Addr) (ns : List Int), x = V.ref l ∧ SqL K H1 l (ns.map V.int) ∧ ns.length < 64 ∧ Q (.int (dedI ns).length) H1
section
variable {X : Cx} {cl : Nat → Addr} {W : WX} {a b o e : Expr} {f g : Ex} {p p2 q pos apos cpos : Pos}
theorem pe_lenSetJ {ta : TE} (hc : X.calm = true) (hg : Gl X "len") (hm : X.mg "len" = none) (hg2 : Gl X "set") (hm2 : X.mg "set" = none) (ha : PE X a ta)
    (na : starEach [a] X.env = (false, eval a X.env) :: starEach [] X.env := by rfl) : PE X (.Call (.Name "len" p) [.Call (.Name "set" p2) [a] [] q] [] pos) (tLenSetJ X.K ta) := by
  refine ⟨fun pins s σ H Q I h => ?_⟩
  refine Call_ (ld_blt I hg hm PySem.boot_len ?_)
  refine PyProof.Rows.callWith_builtin1 (PyProof.Rows.args_cons ?_ rfl) rfl rfl
  refine Call_ (ld_blt I hg2 hm2 PyProof.Rows.boot_set ?_)
  refine PyProof.Rows.callWith_type1 (PyProof.Rows.args_cons (thn (ha.run pins s σ H _ I h) fun v s1 ⟨x, H1, I1, r1, q1⟩ => PyProof.Rows.args_nil ?_) na) na rfl
  obtain ⟨l, ns, rfl, hq, h1, q1⟩ := q1
  cases r1
  obtain ⟨its, r, pl, hz⟩ := I1.list hq
  have hl : its.toArray.size = ns.length := by rw [List.size_toArray, ← r.length, List.length_map]
  refine call_set_list (I1.ok.hd hc) pl.isList (ns := ns) (by simpa using r.ints) (by unfold scanBound; omega) fun h' tk hS hk => ?_
  rw [hl, dedI_of] at hS
  refine PyProof.Rows.args_nil ?_
  obtain ⟨o, es, ep, t, ho, hex, hd, _, _, _, hf, hn⟩ := hS
  have I2 : Inv X pins σ H1 { s1 with heap := h', toks := tk } := I1.kept fun b o e => hk b o (Heap.lt_size e) e
  have hle : (dedI ns).length ≤ ns.length := by rw [← dedI_of]; exact firstMet_length_le _ _
  refine call_len_set ho hex hd hf (by rw [hn] <;> omega) ⟨.int (dedI ns).length, H1, I2.tok _, ⟨_, by rw [hn]⟩, q1⟩
abbrev eLenSetI (f : Ex) : Ex := fun ρ => (f ρ).bind fun x => opt (lenSetIP x)
theorem ve_lenSetI (hc : X.calm = true) (hm : X.mg "len" = none) (hm2 : X.mg "set" = none) (ha : PE X a (tv X.K cl W f))
    (hg : Gl X "len" := by rfl) (hg2 : Gl X "set" := by rfl) (na : starEach [a] X.env = (false, eval a X.env) :: starEach [] X.env := by rfl) :
    PE X (.Call (.Name "len" p) [.Call (.Name "set" p2) [a] [] q] [] pos) (tv X.K cl W (eLenSetI f)) :=
  peWeak (pe_lenSetJ hc hg hm hg2 hm2 ha na) fun σ H Q ⟨Hs, ρ, E, h⟩ => by
    refine gv_bind E h fun v x Hs1 H1 _ s1 rx h1 => ?_
    obtain ⟨w, e, q⟩ := h1.opt
    cases rx with
    | @lst l vs xs hl ra =>
      have e : ((intsP xs).bind fun ns => if ns.length < 64 then some (PV.int ((dedI ns).length : Int)) else none) = some w := e
      cases e1 : intsP xs with
      | none => rw [e1] at e; cases e
      | some ns =>
        rw [e1] at e
        simp only [Option.bind_some] at e
        split at e
        · rename_i h64
          cases e
          have ev := ra.ints e1
          subst ev
          exact ⟨l, ns, rfl, .of (s1.sub _ _ hl), h64, q.here s1.sub (.int _)⟩
        · cases e
    | _ => cases e
def eCount (a b : Ex) : Ex := fun ρ => (a ρ).bind fun x => match x with
  | .lst xs => (b ρ).bind fun y => opt (countP (.lst xs) y)
  | _ => .stuck
def cntK (b : R PV) : PV → R PV
  | .lst xs => b.bind fun y => opt (countP (.lst xs) y)
  | _ => .stuck
@[simp] theorem cntK_l (b xs) : cntK b (.lst xs) = b.bind fun y => opt (countP (.lst xs) y) := rfl
theorem ve_count (ho : PE X o (tv X.K cl W f)) (ha : PE X e (tv X.K cl W g))
    (hbase : attributeBase o "count" X.env (eval o X.env) = eval o X.env := by rfl)
    (hfew : ((backTo cpos (starEach [e] X.env)).all (fun x => !x.1) && (backToKw cpos (keywordEach [] X.env)).all (fun x => x.1.isSome)
      && decide ([e].length + ([] : List Keyword).length + (if ([] : List Keyword).isEmpty then 0 else 1) < 30)) = true := by rfl)
    (hline : (apos.endLine == cpos.line) = true := by rfl) (hs : starEach [e] X.env = (false, eval e X.env) :: starEach [] X.env := by rfl) (hplain : (backTo cpos (starEach [] X.env)).any (·.1) = false := by rfl) :
    PE X (.Call (.Attribute o "count" apos) [e] [] cpos) (tv X.K cl W (eCount f g)) :=
  peWeak (pe_bm PySem.F.plainAttrs_list PySem.F.slot_list_count PySem.F.type_list_count mt_lcount ho (va_cons ha va_nil hs) hbase hfew hline hs hplain) fun σ H Q ⟨Hs, ρ, E, h⟩ => by
    refine gv_bind E h fun v x Hs1 H1 _ s1 rx h1 => ?_
    cases rx with
    | @lst l vs xs hl ra =>
      refine ⟨.inl ⟨rfl, _, .of (s1.sub _ _ hl)⟩, ?_⟩
      refine ⟨Hs1, ρ, E.up s1, ?_⟩
      replace h1 : GP X.K cl (Rp X.K cl) W Hs1 H1 σ ((g ρ).bind fun y => opt (countP (.lst xs) y)) Q := h1
      unfold evs
      cases e1 : g ρ with
      | ok y =>
        rw [e1] at h1
        intro us Hs2 H2 X2 ru
        have h2 : GP X.K cl (Rp X.K cl) W Hs2 H2 σ (opt (countP (.lst xs) y)) Q := GP.up h1 X2
        obtain ⟨w, e2, q⟩ := h2.opt
        match us, ru with
        | [u], .cons r .nil =>
          cases r with
          | int k =>
            have e2 : ((intsP xs).map fun ns => PV.int ((ns.count k : Nat) : Int)) = some w := e2
            rw [Option.map_eq_some_iff] at e2
            obtain ⟨ns, e3, rfl⟩ := e2
            have ev := ra.ints e3
            subst ev
            exact ⟨l, ns, k, rfl, rfl, .of (X2.sub _ _ (X2.fs _ _ hl)), q.here X2.sub (.int _)⟩
          | _ => cases e2
      | exc c fs => rw [e1] at h1; exact h1
      | stuck => rw [e1] at h1; exact h1
    | _ => exact h1.elim
/-! x.index(y), of nested data -/
def idxDO (xs : List PV) (y : PV) : Option PV := match y.data, PV.datas xs with
  | some d, some ds => if SeqAt.shaped d = true ∧ SeqAt.shaped (.list ds) = true then (ds.findIdx? fun z => PyData.eqv z d).map fun (j : Nat) => PV.int ((j : Nat) : Int) else none
  | _, _ => none
def eIdxD (a b : Ex) : Ex := fun ρ => (a ρ).bind fun x => match x with
  | .lst xs => (b ρ).bind fun y => opt (idxDO xs y)
  | _ => .stuck
def idxDK (b : R PV) : PV → R PV
  | .lst xs => b.bind fun y => opt (idxDO xs y)
  | _ => .stuck
@[simp] theorem idxDK_l (b xs) : idxDK b (.lst xs) = b.bind fun y => opt (idxDO xs y) := rfl
@[simp] theorem eIdxD_S (a b : Ex) (ρ : Ev) : eIdxD a b ρ = (a ρ).bind (idxDK (b ρ)) := by unfold eIdxD; congr <;> (funext x; cases x <;> rfl)
theorem ve_idxLD (hu : X.A.units + 65 < cLine) (ho : PE X o (tv X.K cl W f)) (ha : PE X e (tv X.K cl W g))
    (hbase : attributeBase o "index" X.env (eval o X.env) = eval o X.env := by rfl)
    (hfew : ((backTo cpos (starEach [e] X.env)).all (fun x => !x.1) && (backToKw cpos (keywordEach [] X.env)).all (fun x => x.1.isSome)
      && decide ([e].length + ([] : List Keyword).length + (if ([] : List Keyword).isEmpty then 0 else 1) < 30)) = true := by rfl)
    (hline : (apos.endLine == cpos.line) = true := by rfl) (hs : starEach [e] X.env = (false, eval e X.env) :: starEach [] X.env := by rfl) (hplain : (backTo cpos (starEach [] X.env)).any (·.1) = false := by rfl) :
    PE X (.Call (.Attribute o "index" apos) [e] [] cpos) (tv X.K cl W (eIdxD f g)) :=
  peWeak (pe_bm PySem.F.plainAttrs_list PySem.F.slot_list_index PySem.F.type_list_index (mt_indexD hu) ho (va_cons ha va_nil hs) hbase hfew hline hs hplain) fun σ H Q ⟨Hs, ρ, E, h⟩ => by
    refine gv_bind E h fun v x Hs1 H1 _ s1 rx h1 => ?_
    cases rx with
    | @lst l vs xs hl ra =>
      refine ⟨.inl ⟨rfl, _, .of (s1.sub _ _ hl)⟩, ?_⟩
      refine ⟨Hs1, ρ, E.up s1, ?_⟩
      replace h1 : GP X.K cl (Rp X.K cl) W Hs1 H1 σ ((g ρ).bind fun y => opt (idxDO xs y)) Q := h1
      unfold evs
      cases e1 : g ρ with
      | ok y =>
        rw [e1] at h1
        intro us Hs2 H2 X2 ru
        have h2 : GP X.K cl (Rp X.K cl) W Hs2 H2 σ (opt (idxDO xs y)) Q := GP.up h1 X2
        obtain ⟨w, e2, q⟩ := h2.opt
        match us, ru with
        | [u], .cons r .nil =>
          unfold idxDO at e2
          split at e2
          · rename_i d ds hy hx
            split at e2
            · rename_i hk
              rw [Option.map_eq_some_iff] at e2
              obtain ⟨j, e3, rfl⟩ := e2
              rw [List.findIdx?_eq_some_iff_getElem] at e3
              obtain ⟨hj, e4, e5⟩ := e3
              have rl : Rp X.K cl H2 (.ref l) (.lst xs) := (Rp.lst (X2.fs _ _ hl) (ra.mono X2.fs)).mono X2.sub
              have dl : Dp X.K H2 (.ref l) (.list ds) := rl.dp (by simp only [PV.data, hx, Option.map_some])
              refine ⟨l, u, d, ds, j, ds[j], rfl, rfl, dl, (r.mono X2.sub).dp hy, hk.2, hk.1, List.getElem?_eq_getElem hj, e4, fun m z' hm hz' => ?_, q.here X2.sub (.int _)⟩
              have hm2 : m < ds.length := by omega
              rw [List.getElem?_eq_getElem hm2] at hz'
              cases hz'
              simpa using e5 m hm
            · cases e2
          · cases e2
      | exc c fs => rw [e1] at h1; exact h1
      | stuck => rw [e1] at h1; exact h1
    | _ => exact h1.elim
theorem eLenSetI_S (f : Ex) (ρ : Ev) : eLenSetI f ρ = (f ρ).bind fun x => opt (lenSetIP x) := rfl
@[simp] theorem eCount_S (a b : Ex) (ρ : Ev) : eCount a b ρ = (a ρ).bind (cntK (b ρ)) := by unfold eCount; congr <;> (funext x; cases x <;> rfl)
end
end VL
namespace VL
open PySem PySem.Spec PySem.SeqAt PyProof.Rows L2
/-! dicts of the module's top with text keys -/
inductive EntR (K : PySem.W.Frag) (cl : Nat → Addr) : List DictEntry → List (Str × PV) → Prop where
  | nil : EntR K cl [] []
  | cons {e : DictEntry} {k : Str} {t : Tok} {x : V} {u : PV} {r : List DictEntry} {r' : List (Str × PV)} : e.key = .str k t → RelV x e.val → (∀ H, Rp K cl H x u) → EntR K cl r r' → EntR K cl (e :: r) ((k, u) :: r')
theorem EntR.s {K : PySem.W.Frag} {cl : Nat → Addr} {e : DictEntry} {k z : Str} {t t2 : Tok} {r : List DictEntry} {r' : List (Str × PV)} (h1 : e.key = .str k t) (h2 : e.val = .str z t2) (h : EntR K cl r r') : EntR K cl (e :: r) ((k, .str z) :: r') := .cons (x := .str z) h1 ⟨t2, h2⟩ (fun _ => .str z) h
theorem EntR.i {K : PySem.W.Frag} {cl : Nat → Addr} {e : DictEntry} {k : Str} {z : Int} {t t2 : Tok} {r : List DictEntry} {r' : List (Str × PV)} (h1 : e.key = .str k t) (h2 : e.val = .int z t2) (h : EntR K cl r r') : EntR K cl (e :: r) ((k, .int z) :: r') := .cons (x := .int z) h1 ⟨t2, h2⟩ (fun _ => .int z) h
def GlobD (K : PySem.W.Frag) (w : World) (cl : Nat → Addr) (mg : Str → Option Value) (x : Str) (kvs : List (Str × PV)) : Prop :=
  ∃ d es n, mg x = some (.ref d) ∧ KDict K w d es n ∧ EntR K cl es.toList kvs
def lkG (kvs : List (Str × PV)) (z : Str) : Option PV := (kvs.find? fun q => q.1 == z).map (·.2)
def inG (kvs : List (Str × PV)) : PV → Option PV
  | .str z => some (.bl (lkG kvs z).isSome)
  | _ => none
def ninG (kvs : List (Str × PV)) : PV → Option PV
  | .str z => some (.bl (!(lkG kvs z).isSome))
  | _ => none
def ixG (kvs : List (Str × PV)) : PV → Option PV
  | .str z => lkG kvs z
  | _ => none
def iKG (kvs : List (Str × PV)) : Ev → R (List PV) := fun _ => .ok (kvs.map fun q => .str q.1)
section
variable {K : PySem.W.Frag} {w : World} {cl : Nat → Addr} {mg : Str → Option Value} {x : Str} {kvs : List (Str × PV)} {d : Addr} {es : Array DictEntry} {n : Nat}
theorem EntR.len : ∀ {l : List DictEntry} {kvs : List (Str × PV)}, EntR K cl l kvs → l.length = kvs.length
  | _, _, .nil => rfl
  | _, _, .cons _ _ _ r => congrArg (· + 1) r.len
theorem EntR.find (z : Str) : ∀ {l : List DictEntry} {kvs : List (Str × PV)}, EntR K cl l kvs → (l.any (·.refKey) = false) ∧
    (match kvs.find? (fun q => q.1 == z) with
      | some q => ∃ e x, l.find? (·.key.isStr z) = some e ∧ RelV x e.val ∧ ∀ H, Rp K cl H x q.2
      | none => l.find? (·.key.isStr z) = none)
  | _, _, .nil => ⟨rfl, rfl⟩
  | e :: l, (k, u) :: kvs, .cons (t := t) hk hv hr r => by
    obtain ⟨h1, h2⟩ := r.find z
    have e1 : e.refKey = false := by unfold DictEntry.refKey; rw [hk]
    have e2 : e.key.isStr z = (k == z) := by rw [hk]; rfl
    refine ⟨by simp only [List.any_cons, e1, h1]; rfl, ?_⟩
    rw [List.find?_cons, List.find?_cons, e2]
    cases q : k == z with
    | true => exact ⟨e, _, rfl, hv, hr⟩
    | false => exact h2
theorem EntR.get {i : Nat} : ∀ {l : List DictEntry} {kvs : List (Str × PV)}, EntR K cl l kvs → ∀ {i : Nat} {e : DictEntry}, l[i]? = some e → ∃ k t u, e.key = .str k t ∧ kvs[i]? = some (k, u)
  | _, _, .nil, i, e, h => by simp at h
  | _, _, .cons hk hv hr r, 0, e, h => by cases h; exact ⟨_, _, _, hk, rfl⟩
  | _, _, .cons hk hv hr r, i + 1, e, h => r.get (i := i) h
theorem nsG (D : KDict K w d es n) (r : EntR K cl es.toList kvs) (z : Str) : match lkG kvs z with
    | some u => ∃ v y, PySem.W.nsIn K d z = some (some v) ∧ RelV y v ∧ ∀ H, Rp K cl H y u
    | none => PySem.W.nsIn K d z = some none := by
  obtain ⟨h1, h2⟩ := r.find z
  unfold lkG
  cases q : kvs.find? (fun q => q.1 == z) with
  | some p =>
    rw [q] at h2
    obtain ⟨e, y, g1, g2, g3⟩ := h2
    refine ⟨e.val, y, ?_, g2, g3⟩
    unfold PySem.W.nsIn
    rw [D.at_]
    show (match es.toList.find? (·.key.isStr z) with
      | some e => some (some e.val)
      | none => if es.toList.any (·.refKey) then none else some none) = _
    rw [g1]
  | none =>
    rw [q] at h2
    show PySem.W.nsIn K d z = some none
    unfold PySem.W.nsIn
    rw [D.at_]
    show (match es.toList.find? (·.key.isStr z) with
      | some e => some (some e.val)
      | none => if es.toList.any (·.refKey) then none else some none) = _
    rw [h2]
    simp only [h1]
    rfl
end
/-! walking one -/
def ItkW (es : Array DictEntry) : It := ⟨fun i _ => i < es.size, fun i H x H' => H' = H ∧ ∃ e k t, es[i]? = some e ∧ e.key = .str k t ∧ x = .str k, fun i _ => es.size ≤ i⟩
theorem rawW {K : PySem.W.Frag} {w : World} {d : Addr} {es : Array DictEntry} {n : Nat} {h : Heap} (X : K.In h) (D : KDict K w d es n) : h.DictRaw d es n :=
  ⟨_, X _ _ D.at_, ⟨rfl, rfl, rfl⟩, rfl⟩
theorem turn_keysW {P : Program} {w : World} {K : PySem.W.Frag} {cl : Nat → Addr} {tg : Expr} {d : Addr} {es : Array DictEntry} {n : Nat} {kvs : List (Str × PV)} (D : KDict K w d es n) (r : EntR K cl es.toList kvs) (it : Addr) :
    Turn P w K tg (ItkW es) [it] it (fun i h => h.IsKeyIter it d i es.size n) where
  mem := by simp
  obj := fun i h st b hb => by
    have e : b = it := by simpa using hb
    subst e
    obtain ⟨oi, e, c, dd⟩ := st
    exact ⟨oi, e, fun v z => by rw [dd] at z; cases z⟩
  keep := fun i h h' st k => st.at fun oi e => k it (by simp) oi e
  item := by
    intro X hP hw hK hc i pins s σ H E I hf st hg
    subst hP hw hK
    obtain ⟨f0, f1, f2, f3, f4, f5⟩ := hf it (by simp)
    have hi : i < es.size := hg
    obtain ⟨k, t, u, hk, _⟩ := r.get (i := i) (e := es[i]) (by rw [Array.getElem?_toList, Array.getElem?_eq_getElem hi])
    refine wpAny_pyNext_keys_item_raw st (rawW I.kIn D) hi fun h' st' sb => ?_
    have I1 : Inv X pins σ H { s with heap := h' } := I.turned (t' := s.toks) (fun b ob hb e => (sb.2 b hb).trans e) f0 f1 f3 f4 f5
    obtain ⟨oi, e, c, dd⟩ := id st'
    exact ⟨es[i].key, rfl, go_of (s := { s with heap := h' }) e c dd (by decide) ⟨.str k, H, I1, by rw [hk]; exact ⟨t, rfl⟩, ⟨rfl, es[i], k, t, Array.getElem?_eq_getElem hi, hk, rfl⟩, st', fun b hb => (hf b hb).1⟩⟩
  done := by
    intro X hP hw hK hc i pins s σ H E I hf st hg
    subst hP hw hK
    obtain ⟨f0, f1, f2, f3, f4, f5⟩ := hf it (by simp)
    exact next_key_end (I.ok.hd hc) st (I.kIn _ _ D.at_) rfl rfl hg fun h' eb => ⟨rfl, I.turned (t' := s.toks) (fun b ob hb e => eb b ob hb e) f0 f1 f3 f4 f5⟩
  self := fun A i s Q E st h => wpAny_pyIter_keyiter st h
section
variable {X : Cx} {cl : Nat → Addr} {W : WX} {pos p p1 p2 apos : Pos} {a e o tg : Expr} {f f' : Ex} {x : Str} {kvs : List (Str × PV)}
theorem wkW {K : PySem.W.Frag} {es : Array DictEntry} (r : EntR K cl es.toList kvs) (Hs : Hp) : Wk K cl Hs (ItkW es) (kvs.map fun q => .str q.1) := by
  have hl : es.size = kvs.length := by rw [← r.len]; simp
  refine ⟨fun i H Hs' s t hi => ?_, fun i H Hs' s t hi => ?_, fun i x H H' Hs' v s t hv hy => ?_⟩
  · rw [List.length_map] at hi; show i < es.size; omega
  · rw [List.length_map] at hi; show es.size ≤ i; omega
  · obtain ⟨rfl, e, k, tk, e1, e2, rfl⟩ := hy
    refine ⟨Hs', Ext.refl t, ?_⟩
    obtain ⟨k', t', u, g1, g2⟩ := r.get (i := i) (e := e) (by rw [Array.getElem?_toList]; exact e1)
    rw [e2] at g1
    cases g1
    rw [List.getElem?_map, g2] at hv
    cases hv
    exact .str _
theorem vi_keysG (G : GlobD X.K X.w cl X.mg x kvs) (hg : Gl X x := by rfl) (hd : (x == ("__debug__" : Str)) = false := by decide) : PI X tg (.Name x pos) (gv X.K cl (Wk X.K cl) W (iKG kvs)) := by
  obtain ⟨d, es, n, hm, D, r⟩ := G
  refine ⟨fun pins s σ H R I ⟨Hs, ρ, E, h⟩ => ?_⟩
  refine thn ((pe_glob (v := .ref d) hg hm rfl hd).run pins s σ H (fun v H1 => v = .ref d ∧ H1 = H) I ⟨rfl, rfl⟩) fun u s1 ⟨y, H1, I1, ry, ey, eH⟩ => ?_
  subst ey eH
  obtain rfl : u = Value.ref d := ry
  refine wpAny_pyIter_dict_raw D.low (rawW I1.kIn D) (pi_one (tk := s1.toks) I1 _ (turn_keysW D r _) ⟨_, Heap.get?_push_size _ rfl, rfl, rfl⟩ ?_)
  exact h.here E.sub (wkW r _)
theorem cmpG_use {K : PySem.W.Frag} {w : World} {d : Addr} {es : Array DictEntry} {n : Nat} {neg : Bool} (D : KDict K w d es n) (r : EntR K cl es.toList kvs) {σ : St} {H : Hp} {Q : VK} (h : tv K cl W (e1 (if neg = true then ninG kvs else inG kvs) f) σ H Q) :
    tOp (fun x y H Q => ∃ (z : Str) (r : Option Value), x = .str z ∧ y = .ref d ∧ PySem.W.nsIn K d z = some r ∧ Q (.bl (if neg = true then !r.isSome else r.isSome)) H) (tv K cl W f) (tC (.ref d)) σ H Q := by
  obtain ⟨Hs, ρ, E, h⟩ := h
  refine gv_bind E h fun v x Hs1 H1 _ s1 rx h1 => ?_
  obtain ⟨w, e, q⟩ := h1.opt
  have ns := nsG D r
  cases neg with
  | true =>
    cases rx with
    | str z =>
      have := ns z
      cases e
      cases el : lkG kvs z with
      | some u =>
        rw [el] at this q
        obtain ⟨v, y, g1, g2, g3⟩ := this
        exact ⟨z, some v, rfl, rfl, g1, q.here s1.sub (.bl _)⟩
      | none =>
        rw [el] at this q
        exact ⟨z, none, rfl, rfl, this, q.here s1.sub (.bl _)⟩
    | _ => cases e
  | false =>
    cases rx with
    | str z =>
      have := ns z
      cases e
      cases el : lkG kvs z with
      | some u =>
        rw [el] at this q
        obtain ⟨v, y, g1, g2, g3⟩ := this
        exact ⟨z, some v, rfl, rfl, g1, q.here s1.sub (.bl _)⟩
      | none =>
        rw [el] at this q
        exact ⟨z, none, rfl, rfl, this, q.here s1.sub (.bl _)⟩
    | _ => cases e
theorem ve_inG (G : GlobD X.K X.w cl X.mg x kvs) (ha : PE X a (tv X.K cl W f)) (hg : Gl X x := by rfl) (hd : (x == ("__debug__" : Str)) = false := by decide) (hm : behindInMarks .In (.Name x p) = false := by first | exact nomark _ | rfl) : PE X (.Compare a [.In] [.Name x p] pos) (tv X.K cl W (e1 (inG kvs) f)) := by
  obtain ⟨d, es, n, hm', D, r⟩ := G
  exact peWeak (pe_cmpR (op_in_kd D) ha (pe_glob (v := .ref d) hg hm' rfl hd) hm) fun σ H Q h => cmpG_use (neg := false) D r h
theorem ve_ninG (G : GlobD X.K X.w cl X.mg x kvs) (ha : PE X a (tv X.K cl W f)) (hg : Gl X x := by rfl) (hd : (x == ("__debug__" : Str)) = false := by decide) (hm : behindInMarks .NotIn (.Name x p) = false := by first | exact nomark _ | rfl) : PE X (.Compare a [.NotIn] [.Name x p] pos) (tv X.K cl W (e1 (ninG kvs) f)) := by
  obtain ⟨d, es, n, hm', D, r⟩ := G
  exact peWeak (pe_cmpR (op_notIn_kd D) ha (pe_glob (v := .ref d) hg hm' rfl hd) hm) fun σ H Q h => cmpG_use (neg := true) D r h
theorem tst_bl {g : PV → Option PV} {t : TE} {σ : St} {H : Hp} {Q : Bool → Hp → Prop} (w : ∀ Q', tv X.K cl W (e1 g f) σ H Q' → t σ H Q') (h : tt X.K cl W (eTst (e1 g f)) σ H Q) : tTest t σ H Q := by
  obtain ⟨Hs, ρ, E, h⟩ := h
  refine w _ ⟨Hs, ρ, E, ?_⟩
  unfold eTst at h
  cases e : e1 g f ρ with
  | ok w =>
    rw [e] at h
    intro x Hs' H' s1 rx
    cases rx with
    | bl b => exact ⟨b, rfl, h b Hs' H' s1 rfl⟩
    | _ => exact h.elim
  | exc c fs => rw [e] at h; exact h
  | stuck => rw [e] at h; exact h
theorem vt_inG (G : GlobD X.K X.w cl X.mg x kvs) (ha : PE X a (tv X.K cl W f)) (hg : Gl X x := by rfl) (hd : (x == ("__debug__" : Str)) = false := by decide) (hm : behindInMarks .In (.Name x p) = false := by first | exact nomark _ | rfl) : PT X (.Compare a [.In] [.Name x p] pos) (tt X.K cl W (eTst (e1 (inG kvs) f))) := by
  obtain ⟨d, es, n, hm', D, r⟩ := G
  exact ptWeak (pt_cmpR (op_in_kd D) ha (pe_glob (v := .ref d) hg hm' rfl hd) hm) fun σ H Q h => tst_bl (fun Q' h => cmpG_use (neg := false) D r h) h
theorem vt_ninG (G : GlobD X.K X.w cl X.mg x kvs) (ha : PE X a (tv X.K cl W f)) (hg : Gl X x := by rfl) (hd : (x == ("__debug__" : Str)) = false := by decide) (hm : behindInMarks .NotIn (.Name x p) = false := by first | exact nomark _ | rfl) : PT X (.Compare a [.NotIn] [.Name x p] pos) (tt X.K cl W (eTst (e1 (ninG kvs) f))) := by
  obtain ⟨d, es, n, hm', D, r⟩ := G
  exact ptWeak (pt_cmpR (op_notIn_kd D) ha (pe_glob (v := .ref d) hg hm' rfl hd) hm) fun σ H Q h => tst_bl (fun Q' h => cmpG_use (neg := true) D r h) h
theorem ve_ixG (G : GlobD X.K X.w cl X.mg x kvs) (ha : PE X a (tv X.K cl W f)) (hg : Gl X x := by rfl) (hd : (x == ("__debug__" : Str)) = false := by decide) (hs : PlainIx a := by exact fun _ _ => rfl) : PE X (.Subscript (.Name x p) a pos) (tv X.K cl W (e1 (ixG kvs) f)) := by
  obtain ⟨d, es, n, hm', D, r⟩ := G
  refine peWeak (pe_ix ix_kdict (pe_glob (v := .ref d) hg hm' rfl hd) ha hs) fun σ H Q ⟨Hs, ρ, E, h⟩ => ?_
  show tv X.K cl W f σ H fun y H2 => rIxD X.K X.w (.ref d) y H2 Q
  refine gv_bind E h fun v y Hs1 H1 _ s1 ry h1 => ?_
  obtain ⟨w, e, q⟩ := h1.opt
  cases ry with
  | str z =>
    have := nsG D r z
    replace e : lkG kvs z = some w := e
    rw [e] at this
    obtain ⟨v, y, g1, g2, g3⟩ := this
    exact ⟨d, z, y, rfl, rfl, ⟨es, n, v, D.at_, D.lit, g1, g2⟩, q.here s1.sub (g3 _)⟩
  | _ => cases e
/-! new own things as values -/
theorem ve_ofN {g : Ex} (h : PE X e (tn X.K cl W g)) : PE X e (tv X.K cl W g) :=
  peWeak h fun σ H Q ⟨Hs, ρ, E, h⟩ => by
    refine ⟨Hs, ρ, E, ?_⟩
    cases e : g ρ with
    | ok v =>
      rw [e] at h
      intro a Hs' H' s o n1 n2
      obtain ⟨ob, e1, _⟩ := o.some
      refine h _ (upd Hs' a ob) H' ⟨s.fs.trans (Sub.new n1), fun b o q => ?_, s.same, fun b hb n => ?_⟩ (o.rp (Sub.new n1) (by rw [upd_same, e1]))
      · by_cases hb : b = a
        · subst hb; rw [upd_same] at q; rw [e1]; exact q
        · rw [upd_ne hb] at q; exact s.sub b o q
      · rw [upd_ne (fun z => hb (by rw [z]; exact n2))]
        exact s.nw b hb n
    | exc c fs => rw [e] at h; exact h
    | stuck => rw [e] at h; exact h
/-! a dict asked by a key -/
def ixDP : PV → PV → Option PV
  | .dct kvs, y => (keyP y).bind (lkP kvs)
  | .dlk kvs, y => (keyP y).bind (lkP kvs)
  | _, _ => none
theorem ve_ixD (hu : X.A.units + 1 < cLine) (ha : PE X a (tv X.K cl W f)) (hb : PE X e (tv X.K cl W f')) (hs : NoSl e := by exact fun _ _ => rfl) : PE X (.Subscript a e pos) (tv X.K cl W (e2 ixDP f f')) :=
  peWeak (pe_dget hu ha hb hs) fun σ H Q ⟨Hs, ρ, E, h⟩ => by
    refine gv_bind E h fun v x Hs1 H1 _ s1 rx h1 => ?_
    refine gv_bind (E.up s1) h1 fun u y Hs2 H2 _ t1 ry h2 => ?_
    obtain ⟨w, e, q⟩ := h2.opt
    have rx2 := rx.mono t1.fs
    have go : ∀ {a : Addr} {vs : List (Key × V)} {kvs : List (Key × PV)}, (Rd H2 a (.dK vs)) → RpK X.K cl Hs2 vs kvs → (keyP u).bind (lkP kvs) = some w → ∃ a' v, V.ref a = .ref a' ∧ DGet H2 a' y (some v) ∧ Q v H2 := by
      intro a vs kvs hr rk e
      cases ek : keyP u with
      | none => rw [ek] at e; cases e
      | some k =>
        rw [ek] at e
        obtain ⟨v, g1, g2⟩ := (rk.lk k).1 w e
        exact ⟨a, v, rfl, .inl ⟨vs, k, hr, keyP_rp ry ek, g1.symm⟩, q.here t1.sub g2⟩
    cases rx2 with
    | dct hh rk => exact go (.inl (t1.sub _ _ hh)) rk e
    | dlk hh rk => exact go (.inr ⟨_, t1.sub _ _ hh⟩) rk e
    | _ => cases e
/-! split -/
def splitP (x y : PV) : R (List PV) := match x, y with
  | .str a, .str b => if (b.length == 0) = false ∧ a.length + 2 ≤ sizeLine then .ok ((Txt.split a b).map .str) else .stuck
  | _, _ => .stuck
def txtP : PV → R PV
  | .str a => .ok (.str a)
  | _ => .stuck
def eSplit (f g : Ex) : Ev → R (List PV) := fun ρ => ((f ρ).bind txtP).bind fun x => (g ρ).bind fun y => splitP x y
theorem rpa_str {K : PySem.W.Frag} {H : Hp} : ∀ (ys : List Str), RpA K cl H (ys.map V.str) (ys.map .str)
  | [] => .nil
  | y :: ys => .cons (.str y) (rpa_str ys)
theorem vo_split (ha : PE X o (tv X.K cl W f)) (hb : PE X e (tv X.K cl W f')) (hs : starEach [e] X.env = [(false, eval e X.env)] := by rfl) (hbase : attributeBase o "split" X.env (eval o X.env) = eval o X.env := by rfl) (hline : (apos.endLine == pos.line) = true := by rfl) :
    PE X (.Call (.Attribute o "split" apos) [e] [] pos) (to X.K cl W (eSplit f f')) :=
  peWeak (pe_split ha hb hs hbase hline) fun σ H Q ⟨Hs, ρ, E, h⟩ => by
    unfold eSplit at h
    refine ⟨Hs, ρ, E, ?_⟩
    cases e1 : f ρ with
    | ok v =>
      rw [e1] at h
      intro x Hs1 H1 s1 rx
      cases rx with
      | str a =>
        refine ⟨⟨a, rfl⟩, ?_⟩
        refine go_bind (E.up s1) (GO.up h s1) fun u y Hs2 H2 _ t1 ry h2 => ?_
        cases ry with
        | str b =>
          replace h2 : GO X.K cl W Hs2 H2 σ (if (b.length == 0) = false ∧ a.length + 2 ≤ sizeLine then .ok ((Txt.split a b).map .str) else .stuck) Q := h2
          split at h2
          · rename_i hk
            exact ⟨a, b, rfl, rfl, hk.1, hk.2, fun p n => own_lst h2 t1.sub n (rpa_str _)⟩
          · exact h2.elim
        | _ => exact h2.elim
      | _ => exact h.elim
    | exc c fs => rw [e1] at h; exact h
    | stuck => rw [e1] at h; exact h
end
/-! x.count(y), of nested data -/
def rCntD (K : PySem.W.Frag) : V → List V → Hp → VK → Prop := fun x xs H Q => ∃ (a : Addr) (y : V) (d : PyData) (ds : List PyData), x = V.ref a ∧ xs = [y] ∧ Dp K H (V.ref a) (.list ds) ∧ Dp K H y d ∧
  SeqAt.shaped (.list ds) = true ∧ SeqAt.shaped d = true ∧ Q (.int ((ds.countP fun z => PyData.eqv z d : Nat) : Int)) H
theorem mt_countD {X : Cx} (hu : X.A.units + 65 < cLine) : MtR X "list.count" (rCntD X.K) := by
  intro pins s σ H x xs v us Q I rx rxs h
  obtain ⟨a, y, d, ds, rfl, rfl, hl, hy, sl, sd, q⟩ := h
  cases rx
  cases rxs with
  | cons ry rt =>
    rename_i uy ut
    cases rt
    obtain ⟨bs, r1⟩ := Dp.reads I d y uy hy ry
    have hxs : PyData.canLayAll0 ds = true := SeqAt.canLay_of_shaped sl
    have hroom : X.A.units + 1 + min (PyData.depthAll ds) d.depth < cLine := room_in_shaped sd hu
    cases hl with
    | lst hs ha =>
      obtain ⟨its, rv, ⟨⟨cls, dd, data, sls⟩, n, ho, hc, hdn, hdt⟩, hlen⟩ := I.list hs
      simp only at hc hdt
      subst hc hdt
      obtain ⟨as, h4⟩ := Dp.readsAll I ds _ its ha rv
      have hmap : its.map (SeqAt.readOf s.heap) = ds := SeqAt.readsAll_map ds its as hxs h4
      have ec : its.toArray.toList.countP (fun u => PyData.eqv (SeqAt.readOf s.heap u) d) = ds.countP fun z => PyData.eqv z d := by
        rw [← hmap, List.countP_map]
        rfl
      refine call_meets PySem.F.slot_list_count ⟨_, ho, rfl⟩ PySem.F.entry_list_count (PySem.F.args_list_count_2 _ _)
        (SeqAt.list_countAt a its.toArray n dd sls uy (fun u => PyData.eqv (SeqAt.readOf s.heap u) d)) ⟨ho, SeqAt.items_eqAt (vs := its.toArray) (show ReadsAll s.heap its.toArray.toList ds as from h4) r1 hxs (SeqAt.canLay_of_shaped sd) hroom, ?_⟩
      refine ⟨.int ((ds.countP fun z => PyData.eqv z d : Nat) : Int), H, I.tok _, ⟨s.toks, ?_⟩, q⟩
      rw [ec]
def cntDO (xs : List PV) (y : PV) : Option PV := match y.data, PV.datas xs with
  | some d, some ds => if SeqAt.shaped d = true ∧ SeqAt.shaped (.list ds) = true then some (.int ((ds.countP fun z => PyData.eqv z d : Nat) : Int)) else none
  | _, _ => none
def cntDK (b : R PV) : PV → R PV
  | .lst xs => b.bind fun y => opt (cntDO xs y)
  | _ => .stuck
def eCntD (a b : Ex) : Ex := fun ρ => (a ρ).bind (cntDK (b ρ))
@[simp] theorem cntDK_l (b xs) : cntDK b (.lst xs) = b.bind fun y => opt (cntDO xs y) := rfl
@[simp] theorem eCntD_S (a b : Ex) (ρ : Ev) : eCntD a b ρ = (a ρ).bind (cntDK (b ρ)) := rfl
section
variable {X : Cx} {cl : Nat → Addr} {W : WX} {pos apos cpos : Pos} {e o : Expr} {f g : Ex}
theorem ve_cntLD (hu : X.A.units + 65 < cLine) (ho : PE X o (tv X.K cl W f)) (ha : PE X e (tv X.K cl W g))
    (hbase : attributeBase o "count" X.env (eval o X.env) = eval o X.env := by rfl)
    (hfew : ((backTo cpos (starEach [e] X.env)).all (fun x => !x.1) && (backToKw cpos (keywordEach [] X.env)).all (fun x => x.1.isSome)
      && decide ([e].length + ([] : List Keyword).length + (if ([] : List Keyword).isEmpty then 0 else 1) < 30)) = true := by rfl)
    (hline : (apos.endLine == cpos.line) = true := by rfl) (hs : starEach [e] X.env = (false, eval e X.env) :: starEach [] X.env := by rfl) (hplain : (backTo cpos (starEach [] X.env)).any (·.1) = false := by rfl) :
    PE X (.Call (.Attribute o "count" apos) [e] [] cpos) (tv X.K cl W (eCntD f g)) :=
  peWeak (pe_bm PySem.F.plainAttrs_list PySem.F.slot_list_count PySem.F.type_list_count (mt_countD hu) ho (va_cons ha va_nil hs) hbase hfew hline hs hplain) fun σ H Q ⟨Hs, ρ, E, h⟩ => by
    refine gv_bind E h fun v x Hs1 H1 _ s1 rx h1 => ?_
    cases rx with
    | @lst l vs xs hl ra =>
      refine ⟨.inl ⟨rfl, _, .of (s1.sub _ _ hl)⟩, ?_⟩
      refine ⟨Hs1, ρ, E.up s1, ?_⟩
      replace h1 : GP X.K cl (Rp X.K cl) W Hs1 H1 σ ((g ρ).bind fun y => opt (cntDO xs y)) Q := h1
      unfold evs
      cases e1 : g ρ with
      | ok y =>
        rw [e1] at h1
        intro us Hs2 H2 X2 ru
        have h2 : GP X.K cl (Rp X.K cl) W Hs2 H2 σ (opt (cntDO xs y)) Q := GP.up h1 X2
        obtain ⟨w, e2, q⟩ := h2.opt
        match us, ru with
        | [u], .cons r .nil =>
          unfold cntDO at e2
          split at e2
          · rename_i d ds hy hx
            split at e2
            · rename_i hk
              cases e2
              have rl : Rp X.K cl H2 (.ref l) (.lst xs) := (Rp.lst (X2.fs _ _ hl) (ra.mono X2.fs)).mono X2.sub
              have dl : Dp X.K H2 (.ref l) (.list ds) := rl.dp (by simp only [PV.data, hx, Option.map_some])
              exact ⟨l, u, d, ds, rfl, rfl, dl, (r.mono X2.sub).dp hy, hk.2, hk.1, q.here X2.sub (.int _)⟩
            · cases e2
          · cases e2
      | exc c fs => rw [e1] at h1; exact h1
      | stuck => rw [e1] at h1; exact h1
    | _ => exact h1.elim
end
/-! facts of a text's dicts -/
theorem keysLit_R {K : PySem.W.Frag} {w : World} {cl : Nat → Addr} {l : List DictEntry} (h : ∀ e ∈ l, ∃ x t, e.key = .str x t ∧ e.hash = PyData.keyHash w.params x) : PySem.W.KeysLit w.params l := by
  induction l with
  | nil => trivial
  | cons e r ih => exact ⟨h e List.mem_cons_self, ih fun e' h' => h e' (List.mem_cons_of_mem _ h')⟩
theorem dct_at {K : PySem.W.Frag} {w : World} {cl : Nat → Addr} {h : Heap} {mg : Str → Option Value} {x : Str} {kvs : List (Str × PV)} {d : Addr} {es : Array DictEntry} {n : Nat} (KX : K.In h) (G : h.Ns mainGlobals mg)
    (ha : PySem.W.nsIn K mainGlobals x = some (some (.ref d))) (hl : K.lookup d = some ⟨.type "dict", none, .dict es n, #[]⟩) (hk : PySem.W.KeysLit w.params es.toList) (hlow : (d == sysModules) = false) (hr : EntR K cl es.toList kvs) : GlobD K w cl mg x kvs :=
  ⟨d, es, n, PySem.W.mg_of KX G ha, ⟨hl, hk, hlow⟩, hr⟩
end VL
namespace VL
open PySem PySem.Spec PySem.SeqAt PyProof.Rows L2
/-! ### expressions that change own things -/
inductive FR (α : Type) where
  | ok (v : α) (ρ : Env) | exc (c : Nat) (fs : List (Str × PV)) (ρ : Env) | stuck
abbrev Fy := Env → FR PV
def FR.bind {α β : Type} (r : FR α) (k : α → Env → FR β) : FR β := match r with
  | .ok v ρ => k v ρ
  | .exc c fs ρ => .exc c fs ρ
  | .stuck => .stuck
section
variable (K : PySem.W.Frag) (cl : Nat → Addr) (He H0 : Hp) (pin : List Addr) (W : WX) {α β : Type} (rel : Hp → β → α → Prop)
def PF' (Hs : Hp) (σ : St) (r : FR α) (Q : β → Hp → Prop) : Prop := match r with
  | .ok v ρ' => ∀ x Hs' H', Sub Hs Hs' → SEnv K cl He H0 pin Hs' H' σ ρ' → rel Hs' x v → Q x H'
  | .exc c fs ρ' => ∀ d fvs Hs' H', Sub Hs Hs' → SEnv K cl He H0 pin Hs' H' σ ρ' → Hs' d = some (.xd fvs) → RpF K cl Hs' fvs fs → W (.ref (cl c)) (some d) σ H'
  | .stuck => False
def ty (f : Env → FR α) : St → Hp → (β → Hp → Prop) → Prop := fun σ H Q => ∃ Hs ρ, SEnv K cl He H0 pin Hs H σ ρ ∧ PF' K cl He H0 pin W rel Hs σ (f ρ) Q
end
section
variable {K : PySem.W.Frag} {cl : Nat → Addr} {He H0 : Hp} {pin : List Addr} {W : WX} {Hs Hs1 H H1 : Hp} {σ : St} {ρ : Env}
theorem PF'.up {α β : Type} {rel : Hp → β → α → Prop} {r : FR α} {Q : β → Hp → Prop} (h : PF' K cl He H0 pin W rel Hs σ r Q) (s : Sub Hs Hs1) : PF' K cl He H0 pin W rel Hs1 σ r Q := by
  cases r with
  | ok v ρ => exact fun x Hs' H' t => h x Hs' H' (s.trans t)
  | exc c fs ρ => exact fun d fvs Hs' H' t => h d fvs Hs' H' (s.trans t)
  | stuck => exact h
theorem ty_bind {α β α' β' : Type} {rel : Hp → β → α → Prop} {rel' : Hp → β' → α' → Prop} {f : Env → FR α} {k : α → Env → FR α'} {Q : β → Hp → Prop} {Q' : β' → Hp → Prop} (S : SEnv K cl He H0 pin Hs H σ ρ) (h : PF' K cl He H0 pin W rel' Hs σ ((f ρ).bind k) Q')
    (hk : ∀ v x Hs1 H1 ρ1, Sub Hs Hs1 → SEnv K cl He H0 pin Hs1 H1 σ ρ1 → rel Hs1 x v → PF' K cl He H0 pin W rel' Hs1 σ (k v ρ1) Q' → Q x H1) : ty K cl He H0 pin W rel f σ H Q := by
  refine ⟨Hs, ρ, S, ?_⟩
  cases e : f ρ with
  | ok v ρ1 =>
    rw [e] at h
    exact fun x Hs1 H1 up S1 r => hk v x Hs1 H1 ρ1 up S1 r (PF'.up h up)
  | exc c fs ρ1 => rw [e] at h; exact h
  | stuck => rw [e] at h; exact h
theorem PF'.here {α β : Type} {rel : Hp → β → α → Prop} {v : α} {x : β} {Q : β → Hp → Prop} (h : PF' K cl He H0 pin W rel Hs σ (.ok v ρ) Q) (S : SEnv K cl He H0 pin Hs H σ ρ) (r : rel Hs x v) : Q x H := h x Hs H (Sub.refl _) S r
/-- a plain expression that sees the own things of bs -/
def yE {α : Type} (nl : α → Bool) (bs : List Bool) (f : Ev → R α) : Env → FR α := fun ρ => match f (vw bs ρ) with
  | .ok v => .ok v (settle bs (nl v) ρ)
  | .exc c fs => .exc c fs (fr bs ρ)
  | .stuck => .stuck
theorem yE_use {α β : Type} {rel : Hp → β → α → Prop} {nl : α → Bool} (B : Bears K cl rel nl) {f : Ev → R α} {bs : List Bool} {Q : β → Hp → Prop} (S : SEnv K cl He H0 pin Hs H σ ρ) (h : PF' K cl He H0 pin W rel Hs σ (yE nl bs f ρ) Q) : gv K cl rel W f σ H Q := by
  refine ⟨_, _, S.pe bs, ?_⟩
  unfold yE at h
  have s1 := (S.plusExt bs).1
  cases e : f (vw bs ρ) with
  | ok v =>
    rw [e] at h
    replace h : PF' K cl He H0 pin W rel Hs σ (.ok v (settle bs (nl v) ρ)) Q := h
    intro x Hs1 H1 X r
    cases en : nl v with
    | false =>
      have es : settle bs (nl v) ρ = fr bs ρ := by unfold settle; rw [en]; rfl
      rw [es] at h
      exact h x Hs1 H1 (s1.trans X.fs) (S.froze X) r
    | true =>
      have es : settle bs (nl v) ρ = ρ := by unfold settle; rw [en]; rfl
      rw [es] at h
      obtain ⟨S1, up⟩ := S.back X
      refine h x _ H1 up S1 (B.cut ⟨fun a p => ?_⟩ r en)
      obtain ⟨o, e1, k1⟩ := (S.ownAt p).1
      exact ⟨o, X.fs _ _ (by rw [plus_yes p]; exact e1), k1⟩
  | exc c fs =>
    rw [e] at h
    intro d fvs Hs1 H1 X e1 r
    exact h d fvs Hs1 H1 (s1.trans X.fs) (S.froze X) e1 r
  | stuck => rw [e] at h; exact h
/-- a new list whose items lean on nothing own: it stays, and so do the own things -/
def yNew (bs : List Bool) (g : Ev → R (List PV)) : Fy := fun ρ => match g (vw bs ρ) with
  | .ok xs => .ok (.lst xs) (settle bs (PV.nols xs) ρ)
  | .exc c fs => .exc c fs (fr bs ρ)
  | .stuck => .stuck
end
section
variable {X : Cx} {cl : Nat → Addr} {W : WX} {He H0 : Hp} {pin : List Addr} {pos p : Pos} {a b e : Expr}
theorem y_pure {f : Ex} (bs : List Bool) (h : PE X e (tv X.K cl W f)) : PE X e (ty X.K cl He H0 pin W (Rp X.K cl) (yE PV.nol bs f)) := peWeak h fun σ H Q ⟨Hs, ρ, S, h⟩ => yE_use bears_v S h
def yArgs : List Fy → Env → FR (List PV)
  | [], ρ => .ok [] ρ
  | f :: r, ρ => (f ρ).bind fun v ρ1 => (yArgs r ρ1).bind fun vs ρ2 => .ok (v :: vs) ρ2
theorem ya_nil : PA X [] (ty X.K cl He H0 pin W (RpA X.K cl) (yArgs [])) := paWeak pa_nil fun σ H Q ⟨Hs, ρ, S, h⟩ => PF'.here h S .nil
theorem ya_cons {es : List Expr} {f : Fy} {r : List Fy} (ha : PE X e (ty X.K cl He H0 pin W (Rp X.K cl) f)) (hr : PA X es (ty X.K cl He H0 pin W (RpA X.K cl) (yArgs r))) (hs : starEach (e :: es) X.env = (false, eval e X.env) :: starEach es X.env := by rfl) :
    PA X (e :: es) (ty X.K cl He H0 pin W (RpA X.K cl) (yArgs (f :: r))) :=
  paWeak (pa_cons ha hr hs) fun σ H Q ⟨Hs, ρ, S, h⟩ => by
    refine ty_bind S h fun v x Hs1 H1 ρ1 _ S1 rx h1 => ?_
    refine ty_bind S1 h1 fun vs xs Hs2 H2 ρ2 up S2 rxs h2 => ?_
    exact PF'.here h2 S2 (.cons (rx.mono up) rxs)
def yTup (fs : List Fy) : Fy := fun ρ => (yArgs fs ρ).bind fun xs ρ1 => if xs.length ≤ sizeLine then .ok (.tup xs) ρ1 else .stuck
theorem y_tup {es : List Expr} {x1} {fs : List Fy} (h : PA X es (ty X.K cl He H0 pin W (RpA X.K cl) (yArgs fs))) : PE X (.Tuple es x1 pos) (ty X.K cl He H0 pin W (Rp X.K cl) (yTup fs)) :=
  peWeak (pe_tup h) fun σ H Q ⟨Hs, ρ, S, h⟩ => by
    refine ty_bind S h fun vs xs Hs1 H1 ρ1 _ S1 rx h1 => ?_
    split at h1
    · rename_i hz
      refine ⟨by rw [rx.length]; exact hz, fun p n => ?_⟩
      have X2 := Ext.new (o := .tup xs) S1.sub n
      exact h1 (.ref p) _ _ X2.fs (S1.ext1 X2) (.tup (.of upd_same) (rx.mono X2.fs))
    · exact h1.elim
def yOp (g : PV → PV → Option PV) (f1 f2 : Fy) : Fy := fun ρ => (f1 ρ).bind fun x ρ1 => (f2 ρ1).bind fun y ρ2 => match g x y with
  | some w => .ok w ρ2
  | none => .stuck
theorem yop_use {r : R2} {og : PV → PV → Option PV} {f1 f2 : Fy} (hg : OpV X.K cl r og) {σ : St} {H : Hp} {Q : VK} (h : ty X.K cl He H0 pin W (Rp X.K cl) (yOp og f1 f2) σ H Q) : tOp r (ty X.K cl He H0 pin W (Rp X.K cl) f1) (ty X.K cl He H0 pin W (Rp X.K cl) f2) σ H Q := by
  obtain ⟨Hs, ρ, S, h⟩ := h
  refine ty_bind S h fun v x Hs1 H1 ρ1 _ S1 rx h1 => ?_
  refine ty_bind S1 h1 fun u y Hs2 H2 ρ2 up S2 ry h2 => ?_
  cases e : og v u with
  | none => simp only [e] at h2; exact h2.elim
  | some w =>
    simp only [e] at h2
    exact hg W σ Hs2 H2 x y v u w Q S2.sub (rx.mono up) ry e fun z Hs3 H3 X3 rz => h2 z Hs3 H3 X3.fs (S2.ext1 X3) rz
theorem y_bin {op : Operator} {r : R2} {og : PV → PV → Option PV} {f1 f2 : Fy} (ho : OpR X (binaryOp op) r) (hg : OpV X.K cl r og) (ha : PE X a (ty X.K cl He H0 pin W (Rp X.K cl) f1)) (hb : PE X b (ty X.K cl He H0 pin W (Rp X.K cl) f2)) : PE X (.BinOp a op b pos) (ty X.K cl He H0 pin W (Rp X.K cl) (yOp og f1 f2)) :=
  peWeak (pe_op ho ha hb) fun _ _ _ h => yop_use hg h
theorem y_ix {f1 f2 : Fy} (ha : PE X a (ty X.K cl He H0 pin W (Rp X.K cl) f1)) (hb : PE X b (ty X.K cl He H0 pin W (Rp X.K cl) f2)) (hs : PlainIx b := by exact fun _ _ => rfl) : PE X (.Subscript a b pos) (ty X.K cl He H0 pin W (Rp X.K cl) (yOp ixP f1 f2)) :=
  peWeak (pe_ix ix_seq ha hb hs) fun _ _ _ h => yop_use ov_ix h
def y1 (g : PV → Option PV) (f : Fy) : Fy := fun ρ => (f ρ).bind fun x ρ1 => match g x with
  | some w => .ok w ρ1
  | none => .stuck
theorem y_neg {f : Fy} (ha : PE X a (ty X.K cl He H0 pin W (Rp X.K cl) f)) : PE X (.UnaryOp .USub a pos) (ty X.K cl He H0 pin W (Rp X.K cl) (y1 negP f)) :=
  peWeak (pe_un un_neg ha) fun σ H Q ⟨Hs, ρ, S, h⟩ => by
    refine ty_bind S h fun v x Hs1 H1 ρ1 _ S1 rx h1 => ?_
    cases rx with
    | int i => exact ⟨i, rfl, PF'.here h1 S1 (.int _)⟩
    | _ => exact h1.elim
end
/-! ### own things given to be changed -/
def del (a : Addr) (H : Hp) : Hp := fun b => if b = a then none else H b
theorem del_same {a : Addr} {H : Hp} : del a H a = none := if_pos rfl
theorem del_ne {a b : Addr} {H : Hp} (h : b ≠ a) : del a H b = H b := if_neg h
/-- the values at a call: the thing itself at its places -/
inductive RpO (K : PySem.W.Frag) (cl : Nat → Addr) (a : Addr) (Hs : Hp) : List V → List (Option PV) → Prop where
  | nil : RpO K cl a Hs [] []
  | val {v : V} {u : PV} {vs : List V} {us : List (Option PV)} : Rp K cl Hs v u → RpO K cl a Hs vs us → RpO K cl a Hs (v :: vs) (some u :: us)
  | pin {vs : List V} {us : List (Option PV)} : RpO K cl a Hs vs us → RpO K cl a Hs (.ref a :: vs) (none :: us)
section
variable {K : PySem.W.Frag} {cl : Nat → Addr} {He H0 : Hp} {pin : List Addr} {Hs Hs' H H' : Hp} {σ : St} {ρ : Env} {a : Addr}
theorem RpO.mono (s : Sub Hs Hs') : ∀ {vs : List V} {us : List (Option PV)}, RpO K cl a Hs vs us → RpO K cl a Hs' vs us
  | _, _, .nil => .nil
  | _, _, .val r t => .val (r.mono s) (t.mono s)
  | _, _, .pin t => .pin (t.mono s)
theorem RpO.length : ∀ {vs : List V} {us : List (Option PV)}, RpO K cl a Hs vs us → vs.length = us.length
  | _, _, .nil => rfl
  | _, _, .val _ t => congrArg (· + 1) t.length
  | _, _, .pin t => congrArg (· + 1) t.length
theorem RpO.get : ∀ {vs : List V} {us : List (Option PV)}, RpO K cl a Hs vs us → ∀ {i : Nat} {u : Option PV}, us[i]? = some u → ∃ v, vs[i]? = some v ∧ (match u with | some u => Rp K cl Hs v u | none => v = .ref a)
  | _, _, .val r t, 0, u, h => by cases h; exact ⟨_, rfl, r⟩
  | _, _, .pin t, 0, u, h => by cases h; exact ⟨_, rfl, rfl⟩
  | _, _, .val r t, i + 1, u, h => t.get (i := i) h
  | _, _, .pin t, i + 1, u, h => t.get (i := i) h
/-- behind a call that changed the thing at a -/
theorem SEnv.called (S : SEnv K cl He H0 pin Hs H σ ρ) {i : Nat} {t : Option Nat} {s : PV} (ho : VL.ownAt ρ i = some (t, s)) (ha : σ[i]? = some (some (.ref a))) (X : Ext Hs (del a H) Hs' H') {u : Sl}
    (hu : u = .no ∨ ∃ s', ownv u = some (t, s') ∧ OwnAt K cl H' Hs' a s' ∧ Hs' a = none) : SEnv K cl He H0 pin Hs' H' σ (ρ.set i u) := by
  obtain ⟨a', e1, o, n1, n2, hp⟩ := S.ow i t s ho
  rw [ha] at e1
  cases e1
  have hne : ∀ b, H0 b ≠ none → b ≠ a := fun b h z => h (by rw [z]; exact n2)
  refine ⟨⟨S.ext.fs.trans X.fs, X.sub, fun b o h => ?_, fun b h n => ?_⟩, by simpa using S.len, fun j v h => ?_, fun j t' v h => ?_, fun j k p q c h1 h2 g1 g2 => ?_⟩
  · refine X.same b o ?_
    rw [del_ne (hne b (by rw [h]; simp))]
    exact S.ext.same b o h
  · refine X.nw b ?_ (S.ext.nw b h n)
    rw [del_ne (hne b h)]
    cases q : H0 b with
    | none => exact absurd q h
    | some o => rw [S.ext.same b o q]; simp
  · rcases set_get h with ⟨e1, e2, hl⟩ | ⟨e1, h⟩
    · exfalso
      rcases hu with hu | ⟨s', hu, _⟩
      · rw [hu] at e2; cases e2
      · rw [← e2] at hu; cases hu
    · obtain ⟨x, g1, g2⟩ := S.fz j v h
      exact ⟨x, g1, g2.mono X.fs⟩
  · rcases set_own h with ⟨e1, e2, hl⟩ | ⟨e1, h⟩
    · subst e1
      rcases hu with hu | ⟨s', hu, o', n'⟩
      · rw [hu] at e2; cases e2
      · rw [hu] at e2
        cases e2
        exact ⟨a, ha, o', n', n2, hp⟩
    · obtain ⟨b, g1, g2, g3, g4, g5⟩ := S.ow j t' v h
      have hb : b ≠ a := fun z => by
        subst z
        exact e1 (S.ij j i _ _ b h ho g1 ha)
      obtain ⟨w, hw, _⟩ := g2.some
      have hw2 : H' b = some w := X.same b w (by rw [del_ne hb]; exact hw)
      exact ⟨b, g1, g2.mono X.fs (by rw [hw2, hw]), X.nw b (by rw [del_ne hb, hw]; simp) g3, g4, g5⟩
  · have key : ∀ (j : Nat) (p : Option Nat × PV), VL.ownAt (ρ.set i u) j = some p → ∃ p', VL.ownAt ρ j = some p' := fun j p h => by
      rcases set_own h with ⟨e1, _, _⟩ | ⟨_, h⟩
      · subst e1; exact ⟨_, ho⟩
      · exact ⟨_, h⟩
    obtain ⟨p', h1'⟩ := key j p h1
    obtain ⟨q', h2'⟩ := key k q h2
    exact S.ij j k p' q' c h1' h2' g1 g2
end
end VL
namespace VL
open PySem PySem.Spec PySem.SeqAt PyProof.Rows L2
/-! ### defs that change what is passed to them -/
def spPM (K : PySem.W.Frag) (cl : Nat → Addr) (a : Addr) (Hs H : Hp) (Q : VK) (E : XK) : R PV → Prop
  | .ok p => ∃ v s', p = .tup [v, s'] ∧ ∀ x Hs' H', Ext Hs (del a H) Hs' H' → Rp K cl Hs' x v → OwnAt K cl H' Hs' a s' → Hs' a = none → Q x H'
  | .exc c fs => ∀ d fvs Hs' H', Ext Hs (del a H) Hs' H' → Hs' d = some (.xd fvs) → RpF K cl Hs' fvs fs → E (.ref (cl c)) (some d) H'
  | .stuck => False
def fillS (us : List (Option PV)) (s : PV) : List PV := us.map (·.getD s)
def spM (K : PySem.W.Frag) (cl : Nat → Addr) (pt : List Bool) (g : List PV → R PV) : Sp := fun vs H Q E => ∃ Hs us a s, Sub Hs H ∧ RpO K cl a Hs vs us ∧ us.map (·.isNone) = pt ∧ OwnAt K cl H Hs a s ∧ Hs a = none ∧ spPM K cl a Hs H Q E (g (fillS us s))
/-- the slots at such a def's entry -/
def startM (n : Nat) (pt : List Bool) (us : List PV) : Env := (us.zip pt).map (fun p => if p.2 = true then .om (some 0) p.1 else .fz p.1) ++ List.replicate (n - us.length) Sl.no
def outM (m : Nat) : Out → R PV
  | .next ρ => match ρ[m]? with | some (.om (some 0) s) => .ok (.tup [.non, s]) | _ => .stuck
  | .ret v => .ok v
  | .exc c fs _ => .exc c fs
  | _ => .stuck
theorem fillS_get {us : List (Option PV)} {s : PV} {i : Nat} {sl : Sl} {n : Nat} (h : (startM n (us.map (·.isNone)) (fillS us s))[i]? = some sl) : (∃ u, us[i]? = some (some u) ∧ sl = .fz u) ∨ (us[i]? = some none ∧ sl = .om (some 0) s) ∨ sl = .no := by
  unfold startM fillS at h
  have hl : ((us.map (·.getD s)).zip (us.map (·.isNone))).length = us.length := by simp
  by_cases hi : i < us.length
  · rw [List.getElem?_append_left (by simp; exact hi), List.getElem?_map] at h
    have e : ((us.map (·.getD s)).zip (us.map (·.isNone)))[i]? = some (us[i].getD s, us[i].isNone) := by
      rw [List.getElem?_zip_eq_some]
      simp [hi]
    rw [e] at h
    simp only [Option.map_some, Option.some.injEq] at h
    cases e2 : us[i] with
    | none => rw [e2] at h; exact .inr (.inl ⟨by rw [List.getElem?_eq_getElem hi, e2], by rw [← h]; rfl⟩)
    | some u => rw [e2] at h; exact .inl ⟨u, by rw [List.getElem?_eq_getElem hi, e2], by rw [← h]; rfl⟩
  · rw [List.getElem?_append_right (by simp; omega), List.getElem?_replicate] at h
    split at h
    · cases h; exact .inr (.inr rfl)
    · cases h
theorem fillS_len (us : List (Option PV)) (s : PV) : (fillS us s).length = us.length := by simp [fillS]
theorem startM_ok {K : PySem.W.Frag} {cl : Nat → Addr} {Hs H : Hp} {N : List Str} {vs : List V} {us : List (Option PV)} {a : Addr} {s : PV} (sb : Sub Hs H) (r : RpO K cl a Hs vs us) (o : OwnAt K cl H Hs a s) (n : Hs a = none)
    (one : ∀ i j : Nat, us[i]? = some none → us[j]? = some none → i = j) : SEnv K cl Hs (del a H) [a] Hs H (L2.start N vs) (startM N.length (us.map (·.isNone)) (fillS us s)) := by
  have at_ : ∀ {i : Nat} {v : V}, vs[i]? = some v → (L2.start N vs)[i]? = some (some v) := fun {i v} e3 => by
    unfold L2.start
    have hi : i < vs.length := (List.getElem?_eq_some_iff.mp e3).1
    rw [List.getElem?_append_left (by simpa using hi), List.getElem?_map, e3]
    rfl
  have own_ : ∀ {i : Nat} {p : Option Nat × PV}, ownAt (startM N.length (us.map (·.isNone)) (fillS us s)) i = some p → us[i]? = some none ∧ p = (some 0, s) := fun {i p} h => by
    unfold VL.ownAt at h
    cases e : (startM N.length (us.map (·.isNone)) (fillS us s))[i]? with
    | none => rw [e] at h; cases h
    | some sl =>
      rw [e] at h
      rcases fillS_get e with ⟨u, _, rfl⟩ | ⟨e1, rfl⟩ | rfl
      · cases h
      · cases h; exact ⟨e1, rfl⟩
      · cases h
  refine ⟨⟨Sub.refl _, sb, fun b ob h => ?_, fun b h z => z⟩, ?_, fun i v h => ?_, fun i t v h => ?_, fun i j p q c h1 h2 g1 g2 => one i j (own_ h1).1 (own_ h2).1⟩
  · by_cases z : b = a
    · rw [z, del_same] at h; cases h
    · rwa [del_ne z] at h
  · unfold L2.start startM
    rw [List.length_append, List.length_append, List.length_map, List.length_map, List.length_replicate, List.length_replicate, List.length_zip, fillS_len, List.length_map, r.length, Nat.min_self]
  · rcases fillS_get h with ⟨u, e1, e2⟩ | ⟨_, e2⟩ | e2
    · cases e2
      obtain ⟨x, e3, rx⟩ := r.get e1
      exact ⟨x, at_ e3, rx⟩
    · cases e2
    · cases e2
  · obtain ⟨e1, e2⟩ := own_ h
    cases e2
    obtain ⟨x, e3, rx⟩ := r.get e1
    have rx : x = V.ref a := rx
    subst rx
    exact ⟨a, at_ e3, o, n, del_same, fun k hk => by cases hk; rfl⟩
section
variable {P : Program} {w : World} {K : PySem.W.Frag} {mg : Str → Option Value} {base : Heap} {cl : Nat → Addr}
/-- THE RULE for such a def -/
theorem def_okM {x qual : Str} {st : Stmt} {f : Addr} {fd : FuncData} {N ps : List Str} {k m : Nat} {pt : List Bool} {b : Env → Out} (F : Fun K x qual st f fd) (S : FnScope N ps (defScope st)) (hpl : pt.length = ps.length) (hone : ∀ i j : Nat, pt[i]? = some true → pt[j]? = some true → i = j)
    (hbody : ∀ (cdv : Value) (A : Around) (outer : List PySem.Env) (s : Shared) (H H0 : Hp) (E : XK) (He : Hp) (a : Addr), Room k (A.deeper (envOfC qual (defScope st) s.heap.objs.size f cdv)) →
      PVs (cxOf (L2.CX P w) P w K mg base N qual (defScope st) f cdv A outer s H E) cl (fun c d _ H => E c d H) He H0 [a] (defBody st) b) : FnOk P w K mg base (L2.CX P w) (k + 1) f fd ps (spM K cl pt fun us => outM m (b (startM N.length pt us))) := by
  refine F.okX S (fun vs H Q E ⟨_, us, _, _, _, r, e, _⟩ => by rw [r.length, ← hpl, ← e, List.length_map]) fun cdv A outer s H vs Q E hr ⟨Hs, us, a, s0, s1, r, hp, o, n, h⟩ => ?_
  have one : ∀ i j : Nat, us[i]? = some none → us[j]? = some none → i = j := fun i j h1 h2 => hone i j (by rw [← hp, List.getElem?_map, h1]; rfl) (by rw [← hp, List.getElem?_map, h2]; rfl)
  have S0 := startM_ok (N := N) s1 r o n one
  rw [hp] at S0
  refine ⟨_, hbody cdv A outer s H (del a H) E Hs a hr, Hs, _, S0, ?_⟩
  replace h : spPM K cl a Hs H Q E (outM m (b (startM N.length pt (fillS us s0)))) := h
  cases e : b (startM N.length pt (fillS us s0)) with
  | next ρ =>
    rw [e] at h
    intro σ Hs' H' _ S'
    unfold outM at h
    cases eo : ρ[m]? with
    | none => simp only [eo] at h; exact h.elim
    | some sl =>
      simp only [eo] at h
      cases sl with
      | om t v =>
        cases t with
        | none => exact h.elim
        | some t =>
          cases t with
          | zero =>
            obtain ⟨v', s', e1, h⟩ := h
            cases e1
            obtain ⟨c, g1, g2, g3, g4, g5⟩ := S'.ow m (some 0) v (ownAt_om eo)
            have := g5 0 rfl
            cases this
            exact h .non Hs' H' S'.ext .non g2 g3
          | succ t => exact h.elim
      | _ => exact h.elim
  | ret v =>
    rw [e] at h
    obtain ⟨v', s', e1, h⟩ := h
    have e1 : v = .tup [v', s'] := e1
    intro x Hs' H' X j
    obtain ⟨v2, s2, e2, r2, o2, n2⟩ := j
    rw [e1] at e2
    cases e2
    exact h x Hs' H' X r2 o2 n2
  | exc c fs ρ => rw [e] at h; exact fun σ Hs' H' d fvs _ S' e1 r1 => h d fvs Hs' H' S'.ext e1 r1
  | brk ρ => rw [e] at h; exact h.elim
  | cont ρ => rw [e] at h; exact h.elim
  | stuck => rw [e] at h; exact h.elim
theorem def_noneM {fd : FuncData} {f : Addr} {ps : List Str} {k : Nat} {pt : List Bool} : FnOk P w K mg base (L2.CX P w) k f fd ps (spM K cl pt fun _ => .stuck) :=
  ⟨fun vs H Q E ⟨_, _, _, _, _, _, _, _, _, h⟩ => h.elim, fun A outer s H args us vs Q E _ _ _ _ ⟨_, _, _, _, _, _, _, _, _, h⟩ => h.elim⟩
end
/-! ### their calls -/
def yArgsO : List (Option Fy) → Env → FR (List (Option PV))
  | [], ρ => .ok [] ρ
  | none :: r, ρ => (yArgsO r ρ).bind fun vs ρ2 => .ok (none :: vs) ρ2
  | some f :: r, ρ => (f ρ).bind fun v ρ1 => (yArgsO r ρ1).bind fun vs ρ2 => .ok (some v :: vs) ρ2
def tyO (K : PySem.W.Frag) (cl : Nat → Addr) (He H0 : Hp) (pin : List Addr) (W : WX) (i : Nat) (fs : List (Option Fy)) : TA := fun σ H Q => ∃ a, σ[i]? = some (some (V.ref a)) ∧ ty K cl He H0 pin W (RpO K cl a) (yArgsO fs) σ H Q
/-- the own thing's new state -/
def putOw (ρ : Env) (i : Nat) (s' : PV) : Option Env := match ρ[i]?, s' with
  | some (.own _), .lst ys => some (ρ.set i (.own ys))
  | some (.om t _), s' => some (ρ.set i (.om t s'))
  | _, _ => none
def yCallK (pt : List Bool) (g : List PV → R PV) (i : Nat) (us : List (Option PV)) (ρ1 : Env) : FR PV := match ownAt ρ1 i with
  | none => .stuck
  | some (_, s) => if us.map (·.isNone) = pt then (match g (fillS us s) with
    | .ok (.tup [v, s']) => (match putOw ρ1 i s' with | some ρ2 => .ok v ρ2 | none => .stuck)
    | .exc c fs => .exc c fs (ρ1.set i .no)
    | _ => .stuck) else .stuck
def yCallM (pt : List Bool) (g : List PV → R PV) (i : Nat) (fs : List (Option Fy)) : Fy := fun ρ => if (ownAt ρ i).isSome = true then (yArgsO fs ρ).bind (yCallK pt g i) else .stuck
section
variable {X : Cx} {cl : Nat → Addr} {W : WX} {He H0 : Hp} {pin : List Addr} {pos p : Pos} {e : Expr} {es : List Expr} {i : Nat}
theorem yo_nil : PA X [] (tyO X.K cl He H0 pin W i []) := paWeak pa_nil fun σ H Q ⟨a, ha, Hs, ρ, S, h⟩ => PF'.here h S .nil
theorem yo_cons {f : Fy} {r : List (Option Fy)} (ha : PE X e (ty X.K cl He H0 pin W (Rp X.K cl) f)) (hr : PA X es (tyO X.K cl He H0 pin W i r)) (hs : starEach (e :: es) X.env = (false, eval e X.env) :: starEach es X.env := by rfl) :
    PA X (e :: es) (tyO X.K cl He H0 pin W i (some f :: r)) :=
  paWeak (pa_cons ha hr hs) fun σ H Q ⟨a, hσ, Hs, ρ, S, h⟩ => by
    refine ty_bind S h fun v x Hs1 H1 ρ1 _ S1 rx h1 => ⟨a, hσ, ?_⟩
    refine ty_bind S1 h1 fun vs xs Hs2 H2 ρ2 up S2 rxs h2 => ?_
    exact PF'.here h2 S2 (.val (rx.mono up) rxs)
theorem yo_pin {x : Str} {px : Pos} {r : List (Option Fy)} (hr : PA X es (tyO X.K cl He H0 pin W i r)) (hi : X.N[i]? = some x := by rfl) (hv : Vis X.env.scope x := by first | exact Or.inl rfl | exact Or.inr (Or.inl rfl) | exact Or.inr (Or.inr rfl)) (hd : (x == ("__debug__" : Str)) = false := by decide) (hcd : (x == ("__classdict__" : Str)) = false := by decide)
    (hs : starEach (.Name x px :: es) X.env = (false, eval (.Name x px) X.env) :: starEach es X.env := by rfl) : PA X (.Name x px :: es) (tyO X.K cl He H0 pin W i (none :: r)) :=
  paWeak (pa_cons (pe_var hi hv hd hcd) hr hs) fun σ H Q ⟨a, hσ, Hs, ρ, S, h⟩ => ⟨_, hσ, a, hσ, by
    refine ty_bind S h fun vs xs Hs2 H2 ρ2 up S2 rxs h2 => ?_
    exact PF'.here h2 S2 (.pin rxs)⟩
/-- behind the arguments -/
theorem callM_use {K : PySem.W.Frag} {σ : St} {Hs H : Hp} {ρ1 : Env} {a : Addr} {pt : List Bool} {g : List PV → R PV} {us : List (Option PV)} {vs : List V} {Q : VK} (S : SEnv K cl He H0 pin Hs H σ ρ1) (ha : σ[i]? = some (some (V.ref a))) (r : RpO K cl a Hs vs us)
    (h : PF' K cl He H0 pin W (Rp K cl) Hs σ (yCallK pt g i us ρ1) Q) : spM K cl pt g vs H Q (WE W σ) := by
  unfold yCallK at h
  cases eo : ownAt ρ1 i with
  | none => simp only [eo] at h; exact h.elim
  | some q =>
    obtain ⟨t, s⟩ := q
    simp only [eo] at h
    split at h
    · rename_i hp
      obtain ⟨b, e1, o, n1, n2, hpn⟩ := S.ow i t s eo
      rw [ha] at e1
      cases e1
      refine ⟨Hs, us, a, s, S.sub, r, hp, o, n1, ?_⟩
      cases eg : g (fillS us s) with
      | ok v =>
        rw [eg] at h
        split at h
        · rename_i v0 v s' e2
          cases e2
          cases ep : putOw ρ1 i s' with
          | none => simp only [ep] at h; exact h.elim
          | some ρ2 =>
            simp only [ep] at h
            refine ⟨v, s', rfl, fun x Hs' H' X' rx o' n' => ?_⟩
            have hu : ∃ u, ρ2 = ρ1.set i u ∧ ∃ s'', ownv u = some (t, s'') ∧ s'' = s' := by
              unfold putOw at ep
              unfold VL.ownAt at eo
              cases er : ρ1[i]? with
              | none => rw [er] at eo; cases eo
              | some sl =>
                rw [er] at eo ep
                cases sl with
                | own xs =>
                  cases s' with
                  | lst ys => cases ep; cases eo; exact ⟨.own ys, rfl, _, rfl, rfl⟩
                  | _ => cases ep
                | om t' v' => cases ep; cases eo; exact ⟨.om t s', rfl, _, rfl, rfl⟩
                | _ => cases eo
            obtain ⟨u, rfl, s'', hu1, rfl⟩ := hu
            exact h x Hs' H' X'.fs (S.called eo ha X' (.inr ⟨_, hu1, o', n'⟩)) rx
        · rename_i e2; cases e2
        · exact h.elim
      | exc c fs =>
        rw [eg] at h
        exact fun d fvs Hs' H' X' e3 r3 => h d fvs Hs' H' X'.fs (S.called eo ha X' (.inl rfl)) e3 r3
      | stuck => rw [eg] at h; exact h.elim
    · exact h.elim
/-- such a def by its name -/
structure DefAtM (P : Program) (w : World) (K : PySem.W.Frag) (mg : Str → Option Value) (base : Heap) (cl : Nat → Addr) (k : Nat) (x : Str) (pt : List Bool) (g : List PV → R PV) : Prop where
  ex : ∃ (f : Addr) (fd : FuncData) (ps : List Str), FnOk P w K mg base (L2.CX P w) k f fd ps (spM K cl pt g) ∧ mg x = some (.ref f) ∧ PySem.W.keepIn K (.ref f) = true ∧ Binds K fd ps []
theorem y_call {x : Str} {k : Nat} {pt : List Bool} {g : List PV → R PV} {fs : List (Option Fy)} (D : DefAtM X.prog X.w X.K X.mg X.base cl k x pt g) (hr : Room k X.A) (tk : Takes X W) (ha : PA X (e :: es) (tyO X.K cl He H0 pin W i fs))
    (hg : Gl X x := by rfl) (hdb : (x == ("__debug__" : Str)) = false := by decide) (he : starEach (e :: es) X.env = (false, eval e X.env) :: starEach es X.env := by rfl) (hpl : (backTo pos (starEach es X.env)).any (·.1) = false := by rfl) :
    PE X (.Call (.Name x p) (e :: es) [] pos) (ty X.K cl He H0 pin W (Rp X.K cl) (yCallM pt g i fs)) := by
  obtain ⟨f, fd, ps, F, hm, hk, hb⟩ := D.ex
  refine peWeak (pe_callSD (dvs := []) (E := fun σ => WE W σ) F hr hg hm hk hb .nil (fun σ => passAt tk σ) ha hdb he hpl) fun σ H Q hh => ?_
  obtain ⟨Hs, ρ, S, h⟩ := hh
  unfold yCallM at h
  cases eo : ownAt ρ i with
  | none => simp only [eo] at h; exact h.elim
  | some q =>
  simp only [eo, Option.isSome_some, if_true] at h
  obtain ⟨a, hσ, _⟩ := S.ow i q.1 q.2 eo
  refine ⟨a, hσ, ?_⟩
  refine ty_bind S h fun us vs Hs1 H1 ρ1 _ S1 r h1 => ?_
  show spM X.K cl pt g (vs ++ []) H1 Q (WE W σ)
  rw [List.append_nil]
  exact callM_use S1 hσ r h1
end
end VL
namespace VL
open PySem PySem.Spec PySem.SeqAt PyProof.Rows L2
/-! ### statements with expressions that change own things -/
def onY {α : Type} (f : Env → FR α) (ρ : Env) (k : α → Env → Out) : Out := match f ρ with
  | .ok v ρ1 => k v ρ1
  | .exc c fs ρ1 => .exc c fs ρ1
  | .stuck => .stuck
section
variable {K : PySem.W.Frag} {cl : Nat → Addr} {He H0 : Hp} {pin : List Addr} {W : WX} {Hs Hs1 H H1 : Hp} {σ : St} {ρ : Env} {D : Ends}
theorem onY_use {α β : Type} {rel : Hp → β → α → Prop} {f : Env → FR α} {k : α → Env → Out} {Q : β → Hp → Prop} (S : SEnv K cl He H0 pin Hs H σ ρ) (h : Post K cl He H0 pin W Hs D (onY f ρ k))
    (hk : ∀ v x Hs1 H1 ρ1, Sub Hs Hs1 → SEnv K cl He H0 pin Hs1 H1 σ ρ1 → rel Hs1 x v → Post K cl He H0 pin W Hs1 D (k v ρ1) → Q x H1) : ty K cl He H0 pin W rel f σ H Q := by
  refine ⟨Hs, ρ, S, ?_⟩
  unfold onY at h
  cases e : f ρ with
  | ok v ρ1 =>
    rw [e] at h
    exact fun x Hs1 H1 up S1 r => hk v x Hs1 H1 ρ1 up S1 r (Post.up h up)
  | exc c fs ρ1 => rw [e] at h; exact fun d fvs Hs1 H1 up S1 e1 r => h σ Hs1 H1 d fvs up S1 e1 r
  | stuck => rw [e] at h; exact h
end
def sSetY (i : Nat) (f : Fy) : Env → Out := fun ρ => onY f ρ fun v ρ1 => .next (ρ1.set i (.fz v))
def sExprY (f : Fy) : Env → Out := fun ρ => onY f ρ fun _ ρ1 => .next ρ1
def sRetY (f : Fy) : Env → Out := fun ρ => onY f ρ fun v _ => .ret v
def sRetM (m : Nat) (f : Fy) : Env → Out := fun ρ => onY f ρ fun v ρ1 => match ρ1[m]? with
  | some (.om (some 0) s) => .ret (.tup [v, s])
  | _ => .stuck
/-- an own list, of either kind -/
def getL (ρ : Env) (i : Nat) : Option (List PV) := match ownAt ρ i with
  | some (_, .lst xs) => some xs
  | _ => none
def putL (ρ : Env) (i : Nat) (ys : List PV) : Env := match ρ[i]? with
  | some (.om t _) => ρ.set i (.om t (.lst ys))
  | _ => ρ.set i (.own ys)
def sMetY (i : Nat) (g : List PV → List PV → Option (List PV)) (fs : List Fy) : Env → Out := fun ρ => match getL ρ i with
  | none => .stuck
  | some _ => onY (yArgs fs) ρ fun vs ρ1 => match getL ρ1 i with
    | none => .stuck
    | some xs => match g xs vs with
      | some ys => .next (putL ρ1 i ys)
      | none => .stuck
theorem getL_own {ρ : Env} {i : Nat} {xs : List PV} (h : getL ρ i = some xs) : ∃ t, ownAt ρ i = some (t, .lst xs) := by
  unfold getL at h
  split at h
  · rename_i t ys e; cases h; exact ⟨t, e⟩
  · cases h
/-- a list that an expression makes, its items by expressions that change own things -/
def sOwnY (i : Nat) (fs : List Fy) : Env → Out := fun ρ => onY (yArgs fs) ρ fun xs ρ1 => if xs.length ≤ sizeLine then .next (ρ1.set i (.own xs)) else .stuck
section
variable {X : Cx} {cl : Nat → Addr} {W : WX} {He H0 : Hp} {pin : List Addr} {pos p : Pos} {e : Expr} {f : Fy}
theorem vs_setY {i : Nat} {x : Str} {p' : Pos} (hN : X.N.Nodup) (he : PE X e (ty X.K cl He H0 pin W (Rp X.K cl) f)) (hi : X.N[i]? = some x := by rfl) (hx : Loc X.env.scope x := by first | exact Or.inl rfl | exact Or.inr rfl) (hs : swapsWith e (some (.Name x p')) pos.line X.env = pure false := by rfl) (hf : X.fn x = true ∨ X.env.scope.names.lookup x = some .local := by first | exact .inl rfl | exact .inr rfl | assumption) :
    PV1 X cl W He H0 pin (.Assign [.Name x p'] e pos) (sSetY i f) :=
  psWeak (ps_set hN hi hx he hs hf) fun D σ H ⟨Hs, ρ, S, h⟩ => onY_use S h fun v x Hs1 H1 ρ1 up S1 r hp => hp _ _ _ (Sub.refl _) (S1.set r i)
theorem vs_exprY (he : PE X e (ty X.K cl He H0 pin W (Rp X.K cl) f)) (hs : swapsWith e none pos.line X.env = pure false := by rfl) : PV1 X cl W He H0 pin (.Expr e pos) (sExprY f) :=
  psWeak (ps_expr he hs) fun D σ H ⟨Hs, ρ, S, h⟩ => onY_use S h fun v x Hs1 H1 ρ1 up S1 r hp => hp _ _ _ (Sub.refl _) S1
theorem vs_retY (he : PE X e (ty X.K cl He H0 [] W (Rp X.K cl) f)) : PV1 X cl W He H0 [] (.Return (some e) pos) (sRetY f) :=
  psWeak (ps_ret he) fun D σ H ⟨Hs, ρ, S, h⟩ => onY_use S h fun v x Hs1 H1 ρ1 up S1 r hp => hp _ _ _ S1.ext r
theorem vs_retM {m : Nat} {a : Addr} (he : PE X e (ty X.K cl He H0 [a] W (Rp X.K cl) f)) : PV1 X cl W He H0 [a] (.Return (some e) pos) (sRetM m f) :=
  psWeak (ps_ret he) fun D σ H ⟨Hs, ρ, S, h⟩ => onY_use S h fun v x Hs1 H1 ρ1 up S1 r hp => by
    split at hp
    · rename_i s eo
      obtain ⟨b, g1, g2, g3, g4, g5⟩ := S1.ow m (some 0) s (ownAt_om eo)
      have := g5 0 rfl
      cases this
      exact hp _ _ _ S1.ext ⟨v, s, rfl, r, g2, g3⟩
    · exact hp.elim
theorem vs_metY {i : Nat} {x : Str} {px apos cpos : Pos} {name : Str} {id : String} {r : V → List V → Hp → VK → Prop} {g : List PV → List PV → Option (List PV)} {es : List Expr} {fs : List Fy} (slot : Slot "list" name id) (hty : typeOf (.builtin id) = pure (.type "method_descriptor")) (hm : MtR X id r) (hg : MetOk X.K cl r g)
    (ha : PA X (e :: es) (ty X.K cl He H0 pin W (RpA X.K cl) (yArgs fs))) (hi : X.N[i]? = some x := by rfl) (hv : Vis X.env.scope x := by first | exact Or.inl rfl | exact Or.inr (Or.inl rfl) | exact Or.inr (Or.inr rfl)) (hd : (x == ("__debug__" : Str)) = false := by decide) (hcd : (x == ("__classdict__" : Str)) = false := by decide)
    (hbase : attributeBase (.Name x px) name X.env (eval (.Name x px) X.env) = eval (.Name x px) X.env := by rfl)
    (hfew : ((backTo cpos (starEach (e :: es) X.env)).all (fun x => !x.1) && (backToKw cpos (keywordEach [] X.env)).all (fun x => x.1.isSome)
      && decide ((e :: es).length + ([] : List Keyword).length + (if ([] : List Keyword).isEmpty then 0 else 1) < 30)) = true := by rfl)
    (hline : (apos.endLine == cpos.line) = true := by rfl) (hs : starEach (e :: es) X.env = (false, eval e X.env) :: starEach es X.env := by rfl) (hplain : (backTo cpos (starEach es X.env)).any (·.1) = false := by rfl)
    (hsw : swapsWith (.Call (.Attribute (.Name x px) name apos) (e :: es) [] cpos) none pos.line X.env = pure false := by rfl) :
    PV1 X cl W He H0 pin (.Expr (.Call (.Attribute (.Name x px) name apos) (e :: es) [] cpos) pos) (sMetY i g fs) :=
  psWeak (ps_expr (pe_bm PySem.F.plainAttrs_list slot hty hm (pe_var hi hv hd hcd) ha hbase hfew hline hs hplain) hsw) fun D σ H ⟨Hs, ρ, S, h⟩ => by
    unfold sMetY at h
    cases e0 : getL ρ i with
    | none => rw [e0] at h; exact h.elim
    | some xs0 =>
      rw [e0] at h
      obtain ⟨t0, o0⟩ := getL_own e0
      obtain ⟨a, h1, ⟨vs0, h2, _⟩, _⟩ := S.ow i t0 _ o0
      refine ⟨_, h1, .inl ⟨rfl, vs0, .of h2⟩, ?_⟩
      refine onY_use S h fun ws us Hs1 H1 ρ1 up S1 ru hp => ?_
      cases e2 : getL ρ1 i with
      | none => rw [e2] at hp; exact hp.elim
      | some xs =>
        rw [e2] at hp
        simp only at hp
        cases e3 : g xs ws with
        | none => simp only [e3] at hp; exact hp.elim
        | some ys =>
          simp only [e3] at hp
          obtain ⟨t, o⟩ := getL_own e2
          obtain ⟨b, g1, ⟨vs, g2, g3⟩, g4, g5, g6⟩ := S1.ow i t _ o
          rw [h1] at g1
          cases g1
          refine hg Hs1 H1 a vs us xs ws ys _ S1.sub g2 g4 g3 ru e3 fun vs' r' => ?_
          have hu : ∃ u, putL ρ1 i ys = ρ1.set i u ∧ ownv u = some (t, .lst ys) := by
            unfold putL
            unfold VL.ownAt at o
            cases er : ρ1[i]? with
            | none => rw [er] at o; cases o
            | some sl =>
              rw [er] at o
              cases sl with
              | own zs => cases o; exact ⟨_, rfl, rfl⟩
              | om t' v' => cases o; exact ⟨_, rfl, rfl⟩
              | _ => cases o
          obtain ⟨u, eu, ou⟩ := hu
          rw [eu] at hp
          exact hp _ _ _ (Sub.refl _) (S1.putOm (v := .lst ys) o ou h1 ⟨vs', upd_same, r'⟩)
theorem vs_ownY {i : Nat} {x : Str} {p' p2 : Pos} {es : List Expr} {fs : List Fy} (hN : X.N.Nodup) (ha : PA X es (ty X.K cl He H0 pin W (RpA X.K cl) (yArgs fs))) (hi : X.N[i]? = some x := by rfl) (hx : Loc X.env.scope x := by first | exact Or.inl rfl | exact Or.inr rfl) (hs : swapsWith (.List es p2) (some (.Name x p')) pos.line X.env = pure false := by rfl) (hf : X.fn x = true ∨ X.env.scope.names.lookup x = some .local := by first | exact .inl rfl | exact .inr rfl | assumption) :
    PV1 X cl W He H0 pin (.Assign [.Name x p'] (.List es p2) pos) (sOwnY i fs) :=
  psWeak (ps_set hN hi hx (pe_lst ha) hs hf) fun D σ H ⟨Hs, ρ, S, h⟩ => onY_use S h fun xs vs Hs1 H1 ρ1 up S1 r hp => by
    split at hp
    · rename_i hz
      refine ⟨by rw [r.length]; exact hz, fun p n => ?_⟩
      have X2 := Ext.newO (o := .lst vs) S1.sub n
      have S2 := S1.ext1 X2
      refine hp _ _ _ (Sub.refl _) (S2.setOwn (xs := xs) upd_same r (S1.sub.none n) ?_ (fun j q hj z => ?_) i)
      · cases q : H0 p with
        | none => rfl
        | some o => rw [S1.ext.same p o q] at n; cases n
      · obtain ⟨b, g1, g2, g3⟩ := S1.ow j q.1 q.2 hj
        rw [z] at g1
        cases g1
        obtain ⟨o, ho, _⟩ := g2.some
        rw [n] at ho; cases ho
    · exact hp.elim
end
end VL
namespace VL
open PySem PySem.Spec PySem.SeqAt PyProof.Rows L2
/-! ### fields -/
def fldP (c : Nat) (f : Str) : PV → Option PV
  | .obj c' fs => if c' = c then fs.lookup f else none
  | _ => none
def putFP (f : Str) (v : PV) : List (Str × PV) → List (Str × PV)
  | [] => [(f, v)]
  | (g, x) :: r => if g = f then (g, v) :: r else (g, x) :: putFP f v r
section
variable {K : PySem.W.Frag} {cl : Nat → Addr} {Hs : Hp}
theorem RpF.len : ∀ {vs : List (Str × V)} {xs : List (Str × PV)}, RpF K cl Hs vs xs → vs.length = xs.length
  | _, _, .nil => rfl
  | _, _, .cons _ t => congrArg (· + 1) t.len
theorem RpF.putF {f : Str} {y : V} {v : PV} (r0 : Rp K cl Hs y v) : ∀ {vs : List (Str × V)} {xs : List (Str × PV)}, RpF K cl Hs vs xs → RpF K cl Hs (L2.putF f y vs) (putFP f v xs)
  | _, _, .nil => .cons r0 .nil
  | (g, _) :: _, (_, _) :: _, .cons r t => by
    unfold L2.putF putFP
    by_cases e : g = f
    · rw [if_pos e, if_pos e]; exact .cons r0 t
    · rw [if_neg e, if_neg e]; exact .cons r (t.putF r0)
end
/-- what the text gives of a class: its number, a name that is none of its own -/
structure ClsN (K : PySem.W.Frag) (cl : Nat → Addr) (c : Nat) (f : Str) : Prop where
  cls : L2.Cls K (cl c)
  no : NoAttr K (cl c) f
def sFldY (i c : Nat) (f : Str) (g : Fy) : Env → Out := fun ρ => onY g ρ fun v ρ1 => match ρ1[i]? with
  | some (.om t (.obj c' fs)) => if c' = c ∧ fs.length < 1000 then .next (ρ1.set i (.om t (.obj c (putFP f v fs)))) else .stuck
  | _ => .stuck
/-- x.f += e, whole numbers -/
def sFldInc (i c : Nat) (f : Str) (bs : List Bool) (g : Ex) : Env → Out := fun ρ => match ρ[i]? with
  | some (.om t (.obj c' fs)) => if c' = c ∧ fs.length < 1000 then (match fs.lookup f with
    | some (.int n) => (match g (vw bs ρ) with
      | .ok (.int m) => .next (ρ.set i (.om t (.obj c (putFP f (.int (n + m)) fs))))
      | .exc c fs => .exc c fs (fr bs ρ)
      | _ => .stuck)
    | _ => .stuck) else .stuck
  | _ => .stuck
section
variable {X : Cx} {cl : Nat → Addr} {W : WX} {He H0 : Hp} {pin : List Addr} {pos p p2 apos tpos : Pos} {e o value : Expr} {es : List Expr} {f x : Str} {c i : Nat}
theorem ve_fld {g : Ex} (T : ClsN X.K cl c f) (ha : PE X e (tv X.K cl W g)) (hb : attributeBase e f X.env (eval e X.env) = eval e X.env := by rfl) : PE X (.Attribute e f pos) (tv X.K cl W (e1 (fldP c f) g)) :=
  peWeak (pe_fld ha hb) fun σ H Q ⟨Hs, ρ, E, h⟩ => by
    refine gv_bind E h fun v y Hs1 H1 _ s1 rx h1 => ?_
    obtain ⟨w, e1, q⟩ := h1.opt
    cases rx with
    | @obj a dx c' vs xs hh r =>
      have e2 : (if c' = c then xs.lookup f else none) = some w := e1
      by_cases hc : c' = c
      · rw [if_pos hc] at e2
        subst hc
        obtain ⟨z, g1, g2⟩ := r.lookup e2
        exact ⟨a, _, dx, vs, z, rfl, s1.sub _ _ hh, T.cls, T.no, g1, q.here s1.sub g2⟩
      · rw [if_neg hc] at e2; cases e2
    | _ => cases e1
theorem vs_fldY {g : Fy} {px pos' : Pos} (T : ClsN X.K cl c f) (hv : PE X value (ty X.K cl He H0 pin W (Rp X.K cl) g)) (hi : X.N[i]? = some x := by rfl) (hvs : Vis X.env.scope x := by first | exact Or.inl rfl | exact Or.inr (Or.inl rfl) | exact Or.inr (Or.inr rfl)) (hd : (x == ("__debug__" : Str)) = false := by decide) (hcd : (x == ("__classdict__" : Str)) = false := by decide)
    (hs : swapsWith value (some (.Attribute (.Name x px) f pos')) pos.line X.env = pure false := by rfl) : PV1 X cl W He H0 pin (.Assign [.Attribute (.Name x px) f pos'] value pos) (sFldY i c f g) :=
  psWeak (ps_fld (pe_var hi hvs hd hcd) hv hs) fun D σ H ⟨Hs, ρ, S, h⟩ => onY_use S h fun v y Hs1 H1 ρ1 up S1 r hp => by
    split at hp
    · rename_i t c' fs eo
      split at hp
      · rename_i hk
        obtain ⟨rfl, hl⟩ := hk
        obtain ⟨a, g1, ⟨dx, vs, g2, g3⟩, g4, g5, g6⟩ := S1.ow i t _ (ownAt_om eo)
        exact ⟨_, g1, a, _, dx, vs, rfl, g2, T.cls, T.no, by rw [g3.len]; exact hl, hp _ _ _ (Sub.refl _) (S1.putOm (s := .om t _) (v := .obj c' (putFP f v fs)) (ownAt_om eo) rfl g1 ⟨dx, _, upd_same, g3.putF r⟩)⟩
      · exact hp.elim
    · exact hp.elim
theorem vs_fldInc {g : Ex} {px : Pos} {bs : List Bool} (T : ClsN X.K cl c f) (hv : PE X value (tv X.K cl W g)) (hi : X.N[i]? = some x := by rfl) (hvs : Vis X.env.scope x := by first | exact Or.inl rfl | exact Or.inr (Or.inl rfl) | exact Or.inr (Or.inr rfl)) (hd : (x == ("__debug__" : Str)) = false := by decide) (hcd : (x == ("__classdict__" : Str)) = false := by decide) :
    PV1 X cl W He H0 pin (.AugAssign (.Attribute (.Name x px) f tpos) .Add value pos) (sFldInc i c f bs g) :=
  psWeak (ps_fldaug (pe_var hi hvs hd hcd) hv in_add) fun D σ H ⟨Hs, ρ, S, h⟩ => by
    unfold sFldInc at h
    split at h
    · rename_i t c' fs eo
      split at h
      · rename_i hk
        obtain ⟨rfl, hl⟩ := hk
        split at h
        · rename_i n en
          obtain ⟨a, g1, ⟨dx, vs, g2, g3⟩, g4, g5, g6⟩ := S.ow i t _ (ownAt_om eo)
          obtain ⟨z, l1, l2⟩ := g3.lookup en
          refine ⟨_, g1, a, _, dx, vs, z, rfl, g2, T.cls, T.no, l1, _, _, S.pe bs, ?_⟩
          have s1 := (S.plusExt bs).1
          cases eg : g (vw bs ρ) with
          | ok v =>
            rw [eg] at h
            split at h
            · rename_i m e2
              cases e2
              intro y Hs1 H1 X1 ry
              cases ry
              cases l2
              obtain ⟨S1, up⟩ := S.back X1
              refine ⟨n, m, rfl, rfl, dx, vs, X1.same _ _ g2, by rw [g3.len]; exact hl, ?_⟩
              exact h _ _ _ up (S1.putOm (s := .om t _) (v := .obj c' (putFP f (.int (n + m)) fs)) (ownAt_om eo) rfl g1 ⟨dx, _, upd_same, (g3.mono up).putF (.int _)⟩)
            · rename_i e2; cases e2
            · exact h.elim
          | exc c fs =>
            rw [eg] at h
            intro d fvs Hs1 H1 X1 e1 r
            exact h σ Hs1 H1 d fvs (s1.trans X1.fs) (S.froze X1) e1 r
          | stuck => rw [eg] at h; exact h.elim
        · exact h.elim
      · exact h.elim
    · exact h.elim
end
end VL
namespace VL
open PySem PySem.Spec PySem.SeqAt PyProof.Rows L2
/-! ### methods, making -/
section
variable {X : Cx} {W : WX} {k : Nat} {f C : Addr} {fd : FuncData} {ps : List Str} {sp : Sp} {x m : Str} {p pos apos : Pos} {e o : Expr} {es : List Expr} {ta : TE} {t : TA}
def tMethS (C : Addr) (m : Str) (sp : Sp) (W : WX) (ta : TE) (t : TA) : TE := fun σ H Q => ta σ H fun y H1 => ∃ a dx fs, y = V.ref a ∧ H1 a = some (.ins C dx fs) ∧ fs.lookup m = none ∧ t σ H1 fun ws H2 => sp (y :: ws) H2 Q (WE W σ)
theorem pe_methS {pl : Sem Bool} (ho : PE X o ta) (hC : L2.Cls X.K C) (hM : Meth X.K C m f) (hF : FnOk X.prog X.w X.K X.mg X.base (L2.CX X.prog X.w) k f fd ps sp) (room : Room k X.A) (bi : Binds X.K fd ps []) (tk : Takes X W) (has : PA X (e :: es) t)
    (n1 : starEach (e :: es) X.env = (false, eval e X.env) :: starEach es X.env := by rfl) (n2 : (backTo pos (starEach es X.env)).any (·.1) = false := by rfl)
    (n3 : eval (.Call (.Attribute o m apos) (e :: es) [] pos) X.env = (do let ov ← eval o X.env; standAt apos.atName; let (f, first) ← holding [ov] (getMethod ov m pl); callWith pos f first (backTo pos (starEach (e :: es) X.env)) (backToKw pos (keywordEach [] X.env))) := by rfl) :
    PE X (.Call (.Attribute o m apos) (e :: es) [] pos) (tMethS C m sp W ta t) := ⟨fun pins s σ H Q I hh => by
  refine PySem.W.methodCall_KW (pl := pl) (thn (ho.run pins s σ H _ I hh) fun u s1 ⟨y, H1, I1, ry, a, dx, fs, ey, ea, hl, hq⟩ => ?_) n3
  rw [ey] at ry hq
  obtain rfl : u = Value.ref a := ry
  refine getmeth_ok I1 ea hC hM hl ?_
  exact PySem.W.callWith_K (first := [.ref a]) (h₀ := X.base) I.ok.mod.kin hM.kp (thn (has.run pos pins s1 σ H1 _ I1 hq) fun us s2 ⟨ws, H2, I2, rs, hq2⟩ => ⟨I2.kIn, run_fnSD (us := .ref a :: us) (vs := .ref a :: ws) (dvs := []) (E := fun σ => WE W σ) hF room bi .nil (passAt tk σ) I2 (.cons rfl rs) (by rw [List.append_nil]; exact hq2)⟩) n1 n2⟩
theorem pe_methS0 {pl : Sem Bool} (ho : PE X o ta) (hC : L2.Cls X.K C) (hM : Meth X.K C m f) (hF : FnOk X.prog X.w X.K X.mg X.base (L2.CX X.prog X.w) k f fd ps sp) (room : Room k X.A) (bi : Binds X.K fd ps []) (tk : Takes X W)
    (n3 : eval (.Call (.Attribute o m apos) [] [] pos) X.env = (do let ov ← eval o X.env; standAt apos.atName; let (f, first) ← holding [ov] (getMethod ov m pl); callWith pos f first (backTo pos (starEach [] X.env)) (backToKw pos (keywordEach [] X.env))) := by rfl) :
    PE X (.Call (.Attribute o m apos) [] [] pos) (tMethS C m sp W ta tNil) := ⟨fun pins s σ H Q I hh => by
  refine PySem.W.methodCall_KW (pl := pl) (thn (ho.run pins s σ H _ I hh) fun u s1 ⟨y, H1, I1, ry, a, dx, fs, ey, ea, hl, hq⟩ => ?_) n3
  rw [ey] at ry hq
  obtain rfl : u = Value.ref a := ry
  refine getmeth_ok I1 ea hC hM hl ?_
  exact PySem.W.callWith_K0 (first := [.ref a]) I1.kIn hM.kp (run_fnSD (us := [.ref a]) (vs := [.ref a]) (dvs := []) (E := fun σ => WE W σ) hF room bi .nil (passAt tk σ) I1 (.cons rfl .nil) hq)⟩
def tMakeS (C : Addr) (sp : Sp) (W : WX) (t : TA) : TE := fun σ H Q => t σ H fun ws H1 => ∀ z dz, H1 z = none → H1 dz = none → dz ≠ z → sp (.ref z :: ws) (upd (upd H1 dz (.own z)) z (.ins C dz [])) (fun v H2 => v = .non ∧ Q (.ref z) H2) (WE W σ)
theorem run_makeS {pins : List (Addr × Obj)} {σ : St} {H : Hp} {s : Shared} {Q : VK} {us : List Value} {ws : List V} (M : Mk X.K C f) (hF : FnOk X.prog X.w X.K X.mg X.base (L2.CX X.prog X.w) k f fd ps sp) (room : Room (k + 1) X.A) (bi : Binds X.K fd ps []) (tk : Takes X W) (I : Inv X pins σ H s) (rs : Vals ws us)
    (hh : ∀ z dz, H z = none → H dz = none → dz ≠ z → sp (.ref z :: ws) (upd (upd H dz (.own z)) z (.ins C dz [])) (fun v H2 => v = .non ∧ Q (.ref z) H2) (WE W σ)) : wpAny (model X.prog X.w) X.A (call (.ref C) us) (EP X pins σ Q) X.xe s := by
  have hq := hh (s.heap.objs.size + 1) s.heap.objs.size (I.hok.fresh (Nat.le_succ _)) (I.hok.fresh (Nat.le_refl _)) (Nat.ne_of_lt (Nat.lt_succ_self _))
  have J := Inv.made (C := C) I
  have rz : Vals (V.ref (s.heap.objs.size + 1) :: ws) (Value.ref (s.heap.objs.size + 1) :: us) := .cons rfl rs
  have hl : (Value.ref (s.heap.objs.size + 1) :: us ++ []).length = ps.length := by rw [List.append_nil, ← rz.length]; exact hF.len _ _ _ _ hq
  have bb := bi _ (Value.ref (s.heap.objs.size + 1) :: us) J.kIn hl
  rw [List.append_nil] at bb
  refine wpAny_call (make_map (f := f) I.kIn M.makes M.init (beq_iff_eq.mp M.fn) (codeAny_mono (hF.run _ X.stack _ _ ⟨Value.ref (s.heap.objs.size + 1) :: us, []⟩ (Value.ref (s.heap.objs.size + 1) :: us) _ _ (WE W σ) (room.make C us []) (J.env0.make C us []) bb rz hq) fun r s' q' => ?_))
  cases r with
  | error er => exact passAt tk σ _ _ _ er s' J q'
  | ok fl => cases fl with
    | ret u => exact (J.after q').elim fun v ⟨H', I3, rv, ev, q3⟩ => by subst ev; exact ⟨rv, ⟨V.ref (s.heap.objs.size + 1), H', I3, rfl, q3⟩⟩
    | next => exact q'.elim
    | brk => exact q'.elim
    | cont => exact q'.elim
theorem pe_makeS (M : Mk X.K C f) (hF : FnOk X.prog X.w X.K X.mg X.base (L2.CX X.prog X.w) k f fd ps sp) (room : Room (k + 1) X.A) (bi : Binds X.K fd ps []) (tk : Takes X W) (hg : Gl X x) (hm : X.mg x = some (.ref C)) (has : PA X (e :: es) t) (hdb : (x == ("__debug__" : Str)) = false := by decide)
    (n1 : starEach (e :: es) X.env = (false, eval e X.env) :: starEach es X.env := by rfl) (n2 : (backTo pos (starEach es X.env)).any (·.1) = false := by rfl) : PE X (.Call (.Name x p) (e :: es) [] pos) (tMakeS C sp W t) := ⟨fun pins s σ H Q I hh => by
  refine wpAny_Call_Name_kw (ld_glob I hg hm ?_ hdb)
  exact PySem.W.callWith_K (h₀ := X.base) I.ok.mod.kin M.kp (thn (has.run pos pins s σ H _ I hh) fun us s1 ⟨ws, H1, I1, rs, hq⟩ => ⟨I1.kIn, run_makeS M hF room bi tk I1 rs hq⟩) n1 n2⟩
end
/-! as plain functions -/
/-- a method that changes nothing -/
structure MethAt (P : Program) (w : World) (K : PySem.W.Frag) (mg : Str → Option Value) (base : Heap) (cl : Nat → Addr) (k c : Nat) (m : Str) (n : Nat) (g : List PV → R PV) : Prop where
  ex : ∃ (f : Addr) (fd : FuncData) (ps : List Str), L2.Cls K (cl c) ∧ Meth K (cl c) m f ∧ FnOk P w K mg base (L2.CX P w) k f fd ps (spF K cl n g) ∧ Binds K fd ps []
/-- .. that changes its own object -/
structure MethAtM (P : Program) (w : World) (K : PySem.W.Frag) (mg : Str → Option Value) (base : Heap) (cl : Nat → Addr) (k c : Nat) (m : Str) (pt : List Bool) (g : List PV → R PV) : Prop where
  ex : ∃ (f : Addr) (fd : FuncData) (ps : List Str), L2.Cls K (cl c) ∧ Meth K (cl c) m f ∧ FnOk P w K mg base (L2.CX P w) k f fd ps (spM K cl pt g) ∧ Binds K fd ps []
/-- a class that is made; its __init__ stores the fields -/
structure MkAt (P : Program) (w : World) (K : PySem.W.Frag) (mg : Str → Option Value) (base : Heap) (cl : Nat → Addr) (k c : Nat) (x : Str) (pt : List Bool) (g : List PV → R PV) : Prop where
  ex : ∃ (f : Addr) (fd : FuncData) (ps : List Str), mg x = some (.ref (cl c)) ∧ Mk K (cl c) f ∧ FnOk P w K mg base (L2.CX P w) k f fd ps (spM K cl pt g) ∧ Binds K fd ps []
def objP (c : Nat) (m : Str) : PV → Bool
  | .obj c' fs => decide (c' = c) && (fs.lookup m).isNone
  | _ => false
def eMeth (c : Nat) (m : Str) (g : List PV → R PV) (o : Ex) (fs : List Ex) : Ex := fun ρ => (o ρ).bind fun x => if objP c m x = true then (evs fs ρ).bind fun us => g (x :: us) else .stuck
def yMeth (c : Nat) (m : Str) (pt : List Bool) (g : List PV → R PV) (i : Nat) (fs : List Fy) : Fy := fun ρ => match ρ[i]? with
  | some (.om _ x) => if objP c m x = true then (yArgs fs ρ).bind fun us ρ1 => yCallK pt g i (none :: us.map some) ρ1 else .stuck
  | _ => .stuck
def yMake (c : Nat) (pt : List Bool) (g : List PV → R PV) (fs : List Fy) : Fy := fun ρ => (yArgs fs ρ).bind fun us ρ1 => if true :: us.map (fun _ => false) = pt then (match g (.obj c [] :: us) with
  | .ok (.tup [.non, s]) => .ok s ρ1
  | .exc c fs => .exc c fs ρ1
  | _ => .stuck) else .stuck
def eMakeN (c : Nat) (pt : List Bool) (g : List PV → R PV) (fs : List Ex) : Ex := fun ρ => (evs fs ρ).bind fun us => if true :: us.map (fun _ => false) = pt then (match g (.obj c [] :: us) with
  | .ok (.tup [.non, s]) => .ok s
  | .exc c fs => .exc c fs
  | _ => .stuck) else .stuck
section
variable {K : PySem.W.Frag} {cl : Nat → Addr} {Hs H : Hp} {a : Addr}
theorem RpA.toO : ∀ {vs : List V} {us : List PV}, RpA K cl Hs vs us → RpO K cl a Hs vs (us.map some)
  | _, _, .nil => .nil
  | _, _, .cons r t => .val r t.toO
theorem fillS_some (us : List PV) (s : PV) : fillS (none :: us.map some) s = s :: us := by
  unfold fillS
  simp [List.map_map, Function.comp_def]
end
section
variable {X : Cx} {cl : Nat → Addr} {W : WX} {He H0 : Hp} {pin : List Addr} {pos p p2 apos : Pos} {e o : Expr} {es : List Expr} {x m : Str} {c i k n : Nat} {pt : List Bool} {g : List PV → R PV}
theorem objP_at {K : PySem.W.Frag} {Hs : Hp} {y : V} {v : PV} (r : Rp K cl Hs y v) (h : objP c m v = true) : ∃ a dx fs, y = V.ref a ∧ Hs a = some (.ins (cl c) dx fs) ∧ fs.lookup m = none := by
  cases r with
  | @obj a dx c' vs xs hh r =>
    simp only [objP, Bool.and_eq_true, decide_eq_true_eq, Option.isNone_iff_eq_none] at h
    obtain ⟨rfl, h2⟩ := h
    exact ⟨a, dx, vs, rfl, hh, r.lookup_none h2⟩
  | _ => cases h
theorem ve_meth {f : Ex} {fs : List Ex} {pl : Sem Bool} (D : MethAt X.prog X.w X.K X.mg X.base cl k c m n g) (room : Room k X.A) (tk : Takes X W) (ho : PE X o (tv X.K cl W f)) (has : PA X (e :: es) (ta X.K cl W (evs fs)))
    (n1 : starEach (e :: es) X.env = (false, eval e X.env) :: starEach es X.env := by rfl) (n2 : (backTo pos (starEach es X.env)).any (·.1) = false := by rfl)
    (n3 : eval (.Call (.Attribute o m apos) (e :: es) [] pos) X.env = (do let ov ← eval o X.env; standAt apos.atName; let (f, first) ← holding [ov] (getMethod ov m pl); callWith pos f first (backTo pos (starEach (e :: es) X.env)) (backToKw pos (keywordEach [] X.env))) := by rfl) :
    PE X (.Call (.Attribute o m apos) (e :: es) [] pos) (tv X.K cl W (eMeth c m (gN n g) f fs)) := by
  obtain ⟨fa, fd, ps, hC, hM, hF, bi⟩ := D.ex
  refine peWeak (pe_methS (pl := pl) ho hC hM hF room bi tk has n1 n2 n3) fun σ H Q ⟨Hs, ρ, E, h⟩ => ?_
  refine gv_bind E h fun v y Hs1 H1 _ s1 ry h1 => ?_
  split at h1
  · rename_i hb
    obtain ⟨a, dx, gs, rfl, ea, hl⟩ := objP_at ry hb
    refine ⟨a, dx, gs, rfl, s1.sub _ _ ea, hl, ?_⟩
    refine gv_bind (E.up s1) h1 fun us ws Hs2 H2 _ t1 rs h2 => ?_
    exact sp_use t1.sub (.cons (ry.mono t1.fs) rs) h2
  · exact h1.elim
theorem ve_meth0 {f : Ex} {pl : Sem Bool} (D : MethAt X.prog X.w X.K X.mg X.base cl k c m n g) (room : Room k X.A) (tk : Takes X W) (ho : PE X o (tv X.K cl W f))
    (n3 : eval (.Call (.Attribute o m apos) [] [] pos) X.env = (do let ov ← eval o X.env; standAt apos.atName; let (f, first) ← holding [ov] (getMethod ov m pl); callWith pos f first (backTo pos (starEach [] X.env)) (backToKw pos (keywordEach [] X.env))) := by rfl) :
    PE X (.Call (.Attribute o m apos) [] [] pos) (tv X.K cl W (eMeth c m (gN n g) f [])) := by
  obtain ⟨fa, fd, ps, hC, hM, hF, bi⟩ := D.ex
  refine peWeak (pe_methS0 (pl := pl) ho hC hM hF room bi tk n3) fun σ H Q ⟨Hs, ρ, E, h⟩ => ?_
  refine gv_bind E h fun v y Hs1 H1 _ s1 ry h1 => ?_
  split at h1
  · rename_i hb
    obtain ⟨a, dx, gs, rfl, ea, hl⟩ := objP_at ry hb
    exact ⟨a, dx, gs, rfl, s1.sub _ _ ea, hl, sp_use s1.sub (.cons ry .nil) h1⟩
  · exact h1.elim
theorem y_meth {fs : List Fy} {px : Pos} {pl : Sem Bool} (D : MethAtM X.prog X.w X.K X.mg X.base cl k c m pt g) (room : Room k X.A) (tk : Takes X W) (has : PA X (e :: es) (ty X.K cl He H0 pin W (RpA X.K cl) (yArgs fs)))
    (hi : X.N[i]? = some x := by rfl) (hv : Vis X.env.scope x := by first | exact Or.inl rfl | exact Or.inr (Or.inl rfl) | exact Or.inr (Or.inr rfl)) (hd : (x == ("__debug__" : Str)) = false := by decide) (hcd : (x == ("__classdict__" : Str)) = false := by decide)
    (n1 : starEach (e :: es) X.env = (false, eval e X.env) :: starEach es X.env := by rfl) (n2 : (backTo pos (starEach es X.env)).any (·.1) = false := by rfl)
    (n3 : eval (.Call (.Attribute (.Name x px) m apos) (e :: es) [] pos) X.env = (do let ov ← eval (.Name x px) X.env; standAt apos.atName; let (f, first) ← holding [ov] (getMethod ov m pl); callWith pos f first (backTo pos (starEach (e :: es) X.env)) (backToKw pos (keywordEach [] X.env))) := by rfl) :
    PE X (.Call (.Attribute (.Name x px) m apos) (e :: es) [] pos) (ty X.K cl He H0 pin W (Rp X.K cl) (yMeth c m pt g i fs)) := by
  obtain ⟨fa, fd, ps, hC, hM, hF, bi⟩ := D.ex
  refine peWeak (pe_methS (pl := pl) (pe_var hi hv hd hcd) hC hM hF room bi tk has n1 n2 n3) fun σ H Q ⟨Hs, ρ, S, h⟩ => ?_
  unfold yMeth at h
  split at h
  · rename_i t v eo
    split at h
    · rename_i hb
      obtain ⟨a, g1, o0, g3, g4, g5⟩ := S.ow i t v (ownAt_om eo)
      refine ⟨_, g1, ?_⟩
      have hx : ∃ dx gs, H a = some (.ins (cl c) dx gs) ∧ gs.lookup m = none := by
        cases v with
        | obj c' xs =>
          simp only [objP, Bool.and_eq_true, decide_eq_true_eq, Option.isNone_iff_eq_none] at hb
          obtain ⟨rfl, h2⟩ := hb
          obtain ⟨dx, vs, q1, q2⟩ := o0
          exact ⟨dx, vs, q1, q2.lookup_none h2⟩
        | _ => cases hb
      obtain ⟨dx, gs, q1, q2⟩ := hx
      refine ⟨a, dx, gs, rfl, q1, q2, ?_⟩
      refine ty_bind S h fun us ws Hs1 H1 ρ1 up S1 rs h1 => ?_
      exact callM_use S1 g1 (.pin rs.toO) h1
    · exact h.elim
  · exact h.elim
theorem y_meth0 {px : Pos} {pl : Sem Bool} (D : MethAtM X.prog X.w X.K X.mg X.base cl k c m pt g) (room : Room k X.A) (tk : Takes X W)
    (hi : X.N[i]? = some x := by rfl) (hv : Vis X.env.scope x := by first | exact Or.inl rfl | exact Or.inr (Or.inl rfl) | exact Or.inr (Or.inr rfl)) (hd : (x == ("__debug__" : Str)) = false := by decide) (hcd : (x == ("__classdict__" : Str)) = false := by decide)
    (n3 : eval (.Call (.Attribute (.Name x px) m apos) [] [] pos) X.env = (do let ov ← eval (.Name x px) X.env; standAt apos.atName; let (f, first) ← holding [ov] (getMethod ov m pl); callWith pos f first (backTo pos (starEach [] X.env)) (backToKw pos (keywordEach [] X.env))) := by rfl) :
    PE X (.Call (.Attribute (.Name x px) m apos) [] [] pos) (ty X.K cl He H0 pin W (Rp X.K cl) (yMeth c m pt g i [])) := by
  obtain ⟨fa, fd, ps, hC, hM, hF, bi⟩ := D.ex
  refine peWeak (pe_methS0 (pl := pl) (pe_var hi hv hd hcd) hC hM hF room bi tk n3) fun σ H Q ⟨Hs, ρ, S, h⟩ => ?_
  unfold yMeth at h
  split at h
  · rename_i t v eo
    split at h
    · rename_i hb
      obtain ⟨a, g1, o0, g3, g4, g5⟩ := S.ow i t v (ownAt_om eo)
      refine ⟨_, g1, ?_⟩
      have hx : ∃ dx gs, H a = some (.ins (cl c) dx gs) ∧ gs.lookup m = none := by
        cases v with
        | obj c' xs =>
          simp only [objP, Bool.and_eq_true, decide_eq_true_eq, Option.isNone_iff_eq_none] at hb
          obtain ⟨rfl, h2⟩ := hb
          obtain ⟨dx, vs, q1, q2⟩ := o0
          exact ⟨dx, vs, q1, q2.lookup_none h2⟩
        | _ => cases hb
      obtain ⟨dx, gs, q1, q2⟩ := hx
      exact ⟨a, dx, gs, rfl, q1, q2, callM_use S g1 (.pin .nil) h⟩
    · exact h.elim
  · exact h.elim
end
end VL
namespace VL
open PySem PySem.Spec PySem.SeqAt PyProof.Rows L2
/-! ### making -/
section
variable {K : PySem.W.Frag} {cl : Nat → Addr} {W : WX} {Hs H Hs' H' : Hp} {σ : St}
theorem made_ext {z dz : Addr} {C : Addr} (s : Sub Hs H) (n1 : H z = none) (n2 : H dz = none) (X : Ext Hs (del z (upd (upd H dz (.own z)) z (.ins C dz []))) Hs' H') : Ext Hs H Hs' H' := by
  have key : ∀ b, H b ≠ none → (del z (upd (upd H dz (.own z)) z (.ins C dz []))) b = H b := fun b hb => by
    have h1 : b ≠ z := fun e => hb (by rw [e]; exact n1)
    have h2 : b ≠ dz := fun e => hb (by rw [e]; exact n2)
    rw [del_ne h1, upd_ne h1, upd_ne h2]
  refine ⟨X.fs, X.sub, fun b o hb => X.same b o (by rw [key b (by rw [hb]; simp), hb]), fun b hb n => X.nw b (by rw [key b hb]; exact hb) n⟩
theorem make_use {c : Nat} {pt : List Bool} {g : List PV → R PV} {us : List PV} {ws : List V} {z dz : Addr} {Q : VK} (s : Sub Hs H) (rs : RpA K cl Hs ws us) (n1 : H z = none) (n2 : H dz = none) (n3 : dz ≠ z) (hp : true :: us.map (fun _ => false) = pt)
    (h : match g (.obj c [] :: us) with
      | .ok (.tup [.non, s']) => ∀ Hs' H', Ext Hs H Hs' H' → OwnAt K cl H' Hs' z s' → Hs' z = none → Q (.ref z) H'
      | .exc c fs => ∀ d fvs Hs' H', Ext Hs H Hs' H' → Hs' d = some (.xd fvs) → RpF K cl Hs' fvs fs → W (.ref (cl c)) (some d) σ H'
      | _ => False) : spM K cl pt g (.ref z :: ws) (upd (upd H dz (.own z)) z (.ins (cl c) dz [])) (fun v H2 => v = .non ∧ Q (.ref z) H2) (WE W σ) := by
  have sb : Sub Hs (upd (upd H dz (.own z)) z (.ins (cl c) dz [])) := (s.upd (s.none n2)).upd (s.none n1)
  refine ⟨Hs, none :: us.map some, z, .obj c [], sb, .pin rs.toO, ?_, ⟨dz, [], upd_same, .nil⟩, s.none n1, ?_⟩
  · rw [← hp]
    simp [List.map_map, Function.comp_def]
  · rw [fillS_some]
    cases e : g (.obj c [] :: us) with
    | ok p =>
      rw [e] at h
      split at h
      · rename_i p0 s' e2
        cases e2
        exact ⟨.non, s', rfl, fun x Hs' H' X rx o n => by cases rx; exact ⟨rfl, h Hs' H' (made_ext s n1 n2 X) o n⟩⟩
      · rename_i e2; cases e2
      · exact h.elim
    | exc c' fs =>
      rw [e] at h
      exact fun d fvs Hs' H' X e1 r => h d fvs Hs' H' (made_ext s n1 n2 X) e1 r
    | stuck => rw [e] at h; exact h.elim
end
section
variable {X : Cx} {cl : Nat → Addr} {W : WX} {He H0 : Hp} {pin : List Addr} {pos p : Pos} {e : Expr} {es : List Expr} {x : Str} {c k : Nat} {pt : List Bool} {g : List PV → R PV}
theorem vn_make {fs : List Ex} (D : MkAt X.prog X.w X.K X.mg X.base cl k c x pt g) (room : Room (k + 1) X.A) (tk : Takes X W) (has : PA X (e :: es) (ta X.K cl W (evs fs))) (hg : Gl X x := by rfl) (hdb : (x == ("__debug__" : Str)) = false := by decide)
    (n1 : starEach (e :: es) X.env = (false, eval e X.env) :: starEach es X.env := by rfl) (n2 : (backTo pos (starEach es X.env)).any (·.1) = false := by rfl) : PE X (.Call (.Name x p) (e :: es) [] pos) (tn X.K cl W (eMakeN c pt g fs)) := by
  obtain ⟨fa, fd, ps, hm, M, hF, bi⟩ := D.ex
  refine peWeak (pe_makeS M hF room bi tk hg hm has hdb n1 n2) fun σ H Q ⟨Hs, ρ, E, h⟩ => ?_
  unfold eMakeN at h
  refine gn_bind E h fun us ws Hs1 H1 _ s1 rs h1 => fun z dz m1 m2 m3 => ?_
  split at h1
  · rename_i hp
    refine make_use (s := s1.sub) rs m1 m2 m3 hp ?_
    cases eg : g (.obj c [] :: us) with
    | ok p0 =>
      rw [eg] at h1
      split at h1
      · rename_i p1 s' e2
        cases e2
        exact fun Hs' H' X' o n => h1 z Hs' H' X' o n m1
      · rename_i e2; cases e2
      · exact h1.elim
    | exc c' fs' => rw [eg] at h1; exact fun d fvs Hs' H' X' e1 r => h1 d fvs Hs' H' X' e1 r
    | stuck => rw [eg] at h1; exact h1.elim
  · exact h1.elim
theorem y_make {fs : List Fy} (D : MkAt X.prog X.w X.K X.mg X.base cl k c x pt g) (room : Room (k + 1) X.A) (tk : Takes X W) (has : PA X (e :: es) (ty X.K cl He H0 pin W (RpA X.K cl) (yArgs fs))) (hg : Gl X x := by rfl) (hdb : (x == ("__debug__" : Str)) = false := by decide)
    (n1 : starEach (e :: es) X.env = (false, eval e X.env) :: starEach es X.env := by rfl) (n2 : (backTo pos (starEach es X.env)).any (·.1) = false := by rfl) : PE X (.Call (.Name x p) (e :: es) [] pos) (ty X.K cl He H0 pin W (Rp X.K cl) (yMake c pt g fs)) := by
  obtain ⟨fa, fd, ps, hm, M, hF, bi⟩ := D.ex
  refine peWeak (pe_makeS M hF room bi tk hg hm has hdb n1 n2) fun σ H Q ⟨Hs, ρ, S, h⟩ => ?_
  unfold yMake at h
  refine ty_bind S h fun us ws Hs1 H1 ρ1 _ S1 rs h1 => fun z dz m1 m2 m3 => ?_
  split at h1
  · rename_i hp
    refine make_use (s := S1.sub) rs m1 m2 m3 hp ?_
    cases eg : g (.obj c [] :: us) with
    | ok p0 =>
      rw [eg] at h1
      split at h1
      · rename_i p1 s' e2
        cases e2
        intro Hs' H' X' o n
        obtain ⟨ob, e1, _⟩ := o.some
        have X2 : Ext Hs1 H1 (upd Hs' z ob) H' := by
          refine ⟨X'.fs.trans (Sub.new n), fun b o q => ?_, X'.same, fun b hb n0 => ?_⟩
          · by_cases hb : b = z
            · subst hb; rw [upd_same] at q; rw [e1]; exact q
            · rw [upd_ne hb] at q; exact X'.sub b o q
          · rw [upd_ne (fun q => hb (by rw [q]; exact m1))]
            exact X'.nw b hb n0
        exact h1 (.ref z) (upd Hs' z ob) H' X2.fs (S1.ext1 X2) (o.rp (Sub.new n) (by rw [upd_same, e1]))
      · rename_i e2; cases e2
      · exact h1.elim
    | exc c' fs' => rw [eg] at h1; exact fun d fvs Hs' H' X' e1 r => h1 d fvs Hs' H' X'.fs (S1.ext1 X') e1 r
    | stuck => rw [eg] at h1; exact h1.elim
  · exact h1.elim
/-- name = C(..), the new thing the def's own -/
theorem y_new {f : Ev → R (List PV)} (bs : List Bool) (h : PE X e (to X.K cl W f)) : PE X e (ty X.K cl He H0 pin W (Rp X.K cl) (yNew bs f)) :=
  peWeak h fun σ H Q ⟨Hs, ρ, S, h⟩ => by
    unfold yNew at h
    refine ⟨_, _, S.pe bs, ?_⟩
    have s1 := (S.plusExt bs).1
    cases e : f (vw bs ρ) with
    | ok xs =>
      rw [e] at h
      intro a vs Hs1 H1 X1 e1 m1 m2 r
      have frz : ∀ {Hs2 : Hp}, Sub Hs Hs2 → SEnv X.K cl He H0 pin Hs2 H1 σ (settle bs (PV.nols xs) ρ) → Hs2 a = none → RpA X.K cl Hs2 vs xs → Q (.ref a) H1 := fun {Hs2} up S2 na r2 => by
        have S3 : SEnv X.K cl He H0 pin (upd Hs2 a (.lst vs)) H1 σ (settle bs (PV.nols xs) ρ) := by
          refine ⟨⟨S2.ext.fs.trans (Sub.new na), fun b o q => ?_, S2.ext.same, fun b hb n0 => ?_⟩, S2.len, fun i v q => ?_, fun i t v q => ?_, S2.ij⟩
          · by_cases hb : b = a
            · subst hb; rw [upd_same] at q; rw [e1]; exact q
            · rw [upd_ne hb] at q; exact S2.sub b o q
          · have hba : b ≠ a := fun q => by
              subst q
              cases q0 : H0 b with
              | none => exact hb q0
              | some o => rw [S.ext.same b o q0] at m2; cases m2
            rw [upd_ne hba]
            exact S2.ext.nw b hb n0
          · obtain ⟨y, g1, g2⟩ := S2.fz i v q
            exact ⟨y, g1, g2.mono (Sub.new na)⟩
          · obtain ⟨b, g1, g2, g3, g4, g5⟩ := S2.ow i t v q
            have hq : ∃ t' v', VL.ownAt ρ i = some (t', v') := by
              unfold settle at q
              split at q
              · exact ⟨t, v, q⟩
              · exact ⟨t, v, (fr_own q).1⟩
            obtain ⟨t', v', hq⟩ := hq
            obtain ⟨b', k1, k2, _⟩ := S.ow i t' v' hq
            rw [g1] at k1
            cases k1
            have hba : b ≠ a := fun q => by
              subst q
              obtain ⟨o, ho, _⟩ := k2.some
              rw [m2] at ho; cases ho
            exact ⟨b, g1, g2.mono (Sub.new na) rfl, by rw [upd_ne hba]; exact g3, g4, g5⟩
        exact h (.ref a) (upd Hs2 a (.lst vs)) H1 (up.trans (Sub.new na)) S3 (.lst upd_same (r2.mono (Sub.new na)))
      cases en : PV.nols xs with
      | false =>
        have es : settle bs (PV.nols xs) ρ = fr bs ρ := by unfold settle; rw [en]; rfl
        exact frz (s1.trans X1.fs) (by rw [es]; exact S.froze X1) m1 r
      | true =>
        have es : settle bs (PV.nols xs) ρ = ρ := by unfold settle; rw [en]; rfl
        obtain ⟨S1, up⟩ := S.back X1
        refine frz up (by rw [es]; exact S1) ?_ (bears_a.cut ⟨fun b q => ?_⟩ r en)
        · by_cases q : isOwn bs ρ σ a
          · exact cut_yes q
          · rw [cut_no q]; exact m1
        · obtain ⟨o, e2, k1⟩ := (S.ownAt q).1
          exact ⟨o, X1.fs _ _ (by rw [plus_yes q]; exact e2), k1⟩
    | exc c fs =>
      rw [e] at h
      exact fun d fvs Hs1 H1 X1 e1 r => h d fvs Hs1 H1 (s1.trans X1.fs) (S.froze X1) e1 r
    | stuck => rw [e] at h; exact h
end
end VL
namespace VL
open PySem PySem.Spec PySem.SeqAt PyProof.Rows L2
/-! ### one place alone -/
def oneB (pt : List Bool) : Bool := decide (pt.countP (fun b => b) ≤ 1)
theorem one_of {pt : List Bool} (h : oneB pt = true) : ∀ i j : Nat, pt[i]? = some true → pt[j]? = some true → i = j := by
  have key : ∀ (l : List Bool) (i : Nat), l[i]? = some true → 0 < l.countP fun b => b := fun l i h => List.countP_pos_iff.mpr ⟨true, List.mem_of_getElem? h, rfl⟩
  have lem : ∀ (l : List Bool), l.countP (fun b => b) ≤ 1 → ∀ i j : Nat, i < j → l[i]? = some true → l[j]? = some true → False := by
    intro l
    induction l with
    | nil => intro _ i j _ h; simp at h
    | cons b l ih =>
      intro hc i j hij h1 h2
      cases j with
      | zero => omega
      | succ j =>
        rw [List.getElem?_cons_succ] at h2
        have p2 := key l j h2
        rw [List.countP_cons] at hc
        cases i with
        | zero =>
          rw [List.getElem?_cons_zero] at h1
          cases h1
          rw [if_pos rfl] at hc
          omega
        | succ i =>
          rw [List.getElem?_cons_succ] at h1
          exact ih (by omega) i j (by omega) h1 h2
  intro i j h1 h2
  have hc : pt.countP (fun b => b) ≤ 1 := of_decide_eq_true h
  rcases Nat.lt_trichotomy i j with q | q | q
  · exact (lem pt hc i j q h1 h2).elim
  · exact q
  · exact (lem pt hc j i q h2 h1).elim
/-! ### the facts of classes -/
section
variable {K : PySem.W.Frag} {h : Heap} {mg : Str → Option Value} {x qual m f : Str}
theorem cls_at {C : Addr} (a : PySem.W.plainGet K C Str.empty = true) (b : PySem.W.hasDictIn K C = true) (c : PySem.W.plainOver K C = true) (d : PySem.W.findIn K (.ref C) "__setattr__" = some (some (.builtin "object.__setattr__"))) : L2.Cls K C := ⟨a, b, c, d⟩
theorem meth_at {st : Stmt} {C fa : Addr} {od an : Option Addr} {osl : Array (Option Value)} {oc kV doc pm cdv ct : Value} (a : PySem.W.findIn K (.ref C) m = some (some (.ref fa))) (b : PySem.W.isFn K (.ref fa) = true) (k : PySem.W.keepIn K (.ref fa) = true)
    (l : K.lookup fa = some ⟨oc, od, .func (PySem.W.fnOf m qual (defArgs st) (defBody st) (defScope st) .none kV doc pm an cdv ct), osl⟩) (c : PySem.W.codeIn K cdv qual = true) : ∃ f fd, Fun K m qual st f fd ∧ Meth K C m f :=
  ⟨fa, _, fun_mk l c k, a, b, k⟩
theorem mk_at {st : Stmt} {C fa : Addr} {od an : Option Addr} {osl : Array (Option Value)} {oc kV doc pm cdv ct : Value} (X : K.In h) (G : h.Ns mainGlobals mg) (g : PySem.W.nsIn K mainGlobals x = some (some (.ref C))) (mk : PySem.W.makesIn K C = true) (kC : PySem.W.keepIn K (.ref C) = true) (a : PySem.W.findIn K (.ref C) "__init__" = some (some (.ref fa))) (b : PySem.W.isFn K (.ref fa) = true) (k : PySem.W.keepIn K (.ref fa) = true)
    (l : K.lookup fa = some ⟨oc, od, .func (PySem.W.fnOf "__init__" qual (defArgs st) (defBody st) (defScope st) .none kV doc pm an cdv ct), osl⟩) (c : PySem.W.codeIn K cdv qual = true) : ∃ f fd, Fun K "__init__" qual st f fd ∧ Mk K C f ∧ mg x = some (.ref C) :=
  ⟨fa, _, fun_mk l c k, ⟨mk, a, b, kC⟩, PySem.W.mg_of X G g⟩
end
/-! an error's __init__ of any number of fields -/
theorem ini_n {X : Cx} : PSs X [] (tInit X.K []) := pss_nil
theorem ini_c {X : Cx} {st : Stmt} {rest : List Stmt} {f : Str} {v : Fv} {r : Fsp} (h : PS X st (tOst X.K f (tVar 0) (fvTE v))) (t : PSs X rest (tInit X.K r)) : PSs X (st :: rest) (tInit X.K ((f, v) :: r)) := pss_cons h t
/-! the table of such defs -/
section
variable {P : Program} {w : World} {K : PySem.W.Frag} {mg : Str → Option Value} {base : Heap} {cl : Nat → Addr} {x : Str} {st : Stmt} {ps N : List Str} {pt : List Bool} {m : Nat}
theorem nunM (h : ∃ f fd, Fun K x x st f fd ∧ mg x = some (.ref f)) (hb : ∀ {f : Addr} {fd : FuncData}, Fun K x x st f fd → Binds K fd ps []) : DefAtM P w K mg base cl (0 + 2) x pt (fun _ => .stuck) := by
  obtain ⟨f, fd, F, hm⟩ := h
  exact ⟨f, fd, ps, def_noneM, hm, F.kp, hb F⟩
theorem dunM {d : Nat} {b : Env → Out} (h : ∃ f fd, Fun K x x st f fd ∧ mg x = some (.ref f)) (S : FnScope N ps (defScope st)) (hb : ∀ {f : Addr} {fd : FuncData}, Fun K x x st f fd → Binds K fd ps [])
    (hbody : ∀ (f : Addr) (cdv : Value) (A : Around) (outer : List PySem.Env) (s : Shared) (H H0 : Hp) (E : XK) (He : Hp) (a : Addr), Room (d + 2) (A.deeper (envOfC x (defScope st) s.heap.objs.size f cdv)) →
      PVs (cxOf (L2.CX P w) P w K mg base N x (defScope st) f cdv A outer s H E) cl (fun c d _ H => E c d H) He H0 [a] (defBody st) b) (hpl : pt.length = ps.length := by rfl) (hone : ∀ i j : Nat, pt[i]? = some true → pt[j]? = some true → i = j := by exact one_of rfl) : DefAtM P w K mg base cl (d + 1 + 2) x pt (fun us => outM m (b (startM N.length pt us))) := by
  obtain ⟨f, fd, F, hm⟩ := h
  exact ⟨f, fd, ps, def_okM F S hpl hone fun cdv A outer s H H0 E He a hr => hbody f cdv A outer s H H0 E He a hr, hm, F.kp, hb F⟩
end
end VL
namespace VL
open PySem PySem.Spec PySem.SeqAt PyProof.Rows L2
/-! int(..), str(..) of texts too -/
def intTP : List PV → Option PV
  | [.str a] => if a.length ≤ 640 then (PySem.intText? a).map .int else none
  | xs => intP xs
def strTP : List PV → Option PV
  | [.str a] => some (.str a)
  | xs => strP xs
section
variable {X : Cx} {cl : Nat → Addr}
theorem cv_intT : CallV X.K cl (fun xs H Q => ((∃ i, xs = [V.int i] ∧ Q (.int i) H) ∨ ∃ k, xs = [V.bl k] ∧ Q (.int (if k then 1 else 0)) H) ∨ ∃ a n, xs = [.str a] ∧ PySem.intText? a = some n ∧ a.length ≤ 640 ∧ Q (.int n) H) intTP := by
  intro W σ Hs H xs us w Q s r e q
  cases r with
  | nil => cases e
  | cons r t =>
    cases t with
    | cons r2 t2 => cases r <;> cases e
    | nil =>
      cases r with
      | str a =>
        have e : (if a.length ≤ 640 then (PySem.intText? a).map PV.int else none) = some w := e
        split at e
        · rename_i hl
          cases ei : PySem.intText? a with
          | none => rw [ei] at e; cases e
          | some n => rw [ei] at e; cases e; exact .inr ⟨a, n, rfl, ei, hl, q.here s (.int _)⟩
        · cases e
      | int i => exact .inl (cv_int W σ Hs H _ _ w Q s (.cons (.int i) .nil) e q)
      | bl i => exact .inl (cv_int W σ Hs H _ _ w Q s (.cons (.bl i) .nil) e q)
      | _ => cases e
theorem cv_strT : CallV X.K cl (fun xs H Q => (∃ i, xs = [V.int i] ∧ i.natAbs.log2 < 1920 ∧ Q (.str (toString i)) H) ∨ ∃ a, xs = [.str a] ∧ Q (.str a) H) strTP := by
  intro W σ Hs H xs us w Q s r e q
  cases r with
  | nil => cases e
  | cons r t =>
    cases t with
    | cons r2 t2 => cases r <;> cases e
    | nil =>
      cases r with
      | str a => cases e; exact .inr ⟨a, rfl, q.here s (.str _)⟩
      | int i => exact .inl (cv_str W σ Hs H _ _ w Q s (.cons (.int i) .nil) e q)
      | _ => cases e
end
end VL
namespace VL
open PySem PySem.Spec PySem.SeqAt PyProof.Rows L2
/-! join, d.get, f-strings -/
def txsP : List PV → Option (List Str)
  | [] => some []
  | .str y :: r => (txsP r).map (y :: ·)
  | _ :: _ => none
def joinP (x y : PV) : Option PV := match x, y with
  | .str a, .lst xs => (txsP xs).bind fun ys => if (ys.map (·.length)).sum + ys.length * a.length ≤ 16777216 then some (.str (Txt.join a ys)) else none
  | _, _ => none
def eJoin (f g : Ex) : Ex := fun ρ => ((f ρ).bind txtP).bind fun x => (g ρ).bind fun y => opt (joinP x y)
theorem strs_rp {K : PySem.W.Frag} {cl : Nat → Addr} {Hs : Hp} : ∀ {vs : List V} {xs : List PV} {ys : List Str}, RpA K cl Hs vs xs → txsP xs = some ys → vs = ys.map V.str
  | _, _, ys, .nil, e => by cases e; rfl
  | _, _, ys, .cons (v := v) (x := x) (xs := xs) r t, e => by
    cases r with
    | str y =>
      have e : (txsP xs).map (y :: ·) = some ys := e
      cases e2 : txsP xs with
      | none => rw [e2] at e; cases e
      | some zs => rw [e2] at e; cases e; rw [strs_rp t e2]; rfl
    | _ => cases e
section
variable {X : Cx} {cl : Nat → Addr} {W : WX} {pos p apos : Pos} {o e e' : Expr} {f f' f'' : Ex}
theorem ve_join (ha : PE X o (tv X.K cl W f)) (hb : PE X e (tv X.K cl W f')) (hs : starEach [e] X.env = [(false, eval e X.env)] := by rfl) (hbase : attributeBase o "join" X.env (eval o X.env) = eval o X.env := by rfl) (hline : (apos.endLine == pos.line) = true := by rfl) :
    PE X (.Call (.Attribute o "join" apos) [e] [] pos) (tv X.K cl W (eJoin f f')) :=
  peWeak (pe_join ha hb hs hbase hline) fun σ H Q ⟨Hs, ρ, E, h⟩ => by
    unfold eJoin at h
    refine ⟨Hs, ρ, E, ?_⟩
    cases e1 : f ρ with
    | ok v =>
      rw [e1] at h
      intro x Hs1 H1 s1 rx
      cases rx with
      | str a =>
        refine ⟨⟨a, rfl⟩, ?_⟩
        refine gv_bind (E.up s1) (GP.up h s1) fun u y Hs2 H2 _ t1 ry h2 => ?_
        obtain ⟨w, e, q⟩ := h2.opt
        cases ry with
        | @lst b vs xs hh ra =>
          replace e : ((txsP xs).bind fun ys => if (ys.map (·.length)).sum + ys.length * a.length ≤ 16777216 then some (PV.str (Txt.join a ys)) else none) = some w := e
          cases es : txsP xs with
          | none => rw [es] at e; cases e
          | some ys =>
            rw [es] at e
            replace e : (if (ys.map (·.length)).sum + ys.length * a.length ≤ 16777216 then some (PV.str (Txt.join a ys)) else none) = some w := e
            split at e
            · rename_i hk
              cases e
              have ev := strs_rp ra es
              subst ev
              exact ⟨a, b, ys, rfl, rfl, .inl (.of (t1.sub _ _ hh)), hk, q.here t1.sub (.str _)⟩
            · cases e
        | _ => cases e
      | _ => exact h.elim
    | exc c fs => rw [e1] at h; exact h
    | stuck => rw [e1] at h; exact h
theorem txsP_tup {K : PySem.W.Frag} {Hs : Hp} {vs : List V} {xs : List PV} {ys : List Str} (r : RpA K cl Hs vs xs) (e : txsP xs = some ys) : vs = ys.map V.str := strs_rp r e
def dctP : PV → R PV
  | .dct kvs => .ok (.dct kvs)
  | .dlk kvs => .ok (.dlk kvs)
  | _ => .stuck
def getP (x y z : PV) : Option PV := match x, keyP y with
  | .dct kvs, some k => some ((lkP kvs k).getD z)
  | .dlk kvs, some k => some ((lkP kvs k).getD z)
  | _, _ => none
theorem getP_d {kvs : List (Key × PV)} (y z w : PV) (e : getP (.dct kvs) y z = some w) : ∃ k, keyP y = some k ∧ w = (lkP kvs k).getD z := by
  unfold getP at e
  cases ek : keyP y with
  | none => rw [ek] at e; cases e
  | some k => rw [ek] at e; cases e; exact ⟨k, rfl, rfl⟩
theorem getP_l {kvs : List (Key × PV)} (y z w : PV) (e : getP (.dlk kvs) y z = some w) : ∃ k, keyP y = some k ∧ w = (lkP kvs k).getD z := by
  unfold getP at e
  cases ek : keyP y with
  | none => rw [ek] at e; cases e
  | some k => rw [ek] at e; cases e; exact ⟨k, rfl, rfl⟩
def eGet (f g h : Ex) : Ex := fun ρ => ((f ρ).bind dctP).bind fun x => (g ρ).bind fun y => (h ρ).bind fun z => opt (getP x y z)
theorem ve_get2 (hu : X.A.units + 1 < cLine) (ha : PE X o (tv X.K cl W f)) (hb : PE X e (tv X.K cl W f')) (hc : PE X e' (tv X.K cl W f'')) (m : M2 X o "get" apos e e' pos := by exact ⟨rfl, rfl, rfl, rfl⟩) :
    PE X (.Call (.Attribute o "get" apos) [e, e'] [] pos) (tv X.K cl W (eGet f f' f'')) :=
  peWeak (pe_dget2 hu ha hb hc m) fun σ H Q ⟨Hs, ρ, E, h⟩ => by
    unfold eGet at h
    refine ⟨Hs, ρ, E, ?_⟩
    cases e1 : f ρ with
    | ok v =>
      rw [e1] at h
      intro x Hs1 H1 s1 rx
      have go : ∀ {a : Addr} {vs : List (Key × V)} {kvs : List (Key × PV)} {v' : PV}, (∀ H2, Sub Hs1 H2 → Rd H2 a (.dK vs)) → RpK X.K cl Hs1 vs kvs → Sub Hs1 H1 → (∀ y z w, getP v' y z = some w → ∃ k, keyP y = some k ∧ w = (lkP kvs k).getD z) →
          GP X.K cl (Rp X.K cl) W Hs H σ ((f' ρ).bind fun y => (f'' ρ).bind fun z => opt (getP v' y z)) Q → ∃ a', V.ref a = .ref a' ∧ IsD H1 a' ∧ tv X.K cl W f' σ H1 fun y H2 => tv X.K cl W f'' σ H2 fun z H3 => ∃ o, DGet H3 a' y o ∧ Q (o.getD z) H3 := by
        intro a vs kvs v' hr rk sH hg h
        refine ⟨a, rfl, .inl ⟨vs, hr _ sH⟩, ?_⟩
        refine gv_bind (E.up s1) (GP.up h s1) fun u y Hs2 H2 _ t1 ry h2 => ?_
        refine gv_bind ((E.up s1).up t1) h2 fun w z Hs3 H3 _ t2 rz h3 => ?_
        obtain ⟨r, er, q⟩ := h3.opt
        obtain ⟨k, ek, rfl⟩ := hg _ _ _ er
        have rk3 := rk.mono (t1.fs.trans t2.fs)
        have hr3 := hr H3 ((t1.fs.trans t2.fs).trans t2.sub)
        obtain ⟨l1, l2⟩ := rk3.lk k
        cases el : lkP kvs k with
        | none => exact ⟨none, .inl ⟨vs, k, hr3, keyP_rp (ry.mono t2.fs) ek, (l2 el).symm⟩, q.here t2.sub (by rw [el]; exact rz)⟩
        | some r0 =>
          obtain ⟨v0, g1, g2⟩ := l1 r0 el
          exact ⟨some v0, .inl ⟨vs, k, hr3, keyP_rp (ry.mono t2.fs) ek, g1.symm⟩, q.here t2.sub (by rw [el]; exact g2)⟩
      cases rx with
      | dct hh rk => exact go (fun H2 s => .inl (s _ _ hh)) rk s1.sub getP_d h
      | dlk hh rk => exact go (fun H2 s => .inr ⟨_, s _ _ hh⟩) rk s1.sub getP_l h
      | _ => exact h.elim
    | exc c fs => rw [e1] at h; exact h
    | stuck => rw [e1] at h; exact h
end
end VL
namespace VL
open PySem PySem.Spec PySem.SeqAt PyProof.Rows L2
/-! ### isinstance(e, C) of a caught error with fields -/
def rIsED (K : PySem.W.Frag) (D a d : Addr) : List V → Hp → VK → Prop := fun xs H Q => ∃ (c : V) (cv : Value) (b : Bool) (fvs : List (Str × V)), xs = [V.ref a, c] ∧ (∀ u : Value, RelV c u → u = cv) ∧ PySem.W.kitOne K (.ref D) cv = some b ∧ H d = some (.xd fvs) ∧ Q (.bl b) H
theorem call_isED {X : Cx} {a D d : Addr} {oe : Obj} {pn : List (Addr × Obj)} (C : ExcC X.K D) (hc : PySem.W.isClsIn X.K D = true) (hz : Zc (.ref D) (some d) oe) (hf : ∃ vs, oe.data = .fields vs) : CallR (X.suite a ((a, oe) :: pn)) (.builtin "isinstance") (rIsED X.K D a d) := by
  intro pins s σ H xs us Q I r ⟨c, cv, b, fvs, e, hcv, ek, hd, q⟩
  subst e
  cases r with
  | cons rx rr =>
    cases rr with
    | cons rc rn =>
      cases rn
      have e1 := hcv _ rc
      subst e1
      rename_i ux uc
      have rx : ux = Value.ref a := rx
      subst rx
      have hp := I.pin (a, oe) (by simp)
      have ho := I.hok d _ hd
      obtain ⟨vs, hv⟩ := hf
      simp only [ObjOk] at ho
      obtain ⟨mA, hns, _⟩ := ho
      obtain ⟨o, ho1⟩ : ∃ o, s.heap.get? d = some o := by
        cases e : s.heap.get? d with
        | some o => exact ⟨o, rfl⟩
        | none =>
          exfalso
          unfold Heap.Ns1 at hns
          simp [e] at hns
      have ia : PySem.W.InstAt s.heap a oe D (some o) := ⟨hp.1, hz.1, by unfold PySem.W.notCls; rw [hv], by rw [hz.2]; exact ho1⟩
      exact PySem.W.kia_one (PySem.W.kitx_exc (gt := none) hc C.hg C.hk C.hs C.ha C.hn C.ht C.hm) I.kIn ia ek (fun z => by cases z) fun tk => ⟨.bl b, H, I.tok tk, rfl, q⟩
/-- a class that isinstance names -/
structure IsiAt (K : PySem.W.Frag) (mg : Str → Option Value) (cl : Nat → Addr) (x : Str) (mt : Nat → Option Bool) : Prop where
  ex : ∃ (v : V) (cv : Value), ((∃ C, v = V.ref C ∧ cv = .ref C ∧ mg x = some (.ref C)) ∨ (∃ n, v = V.ty n ∧ cv = .type n ∧ mg x = none ∧ bootBuiltins x = some (.type n))) ∧ ∀ k b, mt k = some b → ExcC K (cl k) ∧ PySem.W.isClsIn K (cl k) = true ∧ PySem.W.kitOne K (.ref (cl k)) cv = some b
def xIs (mt : Nat → Option Bool) : Xx PV := fun c _ => opt ((mt c).map .bl)
def xTru (g : Xx PV) : Xx Bool := fun c fs => (g c fs).bind fun v => opt (truV v)
def xNot (g : Xx Bool) : Xx Bool := fun c fs => (g c fs).bind fun b => .ok (!b)
def xOr (g h : Xx Bool) : Xx Bool := fun c fs => (g c fs).bind fun b => if b = true then .ok true else h c fs
def xIf (t : Xx Bool) (g h : Xx PV) : Xx PV := fun c fs => (t c fs).bind fun b => if b = true then g c fs else h c fs
abbrev relB (_ : Hp) (x : Bool) (v : Bool) : Prop := x = v
section
variable {X : Cx} {cl : Nat → Addr} {i : Nat} {a : Addr} {cls : Value} {d : Option Addr} {oe : Obj} {pn : List (Addr × Obj)} {pos p px py : Pos} {x y : Str} {mt : Nat → Option Bool}
abbrev PXt (X : Cx) (cl : Nat → Addr) (i : Nat) (a : Addr) (cls : Value) (d : Option Addr) (oe : Obj) (pn : List (Addr × Obj)) (e : Expr) (f : Xx Bool) : Prop := PT (X.suite a ((a, oe) :: pn)) e (gx X.K cl i a cls d relB f)
theorem xx_isi (D : IsiAt X.K X.mg cl y mt) (hz : Zc cls d oe) (hf : ∃ vs, oe.data = .fields vs) (hbi : X.mg "isinstance" = none) (hN : X.N[i]? = some x := by rfl) (hv : Vis X.env.scope x := by first | exact Or.inl rfl | exact Or.inr (Or.inl rfl) | exact Or.inr (Or.inr rfl)) (hd : (x == ("__debug__" : Str)) = false := by decide) (hcd : (x == ("__classdict__" : Str)) = false := by decide)
    (hgi : Gl X "isinstance" := by rfl) (hgy : Gl X y := by rfl) (hyd : (y == ("__debug__" : Str)) = false := by decide) (hyn : y ≠ "__name__" := by decide)
    (hs : starEach [.Name x px, .Name y py] X.env = (false, eval (.Name x px) X.env) :: starEach [.Name y py] X.env := by rfl) (hs2 : starEach [.Name y py] X.env = [(false, eval (.Name y py) X.env)] := by rfl) (hpl : (backTo pos (starEach [.Name y py] X.env)).any (·.1) = false := by rfl) :
    PXv X cl i a cls d oe pn (.Call (.Name "isinstance" p) [.Name x px, .Name y py] [] pos) (xIs mt) := ⟨fun pins s σ H Q I h => by
  obtain ⟨Hs, c, dd, fvs, fs, h1, h2, h3, sb, h4, h5, q⟩ := h
  subst h2
  subst h3
  obtain ⟨v, cv, hn, hk⟩ := D.ex
  unfold xIs at q
  cases e : mt c with
  | none => rw [e] at q; exact q.elim
  | some b =>
    rw [e] at q
    obtain ⟨k1, k2, k3⟩ := hk c b e
    have hu : ∀ u : Value, RelV v u → u = cv := by
      rcases hn with ⟨C, rfl, rfl, _⟩ | ⟨n, rfl, rfl, _⟩
      · exact fun u h => h
      · exact fun u h => h
    have pv : PE (X.suite a ((a, oe) :: pn)) (.Name y py) (tC v) := by
      rcases hn with ⟨C, rfl, rfl, hm⟩ | ⟨n, rfl, rfl, hm, hb⟩
      · exact pe_glob (X := X.suite a ((a, oe) :: pn)) hgy hm rfl hyd
      · exact pe_bltn (X := X.suite a ((a, oe) :: pn)) (v := .ty n) hgy hm hb rfl hyn hyd
    refine (pe_callB (X := X.suite a ((a, oe) :: pn)) (call_isED k1 k2 hz hf) hgi hbi (by rfl) (pa_cons (pe_var (X := X.suite a ((a, oe) :: pn)) (i := i) hN hv hd hcd) (pa_cons pv pa_nil hs2) hs) (by decide) (by decide) hs hpl).run pins s σ H Q I ?_
    exact ⟨.ref a, h1, v, cv, b, fvs, rfl, hu, k3, sb _ _ h4, q (.bl b) Hs H (Ext.refl sb) (.bl b)⟩⟩
theorem xt_tru {e : Expr} {g : Xx PV} (h : PXv X cl i a cls d oe pn e g) (he : ∀ whole, isTrue e X.env whole = (do let v ← whole; standAt e.pos; holding [v] (truthy v)) := by intro _; rfl) : PXt X cl i a cls d oe pn e (xTru g) :=
  ptWeak (pt_truth h he) fun σ H Q ⟨Hs, c, dd, fvs, fs, h1, h2, h3, sb, h4, h5, q⟩ => by
    refine ⟨Hs, c, dd, fvs, fs, h1, h2, h3, sb, h4, h5, ?_⟩
    unfold xTru at q
    cases e1 : g c fs with
    | ok v =>
      rw [e1, bind_ok] at q
      cases e2 : truV v with
      | none => rw [e2] at q; exact q.elim
      | some b =>
        rw [e2] at q
        exact fun x Hs' H' ext rx => ⟨b, truV_ok ext.sub rx e2, q b Hs' H' ext rfl⟩
    | exc c' fs' => rw [e1] at q; exact q.elim
    | stuck => rw [e1] at q; exact q.elim
theorem xt_not {e : Expr} {g : Xx Bool} (h : PXt X cl i a cls d oe pn e g) : PXt X cl i a cls d oe pn (.UnaryOp .Not e pos) (xNot g) :=
  ptWeak (pt_not h) fun σ H Q ⟨Hs, c, dd, fvs, fs, h1, h2, h3, sb, h4, h5, q⟩ => by
    refine ⟨Hs, c, dd, fvs, fs, h1, h2, h3, sb, h4, h5, ?_⟩
    unfold xNot at q
    cases e1 : g c fs with
    | ok b => rw [e1, bind_ok] at q; exact fun x Hs' H' ext (rx : x = b) => q (!x) Hs' H' ext (by rw [rx])
    | exc c' fs' => rw [e1] at q; exact q.elim
    | stuck => rw [e1] at q; exact q.elim
abbrev PXw (X : Cx) (cl : Nat → Addr) (i : Nat) (a : Addr) (cls : Value) (d : Option Addr) (oe : Obj) (pn : List (Addr × Obj)) (e : Expr) (f : Xx Bool) : Prop := PW (X.suite a ((a, oe) :: pn)) e (gx X.K cl i a cls d relB f)
theorem xw_or1 {e : Expr} {g : Xx Bool} (h : PXt X cl i a cls d oe pn e g) : PXw X cl i a cls d oe pn (.BoolOp .Or [e] pos) g := pw_or1 h
theorem xw_or {e b : Expr} {rest : List Expr} {g g' : Xx Bool} (h : PXt X cl i a cls d oe pn e g) (hb : PXw X cl i a cls d oe pn (.BoolOp .Or (b :: rest) pos) g') : PXw X cl i a cls d oe pn (.BoolOp .Or (e :: b :: rest) pos) (xOr g g') :=
  pwWeak (pw_or h hb) fun σ H Q ⟨Hs, c, dd, fvs, fs, h1, h2, h3, sb, h4, h5, q⟩ => by
    refine ⟨Hs, c, dd, fvs, fs, h1, h2, h3, sb, h4, h5, ?_⟩
    unfold xOr at q
    cases e1 : g c fs with
    | ok b =>
      rw [e1, bind_ok] at q
      intro x Hs' H' ext rx
      have rx : x = b := rx
      subst rx
      cases x with
      | true => exact q true Hs' H' ext rfl
      | false => exact ⟨Hs', c, dd, fvs, fs, h1, h2, h3, ext.sub, ext.fs _ _ h4, h5.mono ext.fs, by
          cases e2 : g' c fs with
          | ok b' => rw [e2] at q; exact fun y Hs2 H2 ext2 ry => q y Hs2 H2 (ext.trans ext2) ry
          | exc c' fs' => rw [e2] at q; exact q.elim
          | stuck => rw [e2] at q; exact q.elim⟩
    | exc c' fs' => rw [e1] at q; exact q.elim
    | stuck => rw [e1] at q; exact q.elim
theorem sx_if {e : Expr} {A rest : List Stmt} {t : Xx Bool} {g h : Xx PV} (ht : PXt X cl i a cls d oe pn e t) (hA : PSs (X.suite a ((a, oe) :: pn)) A (tSx X.K cl i g a cls d)) (hB : PSs (X.suite a ((a, oe) :: pn)) rest (tSx X.K cl i h a cls d)) :
    PSs (X.suite a ((a, oe) :: pn)) (.If e A [] pos :: rest) (tSx X.K cl i (xIf t g h) a cls d) :=
  pssWeak (pss_cons (ps_if ht hA pss_nil) hB) fun D σ H ⟨Hs, c, dd, fvs, fs, h1, h2, h3, sb, h4, h5, q⟩ => by
    refine ⟨Hs, c, dd, fvs, fs, h1, h2, h3, sb, h4, h5, ?_⟩
    unfold xIf at q
    cases e1 : t c fs with
    | ok b =>
      rw [e1, bind_ok] at q
      intro x Hs' H' ext rx
      have rx : x = b := rx
      subst rx
      have up : ∀ {f : Xx PV} {v : PV}, f c fs = .ok v → (∀ x Hs' H', Ext Hs H Hs' H' → Rp X.K cl Hs' x v → D.rt x H') → tSx X.K cl i f a cls d D σ H' := fun {f v} e2 q => ⟨Hs', c, dd, fvs, fs, h1, h2, h3, ext.sub, ext.fs _ _ h4, h5.mono ext.fs, by
        rw [e2]
        exact fun y Hs2 H2 ext2 ry => q y Hs2 H2 (ext.trans ext2) ry⟩
      cases x with
      | true =>
        rw [if_pos rfl] at q
        cases e2 : g c fs with
        | ok v => rw [e2] at q; exact up e2 q
        | exc c' fs' => rw [e2] at q; exact q.elim
        | stuck => rw [e2] at q; exact q.elim
      | false =>
        rw [if_neg Bool.false_ne_true] at q
        cases e2 : h c fs with
        | ok v => rw [e2] at q; exact up e2 q
        | exc c' fs' => rw [e2] at q; exact q.elim
        | stuck => rw [e2] at q; exact q.elim
    | exc c' fs' => rw [e1] at q; exact q.elim
    | stuck => rw [e1] at q; exact q.elim
end
/-! facts of isinstance, at the head -/
theorem kit_self {K : PySem.W.Frag} {C : Addr} : PySem.W.kitOne K (.ref C) (.ref C) = some true := by unfold PySem.W.kitOne; rw [if_pos (by simp)]
theorem kit_of {K : PySem.W.Frag} {C D : Addr} {b : Bool} (h1 : PySem.W.isClsIn K D = true) (h2 : PySem.W.typeIn K (.ref D) = some (.type "type")) (h3 : PySem.W.subIn K (.ref C) (.ref D) = some b) (h4 : (Value.ref C == Value.ref D) = false) : PySem.W.kitOne K (.ref C) (.ref D) = some b := by
  unfold PySem.W.isClsIn at h1
  unfold PySem.W.kitOne PySem.W.kitCls
  rw [h4, if_neg (by decide)]
  show (if ((PySem.W.clsIn K D).isSome && PySem.W.typeIn K (Value.ref D) == some (Value.type "type")) = true then PySem.W.subIn K (.ref C) (.ref D) else none) = _
  rw [if_pos (by rw [h1, h2]; rfl), h3]
theorem kit_tyE {K : PySem.W.Frag} {C : Addr} {n : String} {b : Bool} (h1 : PySem.W.kitMeta n = true) (h3 : PySem.W.subIn K (.ref C) (.type n) = some b) : PySem.W.kitOne K (.ref C) (.type n) = some b := by
  unfold PySem.W.kitOne PySem.W.kitCls
  rw [if_neg (by simp)]
  show (if PySem.W.kitMeta n = true then PySem.W.subIn K (.ref C) (.type n) else none) = _
  rw [if_pos h1, h3]
theorem isi_own {K : PySem.W.Frag} {h : Heap} {mg : Str → Option Value} {cl : Nat → Addr} {x : Str} {D : Addr} {mt : Nat → Option Bool} (X : K.In h) (G : h.Ns mainGlobals mg) (g : PySem.W.nsIn K mainGlobals x = some (some (.ref D))) (hk : ∀ k b, mt k = some b → ExcC K (cl k) ∧ PySem.W.isClsIn K (cl k) = true ∧ PySem.W.kitOne K (.ref (cl k)) (.ref D) = some b) : IsiAt K mg cl x mt :=
  ⟨.ref D, .ref D, .inl ⟨D, rfl, rfl, PySem.W.mg_of X G g⟩, hk⟩
theorem isi_ty {K : PySem.W.Frag} {mg : Str → Option Value} {cl : Nat → Addr} {x : Str} {n : String} {mt : Nat → Option Bool} (hm : mg x = none) (hb : bootBuiltins x = some (.type n)) (hk : ∀ k b, mt k = some b → ExcC K (cl k) ∧ PySem.W.isClsIn K (cl k) = true ∧ PySem.W.kitOne K (.ref (cl k)) (.type n) = some b) : IsiAt K mg cl x mt :=
  ⟨.ty n, .type n, .inr ⟨n, rfl, rfl, hm, hb⟩, hk⟩
end VL
namespace VL
open PySem PySem.Spec PySem.SeqAt PyProof.Rows L2
/-! ### what is never reached -/
def eStuck : Ex := fun _ => .stuck
def yStuck : Fy := fun _ => .stuck
def sStuck : Env → Out := fun _ => .stuck
section
variable {X : Cx} {cl : Nat → Addr} {W : WX} {He H0 : Hp} {pin : List Addr} {pos p : Pos} {e : Expr} {st : Stmt}
theorem ve_stuck : PE X e (tv X.K cl W eStuck) := ⟨fun pins s σ H Q I ⟨Hs, ρ, E, h⟩ => h.elim⟩
theorem y_stuck : PE X e (ty X.K cl He H0 pin W (Rp X.K cl) yStuck) := ⟨fun pins s σ H Q I ⟨Hs, ρ, E, h⟩ => h.elim⟩
theorem vs_stuck : PV1 X cl W He H0 pin st sStuck := ⟨fun pins s σ H D I ⟨Hs, ρ, E, h⟩ => h.elim⟩
end
/-! ### f-strings -/
def fmtP : PV → Option PV
  | .str y => if y.length ≤ sizeLine then some (.str y) else none
  | .int i => if -(2 ^ 1000) < i ∧ i < 2 ^ 1000 then some (.str (toString i)) else none
  | _ => none
def jsE : List Ex → Str → Ev → R PV
  | [], acc, _ => .ok (.str acc)
  | f :: r, acc, ρ => (f ρ).bind fun v => match v with
    | .str y => if (acc ++ y).length ≤ sizeLine then jsE r (acc ++ y) ρ else .stuck
    | _ => .stuck
def eJs (fs : List Ex) : Ex := fun ρ => jsE fs Str.empty ρ
section
variable {X : Cx} {cl : Nat → Addr} {W : WX} {pos p : Pos} {e v1 v2 : Expr} {f : Ex}
theorem ve_fmt (h : PE X e (tv X.K cl W f)) : PE X (.FormattedValue e (-1) none pos) (tv X.K cl W (e1 fmtP f)) :=
  peWeak (pe_fmt h) fun σ H Q ⟨Hs, ρ, E, h⟩ => by
    refine gv_bind E h fun v x Hs1 H1 _ s1 rx h1 => ?_
    obtain ⟨w, e, q⟩ := h1.opt
    cases rx with
    | str y =>
      replace e : (if y.length ≤ sizeLine then some (PV.str y) else none) = some w := e
      split at e
      · cases e; exact .inl ⟨y, rfl, by assumption, q.here s1.sub (.str _)⟩
      · cases e
    | int i =>
      replace e : (if -(2 ^ 1000) < i ∧ i < 2 ^ 1000 then some (PV.str (toString i)) else none) = some w := e
      split at e
      · rename_i hk
        cases e
        refine .inr ⟨i, rfl, Nat.lt_of_lt_of_le (PySem.Flt.log2_lt_of (k := 1000) (by decide) ?_) (by decide), q.here s1.sub (.str _)⟩
        have : ((i.natAbs : Nat) : Int) < ((2 ^ 1000 : Nat) : Int) := by
          rw [show ((2 ^ 1000 : Nat) : Int) = 2 ^ 1000 from by simp]
          omega
        exact Int.ofNat_lt.mp this
      · cases e
    | _ => cases e
theorem pj_nil : PJ X [] (([] : List Ex).map (tv X.K cl W)) := .nil
theorem pj_cons {es : List Expr} {fs : List Ex} (h : PE X e (tv X.K cl W f)) (r : PJ X es (fs.map (tv X.K cl W))) : PJ X (e :: es) ((f :: fs).map (tv X.K cl W)) := .cons h r
theorem js_use : ∀ (fs : List Ex) (acc : Str) {σ : St} {H : Hp} {Q : VK} {Hs : Hp} {ρ : Ev}, PEnv X.K cl Hs H σ ρ → GP X.K cl (Rp X.K cl) W Hs H σ (jsE fs acc ρ) Q → tJs (fs.map (tv X.K cl W)) acc σ H fun out H1 => Q (.str out) H1
  | [], acc, σ, H, Q, Hs, ρ, E, h => h.here E.sub (.str _)
  | f :: r, acc, σ, H, Q, Hs, ρ, E, h => by
    show tv X.K cl W f σ H fun x H1 => ∃ y : Str, x = .str y ∧ (acc ++ y).length ≤ sizeLine ∧ tJs (r.map (tv X.K cl W)) (acc ++ y) σ H1 fun out H1 => Q (.str out) H1
    refine gv_bind E h fun v x Hs1 H1 _ s1 rx h1 => ?_
    cases rx with
    | str y =>
      replace h1 : GP X.K cl (Rp X.K cl) W Hs1 H1 σ (if (acc ++ y).length ≤ sizeLine then jsE r (acc ++ y) ρ else .stuck) Q := h1
      split at h1
      · exact ⟨y, rfl, by assumption, js_use r (acc ++ y) (E.up s1) h1⟩
      · exact h1.elim
    | _ => exact h1.elim
theorem ve_joined {rest : List Expr} {fs : List Ex} (h : PJ X (v1 :: v2 :: rest) (fs.map (tv X.K cl W))) : PE X (.JoinedStr (v1 :: v2 :: rest) pos) (tv X.K cl W (eJs fs)) :=
  peWeak (pe_joined h) fun σ H Q ⟨Hs, ρ, E, h⟩ => js_use fs Str.empty E h
theorem ve_joined1 (h : PE X e (tv X.K cl W f)) : PE X (.JoinedStr [e] pos) (tv X.K cl W f) := pe_joined1 h
end
/-! ### a text times a number -/
def repS (a : Str) (n : Nat) : Str := ⟨List.foldl (fun x1 x2 => x1 ++ x2) #[] (List.replicate n a.cps)⟩
theorem rep_go (c : Array Nat) : ∀ (n : Nat) (acc : Array Nat), (List.foldl (fun x1 x2 => x1 ++ x2) acc (List.replicate n c)).toList = acc.toList ++ (List.replicate n c.toList).flatten
  | 0, acc => by simp
  | n + 1, acc => by
    rw [List.replicate_succ, List.foldl_cons, rep_go c n, List.replicate_succ, List.flatten_cons]
    simp
theorem rep_l (a : Str) (n : Nat) : (repS a n).cps.toList = (List.replicate n a.cps.toList).flatten := by
  unfold repS
  rw [rep_go]
  simp
theorem rep_len (a : Str) (n : Nat) : (repS a n).length = n * a.length := by
  show (repS a n).cps.size = _
  rw [← Array.length_toList, rep_l]
  simp [Str.length, List.sum_replicate_nat]
theorem op_mulT {X : Cx} : OpR X (binaryOp .Mult) (fun x y H Q => ∃ a k, x = .str a ∧ y = .int k ∧ 2 ≤ k ∧ k ≤ 1000 ∧ 1 ≤ a.length ∧ a.length ≤ 1000 ∧ Q (.str (repS a k.toNat)) H) := by
  intro pins s σ H x y v u Q I rx ry ⟨a, k, ex, ey, h1, h2, h3, h4, q⟩
  subst ex
  subst ey
  obtain ⟨t, rfl⟩ := rx
  obtain ⟨t', rfl⟩ := ry
  have b1 : (decide (k < -2 ^ 63) || decide (k ≥ 2 ^ 63)) = false := by simp; omega
  have b2 : (k == 1 || a.length == 0) = false := by
    rw [Bool.or_eq_false_iff]
    exact ⟨by simp; omega, by simp; omega⟩
  refine PySem.P.mul_str b1 (fun _ _ => ?_) (fun _ _ => ?_) ?_
  · have h5 : (2 ^ 63 - 1) / 1000 ≤ (2 ^ 63 - 1 : Int) / k := by
      rw [Int.le_ediv_iff_mul_le (by omega)]
      have : (2 ^ 63 - 1 : Int) / 1000 * k ≤ (2 ^ 63 - 1) / 1000 * 1000 := Int.mul_le_mul_of_nonneg_left h2 (by decide)
      refine Int.le_trans this (by decide)
    have : (1000 : Int) ≤ (2 ^ 63 - 1) / 1000 := by decide
    omega
  · unfold Builtin.Str.tooLong
    rw [decide_eq_false_iff_not, sizeLine_eq]
    have : a.length * k.toNat ≤ 1000 * 1000 := Nat.mul_le_mul h4 (by omega)
    omega
  · rw [if_neg (by omega), b2, if_neg (by decide)]
    simp only [Made.post]
    refine ⟨?_, .str (repS a k.toNat), H, I.tok _, ⟨_, rfl⟩, q⟩
    have := rep_len a k.toNat
    unfold repS at this
    rw [this, sizeLine_eq]
    have : k.toNat * a.length ≤ 1000 * 1000 := Nat.mul_le_mul (by omega) h4
    omega
def mulTP : PV → PV → Option PV
  | .str a, .int k => if 2 ≤ k ∧ k ≤ 1000 ∧ 1 ≤ a.length ∧ a.length ≤ 1000 then some (.str (repS a k.toNat)) else none
  | x, y => mulP x y
theorem or_mulT {X : Cx} : OpR X (binaryOp .Mult) (fun x y H Q => ((rI CMulS fun i j => .int (i * j)) x y H Q ∨ rRep x y H Q) ∨ ∃ a k, x = .str a ∧ y = .int k ∧ 2 ≤ k ∧ k ≤ 1000 ∧ 1 ≤ a.length ∧ a.length ≤ 1000 ∧ Q (.str (repS a k.toNat)) H) := or_mul.or op_mulT
theorem ov_mulT {X : Cx} {cl : Nat → Addr} : OpV X.K cl (fun x y H Q => ((rI CMulS fun i j => .int (i * j)) x y H Q ∨ rRep x y H Q) ∨ ∃ a k, x = .str a ∧ y = .int k ∧ 2 ≤ k ∧ k ≤ 1000 ∧ 1 ≤ a.length ∧ a.length ≤ 1000 ∧ Q (.str (repS a k.toNat)) H) mulTP := by
  intro W σ Hs H x y u v w Q s rx ry e q
  cases rx with
  | str a =>
    cases ry with
    | int k =>
      replace e : (if 2 ≤ k ∧ k ≤ 1000 ∧ 1 ≤ a.length ∧ a.length ≤ 1000 then some (PV.str (repS a k.toNat)) else none) = some w := e
      split at e
      · rename_i hk
        cases e
        exact .inr ⟨a, k, rfl, rfl, hk.1, hk.2.1, hk.2.2.1, hk.2.2.2, q.here s (.str _)⟩
      · cases e
    | _ => cases e
  | int i => exact .inl (ov_mul (X := X) W σ Hs H _ _ _ _ w Q s (.int i) ry e q)
  | lst h ra => exact .inl (ov_mul (X := X) W σ Hs H _ _ _ _ w Q s (.lst h ra) ry e q)
  | _ => cases e
end VL
namespace VL
open PySem PySem.Spec PyProof.Rows L2
/-! ### the plain functions, run by simp -/
section
variable {ρ : Ev} {r : Env} {α β : Type}
@[simp] theorem bind_okS (a : α) (f : α → R β) : (R.ok a).bind f = f a := rfl
@[simp] theorem bind_excS (c fs) (f : α → R β) : (R.exc c fs : R α).bind f = .exc c fs := rfl
@[simp] theorem bind_stuckS (f : α → R β) : (R.stuck : R α).bind f = .stuck := rfl
@[simp] theorem opt_someS (a : α) : opt (some a) = .ok a := rfl
@[simp] theorem opt_noneS : opt (none : Option α) = .stuck := rfl
@[simp] theorem eVar_0 (v : PV) (ρ : Ev) : eVar 0 (some v :: ρ) = .ok v := rfl
@[simp] theorem eVar_S (n : Nat) (x : Option PV) (ρ : Ev) : eVar (n + 1) (x :: ρ) = eVar n ρ := rfl
@[simp] theorem eC_S (v : PV) : eC v ρ = .ok v := rfl
@[simp] theorem e1_S (g) (a : Ex) : e1 g a ρ = (a ρ).bind fun x => opt (g x) := rfl
@[simp] theorem e2_S (g) (a b : Ex) : e2 g a b ρ = (a ρ).bind fun x => (b ρ).bind fun y => opt (g x y) := rfl
@[simp] theorem eIf_S (c) (a b : Ex) : eIf c a b ρ = (c ρ).bind fun t => if t = true then a ρ else b ρ := rfl
@[simp] theorem evs_0 : evs [] ρ = .ok [] := rfl
@[simp] theorem evs_S (a : Ex) (r) : evs (a :: r) ρ = (a ρ).bind fun x => (evs r ρ).bind fun xs => .ok (x :: xs) := rfl
@[simp] theorem eArgs_S (g) (as : List Ex) : eArgs g as ρ = (evs as ρ).bind g := rfl
@[simp] theorem eCB_S (g) (as : List Ex) : eCB g as ρ = (evs as ρ).bind fun xs => opt (g xs) := rfl
@[simp] theorem gTup_S (xs : List PV) (h : xs.length ≤ sizeLine) : gTupV xs = .ok (.tup xs) := if_pos h
@[simp] theorem gLst_S (xs : List PV) (h : xs.length ≤ sizeLine) : gLstV xs = .ok (.lst xs) := if_pos h
@[simp] theorem gN_S (n : Nat) (g) (us : List PV) (h : us.length = n) : gN n g us = g us := if_pos h
def asB : PV → R Bool
  | .bl b => .ok b
  | _ => .stuck
@[simp] theorem asB_b (b) : asB (.bl b) = .ok b := rfl
def asI : PV → R (Option Int)
  | .int i => .ok (some i)
  | _ => .stuck
@[simp] theorem asI_i (b) : asI (.int b) = .ok (some b) := rfl
def andK (b : Ex) (ρ : Ev) : PV → R PV
  | .bl t => if t = true then b ρ else .ok (.bl false)
  | _ => .stuck
@[simp] theorem andK_b (b ρ t) : andK b ρ (.bl t) = if t = true then b ρ else .ok (.bl false) := rfl
def orK (b : Ex) (ρ : Ev) : PV → R PV
  | .bl t => if t = true then .ok (.bl true) else b ρ
  | _ => .stuck
@[simp] theorem orK_b (b ρ t) : orK b ρ (.bl t) = if t = true then .ok (.bl true) else b ρ := rfl
def notK : PV → R PV
  | .bl t => .ok (.bl (!t))
  | _ => .stuck
@[simp] theorem notK_b (t) : notK (.bl t) = .ok (.bl (!t)) := rfl
@[simp] theorem eTst_S (a : Ex) : eTst a ρ = (a ρ).bind asB := by unfold eTst; congr <;> (funext x; cases x <;> rfl)
@[simp] theorem eTru_S (a : Ex) : eTru a ρ = (a ρ).bind fun x => opt (truV x) := rfl
@[simp] theorem cAnd_S (a b) : cAnd a b ρ = (a ρ).bind fun t => if t = true then b ρ else .ok false := rfl
@[simp] theorem cOr_S (a b) : cOr a b ρ = (a ρ).bind fun t => if t = true then .ok true else b ρ := rfl
@[simp] theorem cNot_S (a) : cNot a ρ = (a ρ).bind fun t => .ok (!t) := rfl
@[simp] theorem eAnd_S (a b : Ex) : eAnd a b ρ = (a ρ).bind (andK b ρ) := by unfold eAnd; congr <;> (funext x; cases x <;> rfl)
@[simp] theorem eOr_S (a b : Ex) : eOr a b ρ = (a ρ).bind (orK b ρ) := by unfold eOr; congr <;> (funext x; cases x <;> rfl)
@[simp] theorem eNot_S (a : Ex) : eNot a ρ = (a ρ).bind notK := by unfold eNot; congr <;> (funext x; cases x <;> rfl)
@[simp] theorem eChain_S (g g') (a b c : Ex) : eChain g g' a b c ρ = (a ρ).bind fun x => (b ρ).bind fun y => (opt (g x y)).bind (chainK g' c ρ y) := rfl
@[simp] theorem chainK_S (g') (c : Ex) (y : PV) (k : Bool) : chainK g' c ρ y (.bl k) = if k = true then (c ρ).bind fun w => opt (g' y w) else .ok (.bl false) := rfl
@[simp] theorem pNo_S : pNo ρ = .ok none := rfl
@[simp] theorem pAt_S (a : Ex) : pAt a ρ = (a ρ).bind asI := by unfold pAt; congr <;> (funext x; cases x <;> rfl)
@[simp] theorem eSl_S (a : Ex) (lo hi : Pt) : eSl a lo hi ρ = (a ρ).bind fun x => (lo ρ).bind fun l => (hi ρ).bind fun h => opt (slP x l h) := rfl
@[simp] theorem asLst_S (f) : asLst f ρ = (f ρ).bind fun xs => .ok (.lst xs) := rfl
@[simp] theorem eLst1_S (fs : List Ex) : eLst1 fs ρ = (evs fs ρ).bind fun xs => if xs.length ≤ sizeLine then .ok xs else .stuck := rfl
@[simp] theorem eO2_S (g) (a b : Ex) : eO2 g a b ρ = (a ρ).bind fun x => (b ρ).bind fun y => lstOf (g x y) := rfl
@[simp] theorem eOlist_S (a : Ex) : eOlist a ρ = (a ρ).bind fun x => lstOf (listP [x]) := rfl
def oslK (l h : Option Int) : PV → R (List PV)
  | .lst xs => .ok (cutP xs l h)
  | .src xs => .ok (cutP xs l h)
  | _ => .stuck
@[simp] theorem oslK_l (l h xs) : oslK l h (.lst xs) = .ok (cutP xs l h) := rfl
@[simp] theorem eOsl_S (a : Ex) (lo hi : Pt) : eOsl a lo hi ρ = (a ρ).bind fun x => (lo ρ).bind fun l => (hi ρ).bind fun h => oslK l h x := by
  unfold eOsl; congr <;> (funext x; congr <;> (funext l; congr <;> (funext h; cases x <;> rfl)))
@[simp] theorem lstOf_S (xs : List PV) : lstOf (some (.lst xs)) = .ok xs := rfl
@[simp] theorem eLc_S (own t it c e) : eLc own t it c e ρ = (it ρ).bind fun xs => szO (lcL t c e (wipeE ρ own) xs) := rfl
@[simp] theorem szO_S (ys : List PV) : szO (.ok ys) = if ys.length ≤ sizeLine then .ok ys else .stuck := rfl
@[simp] theorem cYes_S : cYes ρ = .ok true := rfl
@[simp] theorem iSeq_S (a : Ex) : iSeq a ρ = (a ρ).bind itemsP := rfl
def rg1 (j : Int) : R (List PV) := if -(2 ^ 62) ≤ j ∧ j < 2 ^ 62 then .ok (rangeP 0 j.toNat) else .stuck
def rg2 (i j : Int) : R (List PV) := if -(2 ^ 62) ≤ i ∧ i < 2 ^ 62 ∧ -(2 ^ 62) ≤ j ∧ j < 2 ^ 62 then .ok (rangeP i (j - i).toNat) else .stuck
@[simp] theorem rg1_nat {n : Nat} (h : n ≤ 1000000000) : rg1 (n : Int) = .ok (rangeP 0 n) := by
  unfold rg1
  rw [if_pos ⟨by omega, by omega⟩]
  rfl
theorem rg2_nat {i n : Nat} (h0 : i ≤ 1000000000) (h : n ≤ 1000000000) : rg2 (i : Int) (n : Int) = .ok (rangeP (i : Int) (n - i)) := by
  unfold rg2
  rw [if_pos ⟨by omega, by omega, by omega, by omega⟩]
  congr 2
  omega
def rgK : PV → R (List PV)
  | .int j => rg1 j
  | _ => .stuck
@[simp] theorem rgK_i (j) : rgK (.int j) = rg1 j := rfl
def rgK2 : PV → PV → R (List PV)
  | .int i, .int j => rg2 i j
  | _, _ => .stuck
@[simp] theorem rgK2_i (i j) : rgK2 (.int i) (.int j) = rg2 i j := rfl
@[simp] theorem iR1_S (a : Ex) : iR1 a ρ = (a ρ).bind rgK := by unfold iR1; congr <;> (funext x; cases x <;> rfl)
@[simp] theorem iR2_S (a b : Ex) : iR2 a b ρ = (a ρ).bind fun x => (b ρ).bind fun y => rgK2 x y := by unfold iR2; congr <;> (funext x; congr <;> (funext y; cases x <;> cases y <;> rfl))
def idxK (b : R PV) : PV → R PV
  | .lst xs => b.bind fun y => opt (idxO xs y)
  | _ => .stuck
@[simp] theorem idxK_l (b xs) : idxK b (.lst xs) = b.bind fun y => opt (idxO xs y) := rfl
@[simp] theorem eIdxL_S (a b : Ex) : eIdxL a b ρ = (a ρ).bind (idxK (b ρ)) := by unfold eIdxL; congr <;> (funext x; cases x <;> rfl)
def idxS (ys : List Str) : PV → R PV
  | .str z => opt ((ys.findIdx? fun x => x == z).map fun (j : Nat) => PV.int ((j : Nat) : Int))
  | _ => .stuck
@[simp] theorem idxS_s (ys z) : idxS ys (.str z) = opt ((ys.findIdx? fun x => x == z).map fun (j : Nat) => PV.int ((j : Nat) : Int)) := rfl
@[simp] theorem eIdxT_S (ys : List Str) (b : Ex) : eIdxT ys b ρ = (b ρ).bind (idxS ys) := by unfold eIdxT; congr <;> (funext x; cases x <;> rfl)
@[simp] theorem wipeE_0 : wipeE ρ [] = ρ := rfl
@[simp] theorem wipeE_S (v vs) : wipeE ρ (v :: vs) = (wipeE ρ vs).set v none := rfl
@[simp] theorem setE_0 : setE [] ρ = ρ := rfl
@[simp] theorem setE_S (i v) (as : As) : setE ((i, v) :: as) ρ = setE as (ρ.set i (some v)) := rfl
@[simp] theorem setS_0 : setS [] r = r := rfl
@[simp] theorem setS_S (i v) (as : As) : setS ((i, v) :: as) r = setS as (r.set i (.fz v)) := rfl
@[simp] theorem tN_S (i : Nat) (v : PV) : tN i v = some [(i, v)] := rfl
@[simp] theorem tT_S (ts : List Tg) (vs : List PV) : tT ts (.tup vs) = tTs ts vs := rfl
@[simp] theorem tTs_0 : tTs [] [] = some [] := rfl
@[simp] theorem tTs_S (t : Tg) (ts : List Tg) (v : PV) (vs : List PV) : tTs (t :: ts) (v :: vs) = (t v).bind fun a => (tTs ts vs).map (a ++ ·) := rfl
/-! slots -/
@[simp] theorem vw_0 (bs : List Bool) : vw bs [] = [] := by unfold vw; rfl
def vw1 (b : Bool) : Sl → Option PV
  | .no => none
  | .fz v => some v
  | .own xs => if b = true then some (.lst xs) else none
  | .om _ v => if b = true then some v else none
@[simp] theorem vw1_mt (t v) : vw1 true (.om t v) = some v := rfl
@[simp] theorem vw1_mo (t v) : vw1 false (.om t v) = none := rfl
@[simp] theorem vw1_n (b) : vw1 b .no = none := rfl
@[simp] theorem vw1_f (b v) : vw1 b (.fz v) = some v := rfl
@[simp] theorem vw1_t (xs) : vw1 true (.own xs) = some (.lst xs) := rfl
@[simp] theorem vw1_o (xs) : vw1 false (.own xs) = none := rfl
@[simp] theorem vw_cons (bs : List Bool) (s : Sl) : vw bs (s :: r) = vw1 (bs.headD false) s :: vw bs.tail r := by cases s <;> rw [vw] <;> rfl
@[simp] theorem fr_0 (bs : List Bool) : fr bs [] = [] := by unfold fr; rfl
def fr1 (b : Bool) : Sl → Sl
  | .own xs => if b = true then .fz (.lst xs) else .own xs
  | .om t v => if b = true then .fz v else .om t v
  | s => s
@[simp] theorem fr1_mt (t v) : fr1 true (.om t v) = .fz v := rfl
@[simp] theorem fr1_n (b) : fr1 b .no = .no := rfl
@[simp] theorem fr1_f (b v) : fr1 b (.fz v) = .fz v := rfl
@[simp] theorem fr1_t (xs) : fr1 true (.own xs) = .fz (.lst xs) := rfl
@[simp] theorem fr1_o (s) : fr1 false s = s := by cases s <;> rfl
@[simp] theorem fr_cons (bs : List Bool) (s : Sl) : fr bs (s :: r) = fr1 (bs.headD false) s :: fr bs.tail r := by cases s <;> rw [fr] <;> rfl
@[simp] theorem settle_t (bs : List Bool) : settle bs true r = r := rfl
@[simp] theorem settle_f (bs : List Bool) : settle bs false r = fr bs r := rfl
@[simp] theorem settle_nil (b : Bool) : settle [] b r = r := by
  have : fr [] r = r := by
    induction r with
    | nil => simp
    | cons s r ih => simp [ih]
  unfold settle
  rw [this]
  split <;> rfl
@[simp] theorem startE_S (n : Nat) (us : List PV) : startE n us = us.map Sl.fz ++ List.replicate (n - us.length) Sl.no := rfl
@[simp] theorem sPass_S : sPass r = .next r := rfl
@[simp] theorem sBreak_S : sBreak r = .brk r := rfl
@[simp] theorem sCont_S : sCont r = .cont r := rfl
@[simp] theorem sRetN_S : sRetN r = .ret .non := rfl
def seqK (t : Env → Out) : Out → Out
  | .next ρ => t ρ
  | o => o
@[simp] theorem seqK_n (t r) : seqK t (.next r) = t r := rfl
@[simp] theorem seqK_b (t r) : seqK t (.brk r) = .brk r := rfl
@[simp] theorem seqK_c (t r) : seqK t (.cont r) = .cont r := rfl
@[simp] theorem seqK_r (t v) : seqK t (.ret v) = .ret v := rfl
@[simp] theorem seqK_e (t c fs r) : seqK t (.exc c fs r) = .exc c fs r := rfl
@[simp] theorem seqK_s (t) : seqK t .stuck = .stuck := rfl
@[simp] theorem sSeq_S (s t : Env → Out) : sSeq s t r = seqK t (s r) := by unfold sSeq seqK; cases s r <;> rfl
def onK (nl : α → Bool) (bs : List Bool) (r : Env) (k : α → Env → Out) : R α → Out
  | .ok v => k v (settle bs (nl v) r)
  | .exc c fs => .exc c fs (fr bs r)
  | .stuck => .stuck
@[simp] theorem onK_o (nl : α → Bool) (bs r k) (v : α) : onK nl bs r k (.ok v) = k v (settle bs (nl v) r) := rfl
@[simp] theorem onK_e (nl : α → Bool) (bs r k c fs) : onK nl bs r k (.exc c fs) = .exc c fs (fr bs r) := rfl
@[simp] theorem onK_s (nl : α → Bool) (bs r k) : onK nl bs r k .stuck = .stuck := rfl
@[simp] theorem onE_S (nl : α → Bool) (f : Ev → R α) (bs : List Bool) (k : α → Env → Out) : onE nl f bs r k = onK nl bs r k (f (vw bs r)) := by unfold onE onK; cases f (vw bs r) <;> rfl
@[simp] theorem onO_S (f : Ev → R (List PV)) (bs : List Bool) (k : List PV → Env → Out) : onO f bs r k = onK PV.nols bs r k (f (vw bs r)) := by unfold onO onK; cases f (vw bs r) <;> rfl
@[simp] theorem sExpr_S (bs f) : sExpr bs f r = onE PV.nol f bs r fun _ ρ' => .next ρ' := rfl
@[simp] theorem sRet_S (bs f) : sRet bs f r = onE PV.nol f bs r fun v _ => .ret v := rfl
@[simp] theorem sSet_S (i bs f) : sSet i bs f r = onE PV.nol f bs r fun v ρ' => .next (ρ'.set i (.fz v)) := rfl
def tgK (r : Env) : Option As → Out
  | some as => .next (setS as r)
  | none => .stuck
@[simp] theorem tgK_s (r as) : tgK r (some as) = .next (setS as r) := rfl
@[simp] theorem sTg_S (t bs f) : sTg t bs f r = onE PV.nol f bs r fun v ρ' => tgK ρ' (t v) := by unfold sTg; congr <;> (funext v ρ'; cases t v <;> rfl)
@[simp] theorem sPar_S (is bs fs) : sPar is bs fs r = onE PV.nols (evs fs) bs r fun vs ρ' => .next (setS (is.zip vs) ρ') := rfl
@[simp] theorem sOwn_S (i bs f) : sOwn i bs f r = onO f bs r fun xs ρ' => .next (ρ'.set i (.own xs)) := rfl
def ownK (k : List PV → Out) : Option (List PV) → Out
  | some xs => k xs
  | none => .stuck
@[simp] theorem ownK_s (k xs) : ownK k (some xs) = k xs := rfl
@[simp] theorem sMet_S (i g bs fs) : sMet i g bs fs r = ownK (fun _ => onE PV.nols (evs fs) bs r fun vs ρ' => ownK (fun xs => ownK (fun ys => .next (ρ'.set i (.own ys))) (g xs vs)) (getO ρ' i)) (getO r i) := by
  unfold sMet
  cases getO r i with
  | none => rfl
  | some _ =>
    rw [ownK_s]
    refine congrArg (fun k => onE PV.nols (evs fs) bs r k) ?_
    funext vs ρ'
    cases getO ρ' i with
    | none => rfl
    | some xs =>
      rw [ownK_s]
      show (match g xs vs with | none => Out.stuck | some ys => Out.next (List.set ρ' i (Sl.own ys))) = _
      cases g xs vs <;> rfl
def putK (i : Nat) (v : PV) (ρ2 : Env) : Option (List PV) → PV → Out
  | some xs, .int z => ownK (fun _ => ownK (fun ys => .next (ρ2.set i (.own ys))) ((ixN xs.length z).map fun j => xs.set j v)) (some [])
  | _, _ => .stuck
@[simp] theorem putK_s (i v ρ2 xs z) : putK i v ρ2 (some xs) (.int z) = ownK (fun ys => .next (ρ2.set i (.own ys))) ((ixN xs.length z).map fun j => xs.set j v) := rfl
@[simp] theorem sPut_S (i bs fv fi) : sPut i bs fv fi r = onE PV.nol fv bs r fun v ρ1 => ownK (fun _ => onE PV.nol fi bs ρ1 fun k ρ2 => putK i v ρ2 (getO ρ2 i) k) (getO ρ1 i) := by
  unfold sPut
  refine congrArg (fun k => onE PV.nol fv bs r k) ?_
  funext v ρ1
  cases getO ρ1 i with
  | none => rfl
  | some _ =>
    rw [ownK_s]
    refine congrArg (fun k => onE PV.nol fi bs ρ1 k) ?_
    funext k ρ2
    cases getO ρ2 i with
    | none => rfl
    | some xs =>
      cases k with
      | int z =>
        show _ = putK i v ρ2 (some xs) (.int z)
        rw [putK_s]
        show (match ixN xs.length z with | some j => Out.next (ρ2.set i (.own (xs.set j v))) | none => Out.stuck) = _
        cases ixN xs.length z <;> rfl
      | _ => rfl
def augK (g : PV → PV → Option PV) (f : Ex) (bs : List Bool) (i : Nat) (r : Env) : Option Sl → Out
  | some (.fz x) => onE PV.nol f bs r fun y ρ' => ownK (fun z => .next (ρ'.set i (.fz (z.headD .non)))) ((g x y).map fun z => [z])
  | _ => .stuck
@[simp] theorem augK_s (g f bs i r x) : augK g f bs i r (some (.fz x)) = onE PV.nol f bs r fun y ρ' => ownK (fun z => .next (ρ'.set i (.fz (z.headD .non)))) ((g x y).map fun z => [z]) := rfl
@[simp] theorem sAug_S (i g bs f) : sAug i g bs f r = augK g f bs i r r[i]? := by
  unfold sAug
  cases r[i]? with
  | none => rfl
  | some s =>
    cases s with
    | fz x =>
      rw [augK_s]
      refine congrArg (fun k => onE PV.nol f bs r k) ?_
      funext y ρ'
      cases g x y <;> rfl
    | _ => rfl
@[simp] theorem sIf_S (bs c s t) : sIf bs c s t r = onE (fun _ => true) c bs r fun b ρ' => if b = true then s ρ' else t ρ' := rfl
@[simp] theorem sFor_S (nl t bs it s) : sFor nl t bs it s r = onE (fun _ => nl) it bs r fun xs ρ' => forL t s xs ρ' := rfl
def raiK (c : Nat) (r : Env) : Option (List (Str × PV)) → Out
  | some f => .exc c f r
  | none => .stuck
@[simp] theorem raiK_s (c r f) : raiK c r (some f) = .exc c f r := rfl
@[simp] theorem sRaise_S (c mk bs fs) : sRaise c mk bs fs r = onE PV.nols (evs fs) bs r fun us ρ' => raiK c ρ' (mk us) := by
  unfold sRaise; congr <;> (funext us ρ'; cases mk us <;> rfl)
def tryK (hs : List Hd) : Out → Out
  | .exc c fs ρ' => tryH c fs ρ' hs
  | o => o
@[simp] theorem tryK_e (hs c fs r) : tryK hs (.exc c fs r) = tryH c fs r hs := rfl
@[simp] theorem tryK_n (hs r) : tryK hs (.next r) = .next r := rfl
@[simp] theorem tryK_r (hs v) : tryK hs (.ret v) = .ret v := rfl
@[simp] theorem sTry_S (s hs) : sTry s hs r = tryK hs (s r) := by unfold sTry tryK; cases s r <;> rfl
@[simp] theorem getO_0 (xs : List PV) : getO (.own xs :: r) 0 = some xs := rfl
@[simp] theorem getO_S (s : Sl) (n : Nat) : getO (s :: r) (n + 1) = getO r n := by cases s <;> rfl
@[simp] theorem outR_n : outR (.next r) = .ok .non := rfl
@[simp] theorem outR_r (v : PV) : outR (.ret v) = .ok v := rfl
@[simp] theorem outR_e (c fs) : outR (.exc c fs r) = .exc c fs := rfl
@[simp] theorem outR_s : outR .stuck = .stuck := rfl
@[simp] theorem forL_0 (t s) : forL t s [] r = .next r := rfl
end
/-! values -/
@[simp] theorem nol_non : PV.nol .non = true := by simp [PV.nol]
@[simp] theorem nol_bl (b) : PV.nol (.bl b) = true := by simp [PV.nol]
@[simp] theorem nol_int (b) : PV.nol (.int b) = true := by simp [PV.nol]
@[simp] theorem nol_str (b) : PV.nol (.str b) = true := by simp [PV.nol]
@[simp] theorem nol_lst (b) : PV.nol (.lst b) = false := by simp [PV.nol]
@[simp] theorem nol_src (b) : PV.nol (.src b) = false := by simp [PV.nol]
@[simp] theorem nol_tup (b) : PV.nol (.tup b) = PV.nols b := by simp [PV.nol]
@[simp] theorem nols_0 : PV.nols [] = true := by simp [PV.nols]
@[simp] theorem nols_S (x xs) : PV.nols (x :: xs) = (PV.nol x && PV.nols xs) := by simp [PV.nols]
@[simp] theorem addP_i (i j) : addP (.int i) (.int j) = some (.int (i + j)) := rfl
@[simp] theorem addP_l (i j) : addP (.lst i) (.lst j) = if i.length + j.length ≤ sizeLine then some (.lst (i ++ j)) else none := rfl
@[simp] theorem addP_s (i j) : addP (.str i) (.str j) = if i.length + j.length ≤ sizeLine then some (.str (i ++ j)) else none := rfl
@[simp] theorem addIP_i (i j) : addIP (.int i) (.int j) = some (.int (i + j)) := rfl
@[simp] theorem subP_i (i j) : subP (.int i) (.int j) = some (.int (i - j)) := rfl
@[simp] theorem mulP_i (i j) : mulP (.int i) (.int j) = if mulOk i j = true then some (.int (i * j)) else none := rfl
@[simp] theorem mulP_l (xs k) : mulP (.lst xs) (.int k) = if -(2 ^ 63) ≤ k ∧ k < 2 ^ 63 ∧ xs.length * k.toNat ≤ sizeLine then some (.lst (List.replicate k.toNat xs).flatten) else none := rfl
@[simp] theorem modP_i (i j) : modP (.int i) (.int j) = if 0 < j then some (.int (i % j)) else none := rfl
@[simp] theorem divP_i (i j) : divP (.int i) (.int j) = if 0 < j ∧ j < bigI then some (.int (i / j)) else if j < 0 ∧ -bigI < j then some (.int ((-i) / (-j))) else none := rfl
@[simp] theorem negP_i (i) : negP (.int i) = some (.int (-i)) := rfl
@[simp] theorem ltP_i (i j) : ltP (.int i) (.int j) = some (.bl (decide (i < j))) := rfl
@[simp] theorem leP_i (i j) : leP (.int i) (.int j) = some (.bl (decide (i ≤ j))) := rfl
@[simp] theorem gtP_i (i j) : gtP (.int i) (.int j) = some (.bl (decide (j < i))) := rfl
@[simp] theorem geP_i (i j) : geP (.int i) (.int j) = some (.bl (decide (j ≤ i))) := rfl
@[simp] theorem eqB_i (i j) : eqB (.int i) (.int j) = some (decide (i = j)) := rfl
@[simp] theorem eqB_s (i j) : eqB (.str i) (.str j) = some (decide (i = j)) := rfl
@[simp] theorem eqB_b (i j) : eqB (.bl i) (.bl j) = some (decide (i = j)) := rfl
@[simp] theorem eqB_n : eqB .non .non = some true := rfl
@[simp] theorem eqP_S (x y) : eqP x y = (eqB x y).map .bl := rfl
@[simp] theorem neP_S (x y) : neP x y = (eqB x y).map fun b => .bl (!b) := rfl
@[simp] theorem inP_S (x y) : inP x y = (inB x y).map .bl := rfl
@[simp] theorem ninP_S (x y) : ninP x y = (inB x y).map fun b => .bl (!b) := rfl
@[simp] theorem isP_n : isP .non .non = some (.bl true) := rfl
@[simp] theorem isP_i (i) : isP (.int i) .non = some (.bl false) := rfl
@[simp] theorem isP_t (i) : isP (.tup i) .non = some (.bl false) := rfl
@[simp] theorem isP_l (i) : isP (.lst i) .non = some (.bl false) := rfl
@[simp] theorem isP_b (a b) : isP (.bl a) (.bl b) = some (.bl (decide (a = b))) := rfl
@[simp] theorem isntP_n : isntP .non .non = some (.bl false) := rfl
@[simp] theorem isntP_i (i) : isntP (.int i) .non = some (.bl true) := rfl
@[simp] theorem isntP_t (i) : isntP (.tup i) .non = some (.bl true) := rfl
@[simp] theorem isntP_l (i) : isntP (.lst i) .non = some (.bl true) := rfl
@[simp] theorem isntP_b (a b) : isntP (.bl a) (.bl b) = some (.bl (!decide (a = b))) := rfl
@[simp] theorem ixP_l (xs i) : ixP (.lst xs) (.int i) = atI xs i := rfl
@[simp] theorem ixP_r (xs i) : ixP (.src xs) (.int i) = atI xs i := rfl
@[simp] theorem ixP_t (xs i) : ixP (.tup xs) (.int i) = atI xs i := rfl
@[simp] theorem lenP_l (xs) : lenP [.lst xs] = some (.int xs.length) := rfl
@[simp] theorem lenP_r (xs) : lenP [.src xs] = some (.int xs.length) := rfl
@[simp] theorem lenP_t (xs) : lenP [.tup xs] = some (.int xs.length) := rfl
@[simp] theorem absP_i (i) : absP [.int i] = some (.int (if i < 0 then -i else i)) := rfl
@[simp] theorem intP_i (i) : intP [.int i] = some (.int i) := rfl
@[simp] theorem intP_b (b) : intP [.bl b] = some (.int (if b then 1 else 0)) := rfl
@[simp] theorem minP_i (i j) : minP [.int i, .int j] = some (.int (if j < i then j else i)) := rfl
@[simp] theorem maxP_i (i j) : maxP [.int i, .int j] = some (.int (if j > i then j else i)) := rfl
@[simp] theorem sumP_l (xs) : sumP [.lst xs] = (intsP xs).map fun ns => .int ns.sum := rfl
@[simp] theorem listP_l (xs) : listP [.lst xs] = some (.lst xs) := rfl
@[simp] theorem listP_r (xs) : listP [.src xs] = some (.lst xs) := rfl
@[simp] theorem listP_t (xs) : listP [.tup xs] = some (.lst xs) := rfl
@[simp] theorem slP_l (xs lo hi) : slP (.lst xs) lo hi = some (.lst (cutP xs lo hi)) := rfl
@[simp] theorem slP_t (xs lo hi) : slP (.tup xs) lo hi = some (.tup (cutP xs lo hi)) := rfl
@[simp] theorem itemsP_l (xs) : itemsP (.lst xs) = .ok xs := rfl
@[simp] theorem itemsP_t (xs) : itemsP (.tup xs) = .ok xs := rfl
@[simp] theorem truV_b (b) : truV (.bl b) = some b := rfl
@[simp] theorem truV_i (i) : truV (.int i) = some (i != 0) := rfl
@[simp] theorem mApp_S (xs v) : mApp xs [v] = if xs.length < sizeLine then some (xs ++ [v]) else none := rfl
@[simp] theorem isa_S (x n) : isaP [x, .ty n] = (tyName x).bind fun t => (isaT t n).map .bl := rfl
@[simp] theorem tyName_i (i) : tyName (.int i) = some "int" := rfl
@[simp] theorem tyName_t (i) : tyName (.tup i) = some "tuple" := rfl
@[simp] theorem tyName_l (i) : tyName (.lst i) = some "list" := rfl
@[simp] theorem tyName_b (i) : tyName (.bl i) = some "bool" := rfl
@[simp] theorem tyName_s (i) : tyName (.str i) = some "str" := rfl
@[simp] theorem tyName_n : tyName .non = some "NoneType" := rfl
@[simp] theorem isaT_1 : isaT "int" "int" = some true := by decide
@[simp] theorem isaT_2 : isaT "bool" "int" = some true := by decide
@[simp] theorem isaT_3 : isaT "tuple" "tuple" = some true := by decide
@[simp] theorem isaT_4 : isaT "int" "tuple" = some false := by decide
@[simp] theorem isaT_5 : isaT "int" "bool" = some false := by decide
@[simp] theorem isaT_6 : isaT "bool" "bool" = some true := by decide
@[simp] theorem isaT_7 : isaT "NoneType" "bool" = some false := by decide
@[simp] theorem isaT_8 : isaT "NoneType" "int" = some false := by decide
@[simp] theorem isaT_9 : isaT "str" "int" = some false := by decide
theorem szl : sizeLine = 16777216 := sizeLine_eq
/-! indexing -/
theorem atI_nat' {α : Type} {xs : List α} {i : Nat} (h : i < xs.length) : atI xs (i : Int) = some xs[i] := by
  rw [atI_nat (j := i) (List.getElem?_eq_getElem h)]
theorem atI_get {α : Type} {xs : List α} {i : Int} (h0 : 0 ≤ i) (h : i.toNat < xs.length) : atI xs i = some xs[i.toNat] := by
  obtain ⟨n, rfl⟩ := Int.eq_ofNat_of_zero_le h0
  exact atI_nat' (by simpa using h)
theorem atI_neg1 {α : Type} {xs : List α} (h : xs ≠ []) : atI xs (-1) = xs.getLast? := by
  have hl : 0 < xs.length := List.length_pos_iff.mpr h
  unfold atI ixN
  rw [List.getLast?_eq_getElem?, if_neg (by decide), if_pos (by omega)]
  show xs[(-1 + (xs.length : Int)).toNat]? = _
  congr 1
  omega
/-! loops -/
theorem forL_by {t : Tg} {s : Env → Out} {Q : Out → Prop} : ∀ {vs : List PV} {r : Env} (I : Nat → Env → Prop), I 0 r →
    (∀ i v r, vs[i]? = some v → I i r → ∃ as, t v = some as ∧ ((∃ r', (s (setS as r) = .next r' ∨ s (setS as r) = .cont r') ∧ I (i + 1) r') ∨ (∃ r', s (setS as r) = .brk r' ∧ Q (.next r')) ∨ (∃ v, s (setS as r) = .ret v ∧ Q (.ret v)) ∨ ∃ c fs r', s (setS as r) = .exc c fs r' ∧ Q (.exc c fs r'))) →
    (∀ r, I vs.length r → Q (.next r)) → Q (forL t s vs r)
  | [], r, I, h0, _, fin => fin r h0
  | v :: vs, r, I, h0, step, fin => by
    obtain ⟨as, e1, h⟩ := step 0 v r rfl h0
    unfold forL
    rw [e1]
    have rest : ∀ r', I 1 r' → Q (forL t s vs r') := fun r' h1 => forL_by (fun i => I (i + 1)) h1 (fun i v r hv hi => step (i + 1) v r (by simpa using hv) hi) (fun r hr => fin r (by simpa using hr))
    rcases h with ⟨r', e2 | e2, h1⟩ | ⟨r', e2, q⟩ | ⟨v, e2, q⟩ | ⟨c, fs, r', e2, q⟩
    · simp only [e2]; exact rest r' h1
    · simp only [e2]; exact rest r' h1
    · simp only [e2]; exact q
    · simp only [e2]; exact q
    · simp only [e2]; exact q
@[simp] theorem rangeP_len (lo : Int) (n : Nat) : (rangeP lo n).length = n := by simp [rangeP]
theorem rangeP_get {lo : Int} {n i : Nat} {v : PV} (h : (rangeP lo n)[i]? = some v) : i < n ∧ v = .int (lo + (i : Int)) := by
  unfold rangeP at h
  rw [List.getElem?_map] at h
  have hi : i < n := by
    by_cases hi : i < n
    · exact hi
    · rw [List.getElem?_eq_none (by simpa using hi)] at h; cases h
  rw [List.getElem?_range hi] at h
  cases h
  exact ⟨hi, rfl⟩
theorem lcL_map {γ : Type} {t : Tg} {e : Ex} {ρ : Ev} (enc h : γ → PV) : ∀ (xs : List γ), (∀ x ∈ xs, ∃ as, t (enc x) = some as ∧ e (setE as ρ) = .ok (h x)) → lcL t cYes e ρ (xs.map enc) = .ok (xs.map h)
  | [], _ => rfl
  | x :: xs, H => by
    obtain ⟨as, e1, e2⟩ := H x List.mem_cons_self
    have ih := lcL_map enc h xs fun y hy => H y (List.mem_cons_of_mem _ hy)
    simp only [List.map_cons, lcL, e1, cYes_S, e2, ih]
theorem lcL_filter {γ : Type} {t : Tg} {c : Ev → R Bool} {e : Ex} {ρ : Ev} (enc h : γ → PV) (p : γ → Bool) : ∀ (xs : List γ), (∀ x ∈ xs, ∃ as, t (enc x) = some as ∧ c (setE as ρ) = .ok (p x) ∧ (p x = true → e (setE as ρ) = .ok (h x))) → lcL t c e ρ (xs.map enc) = .ok ((xs.filter p).map h)
  | [], _ => rfl
  | x :: xs, H => by
    obtain ⟨as, e1, e2, e3⟩ := H x List.mem_cons_self
    have ih := lcL_filter enc h p xs fun y hy => H y (List.mem_cons_of_mem _ hy)
    cases hp : p x with
    | true => simp only [List.map_cons, lcL, e1, e2, hp, e3 hp, ih, List.filter_cons, if_true]
    | false => simp only [List.map_cons, lcL, e1, e2, hp, ih, List.filter_cons]; rfl
@[simp] theorem intsP_map (ns : List Int) : intsP (ns.map .int) = some ns := by
  induction ns with
  | nil => rfl
  | cons n ns ih => simp [intsP, ih]
@[simp] theorem mulOk_r {i j : Int} (h : -18446744073709551616 < j ∧ j < 18446744073709551616) : mulOk i j = true := by
  unfold mulOk
  rw [show ((2 : Int) ^ 64) = 18446744073709551616 from by decide, decide_eq_true h.1, decide_eq_true h.2]
  simp
theorem mulOk_l {i j : Int} (h : -18446744073709551616 < i ∧ i < 18446744073709551616) : mulOk i j = true := by
  unfold mulOk
  rw [show ((2 : Int) ^ 64) = 18446744073709551616 from by decide, decide_eq_true h.1, decide_eq_true h.2]
  simp
theorem mulOk_b {i j : Int} (h : -bigI < i ∧ i < bigI) (h' : -bigI < j ∧ j < bigI) : mulOk i j = true := by
  unfold mulOk
  rw [decide_eq_true h.1, decide_eq_true h.2, decide_eq_true h'.1, decide_eq_true h'.2]
  simp
theorem bigI_of {j : Int} (h : j < 18446744073709551616) : j < bigI := lt_bigI (by rw [show ((2 : Int) ^ 64) = 18446744073709551616 from by decide]; exact h)
end VL
namespace VL
open PySem PySem.Spec PyProof.Rows L2
/-! ### == of values that are lists and tuples -/
/-- a text without odd signs -/
abbrev okS (z : Str) : Bool := PyData.canLay0 (.str z)
def PV.tm (n : Nat) (x : PV) : Bool := match x.data with
  | some d => PyData.canLay0 d && decide (d.depth ≤ n)
  | none => false
def PV.tms (n : Nat) (x : List PV) : Bool := match PV.datas x with
  | some d => PyData.canLayAll0 d && decide (PyData.depthAll d ≤ n)
  | none => false
def PV.eqv (x y : PV) : Bool := match x.data, y.data with
  | some d, some e => PyData.eqv d e
  | _, _ => false
def PV.eqvs (x y : List PV) : Bool := match PV.datas x, PV.datas y with
  | some d, some e => PyData.eqvAll d e
  | _, _ => false
@[simp] theorem tm_i (n i) : PV.tm n (.int i) = true := by simp [PV.tm, PV.data, PyData.canLay0, PyData.depth]
@[simp] theorem tm_b (n i) : PV.tm n (.bl i) = true := by simp [PV.tm, PV.data, PyData.canLay0, PyData.depth]
@[simp] theorem tm_n (n) : PV.tm n .non = true := by simp [PV.tm, PV.data, PyData.canLay0, PyData.depth]
@[simp] theorem tm_s (n i) : PV.tm n (.str i) = okS i := by simp [PV.tm, PV.data, PyData.depth]
@[simp] theorem tm_t (n xs) : PV.tm (n + 1) (.tup xs) = PV.tms n xs := by
  unfold PV.tm PV.tms
  simp only [PV.data]
  cases PV.datas xs with
  | none => rfl
  | some d => simp [PyData.canLay0, PyData.depth]
@[simp] theorem tm_l (n xs) : PV.tm (n + 1) (.lst xs) = PV.tms n xs := by
  unfold PV.tm PV.tms
  simp only [PV.data]
  cases PV.datas xs with
  | none => rfl
  | some d => simp [PyData.canLay0, PyData.depth]
@[simp] theorem tms_0 (n) : PV.tms n [] = true := by simp [PV.tms, PV.datas, PyData.canLayAll0, PyData.depthAll]
@[simp] theorem tms_S (n x xs) : PV.tms n (x :: xs) = (PV.tm n x && PV.tms n xs) := by
  unfold PV.tm PV.tms
  simp only [PV.datas]
  cases PV.data x with
  | none => simp
  | some d =>
    cases PV.datas xs with
    | none => simp
    | some ds =>
      simp only [Option.bind_some, Option.map_some, PyData.canLayAll0, PyData.depthAll]
      rw [Bool.eq_iff_iff]
      simp only [Bool.and_eq_true, decide_eq_true_eq, Nat.max_le]
      constructor
      · rintro ⟨⟨a, b⟩, c, d⟩; exact ⟨⟨a, c⟩, b, d⟩
      · rintro ⟨⟨a, b⟩, c, d⟩; exact ⟨⟨a, c⟩, b, d⟩
theorem tms_iff {n : Nat} : ∀ {xs : List PV}, PV.tms n xs = true ↔ ∀ x ∈ xs, PV.tm n x = true
  | [] => by simp
  | x :: xs => by simp [tms_iff]
@[simp] theorem eqv_ii (i j) : PV.eqv (.int i) (.int j) = decide (i = j) := by
  show (i == j) = decide (i = j)
  rfl
@[simp] theorem eqv_ss (i j) : PV.eqv (.str i) (.str j) = decide (i = j) := by
  show PyData.eqv (.str i) (.str j) = _
  simp only [PyData.eqv]
  rfl
@[simp] theorem eqv_bb (i j) : PV.eqv (.bl i) (.bl j) = decide (i = j) := by cases i <;> cases j <;> rfl
@[simp] theorem eqv_nn : PV.eqv .non .non = true := rfl
@[simp] theorem eqv_ni (i) : PV.eqv .non (.int i) = false := rfl
@[simp] theorem eqv_in (i) : PV.eqv (.int i) .non = false := rfl
@[simp] theorem eqv_nt (xs) : PV.eqv .non (.tup xs) = false := by
  unfold PV.eqv; simp only [PV.data]; cases PV.datas xs <;> simp [PyData.eqv]
@[simp] theorem eqv_tn (xs) : PV.eqv (.tup xs) .non = false := by
  unfold PV.eqv; simp only [PV.data]; cases PV.datas xs <;> simp [PyData.eqv]
@[simp] theorem eqv_nl (xs) : PV.eqv .non (.lst xs) = false := by
  unfold PV.eqv; simp only [PV.data]; cases PV.datas xs <;> simp [PyData.eqv]
@[simp] theorem eqv_ln (xs) : PV.eqv (.lst xs) .non = false := by
  unfold PV.eqv; simp only [PV.data]; cases PV.datas xs <;> simp [PyData.eqv]
@[simp] theorem eqv_ns (xs) : PV.eqv .non (.str xs) = false := rfl
@[simp] theorem eqv_sn (xs) : PV.eqv (.str xs) .non = false := rfl
@[simp] theorem eqv_tt (xs ys) : PV.eqv (.tup xs) (.tup ys) = PV.eqvs xs ys := by
  unfold PV.eqv PV.eqvs; simp only [PV.data]; cases PV.datas xs <;> cases PV.datas ys <;> simp [PyData.eqv]
@[simp] theorem eqv_ll (xs ys) : PV.eqv (.lst xs) (.lst ys) = PV.eqvs xs ys := by
  unfold PV.eqv PV.eqvs; simp only [PV.data]; cases PV.datas xs <;> cases PV.datas ys <;> simp [PyData.eqv]
@[simp] theorem eqvs_00 : PV.eqvs [] [] = true := by simp [PV.eqvs, PV.datas, PyData.eqvAll]
@[simp] theorem eqvs_0S (x xs) : PV.eqvs [] (x :: xs) = false := by
  unfold PV.eqvs; simp only [PV.datas]; cases PV.data x <;> cases PV.datas xs <;> simp [PyData.eqvAll]
@[simp] theorem eqvs_S0 (x xs) : PV.eqvs (x :: xs) [] = false := by
  unfold PV.eqvs; simp only [PV.datas]; cases PV.data x <;> cases PV.datas xs <;> simp [PyData.eqvAll]
theorem eqvs_SS {x xs y ys} {n : Nat} (hx : PV.tms n (x :: xs) = true) (hy : PV.tms n (y :: ys) = true) : PV.eqvs (x :: xs) (y :: ys) = (PV.eqv x y && PV.eqvs xs ys) := by
  unfold PV.tms at hx hy
  unfold PV.eqvs PV.eqv
  simp only [PV.datas] at *
  cases e1 : PV.data x <;> cases e2 : PV.datas xs <;> cases e3 : PV.data y <;> cases e4 : PV.datas ys <;> simp_all [PyData.eqvAll]
theorem eqB_tm {x y : PV} (hx : PV.tm 64 x = true) (hy : PV.tm 64 y = true) : eqB x y = some (PV.eqv x y) := by
  have gen : (match x.data, y.data with
    | some d, some e => if SeqAt.shaped d = true ∧ SeqAt.shaped e = true then some (PyData.eqv d e) else none
    | _, _ => none) = some (PV.eqv x y) := by
    unfold PV.tm at hx hy
    unfold PV.eqv
    cases e1 : x.data with
    | none => rw [e1] at hx; cases hx
    | some d =>
      cases e2 : y.data with
      | none => rw [e2] at hy; cases hy
      | some e =>
        rw [e1] at hx
        rw [e2] at hy
        exact if_pos ⟨hx, hy⟩
  cases x <;> cases y <;> first | exact gen | simp
theorem eqvs_len : ∀ {xs ys : List PV}, PV.eqvs xs ys = true → xs.length = ys.length
  | [], [], _ => rfl
  | [], _ :: _, h => by simp at h
  | _ :: _, [], h => by simp at h
  | x :: xs, y :: ys, h => by
    unfold PV.eqvs at h
    simp only [PV.datas] at h
    cases e1 : PV.data x <;> cases e2 : PV.datas xs <;> cases e3 : PV.data y <;> cases e4 : PV.datas ys <;> simp [e1, e2, e3, e4] at h
    rename_i a b c d
    simp only [PyData.eqvAll, Bool.and_eq_true] at h
    have := eqvs_len (xs := xs) (ys := ys) (by unfold PV.eqvs; rw [e2, e4]; exact h.2)
    simp [this]
/-- lists of values of one make -/
theorem eqvs_map {γ : Type} [DecidableEq γ] {f : γ → PV} {n : Nat} (hf : ∀ x, PV.tm n (f x) = true → True) (ht : ∀ a b, PV.eqv (f a) (f b) = decide (a = b)) : ∀ {xs ys : List γ}, (∀ x ∈ xs, PV.tm n (f x) = true) → (∀ x ∈ ys, PV.tm n (f x) = true) → PV.eqvs (xs.map f) (ys.map f) = decide (xs = ys)
  | [], [], _, _ => by simp
  | [], y :: ys, _, _ => by simp
  | x :: xs, [], _, _ => by simp
  | x :: xs, y :: ys, h1, h2 => by
    have t1 : PV.tms n ((x :: xs).map f) = true := tms_iff.mpr fun z hz => by
      obtain ⟨a, ha, rfl⟩ := List.mem_map.mp hz
      exact h1 a ha
    have t2 : PV.tms n ((y :: ys).map f) = true := tms_iff.mpr fun z hz => by
      obtain ⟨a, ha, rfl⟩ := List.mem_map.mp hz
      exact h2 a ha
    rw [List.map_cons, List.map_cons, eqvs_SS t1 t2, ht, eqvs_map hf ht (fun a ha => h1 a (List.mem_cons_of_mem _ ha)) (fun a ha => h2 a (List.mem_cons_of_mem _ ha))]
    rw [Bool.eq_iff_iff]
    simp
end VL
namespace PF
open PySem PySem.Spec PyProof.Rows L2 VL
def c_LONGEST : PV := .int 12
def c_LONGEST_NUMBER : PV := .int 7
def c_MOST_NUMBER : PV := .int 1000000
def c_POINT : PV := .str "."
def c_QUOTE : PV := .str "\""
def c_SIGNS_v1 : PV := .str "{}();,:-"
def sp_BadText : Fsp := [("label", .c "BadText"), ("line", .a 0), ("column", .a 1), ("reason", .a 2)]
/-- is_letter (363): 0 character -/
noncomputable def b_is_letter (F : Nat → List PV → R PV) : VL.Env → Out := sRet [] (eChain leP leP (eC (.str "a")) (eVar 0) (eC (.str "z")))
/-- is_any_letter (347): 0 character -/
noncomputable def b_is_any_letter (F : Nat → List PV → R PV) : VL.Env → Out := sRet [] (eOr (eArgs (gN 1 (F 363)) [eVar 0]) (eChain leP leP (eC (.str "A")) (eVar 0) (eC (.str "Z"))))
/-- is_digit (357): 0 character -/
noncomputable def b_is_digit (F : Nat → List PV → R PV) : VL.Env → Out := sRet [] (eChain leP leP (eC (.str "0")) (eVar 0) (eC (.str "9")))
noncomputable def b_is_name_0 (F : Nat → List PV → R PV) : VL.Env → Out := sIf [] (cAnd (cNot (eTru (eArgs (gN 1 (F 363)) [eVar 1]))) (cNot (eTru (eArgs (gN 1 (F 357)) [eVar 1])))) (sRet [] (eC (.bl false))) (sPass)
/-- is_name (366): 0 text, 1 character -/
noncomputable def b_is_name (F : Nat → List PV → R PV) : VL.Env → Out := sSeq (sIf [] (cOr (eTst (e2 ltP (eCB lenP [eVar 0]) (eC (.int 1)))) (cOr (eTst (e2 gtP (eCB lenP [eVar 0]) (eC c_LONGEST))) (cNot (eTru (eArgs (gN 1 (F 363)) [e2 ixP (eVar 0) (eC (.int 0))]))))) (sRet [] (eC (.bl false))) (sPass)) (sSeq (sFor false (tN 1) [] (iSeq (eVar 0)) (b_is_name_0 F)) (sRet [] (eC (.bl true))))
noncomputable def b_run_of_digits_0 (F : Nat → List PV → R PV) : Ev → R Bool := cAnd (eTst (e2 ltP (eVar 2) (eCB lenP [eVar 0]))) (eTru (eArgs (gN 1 (F 357)) [e2 ixP (eVar 0) (eVar 2)]))
noncomputable def b_run_of_digits_1 (F : Nat → List PV → R PV) : VL.Env → Out := sAug 2 addIP [] (eC (.int 1))
/-- run_of_digits (529): 0 line, 1 start, 2 end -/
noncomputable def b_run_of_digits (F : Nat → List PV → R PV) : VL.Env → Out := sSeq (sSet 2 [] (eVar 1)) (sSeq (sWhile [] (b_run_of_digits_0 F) (b_run_of_digits_1 F)) (sRet [] (eVar 2)))
noncomputable def b_run_of_letters_0 (F : Nat → List PV → R PV) : Ev → R Bool := cAnd (eTst (e2 ltP (eVar 2) (eCB lenP [eVar 0]))) (cOr (eTru (eArgs (gN 1 (F 363)) [e2 ixP (eVar 0) (eVar 2)])) (eTru (eArgs (gN 1 (F 357)) [e2 ixP (eVar 0) (eVar 2)])))
noncomputable def b_run_of_letters_1 (F : Nat → List PV → R PV) : VL.Env → Out := sAug 2 addIP [] (eC (.int 1))
/-- run_of_letters (530): 0 line, 1 start, 2 end -/
noncomputable def b_run_of_letters (F : Nat → List PV → R PV) : VL.Env → Out := sSeq (sSet 2 [] (eVar 1)) (sSeq (sWhile [] (b_run_of_letters_0 F) (b_run_of_letters_1 F)) (sRet [] (eVar 2)))
/-- number_of_digits (478): 0 digits, 1 value -/
noncomputable def b_number_of_digits (F : Nat → List PV → R PV) : VL.Env → Out := sSeq (sIf [] (cOr (eTst (e2 gtP (eCB lenP [eVar 0]) (eC c_LONGEST_NUMBER))) (cAnd (eTst (e2 gtP (eCB lenP [eVar 0]) (eC (.int 1)))) (eTst (e2 eqP (e2 ixP (eVar 0) (eC (.int 0))) (eC (.str "0")))))) (sRet [] (eC .non)) (sPass)) (sSeq (sSet 1 [] (eCB intTP [eVar 0])) (sRet [] (eIf (eTst (e2 leP (eVar 1) (eC c_MOST_NUMBER))) (eVar 1) (eC .non))))
/-- is_letter_at (364): 0 line, 1 at -/
noncomputable def b_is_letter_at (F : Nat → List PV → R PV) : VL.Env → Out := sRet [] (eAnd (e2 ltP (eVar 1) (eCB lenP [eVar 0])) (eArgs (gN 1 (F 347)) [e2 ixP (eVar 0) (eVar 1)]))
/-- number_at (477): 0 line, 1 at, 2 end, 3 value, 4 behind -/
noncomputable def b_number_at (F : Nat → List PV → R PV) : VL.Env → Out := sSeq (sSet 2 [] (eArgs (gN 2 (F 529)) [eVar 0, eVar 1])) (sSeq (sSet 3 [] (eArgs (gN 1 (F 478)) [eSl (eVar 0) (pAt (eVar 1)) (pAt (eVar 2))])) (sSeq (sIf [] (cOr (eTst (e2 isP (eVar 3) (eC .non))) (eTru (eArgs (gN 2 (F 364)) [eVar 0, eVar 2]))) (sRet [] (eC .non)) (sPass)) (sSeq (sIf [] (cOr (eTst (e2 neP (eSl (eVar 0) (pAt (eVar 2)) (pAt (e2 addP (eVar 2) (eC (.int 1))))) (eC c_POINT))) (eTst (e2 eqP (eArgs (gN 2 (F 529)) [eVar 0, e2 addP (eVar 2) (eC (.int 1))]) (e2 addP (eVar 2) (eC (.int 1)))))) (sRet [] (eArgs gTupV [eC (.str "number"), eVar 3, eVar 2])) (sPass)) (sSeq (sSet 4 [] (eArgs (gN 2 (F 529)) [eVar 0, e2 addP (eVar 2) (eC (.int 1))])) (sSeq (sIf [] (cOr (eTst (e2 neP (eVar 4) (e2 addP (eVar 2) (eC (.int 2))))) (eTru (eArgs (gN 2 (F 364)) [eVar 0, eVar 4]))) (sRet [] (eC .non)) (sPass)) (sRet [] (eArgs gTupV [eC (.str "seconds"), e2 addP (e2 mulP (eVar 3) (eC (.int 10))) (eCB intTP [e2 ixP (eVar 0) (e2 addP (eVar 2) (eC (.int 1)))]), eVar 4])))))))
noncomputable def b_quoted_at_0 (F : Nat → List PV → R PV) : Ev → R Bool := cAnd (eTst (e2 ltP (eVar 2) (eCB lenP [eVar 0]))) (eTst (e2 neP (e2 ixP (eVar 0) (eVar 2)) (eC c_QUOTE)))
noncomputable def b_quoted_at_1 (F : Nat → List PV → R PV) : VL.Env → Out := sAug 2 addIP [] (eC (.int 1))
/-- quoted_at (507): 0 line, 1 at, 2 end -/
noncomputable def b_quoted_at (F : Nat → List PV → R PV) : VL.Env → Out := sSeq (sSet 2 [] (e2 addP (eVar 1) (eC (.int 1)))) (sSeq (sWhile [] (b_quoted_at_0 F) (b_quoted_at_1 F)) (sRet [] (eIf (eTst (e2 ltP (eVar 2) (eCB lenP [eVar 0]))) (eArgs gTupV [eC (.str "quoted"), eSl (eVar 0) (pAt (e2 addP (eVar 1) (eC (.int 1)))) (pAt (eVar 2)), e2 addP (eVar 2) (eC (.int 1))]) (eC .non))))
/-- token_at (627): 0 line, 1 at, 2 character, 3 end -/
noncomputable def b_token_at (F : Nat → List PV → R PV) : VL.Env → Out := sSeq (sSet 2 [] (e2 ixP (eVar 0) (eVar 1))) (sSeq (sIf [] (eTru (eArgs (gN 1 (F 357)) [eVar 2])) (sRet [] (eArgs (gN 2 (F 477)) [eVar 0, eVar 1])) (sPass)) (sSeq (sIf [] (eTru (eArgs (gN 1 (F 363)) [eVar 2])) (sSeq (sSet 3 [] (eArgs (gN 2 (F 530)) [eVar 0, eVar 1])) (sRet [] (eArgs gTupV [eC (.str "word"), eSl (eVar 0) (pAt (eVar 1)) (pAt (eVar 3)), eVar 3]))) (sPass)) (sSeq (sIf [] (eTst (e2 eqP (eVar 2) (eC c_QUOTE))) (sRet [] (eArgs (gN 2 (F 507)) [eVar 0, eVar 1])) (sPass)) (sSeq (sIf [] (eTst (e2 inP (eVar 2) (eC c_SIGNS_v1))) (sRet [] (eArgs gTupV [eC (.str "sign"), eVar 2, e2 addP (eVar 1) (eC (.int 1))])) (sPass)) (sRet [] (eC .non))))))
noncomputable def b_scan_line_0 (F : Nat → List PV → R PV) : Ev → R Bool := eTst (e2 ltP (eVar 3) (eCB lenP [eVar 0]))
noncomputable def b_scan_line_1 (F : Nat → List PV → R PV) : VL.Env → Out := sSeq (sIf [] (eTst (e2 eqP (e2 ixP (eVar 0) (eVar 3)) (eC (.str "#")))) (sRetM 2 (yE PV.nol [] (eC (.int 0)))) (sPass)) (sIf [] (eTst (e2 eqP (e2 ixP (eVar 0) (eVar 3)) (eC (.str " ")))) (sAug 3 addIP [] (eC (.int 1))) (sSeq (sSet 4 [] (eArgs (gN 2 (F 627)) [eVar 0, eVar 3])) (sSeq (sIf [] (eTst (e2 isP (eVar 4) (eC .non))) (sRetM 2 (yE PV.nol [] (e2 addP (eVar 3) (eC (.int 1))))) (sPass)) (sSeq (sMetY 2 mApp [yE PV.nol [] (eArgs gTupV [e2 ixP (eVar 4) (eC (.int 0)), e2 ixP (eVar 4) (eC (.int 1)), eVar 1, e2 addP (eVar 3) (eC (.int 1))])]) (sSet 3 [] (e2 ixP (eVar 4) (eC (.int 2))))))))
/-- scan_line (544): 0 line, 1 number, 2 found, 3 at, 4 token -/
noncomputable def b_scan_line (F : Nat → List PV → R PV) : VL.Env → Out := sSeq (sSet 3 [] (eC (.int 0))) (sSeq (sWhile [] (b_scan_line_0 F) (b_scan_line_1 F)) (sRetM 2 (yE PV.nol [] (eC (.int 0)))))
noncomputable def b_scan_0 (F : Nat → List PV → R PV) : VL.Env → Out := sSeq (sAug 3 addIP [] (eC (.int 1))) (sSeq (sSetY 5 (yCallM [false, false, true] (F 544) 2 [some (yE PV.nol [] (eVar 4)), some (yE PV.nol [] (eVar 3)), none])) (sIf [] (eTst (e2 gtP (eVar 5) (eC (.int 0)))) (sSeq (sMet 2 mApp [] [eArgs gTupV [eC (.str "fault"), eC (.str ""), eVar 3, eVar 5]]) (sRet [false, false, true] (eVar 2))) (sPass)))
/-- scan (543): 0 text, 1 lines, 2 found, 3 number, 4 line, 5 column -/
noncomputable def b_scan (F : Nat → List PV → R PV) : VL.Env → Out := sSeq (sSet 1 [] (asLst (eSplit (eVar 0) (eC (.str "\n"))))) (sSeq (sOwn 2 [] (eLst1 [])) (sSeq (sSet 3 [] (eC (.int 0))) (sSeq (sFor false (tN 4) [] (iSeq (eVar 1)) (b_scan_0 F)) (sSeq (sMet 2 mApp [] [eArgs gTupV [eC (.str "end"), eC (.str ""), eVar 3, e2 addP (eCB lenP [e2 ixP (eVar 1) (e1 negP (eC (.int 1)))]) (eC (.int 1))]]) (sRet [false, false, true] (eVar 2))))))
/-- tokens_of (628): 0 text, 1 found, 2 last -/
noncomputable def b_tokens_of (F : Nat → List PV → R PV) : VL.Env → Out := sSeq (sSet 1 [] (eArgs (gN 1 (F 543)) [eVar 0])) (sSeq (sSet 2 [] (e2 ixP (eVar 1) (e1 negP (eC (.int 1))))) (sSeq (sIf [] (eTst (e2 eqP (e2 ixP (eVar 2) (eC (.int 0))) (eC (.str "fault")))) (sRaise 6 (mkFs 3 sp_BadText) [] [e2 ixP (eVar 2) (eC (.int 2)), e2 ixP (eVar 2) (eC (.int 3)), eC (.str "token")]) (sPass)) (sRet [] (eVar 1))))
/-- _law_cell (13): 0 script, 1 k -/
noncomputable def b__law_cell (F : Nat → List PV → R PV) : VL.Env → Out := sSeq (sIf [] (eTst (e2 ltP (eVar 1) (eCB lenP [eVar 0]))) (sRet [] (e2 ixP (eVar 0) (eVar 1))) (sPass)) (sRet [] (eC (.int 0)))
noncomputable def b__law_draw_0 (F : Nat → List PV → R PV) : VL.Env → Out := sIf [] (cAnd (eTru (eVar 4)) (eTst (e2 geP (eVar 3) (e2 ixP (eVar 1) (eVar 5))))) (sSeq (sMet 2 mApp [] [e2 modP (eCB intP [eVar 3]) (e2 ixP (eVar 1) (eVar 5))]) (sSet 3 [] (e2 divP (eVar 3) (e2 ixP (eVar 1) (eVar 5))))) (sSeq (sSet 6 [] (e2 modP (eCB intP [e2 addP (e2 mulP (eCB absP [eVar 0]) (eC (.int 48271))) (e2 mulP (e2 addP (eVar 5) (eC (.int 1))) (eC (.int 69621)))]) (eC (.int 2147483647)))) (sSeq (sSet 6 [] (e2 modP (eCB intP [e2 addP (e2 mulP (eVar 6) (eC (.int 16807))) (e2 mulP (e2 addP (eVar 5) (eC (.int 1))) (eC (.int 40692)))]) (eC (.int 2147483399)))) (sMet 2 mApp [] [e2 modP (eCB intP [eVar 6]) (e2 ixP (eVar 1) (eVar 5))])))
/-- _law_draw (22): 0 cell, 1 limits, 2 row, 3 rest, 4 great, 5 k, 6 mixed -/
noncomputable def b__law_draw (F : Nat → List PV → R PV) : VL.Env → Out := sSeq (sOwn 2 [] (eLst1 [])) (sSeq (sSet 3 [] (eCB absP [eVar 0])) (sSeq (sSet 4 [] (e2 geP (eVar 3) (eC (.int 1000000000000000000)))) (sSeq (sFor true (tN 5) [] (iR1 (eCB lenP [eVar 1])) (b__law_draw_0 F)) (sRet [false, false, true] (eVar 2)))))
noncomputable def b__law_name_0 (F : Nat → List PV → R PV) : Ex := eC (.int 36)
noncomputable def b__law_name_1 (F : Nat → List PV → R PV) : Ex := e2 ixP (eVar 2) (eVar 4)
/-- _law_name (66): 0 cell, 1 size, 2 text, 3 marks, 4 mark, 5 k -/
noncomputable def b__law_name (F : Nat → List PV → R PV) : VL.Env → Out := sSeq (sSet 2 [] (eC (.str "abcdefghijklmnopqrstuvwxyz0123456789"))) (sSeq (sSet 3 [] (eArgs (gN 2 (F 22)) [eVar 0, e2 addP (eArgs gLstV [eC (.int 26)]) (asLst (eLc [5] (tN 5) (iR1 (e2 subP (eVar 1) (eC (.int 1)))) (cYes) (b__law_name_0 F)))])) (sRet [] (eJoin (eC (.str "")) (asLst (eLc [4] (tN 4) (iSeq (eVar 3)) (cYes) (b__law_name_1 F))))))
/-- _law_token (130): 0 cell, 1 d, 2 small, 3 number -/
noncomputable def b__law_token (F : Nat → List PV → R PV) : VL.Env → Out := sSeq (sSet 1 [] (eArgs (gN 2 (F 22)) [eVar 0, eArgs gLstV [eC (.int 5), eC (.int 1000001), eC (.int 26), eC (.int 36), eC (.int 36), eC (.int 8), eC (.int 5)]])) (sSeq (sSet 2 [] (eC (.str "abcdefghijklmnopqrstuvwxyz0123456789"))) (sSeq (sSet 3 [] (e2 ixP (eArgs gLstV [e2 ixP (eVar 1) (eC (.int 1)), eC (.int 1000000), e2 modP (eCB intP [e2 ixP (eVar 1) (eC (.int 1))]) (eC (.int 10)), eC (.int 0), e2 modP (eCB intP [e2 ixP (eVar 1) (eC (.int 1))]) (eC (.int 1000))]) (e2 ixP (eVar 1) (eC (.int 6))))) (sSeq (sIf [] (eTst (e2 eqP (e2 ixP (eVar 1) (eC (.int 0))) (eC (.int 0)))) (sRet [] (eArgs gTupV [eC (.str "word"), eSl (e2 addP (e2 addP (e2 ixP (eVar 2) (e2 ixP (eVar 1) (eC (.int 2)))) (e2 ixP (eVar 2) (e2 ixP (eVar 1) (eC (.int 3))))) (e2 ixP (eVar 2) (e2 ixP (eVar 1) (eC (.int 4))))) (pNo) (pAt (e2 addP (eC (.int 1)) (e2 modP (eCB intP [e2 ixP (eVar 1) (eC (.int 6))]) (eC (.int 3)))))])) (sPass)) (sSeq (sIf [] (eTst (e2 eqP (e2 ixP (eVar 1) (eC (.int 0))) (eC (.int 1)))) (sRet [] (eArgs gTupV [eC (.str "number"), eVar 3])) (sPass)) (sSeq (sIf [] (eTst (e2 eqP (e2 ixP (eVar 1) (eC (.int 0))) (eC (.int 2)))) (sRet [] (eArgs gTupV [eC (.str "seconds"), e2 addP (e2 mulP (eC (.int 10)) (eVar 3)) (e2 modP (eCB intP [e2 ixP (eVar 1) (eC (.int 3))]) (eC (.int 10)))])) (sPass)) (sSeq (sIf [] (eTst (e2 eqP (e2 ixP (eVar 1) (eC (.int 0))) (eC (.int 3)))) (sRet [] (eArgs gTupV [eC (.str "quoted"), e2 ixP (eArgs gLstV [eC (.str ""), eC (.str "Fl(2) W 10s"), eC (.str "a ; b"), eC (.str "# { 5"), eC (.str "Mo(A) W 8s")]) (e2 ixP (eVar 1) (eC (.int 6)))])) (sPass)) (sRet [] (eArgs gTupV [eC (.str "sign"), e2 ixP (eC (.str "{}();,:-")) (e2 ixP (eVar 1) (eC (.int 5)))]))))))))
/-- _law_spelled (117): 0 token -/
noncomputable def b__law_spelled (F : Nat → List PV → R PV) : VL.Env → Out := sSeq (sIf [] (eTst (e2 eqP (e2 ixP (eVar 0) (eC (.int 0))) (eC (.str "seconds")))) (sRet [] (e2 addP (e2 addP (eCB strTP [e2 divP (e2 ixP (eVar 0) (eC (.int 1))) (eC (.int 10))]) (eC (.str "."))) (eCB strTP [e2 modP (eCB intP [e2 ixP (eVar 0) (eC (.int 1))]) (eC (.int 10))]))) (sPass)) (sSeq (sIf [] (eTst (e2 eqP (e2 ixP (eVar 0) (eC (.int 0))) (eC (.str "quoted")))) (sRet [] (e2 addP (e2 addP (eC (.str "\"")) (e2 ixP (eVar 0) (eC (.int 1)))) (eC (.str "\"")))) (sPass)) (sRet [] (eCB strTP [e2 ixP (eVar 0) (eC (.int 1))])))
noncomputable def b__law_after_0 (F : Nat → List PV → R PV) : VL.Env → Out := sIf [] (eTst (e2 eqP (e2 ixP (eVar 2) (eVar 3)) (eC (.str "\n")))) (sSeq (sSet 0 [] (e2 addP (eVar 0) (eC (.int 1)))) (sSet 1 [] (eC (.int 1)))) (sSet 1 [] (e2 addP (eVar 1) (eC (.int 1))))
/-- _law_after (0): 0 line, 1 column, 2 text, 3 k -/
noncomputable def b__law_after (F : Nat → List PV → R PV) : VL.Env → Out := sSeq (sFor true (tN 3) [] (iR1 (eCB lenP [eVar 2])) (b__law_after_0 F)) (sRet [] (eArgs gTupV [eVar 0, eVar 1]))
/-- _law_gap (40): 0 cell -/
noncomputable def b__law_gap (F : Nat → List PV → R PV) : VL.Env → Out := sRet [] (e2 ixP (eArgs gLstV [eC (.str " "), eC (.str "  "), eC (.str "\n"), eC (.str " # a 5 ; @ !\n"), eC (.str "\n\n   "), eC (.str "   ")]) (e2 modP (eCB intP [eVar 0]) (eC (.int 6))))
noncomputable def b__law_good_0 (F : Nat → List PV → R PV) : VL.Env → Out := sIf [] (cAnd (eTst (e2 ninP (eVar 2) (eVar 1))) (eTst (e2 ninP (eVar 2) (eC (.str "0123456789"))))) (sRet [] (eC (.bl false))) (sPass)
/-- _law_good (43): 0 text, 1 small, 2 sign -/
noncomputable def b__law_good (F : Nat → List PV → R PV) : VL.Env → Out := sSeq (sSet 1 [] (eC (.str "abcdefghijklmnopqrstuvwxyz"))) (sSeq (sIf [] (cOr (eTst (e2 ltP (eCB lenP [eVar 0]) (eC (.int 1)))) (cOr (eTst (e2 gtP (eCB lenP [eVar 0]) (eC (.int 12)))) (eTst (e2 ninP (e2 ixP (eVar 0) (eC (.int 0))) (eVar 1))))) (sRet [] (eC (.bl false))) (sPass)) (sSeq (sFor false (tN 2) [] (iSeq (eVar 0)) (b__law_good_0 F)) (sRet [] (eC (.bl true)))))
noncomputable def b_law_v29_0 (F : Nat → List PV → R PV) : VL.Env → Out := sSeq (sSet 4 [] (eArgs (gN 1 (F 366)) [eVar 3])) (sIf [] (cOr (cNot (eTru (eCB isaP [eVar 4, eC (.ty "bool")]))) (eTst (e2 neP (eVar 4) (eArgs (gN 1 (F 43)) [eVar 3])))) (sRet [] (eC (.bl false))) (sPass))
noncomputable def b_law_v29_1 (F : Nat → List PV → R PV) : VL.Env → Out := sSeq (sSet 15 [] (eArgs (gN 1 (F 130)) [eArgs (gN 2 (F 13)) [eVar 0, e2 addP (eC (.int 3)) (eVar 14)]])) (sSeq (sSet 16 [] (eArgs (gN 1 (F 117)) [eVar 15])) (sSeq (sSet 17 [] (eArgs (gN 1 (F 40)) [e2 addP (e2 divP (eArgs (gN 2 (F 13)) [eVar 0, e2 addP (eC (.int 3)) (eVar 14)]) (eC (.int 3))) (eVar 14)])) (sSeq (sSet 8 [] (e2 addP (e2 addP (eVar 8) (eVar 16)) (eVar 17))) (sSeq (sIf [] (cOr (eTst (e2 eqP (eVar 14) (eVar 12))) (eTst (e2 eqP (eVar 14) (eVar 13)))) (sSeq (sSet 18 [] (e2 ixP (eVar 5) (e2 modP (eCB intP [e2 addP (eArgs (gN 2 (F 13)) [eVar 0, eC (.int 2)]) (eVar 14)]) (eCB lenP [eVar 5])))) (sSeq (sIf [] (eTst (e2 isP (eVar 10) (eC .non))) (sSet 10 [false, false, false, false, false, false, true] (eArgs gTupV [e2 ixP (eVar 9) (eC (.int 0)), e2 addP (e2 ixP (eVar 9) (eC (.int 1))) (eGet (eVar 6) (eVar 18) (eC (.int 0)))])) (sPass)) (sSet 16 [] (e2 addP (e2 addP (eVar 18) (eC (.str " "))) (eVar 16))))) (sPass)) (sSeq (sSet 7 [] (e2 addP (e2 addP (eVar 7) (eVar 16)) (eVar 17))) (sSet 9 [] (eArgs (gN 3 (F 0)) [e2 ixP (eVar 9) (eC (.int 0)), e2 ixP (eVar 9) (eC (.int 1)), e2 addP (eVar 16) (eVar 17)])))))))
noncomputable def b_law_v29_t16 (F : Nat → List PV → R PV) : VL.Env → Out := sRet [] (e2 eqP (eArgs (gN 1 (F 133)) [eVar 7]) (eArgs gTupV [eC (.str "text"), e2 ixP (eVar 10) (eC (.int 0)), e2 ixP (eVar 10) (eC (.int 1)), eC (.str "token")]))
noncomputable def b_law_v29_t15 (F : Nat → List PV → R PV) : VL.Env → Out := sSeq (sIf [] (eTst (e2 neP (eArgs (gN 1 (F 133)) [eVar 8]) (eArgs gTupV [eC (.str "value"), e2 addP (eVar 11) (eC (.int 1)), eC (.int 0), eC (.str "")]))) (sRet [] (eC (.bl false))) (sPass)) (b_law_v29_t16 F)
noncomputable def b_law_v29_t14 (F : Nat → List PV → R PV) : VL.Env → Out := sSeq (sFor true (tN 14) [] (iR1 (eVar 11)) (b_law_v29_1 F)) (b_law_v29_t15 F)
noncomputable def b_law_v29_t13 (F : Nat → List PV → R PV) : VL.Env → Out := sSeq (sSet 13 [] (e2 modP (eCB intP [eArgs (gN 2 (F 13)) [eVar 0, eC (.int 1)]]) (e2 mulP (eC (.int 2)) (eVar 11)))) (b_law_v29_t14 F)
noncomputable def b_law_v29_t12 (F : Nat → List PV → R PV) : VL.Env → Out := sSeq (sSet 12 [] (e2 modP (eCB intP [eArgs (gN 2 (F 13)) [eVar 0, eC (.int 0)]]) (eVar 11))) (b_law_v29_t13 F)
noncomputable def b_law_v29_t11 (F : Nat → List PV → R PV) : VL.Env → Out := sSeq (sSet 11 [] (eCB minP [eC (.int 15), eCB maxP [eC (.int 1), e2 subP (eCB lenP [eVar 0]) (eC (.int 3))]])) (b_law_v29_t12 F)
noncomputable def b_law_v29_t10 (F : Nat → List PV → R PV) : VL.Env → Out := sSeq (sSet 10 [] (eC .non)) (b_law_v29_t11 F)
noncomputable def b_law_v29_t9 (F : Nat → List PV → R PV) : VL.Env → Out := sSeq (sSet 9 [] (eArgs gTupV [eC (.int 1), eC (.int 1)])) (b_law_v29_t10 F)
noncomputable def b_law_v29_t8 (F : Nat → List PV → R PV) : VL.Env → Out := sSeq (sSet 8 [] (eC (.str ""))) (b_law_v29_t9 F)
noncomputable def b_law_v29_t7 (F : Nat → List PV → R PV) : VL.Env → Out := sSeq (sSet 7 [] (eC (.str ""))) (b_law_v29_t8 F)
noncomputable def b_law_v29_t6 (F : Nat → List PV → R PV) : VL.Env → Out := sSeq (sOm 6 [] (eDisp [(eC (.str "5."), eC (.int 1)), (eC (.str "a_"), eC (.int 1))])) (b_law_v29_t7 F)
noncomputable def b_law_v29_t5 (F : Nat → List PV → R PV) : VL.Env → Out := sSeq (sSet 5 [] (e2 addP (eVar 5) (eArgs gLstV [eC (.str "_"), eC (.str "&"), eC (.str "|"), eC (.str "~"), eC (.str "$"), eC (.str "\\\\"), eC (.str "Z9"), eC (.str "["), eC (.str "]"), eC (.str "^"), eC (.str "a_"), eC (.str "`")]))) (b_law_v29_t6 F)
noncomputable def b_law_v29_t4 (F : Nat → List PV → R PV) : VL.Env → Out := sSeq (sSet 5 [] (eArgs gLstV [eC (.str "01"), eC (.str "00"), eC (.str "007"), eC (.str "1000001"), eC (.str "99999999999"), eC (.str "5a"), eC (.str "0x"), eC (.str "A"), eC (.str "@"), eC (.str "!"), eC (.str "'"), eC (.str "*"), eC (.str "5."), eC (.str ".5"), eC (.str "?"), eC (.str "+"), eC (.str "/"), eC (.str "="), eC (.str "<"), eC (.str ">")])) (b_law_v29_t5 F)
noncomputable def b_law_v29_t3 (F : Nat → List PV → R PV) : VL.Env → Out := sSeq (sFor false (tN 3) [] (iSeq (eArgs gLstV [eVar 2, eC (.str ""), eC (.str "light"), e2 mulTP (eC (.str "a")) (eC (.int 12)), e2 mulTP (eC (.str "a")) (eC (.int 13))])) (b_law_v29_0 F)) (b_law_v29_t4 F)
noncomputable def b_law_v29_t2 (F : Nat → List PV → R PV) : VL.Env → Out := sSeq (sIf [] (eTst (e2 eqP (e2 modP (eCB intP [eArgs (gN 2 (F 13)) [eVar 0, eC (.int 1)]]) (eC (.int 2))) (eC (.int 1)))) (sSet 2 [] (e2 addP (e2 addP (eSl (eVar 2) (pNo) (pAt (e2 divP (eVar 1) (eC (.int 2))))) (e2 ixP (eC (.str "AZ_- .0a9/+\n")) (e2 modP (e2 divP (eCB intP [eArgs (gN 2 (F 13)) [eVar 0, eC (.int 1)]]) (eC (.int 2))) (eC (.int 12))))) (eSl (eVar 2) (pAt (e2 addP (e2 divP (eVar 1) (eC (.int 2))) (eC (.int 1)))) (pNo)))) (sPass)) (b_law_v29_t3 F)
noncomputable def b_law_v29_t1 (F : Nat → List PV → R PV) : VL.Env → Out := sSeq (sSet 2 [] (eArgs (gN 2 (F 66)) [eArgs (gN 2 (F 13)) [eVar 0, eC (.int 2)], eVar 1])) (b_law_v29_t2 F)
/-- law (427): 0 script, 1 size, 2 name, 3 one, 4 told, 5 runs, 6 shift, 7 text, 8 plain, 9 place, 10 found, 11 count, 12 first, 13 second, 14 k, 15 token, 16 spelled, 17 gap, 18 wrong -/
noncomputable def b_law_v29 (F : Nat → List PV → R PV) : VL.Env → Out := sSeq (sSet 1 [] (e2 addP (eC (.int 1)) (e2 modP (e2 divP (eCB intP [eArgs (gN 2 (F 13)) [eVar 0, eC (.int 0)]]) (eC (.int 8))) (eC (.int 13))))) (b_law_v29_t1 F)
end PF
namespace PH
open PySem PySem.Spec PyProof.Rows L2 VL PF
/-! ### the laws' common words: _law_cell, _law_draw -/
theorem atI_map {α β : Type} (f : α → β) (xs : List α) (i : Int) : atI (xs.map f) i = (atI xs i).map f := by
  unfold atI
  rw [List.length_map]
  cases ixN xs.length i with
  | none => rfl
  | some j => simp
theorem atI_getD {α : Type} {xs : List α} {i : Nat} (d : α) (h : i < xs.length) : atI xs (i : Int) = some (xs.getD i d) := by
  rw [atI_nat' h]
  simp [h]
def cell (ns : List Int) (k : Nat) : Int := ns.getD k 0
def S_cell (g : List PV → R PV) : Prop := ∀ (ns : List Int) (k : Nat), g [.src (ns.map .int), .int (k : Int)] = .ok (.int (cell ns k))
theorem sp_cell (F : Nat → List PV → R PV) : S_cell fun us => outR (b__law_cell F (startE 2 us)) := by
  intro ns k
  unfold cell
  by_cases h : k < ns.length
  · have h' : (k : Int) < (ns.length : Int) := by omega
    simp -implicitDefEqProofs [b__law_cell, h', atI_map, atI_getD 0 h]
  · have h' : ¬ (k : Int) < (ns.length : Int) := by omega
    have e : ns[k]? = none := List.getElem?_eq_none (by omega)
    simp -implicitDefEqProofs [b__law_cell, h', e]
/-- a value of a list at a place -/
def nth (xs : List Int) (i : Nat) : Int := xs.getD i 0
theorem nth_at {xs : List Int} {i : Nat} (h : i < xs.length) : atI (xs.map PV.int) (i : Int) = some (.int (nth xs i)) := by
  rw [atI_map, atI_getD 0 h]
  rfl
def S_draw (g : List PV → R PV) : Prop := ∀ (c : Int) (ls : List Int), ls.length ≤ 1000 → (∀ i < ls.length, 0 < nth ls i ∧ nth ls i < 18446744073709551616) →
  ∃ row : List Int, g [.int c, .lst (ls.map .int)] = .ok (.lst (row.map .int)) ∧ row.length = ls.length ∧ ∀ i < ls.length, 0 ≤ nth row i ∧ nth row i < nth ls i
theorem nth_app {row : List Int} {x : Int} {i : Nat} : nth (row ++ [x]) i = if i < row.length then nth row i else if i = row.length then x else 0 := by
  unfold nth
  rw [List.getD_eq_getElem?_getD, List.getElem?_append]
  split
  · rw [List.getD_eq_getElem?_getD]
  · rename_i h
    split
    · rename_i e; subst e; simp
    · rename_i e
      rw [List.getElem?_eq_none (by simp; omega)]
      rfl
theorem draw_turn (F : Nat → List PV → R PV) {c rest : Int} {great : Bool} {ls row : List Int} {i : Nat} {s6 : Sl} (hi : i < ls.length) (hr : row.length = i) (h0 : 0 < nth ls i) (h1 : nth ls i < 18446744073709551616) (hsz : row.length < sizeLine) :
    ∃ (x rest' : Int) (s : Sl), 0 ≤ x ∧ x < nth ls i ∧ b__law_draw_0 F [.fz (.int c), .fz (.lst (ls.map .int)), .own (row.map .int), .fz (.int rest), .fz (.bl great), .fz (.int (i : Int)), s6] =
      .next [.fz (.int c), .fz (.lst (ls.map .int)), .own ((row ++ [x]).map .int), .fz (.int rest'), .fz (.bl great), .fz (.int (i : Int)), s] := by
  have hb := bigI_of h1
  have hsz' : (row.map PV.int).length < sizeLine := by simpa using hsz
  by_cases hg : great = true ∧ nth ls i ≤ rest
  · refine ⟨rest % nth ls i, rest / nth ls i, s6, Int.emod_nonneg _ (by omega), Int.emod_lt_of_pos _ h0, ?_⟩
    simp -implicitDefEqProofs [b__law_draw_0, nth_at hi, hg.1, hg.2, h0, hb, hsz]
  · have key : ∀ m : Int, 0 ≤ m % nth ls i ∧ m % nth ls i < nth ls i := fun m => ⟨Int.emod_nonneg _ (by omega), Int.emod_lt_of_pos _ h0⟩
    let M : Int := (((if c < 0 then -c else c) * 48271 + ((i : Int) + 1) * 69621) % 2147483647 * 16807 + ((i : Int) + 1) * 40692) % 2147483399
    refine ⟨M % nth ls i, rest, .fz (.int M), (key M).1, (key M).2, ?_⟩
    by_cases hg1 : great = true
    · have hg2 : ¬ nth ls i ≤ rest := fun z => hg ⟨hg1, z⟩
      simp -implicitDefEqProofs [b__law_draw_0, nth_at hi, hg1, hg2, h0, hsz, M]
    · have hg1' : great = false := by simpa using hg1
      simp -implicitDefEqProofs [b__law_draw_0, nth_at hi, hg1', h0, hsz, M]
theorem sp_draw (F : Nat → List PV → R PV) : S_draw fun us => outR (b__law_draw F (startE 7 us)) := by
  intro c ls hl hb
  have loop : ∃ row : List Int, (∃ r1 r2 r3 r4 r5 r6, forL (tN 5) (b__law_draw_0 F) (rangeP 0 ls.length) [.fz (.int c), .fz (.lst (ls.map .int)), .own [], .fz (.int (if c < 0 then -c else c)), .fz (.bl (decide ((1000000000000000000 : Int) ≤ if c < 0 then -c else c))), .no, .no] = .next [r1, r2, .own (row.map .int), r3, r4, r5, r6]) ∧ row.length = ls.length ∧ ∀ i < ls.length, 0 ≤ nth row i ∧ nth row i < nth ls i := by
    refine forL_by (Q := fun o => ∃ row : List Int, (∃ r1 r2 r3 r4 r5 r6, o = .next [r1, r2, .own (row.map .int), r3, r4, r5, r6]) ∧ row.length = ls.length ∧ ∀ i < ls.length, 0 ≤ nth row i ∧ nth row i < nth ls i)
      (fun i r => ∃ (row : List Int) (rest : Int) (g : Bool) (s5 s6 : Sl), r = [.fz (.int c), .fz (.lst (ls.map .int)), .own (row.map .int), .fz (.int rest), .fz (.bl g), s5, s6] ∧ row.length = i ∧ ∀ j < i, 0 ≤ nth row j ∧ nth row j < nth ls j)
      ⟨[], _, _, _, _, rfl, rfl, fun j hj => by omega⟩ (fun i v r hv hi => ?_) (fun r hr => ?_)
    · obtain ⟨hi1, rfl⟩ := rangeP_get hv
      obtain ⟨row, rest, g, s5, s6, rfl, hlen, hbd⟩ := hi
      obtain ⟨x, rest', s, hx0, hx1, e⟩ := draw_turn F (c := c) (rest := rest) (great := g) (s6 := s6) hi1 hlen (hb i hi1).1 (hb i hi1).2 (by rw [szl]; omega)
      refine ⟨_, rfl, .inl ⟨_, .inl ?_, row ++ [x], rest', g, .fz (.int (i : Int)), s, rfl, by simp [hlen], fun j hj => ?_⟩⟩
      · rw [← e]
        simp -implicitDefEqProofs
      · rw [nth_app]
        by_cases hj1 : j < row.length
        · rw [if_pos hj1]; exact hbd j (by omega)
        · rw [if_neg hj1, if_pos (by omega), show j = i by omega]
          exact ⟨hx0, hx1⟩
    · obtain ⟨row, rest, g, s5, s6, rfl, hlen, hbd⟩ := hr
      rw [rangeP_len] at hlen hbd
      exact ⟨row, ⟨_, _, _, _, _, _, rfl⟩, hlen, hbd⟩
  obtain ⟨row, ⟨r1, r2, r3, r4, r5, r6, e⟩, h1, h2⟩ := loop
  refine ⟨row, ?_, h1, h2⟩
  have hl2 : ls.length ≤ 1000000000 := Nat.le_trans hl (by decide)
  simp -implicitDefEqProofs [b__law_draw, rg1_nat hl2, e, szl]
end PH
namespace PH
open PySem PySem.Spec PyProof.Rows L2 VL PF
/-! ### phases -/
abbrev Ph := Str × Int
def COL : List Str := ["white", "red", "green", "yellow", "dark"]
def isPh (p : Ph) : Bool := decide (p.1 ∈ COL) && (decide (1 ≤ p.2) && decide (p.2 ≤ 6000))
def d0 : Ph := ("", 0)
def ph (ps : List Ph) (i : Nat) : Ph := ps.getD i d0
/-! ### the checks -/
/-- a well-made character, its ends aside -/
structure Chain (ps : List Ph) : Prop where
  ne : ps ≠ []
  ok : ∀ p ∈ ps, isPh p = true
  adj : ∀ i, i + 1 < ps.length → (ph ps i).1 ≠ (ph ps (i + 1)).1
/-- .. whose ends are of different colours -/
structure Good (ps : List Ph) : Prop extends Chain ps where
  ends : 1 < ps.length → (ph ps 0).1 ≠ (ph ps (ps.length - 1)).1
theorem ph_mem {ps : List Ph} {i : Nat} (h : i < ps.length) : ph ps i ∈ ps := by
  unfold ph
  rw [List.getD_eq_getElem?_getD, List.getElem?_eq_getElem h]
  exact List.getElem_mem h
theorem getLast_ph {ps : List Ph} (h : ps ≠ []) : ps.getLast h = ph ps (ps.length - 1) := by
  unfold ph
  rw [List.getLast_eq_getElem, List.getD_eq_getElem?_getD, List.getElem?_eq_getElem (by have := List.length_pos_iff.mpr h; omega)]
  rfl
end PH
namespace PH
/-! ### tenths and runs -/
open PySem (Str)
def ticks (ps : List Ph) : List Str := ps.flatMap fun p => List.replicate p.2.toNat p.1
@[simp] theorem ticks_nil : ticks [] = [] := rfl
@[simp] theorem ticks_cons (p : Ph) (r : List Ph) : ticks (p :: r) = List.replicate p.2.toNat p.1 ++ ticks r := by simp [ticks]
theorem ticks_app (a b : List Ph) : ticks (a ++ b) = ticks a ++ ticks b := by simp [ticks]
def Adj : List Ph → Prop
  | [] => True
  | [_] => True
  | p :: q :: r => p.1 ≠ q.1 ∧ Adj (q :: r)
def Pos (ps : List Ph) : Prop := ∀ p ∈ ps, 1 ≤ p.2
theorem adj_of : ∀ {ps : List Ph}, (∀ i, i + 1 < ps.length → (ph ps i).1 ≠ (ph ps (i + 1)).1) → Adj ps
  | [], _ => trivial
  | [_], _ => trivial
  | p :: q :: r, h => ⟨h 0 (by simp), adj_of fun i hi => by
    have := h (i + 1) (by simp at hi ⊢; omega)
    simpa [ph] using this⟩
theorem adj_at : ∀ {ps : List Ph}, Adj ps → ∀ i, i + 1 < ps.length → (ph ps i).1 ≠ (ph ps (i + 1)).1
  | [], _, i, h => by simp at h
  | [_], _, i, h => by simp at h
  | p :: q :: r, ⟨h1, h2⟩, 0, h => h1
  | p :: q :: r, ⟨h1, h2⟩, i + 1, h => by
    have := adj_at h2 i (by simp at h ⊢; omega)
    simpa [ph] using this
def hd (ps : List Ph) : Option Str := ps.head?.map (·.1)
def lastC (ps : List Ph) : Option Str := ps.getLast?.map (·.1)
/-- what _law_runs does at a colour -/
def runStep (acc : List Ph) (c : Str) : List Ph := match acc.getLast? with
  | some l => if l.1 = c then acc.dropLast ++ [(c, l.2 + 1)] else acc ++ [(c, 1)]
  | none => [(c, 1)]
def runs (row : List Str) : List Ph := row.foldl runStep []
/-! runs of any row -/
theorem ticks_len {ps : List Ph} (hp : Pos ps) : ((ticks ps).length : Int) = (ps.map (·.2)).sum := by
  induction ps with
  | nil => rfl
  | cons p r ih =>
    have h1 := hp p List.mem_cons_self
    rw [ticks_cons, List.length_append, List.length_replicate, List.map_cons, List.sum_cons, ← ih fun q hq => hp q (List.mem_cons_of_mem _ hq)]
    omega
/-! where a tenth lies -/
def place : List Ph → Int → Nat × Int
  | [], r => (0, r)
  | p :: ps, r => if p.2 ≤ r then ((place ps (r - p.2)).1 + 1, (place ps (r - p.2)).2) else (0, r)
end PH
namespace PH
open PySem PySem.Spec PyProof.Rows L2 VL PF
abbrev wh (ps : List Ph) : Int := (ps.map (·.2)).sum
theorem isPh_pos {p : Ph} (h : isPh p = true) : 1 ≤ p.2 ∧ p.2 ≤ 6000 ∧ p.1 ∈ COL := by
  unfold isPh at h
  simp only [Bool.and_eq_true, decide_eq_true_eq] at h
  exact ⟨h.2.1, h.2.2, h.1⟩
theorem Chain.pos {ps : List Ph} (c : Chain ps) : Pos ps := fun p hp => (isPh_pos (c.ok p hp)).1
theorem wh_pos : ∀ {ps : List Ph}, Pos ps → ps ≠ [] → 0 < wh ps
  | [], _, h => absurd rfl h
  | p :: r, hp, _ => by
    have h1 := hp p List.mem_cons_self
    have h2 : 0 ≤ wh r := by
      by_cases e : r = []
      · subst e; decide
      · have := wh_pos (ps := r) (fun q hq => hp q (List.mem_cons_of_mem _ hq)) e; omega
    show 0 < ((p :: r).map (·.2)).sum
    rw [List.map_cons, List.sum_cons]
    show 0 < p.2 + wh r
    omega
/-! turned -/
def turned (ps : List Ph) (t : Int) : List Ph :=
  if ps.length = 1 then ps else
  let a := (place ps (t % wh ps)).1
  let r := (place ps (t % wh ps)).2
  if r = 0 then ps.drop a ++ ps.take a else [((ph ps a).1, (ph ps a).2 - r)] ++ ps.drop (a + 1) ++ ps.take a ++ [((ph ps a).1, r)]
end PH
namespace PH
open PySem PySem.Spec PyProof.Rows L2 VL PF
/-! joined -/
/-! shortest -/
end PH
namespace PH
open PySem PySem.Spec PyProof.Rows L2 VL PF
theorem map_get {α : Type} {f : α → PV} {xs : List α} {i : Nat} {v : PV} (h : (xs.map f)[i]? = some v) : ∃ x, xs[i]? = some x ∧ v = f x := by
  rw [List.getElem?_map] at h
  cases e : xs[i]? with
  | none => rw [e] at h; cases h
  | some x => rw [e] at h; cases h; exact ⟨x, rfl, rfl⟩
theorem take_succ' {α : Type} {xs : List α} {i : Nat} {x : α} (h : xs[i]? = some x) : xs.take (i + 1) = xs.take i ++ [x] := by
  rw [List.take_add_one, h]
  rfl
end PH
namespace PH
open PySem PySem.Spec PyProof.Rows L2 VL PF
/-! ### _law_least -/
/-! ### _law_phases -/
structure LP (longest : Int) (acc : List Ph) : Prop where
  col : ∀ p ∈ acc, p.1 ∈ COL ∧ 1 ≤ p.2 ∧ p.2 ≤ longest
  adj : Adj acc
theorem a12 (x y : PV) : atI [x, y] 1 = some y := rfl
end PH
namespace PH
open PySem PySem.Spec PyProof.Rows L2 VL PF
end PH
namespace PH
open PySem (Str)
/-! ### characters, turned and repeated -/
theorem hd_ph {ps : List Ph} (h : ps ≠ []) : hd ps = some (ph ps 0).1 := by
  cases ps with
  | nil => exact absurd rfl h
  | cons p r => rfl
theorem lastC_ph {ps : List Ph} (h : ps ≠ []) : lastC ps = some (ph ps (ps.length - 1)).1 := by
  unfold lastC
  rw [List.getLast?_eq_some_getLast h, getLast_ph h]
  rfl
/-- well made, said of lists -/
structure GL (ps : List Ph) : Prop where
  ne : ps ≠ []
  ok : ∀ p ∈ ps, isPh p = true
  adj : Adj ps
  ends : 1 < ps.length → lastC ps ≠ hd ps
theorem good_iff {ps : List Ph} : Good ps ↔ GL ps := by
  constructor
  · intro g
    refine ⟨g.ne, g.ok, adj_of g.adj, fun h e => ?_⟩
    rw [lastC_ph g.ne, hd_ph g.ne] at e
    exact g.ends h (Option.some.inj e).symm
  · intro g
    refine ⟨⟨g.ne, g.ok, adj_at g.adj⟩, fun h e => ?_⟩
    apply g.ends h
    rw [lastC_ph g.ne, hd_ph g.ne, e]
theorem GL.pos {ps : List Ph} (g : GL ps) : Pos ps := (good_iff.mpr g).pos
theorem split_at {ps : List Ph} {i : Nat} (h : i < ps.length) : ps = ps.take i ++ (ph ps i :: ps.drop (i + 1)) := by
  have e : ps.drop i = ph ps i :: ps.drop (i + 1) := by
    rw [List.drop_eq_getElem_cons h]
    congr 1
    unfold ph
    rw [List.getD_eq_getElem?_getD, List.getElem?_eq_getElem h]
    rfl
  rw [← e, List.take_append_drop]
end PH
namespace PH
open PySem (Str)
/-! ### the shortest form -/
theorem rep_len {α : Type} (u : List α) (k : Nat) : (List.replicate k u).flatten.length = k * u.length := by
  induction k with
  | zero => simp
  | succ k ih => rw [List.replicate_succ, List.flatten_cons, List.length_append, ih, Nat.succ_mul, Nat.add_comm]
end PH
namespace VL
open PySem PySem.Spec PyProof.Rows L2
/-! a value is equal to itself -/
mutual
theorem data_self : ∀ d : PyData, PyData.canLay0 d = true → PyData.eqv d d = true
  | .none, _ => by simp [PyData.eqv]
  | .bool b, _ => by simp [PyData.eqv]
  | .int b, _ => by simp [PyData.eqv]
  | .str b, _ => by simp [PyData.eqv]
  | .list xs, h => by simp only [PyData.eqv]; exact datas_self xs (by simpa [PyData.canLay0] using h)
  | .tuple xs, h => by simp only [PyData.eqv]; exact datas_self xs (by simpa [PyData.canLay0] using h)
  | .dict _, h => by simp [PyData.canLay0] at h
theorem datas_self : ∀ d : List PyData, PyData.canLayAll0 d = true → PyData.eqvAll d d = true
  | [], _ => by simp [PyData.eqvAll]
  | x :: xs, h => by
    simp only [PyData.canLayAll0, Bool.and_eq_true] at h
    simp only [PyData.eqvAll, Bool.and_eq_true]
    exact ⟨data_self x h.1, datas_self xs h.2⟩
end
theorem eqB_self {x : PV} (h : PV.tm 64 x = true) : eqB x x = some true := by
  rw [eqB_tm h h]
  unfold PV.tm at h
  unfold PV.eqv
  cases e : x.data with
  | none => rw [e] at h; cases h
  | some d =>
    rw [e] at h
    simp only [Bool.and_eq_true] at h
    simp only
    rw [data_self d h.1]
end VL
namespace PH
open PySem PySem.Spec PyProof.Rows L2 VL PF
end PH
namespace VL
open PySem PySem.Spec PyProof.Rows L2
/-! ### more rules for the plain part -/
section
variable {ρ : Ev} {r : Env}
/-! suites of clauses -/
def xxK (ρ : Env) : R PV → Out
  | .ok v => .ret v
  | _ => .stuck
@[simp] theorem xxK_o (ρ v) : xxK ρ (.ok v) = .ret v := rfl
def hdK (i c : Nat) (fs : List (Str × PV)) (ρ : Env) (g : Xx PV) (r : List Hd) : Option Bool → Out
  | some true => if i < ρ.length then xxK ρ (g c fs) else .stuck
  | some false => tryH c fs ρ r
  | none => .stuck
@[simp] theorem hdK_t (i c fs ρ g r) : hdK i c fs ρ g r (some true) = if i < ρ.length then xxK ρ (g c fs) else .stuck := rfl
@[simp] theorem hdK_f (i c fs ρ g r) : hdK i c fs ρ g r (some false) = tryH c fs ρ r := rfl
@[simp] theorem tryH_nm (c fs) (ρ : Env) (mt i g r) : tryH c fs ρ (.nm mt i g :: r) = hdK i c fs ρ g r (mt c) := by
  conv => lhs; unfold tryH
  unfold hdK
  cases mt c with
  | none => rfl
  | some b =>
    cases b
    · rfl
    · simp only
      split
      · cases g c fs <;> rfl
      · rfl
def suiK : Out → Out
  | .exc _ _ _ => .stuck
  | o => o
@[simp] theorem suiK_r (v) : suiK (.ret v) = .ret v := rfl
@[simp] theorem suiK_n (v) : suiK (.next v) = .next v := rfl
def hdU (c : Nat) (fs : List (Str × PV)) (ρ : Env) (s : Env → Out) (r : List Hd) : Option Bool → Out
  | some true => suiK (s ρ)
  | some false => tryH c fs ρ r
  | none => .stuck
@[simp] theorem hdU_t (c fs ρ s r) : hdU c fs ρ s r (some true) = suiK (s ρ) := rfl
@[simp] theorem hdU_f (c fs ρ s r) : hdU c fs ρ s r (some false) = tryH c fs ρ r := rfl
@[simp] theorem tryH_un (c fs) (ρ : Env) (mt s r) : tryH c fs ρ (.un mt s :: r) = hdU c fs ρ s r (mt c) := by
  conv => lhs; unfold tryH
  unfold hdU
  cases mt c with
  | none => rfl
  | some b =>
    cases b
    · rfl
    · simp only
      cases s ρ <;> rfl
@[simp] theorem xC_S (v c fs) : xC v c fs = .ok v := rfl
@[simp] theorem xF_S (c0 f fs) : xF c0 f c0 fs = opt (lkF f fs) := if_pos rfl
@[simp] theorem lkF_S (f k v r) : lkF f ((k, v) :: r) = if f = k then some v else lkF f r := rfl
@[simp] theorem xNil_S (c fs) : xNil c fs = .ok [] := rfl
@[simp] theorem xCons_S (f r c fs) : xCons f r c fs = (f c fs).bind fun x => (r c fs).bind fun xs => .ok (x :: xs) := rfl
@[simp] theorem xTup_S (r c fs) : xTup r c fs = (r c fs).bind gTupV := rfl
end
/-! loops over what is written -/
def forK (t : Tg) (s : Env → Out) (vs : List PV) : Out → Out
  | .next r => forL t s vs r
  | .cont r => forL t s vs r
  | .brk r => .next r
  | .ret v => .ret v
  | .exc c fs r => .exc c fs r
  | .stuck => .stuck
@[simp] theorem forK_n (t s vs r) : forK t s vs (.next r) = forL t s vs r := rfl
@[simp] theorem forK_c (t s vs r) : forK t s vs (.cont r) = forL t s vs r := rfl
@[simp] theorem forK_b (t s vs r) : forK t s vs (.brk r) = .next r := rfl
@[simp] theorem forK_r (t s vs v) : forK t s vs (.ret v) = .ret v := rfl
@[simp] theorem forK_e (t s vs c fs r) : forK t s vs (.exc c fs r) = .exc c fs r := rfl
def forT (t : Tg) (s : Env → Out) (vs : List PV) (r : Env) : Option As → Out
  | some as => forK t s vs (s (setS as r))
  | none => .stuck
@[simp] theorem forT_s (t s vs r as) : forT t s vs r (some as) = forK t s vs (s (setS as r)) := rfl
theorem forL_S (t : Tg) (s : Env → Out) (v : PV) (vs : List PV) (r : Env) : forL t s (v :: vs) r = forT t s vs r (t v) := by
  conv => lhs; unfold forL
  unfold forT forK
  cases t v with
  | none => rfl
  | some as => cases s (setS as r) <;> rfl
/-! lists as pictures -/
theorem cutP_map {α β : Type} (f : α → β) (xs : List α) (lo hi : Option Int) : cutP (xs.map f) lo hi = (cutP xs lo hi).map f := by
  unfold cutP
  rw [List.length_map, ← List.map_drop, ← List.map_take]
theorem slP_map {α : Type} (f : α → PV) (xs : List α) (lo hi : Option Int) : slP (.lst (xs.map f)) lo hi = some (.lst ((cutP xs lo hi).map f)) := by
  rw [slP_l, cutP_map]
theorem addP_map {α : Type} {f : α → PV} {a b : List α} (h : a.length + b.length ≤ 16777216) : addP (.lst (a.map f)) (.lst (b.map f)) = some (.lst ((a ++ b).map f)) := by
  rw [addP_l, if_pos (by rw [szl]; simpa using h), List.map_append]
theorem lenP_map {α : Type} (f : α → PV) (xs : List α) : lenP [.lst (xs.map f)] = some (.int (xs.length : Int)) := by
  rw [lenP_l, List.length_map]
theorem ixP_map {α : Type} {f : α → PV} {xs : List α} {i : Nat} (d : α) (h : i < xs.length) : ixP (.lst (xs.map f)) (.int (i : Int)) = some (f (xs.getD i d)) := by
  rw [ixP_l, PH.atI_map, PH.atI_getD d h]
  rfl
/-- pictures of a kind, compared -/
structure EqF {α : Type} [DecidableEq α] (f : α → PV) (P : α → Prop) (n : Nat) : Prop where
  tm : ∀ a, P a → PV.tm n (f a) = true
  eq : ∀ a b, PV.eqv (f a) (f b) = decide (a = b)
theorem EqF.lst {α : Type} [DecidableEq α] {f : α → PV} {P : α → Prop} {n : Nat} (h : EqF f P n) {xs : List α} (hx : ∀ a ∈ xs, P a) : PV.tm (n + 1) (.lst (xs.map f)) = true := by
  rw [tm_l, tms_iff]
  intro x hx'
  obtain ⟨a, ha, rfl⟩ := List.mem_map.mp hx'
  exact h.tm a (hx a ha)
theorem EqF.eqs {α : Type} [DecidableEq α] {f : α → PV} {P : α → Prop} {n : Nat} (h : EqF f P n) {xs ys : List α} (hx : ∀ a ∈ xs, P a) (hy : ∀ a ∈ ys, P a) : PV.eqv (.lst (xs.map f)) (.lst (ys.map f)) = decide (xs = ys) := by
  rw [eqv_ll]
  exact eqvs_map (n := n) (fun _ _ => trivial) h.eq (fun a ha => h.tm a (hx a ha)) (fun a ha => h.tm a (hy a ha))
@[simp] theorem at_0 {α : Type} (x : α) (xs : List α) : atI (x :: xs) 0 = some x := by
  have := atI_nat' (xs := x :: xs) (i := 0) (by simp)
  simpa using this
@[simp] theorem at_1 {α : Type} (x y : α) (xs : List α) : atI (x :: y :: xs) 1 = some y := by
  have := atI_nat' (xs := x :: y :: xs) (i := 1) (by simp)
  simpa using this
@[simp] theorem at_2 {α : Type} (x y z : α) (xs : List α) : atI (x :: y :: z :: xs) 2 = some z := by
  have := atI_nat' (xs := x :: y :: z :: xs) (i := 2) (by simp)
  simpa using this
@[simp] theorem at_3 {α : Type} (x y z u : α) (xs : List α) : atI (x :: y :: z :: u :: xs) 3 = some u := by
  have := atI_nat' (xs := x :: y :: z :: u :: xs) (i := 3) (by simp)
  simpa using this
theorem lcL_ex {γ δ : Type} {t : Tg} {e : Ex} {ρ : Ev} (enc : γ → PV) (out : δ → PV) (P : δ → Prop) : ∀ (xs : List γ), (∀ x ∈ xs, ∃ as d, t (enc x) = some as ∧ e (setE as ρ) = .ok (out d) ∧ P d) →
    ∃ ds : List δ, lcL t cYes e ρ (xs.map enc) = .ok (ds.map out) ∧ ds.length = xs.length ∧ ∀ d ∈ ds, P d
  | [], _ => ⟨[], rfl, rfl, by simp⟩
  | x :: xs, H => by
    obtain ⟨as, d, e1, e2, e3⟩ := H x List.mem_cons_self
    obtain ⟨ds, f1, f2, f3⟩ := lcL_ex enc out P xs fun y hy => H y (List.mem_cons_of_mem _ hy)
    refine ⟨d :: ds, ?_, by simp [f2], fun y hy => ?_⟩
    · simp only [List.map_cons, lcL, e1, cYes_S, e2, f1]
    · rcases List.mem_cons.mp hy with h | h
      · rw [h]; exact e3
      · exact f3 y h
/-! loops -/
/-- for x in xs: g := f g x -/
theorem forL_fold {β γ : Type} {t : Tg} {s : Env → Out} {enc : β → PV} {f : γ → β → γ} (R : γ → Env → Prop) {xs : List β} {g0 : γ} {r0 : Env} (h0 : R g0 r0)
    (turn : ∀ (i : Nat) (x : β) (g : γ) (r : Env), xs[i]? = some x → g = (xs.take i).foldl f g0 → R g r → ∃ as r', t (enc x) = some as ∧ (s (setS as r) = .next r' ∨ s (setS as r) = .cont r') ∧ R (f g x) r') :
    ∃ r', forL t s (xs.map enc) r0 = .next r' ∧ R (xs.foldl f g0) r' := by
  refine forL_by (Q := fun o => ∃ r', o = .next r' ∧ R (xs.foldl f g0) r') (fun i r => R ((xs.take i).foldl f g0) r) (by simpa using h0) (fun i v r hv hi => ?_) (fun r hr => ?_)
  · obtain ⟨x, hx, rfl⟩ := PH.map_get hv
    obtain ⟨as, r', e1, e2, e3⟩ := turn i x _ r hx rfl hi
    refine ⟨as, e1, .inl ⟨r', e2, ?_⟩⟩
    rw [PH.take_succ' hx, List.foldl_append]
    exact e3
  · rw [List.length_map, List.take_length] at hr
    exact ⟨r, rfl, hr⟩
/-- how a turn ends that ends the loop -/
def isEnd : Out → Prop
  | .ret _ => True
  | .exc _ _ _ => True
  | _ => False
/-- for x in xs: if p x: return .. -/
theorem forL_find {β : Type} {t : Tg} {s : Env → Out} {enc : β → PV} (R : Env → Prop) (p : β → Bool) (Q : β → Out → Prop) {xs : List β} {r0 : Env} (h0 : R r0)
    (turn : ∀ (i : Nat) (x : β) (r : Env), xs[i]? = some x → R r → ∃ as, t (enc x) = some as ∧ ((p x = true ∧ isEnd (s (setS as r)) ∧ Q x (s (setS as r))) ∨ (p x = false ∧ ∃ r', (s (setS as r) = .next r' ∨ s (setS as r) = .cont r') ∧ R r'))) :
    (∃ x, xs.find? p = some x ∧ Q x (forL t s (xs.map enc) r0)) ∨ (xs.find? p = none ∧ ∃ r', forL t s (xs.map enc) r0 = .next r' ∧ R r') := by
  refine forL_by (Q := fun o => (∃ x, xs.find? p = some x ∧ Q x o) ∨ (xs.find? p = none ∧ ∃ r', o = .next r' ∧ R r')) (fun i r => R r ∧ ∀ x ∈ xs.take i, p x = false) ⟨h0, by simp⟩ (fun i v r hv hi => ?_) (fun r hr => ?_)
  · obtain ⟨x, hx, rfl⟩ := PH.map_get hv
    obtain ⟨as, e1, h⟩ := turn i x r hx hi.1
    refine ⟨as, e1, ?_⟩
    rcases h with ⟨hp, he, hq⟩ | ⟨hp, r', e2, e3⟩
    · have hf : xs.find? p = some x := by
        have hi1 : i < xs.length := by
          rcases Nat.lt_or_ge i xs.length with h | h
          · exact h
          · rw [List.getElem?_eq_none h] at hx; cases hx
        have e : xs = xs.take i ++ x :: xs.drop (i + 1) := by
          rw [List.getElem?_eq_getElem hi1] at hx
          cases hx
          rw [List.getElem_cons_drop, List.take_append_drop]
        rw [e, List.find?_append, List.find?_eq_none.mpr (fun y hy => by rw [hi.2 y hy]; simp)]
        simp [hp]
      cases ho : s (setS as r) with
      | ret v => rw [ho] at hq; exact .inr (.inr (.inl ⟨v, rfl, .inl ⟨x, hf, hq⟩⟩))
      | exc c fs r' => rw [ho] at hq; exact .inr (.inr (.inr ⟨c, fs, r', rfl, .inl ⟨x, hf, hq⟩⟩))
      | next _ => rw [ho] at he; exact he.elim
      | cont _ => rw [ho] at he; exact he.elim
      | brk _ => rw [ho] at he; exact he.elim
      | stuck => rw [ho] at he; exact he.elim
    · refine .inl ⟨r', e2, e3, fun y hy => ?_⟩
      rw [PH.take_succ' hx, List.mem_append] at hy
      rcases hy with hy | hy
      · exact hi.2 y hy
      · rw [List.mem_singleton] at hy; subst hy; exact hp
  · rw [List.length_map, List.take_length] at hr
    exact .inr ⟨List.find?_eq_none.mpr fun y hy => by rw [hr.2 y hy]; simp, r, rfl, hr.1⟩
theorem rangeP_map (n : Nat) : rangeP 0 n = (List.range n).map fun (i : Nat) => PV.int ((i : Nat) : Int) := by
  unfold rangeP
  refine List.map_congr_left fun i _ => ?_
  rw [Int.zero_add]
theorem range_at {n i x : Nat} (h : (List.range n)[i]? = some x) : x = i ∧ i < n := by
  rcases Nat.lt_or_ge i n with h1 | h1
  · rw [List.getElem?_range h1] at h; cases h; exact ⟨rfl, h1⟩
  · rw [List.getElem?_eq_none (by simpa using h1)] at h; cases h
end VL
namespace WY
open PySem PySem.Spec PyProof.Rows L2 VL PF PH
/-! ### directions -/
abbrev Dr := Int × Int
def encD (d : Dr) : PV := .tup [.int d.1, .int d.2]
def crs (a b : Dr) : Int := a.1 * b.2 - a.2 * b.1
def Sm (d : Dr) : Prop := (-1000000000000 < d.1 ∧ d.1 < 1000000000000) ∧ (-1000000000000 < d.2 ∧ d.2 < 1000000000000)
end WY
namespace WY
/-! ### the law's own order of directions -/
def ag (a d : Dr) : Dr := (d.1 * a.2 - d.2 * a.1, d.1 * a.1 + d.2 * a.2)
end WY
namespace WY
open PySem PySem.Spec PyProof.Rows L2 VL PF PH
/-! ### checks of directions -/
def encDs (ds : List Dr) : PV := .lst (ds.map encD)
def bw (k : Int) : List (Str × PV) := [("number", .int k), ("label", .str "BadWay")]
/-- the first direction that is none -/
def badW (ds : List Dr) : Option Nat := (List.range ds.length).find? fun i => decide (ds.getD i (0, 0) = (0, 0))
def S_ways (g : List PV → R PV) : Prop := ∀ (ds : List Dr) (f : Int), ds.length ≤ 1000000 → g [encDs ds, .int f] = match badW ds with
  | some k => .exc 8 (bw (f + (k : Int)))
  | none => .ok .non
end WY
namespace WY
open PySem PySem.Spec PyProof.Rows L2 VL PF PH
/-! ### gcd_of -/
end WY
namespace WY
open PySem PySem.Spec PyProof.Rows L2 VL PF PH
/-! ### Euclid by turns: _law_lowest -/
end WY
namespace WY
open PySem PySem.Spec PyProof.Rows L2 VL PF PH
/-! ### between -/
/-- small enough for products -/
def Sx (d : Dr) : Prop := (-300000 ≤ d.1 ∧ d.1 ≤ 300000) ∧ (-300000 ≤ d.2 ∧ d.2 ≤ 300000)
theorem Sx.sm {d : Dr} (h : Sx d) : Sm d := by
  obtain ⟨⟨a, b⟩, c, e⟩ := h
  exact ⟨⟨by omega, by omega⟩, by omega, by omega⟩
theorem mul_bd {x y : Int} (hx : -300000 ≤ x ∧ x ≤ 300000) (hy : -300000 ≤ y ∧ y ≤ 300000) : -90000000000 ≤ x * y ∧ x * y ≤ 90000000000 := by
  have h : (x * y).natAbs ≤ 300000 * 300000 := by
    rw [Int.natAbs_mul]
    exact Nat.mul_le_mul (by omega) (by omega)
  omega
theorem Sx.ag {a d : Dr} (h : Sx a) (h' : Sx d) : Sm (WY.ag a d) := by
  have p1 := mul_bd h'.1 h.2
  have p2 := mul_bd h'.2 h.1
  have p3 := mul_bd h'.1 h.1
  have p4 := mul_bd h'.2 h.2
  unfold WY.ag Sm
  simp only
  omega
end WY
namespace WY
open PySem PySem.Spec PyProof.Rows L2 VL PF PH
/-! ### the order round from a direction -/
/-! the law's way of ordering -/
end WY
namespace WY
open PySem PySem.Spec PyProof.Rows L2 VL PF PH
/-! ### eighths -/
def ab (x : Int) : Int := if x < 0 then -x else x
/-! ### lowest terms -/
/-! ### places -/
def inPl (x : Int) : Bool := decide (-100000 ≤ x) && decide (x ≤ 100000)
end WY
namespace WY
open PySem PySem.Spec PyProof.Rows L2 VL PF PH
/-! ### the functions from outside -/
theorem badW_none {ws : List Dr} (h : ∀ w ∈ ws, w ≠ (0, 0)) : badW ws = none := by
  unfold badW
  rw [List.find?_range_eq_none]
  intro i hi
  have hm : ws.getD i (0, 0) ∈ ws := by
    rw [List.getD_eq_getElem?_getD, List.getElem?_eq_getElem hi]
    exact List.getElem_mem hi
  simpa using h _ hm
variable {F : Nat → List PV → R PV}
theorem ways_ok {g : List PV → R PV} (h : S_ways g) {ws : List Dr} {f : Int} (hl : ws.length ≤ 1000000) (hw : ∀ w ∈ ws, w ≠ (0, 0)) : g [.lst (ws.map encD), .int f] = .ok .non := by
  have := h ws f hl
  rw [badW_none hw] at this
  exact this
theorem w1 {g : List PV → R PV} (h : S_ways g) {a : Dr} {f : Int} (ha : a ≠ (0, 0)) : g [.lst [encD a], .int f] = .ok .non := ways_ok h (ws := [a]) (by simp) (by simpa using ha)
theorem w2 {g : List PV → R PV} (h : S_ways g) {a b : Dr} {f : Int} (ha : a ≠ (0, 0)) (hb : b ≠ (0, 0)) : g [.lst [encD a, encD b], .int f] = .ok .non := ways_ok h (ws := [a, b]) (by simp) (by simp [ha, hb])
theorem w3 {g : List PV → R PV} (h : S_ways g) {a b c : Dr} {f : Int} (ha : a ≠ (0, 0)) (hb : b ≠ (0, 0)) (hc : c ≠ (0, 0)) : g [.lst [encD a, encD b, encD c], .int f] = .ok .non := ways_ok h (ws := [a, b, c]) (by simp) (by simp [ha, hb, hc])
/-! the law's directions -/
end WY
namespace VL
open PySem PySem.Spec PyProof.Rows L2
/-! in of plain lists -/
end VL
namespace WY
open PySem PySem.Spec PyProof.Rows L2 VL PF PH
/-! ### lines -/
def sub (a b : Dr) : Dr := (a.1 - b.1, a.2 - b.2)
/-- near enough -/
def Nr (d : Dr) : Prop := (-150000 ≤ d.1 ∧ d.1 ≤ 150000) ∧ (-150000 ≤ d.2 ∧ d.2 ≤ 150000)
theorem Nr.sub {a b : Dr} (h : Nr a) (h' : Nr b) : Sx (WY.sub a b) := by
  obtain ⟨⟨a1, a2⟩, a3, a4⟩ := h
  obtain ⟨⟨b1, b2⟩, b3, b4⟩ := h'
  exact ⟨⟨by simp only [WY.sub]; omega, by simp only [WY.sub]; omega⟩, by simp only [WY.sub]; omega, by simp only [WY.sub]; omega⟩
theorem Sx.crs {a d : Dr} (h : Sx a) (h' : Sx d) : -180000000000 ≤ WY.crs a d ∧ WY.crs a d ≤ 180000000000 := by
  have p3 := mul_bd h.1 h'.2
  have p4 := mul_bd h.2 h'.1
  unfold WY.crs
  omega
/-- both numbers in range -/
def plB (d : Dr) : Bool := inPl d.1 && inPl d.2
/-! courses -/
theorem max_le (x y m : Int) : (decide ((if y > x then y else x) ≤ m)) = (decide (x ≤ m) && decide (y ≤ m)) := by
  rw [Bool.eq_iff_iff]
  simp only [Bool.and_eq_true, decide_eq_true_eq]
  split <;> omega
/-! the law's ships -/
/-! lowest terms of the law, of any sign -/
end WY
namespace WY
open PySem PySem.Spec PyProof.Rows L2 VL PF PH
variable {F : Nat → List PV → R PV}
/-- a line of the law, and a ship -/
structure Ln (f r : Dr) : Prop where
  ne : f ≠ r
  pf : plB f = true
  pr : plB r = true
  nf : Nr f
  nr : Nr r
theorem Ln.look {f r : Dr} (h : Ln f r) : Sx (sub r f) ∧ sub r f ≠ (0, 0) := ⟨h.nr.sub h.nf, fun z => h.ne (by
  obtain ⟨f1, f2⟩ := f
  obtain ⟨r1, r2⟩ := r
  simp only [sub, Prod.mk.injEq] at z ⊢
  omega)⟩
/-! crossing the line -/
/-! speeds on the line -/
theorem eD (x y : Int) : PV.tup [.int x, .int y] = encD (x, y) := rfl
/-! rocks -/
end WY
namespace WY
open PySem PySem.Spec PyProof.Rows L2 VL PF PH
/-! ### told values -/
end WY
namespace VL
open PySem PySem.Spec PyProof.Rows L2
/-! in of lists of tuples -/
end VL
namespace WY
open PySem PySem.Spec PyProof.Rows L2 VL PF PH
/-! ### crossings of lines -/
/-- a sight: a place near, a direction -/
structure Sg (a w : Dr) : Prop where
  a1 : -20 ≤ a.1 ∧ a.1 ≤ 20
  a2 : -20 ≤ a.2 ∧ a.2 ≤ 20
  w1 : -50 ≤ w.1 ∧ w.1 ≤ 50
  w2 : -50 ≤ w.2 ∧ w.2 ≤ 50
  n : w ≠ (0, 0)
theorem mul_abs {x y : Int} {a b : Nat} (hx : x.natAbs ≤ a) (hy : y.natAbs ≤ b) : (x * y).natAbs ≤ a * b := by
  rw [Int.natAbs_mul]
  exact Nat.mul_le_mul hx hy
theorem Sg.crs {a w b s : Dr} (h : Sg a w) (h' : Sg b s) : (WY.crs w s).natAbs ≤ 5000 := by
  have h1 := mul_abs (a := 50) (b := 50) (show w.1.natAbs ≤ 50 by have := h.w1; omega) (show s.2.natAbs ≤ 50 by have := h'.w2; omega)
  have h2 := mul_abs (a := 50) (b := 50) (show w.2.natAbs ≤ 50 by have := h.w2; omega) (show s.1.natAbs ≤ 50 by have := h'.w1; omega)
  unfold WY.crs
  omega
theorem Sg.gap {a w b s : Dr} (h : Sg a w) (h' : Sg b s) : (WY.crs (sub b a) s).natAbs ≤ 4000 := by
  have h1 := mul_abs (a := 40) (b := 50) (show (b.1 - a.1).natAbs ≤ 40 by have := h.a1; have := h'.a1; omega) (show s.2.natAbs ≤ 50 by have := h'.w2; omega)
  have h2 := mul_abs (a := 40) (b := 50) (show (b.2 - a.2).natAbs ≤ 40 by have := h.a2; have := h'.a2; omega) (show s.1.natAbs ≤ 50 by have := h'.w1; omega)
  unfold WY.crs sub
  simp only
  omega
/-! ### triangles -/
end WY
namespace PH
open PySem (Str)
/-! ### two periods (Fine and Wilf) -/
/-! ### rows that go round -/
def cy (row : List Str) (t : Int) : Str := row.getD (t % (row.length : Int)).toNat ""
/-- for how long the same is shown -/
def sameS (A B : List Str) (s o : Int) : Option Nat := (List.range (A.length + B.length)).find? fun k => decide (cy A (s + (k : Int)) ≠ cy B (o + (k : Int)))
end PH
namespace PH
open PySem PySem.Spec PyProof.Rows L2 VL PF
/-! ### where a moment lies -/
structure Lies (ps : List Ph) (t : Int) (a : Nat) (g : Int) : Prop where
  lt : a < ps.length
  g0 : 0 ≤ g
  g1 : g < (ph ps a).2
  at_ : ∃ k : Int, t = wh (ps.take a) + g + k * wh ps
theorem wh_app (a b : List Ph) : wh (a ++ b) = wh a + wh b := by
  show ((a ++ b).map (·.2)).sum = _
  rw [List.map_append, List.sum_append]
theorem wh_nn {ps : List Ph} (h : Pos ps) : 0 ≤ wh ps := by
  by_cases e : ps = []
  · subst e; decide
  · exact Int.le_of_lt (wh_pos h e)
theorem wh_succ {ps : List Ph} {a : Nat} (h : a < ps.length) : wh (ps.take (a + 1)) = wh (ps.take a) + (ph ps a).2 := by
  have : ps.take (a + 1) = ps.take a ++ [ph ps a] := take_succ' (by
    unfold ph
    rw [List.getD_eq_getElem?_getD, List.getElem?_eq_getElem h]
    rfl)
  rw [this, wh_app]
  show _ + ([ph ps a].map (·.2)).sum = _
  simp
theorem Pos.take {ps : List Ph} (h : Pos ps) (n : Nat) : Pos (ps.take n) := fun q hq => h q (List.mem_of_mem_take hq)
theorem Pos.drop {ps : List Ph} (h : Pos ps) (n : Nat) : Pos (ps.drop n) := fun q hq => h q (List.mem_of_mem_drop hq)
theorem wh_rest {ps : List Ph} (a : Nat) (hp : Pos ps) (h : a < ps.length) : wh (ps.take a) + (ph ps a).2 ≤ wh ps := by
  have e : wh ps = wh (ps.take (a + 1)) + wh (ps.drop (a + 1)) := by
    rw [← wh_app, List.take_append_drop]
  rw [wh_succ h] at e
  have := wh_nn (hp.drop (a + 1))
  omega
/-- the colour from here to the end of the phase -/
theorem Lies.col {ps : List Ph} {t : Int} {a : Nat} {g : Int} (hp : Pos ps) (h : Lies ps t a g) {j : Int} (j0 : 0 ≤ j) (j1 : g + j < (ph ps a).2) : cy (ticks ps) (t + j) = (ph ps a).1 := by
  obtain ⟨lt, g0, g1, k, e⟩ := h
  have hl : ((ticks ps).length : Int) = wh ps := ticks_len hp
  have hr := wh_rest a hp lt
  have ht := wh_nn (hp.take a)
  have hlt : ((ticks (ps.take a)).length : Int) = wh (ps.take a) := ticks_len (hp.take a)
  have em : (t + j) % ((ticks ps).length : Int) = wh (ps.take a) + g + j := by
    rw [hl, e, show wh (ps.take a) + g + k * wh ps + j = wh (ps.take a) + g + j + k * wh ps by omega, Int.add_mul_emod_self_right]
    exact Int.emod_eq_of_lt (by omega) (by omega)
  unfold cy
  rw [em]
  have es : ticks ps = ticks (ps.take a) ++ (List.replicate (ph ps a).2.toNat (ph ps a).1 ++ ticks (ps.drop (a + 1))) := by
    conv => lhs; rw [split_at lt]
    rw [ticks_app, ticks_cons]
  rw [es, List.getD_eq_getElem?_getD, List.getElem?_append_right (by omega), List.getElem?_append_left (by rw [List.length_replicate]; omega), List.getElem?_replicate, if_pos (by omega)]
  rfl
theorem Lies.here {ps : List Ph} {t : Int} {a : Nat} {g : Int} (hp : Pos ps) (h : Lies ps t a g) : cy (ticks ps) t = (ph ps a).1 := by
  have := h.col hp (j := 0) (by omega) (by have := h.g1; omega)
  rwa [Int.add_zero] at this
theorem Lies.on {ps : List Ph} {t : Int} {a : Nat} {g s : Int} (h : Lies ps t a g) (s0 : 0 ≤ s) (s1 : g + s < (ph ps a).2) : Lies ps (t + s) a (g + s) := by
  obtain ⟨lt, g0, g1, k, e⟩ := h
  exact ⟨lt, by omega, s1, k, by omega⟩
theorem Lies.next {ps : List Ph} {t : Int} {a : Nat} {g s : Int} (hp : Pos ps) (h : Lies ps t a g) (s1 : g + s = (ph ps a).2) : Lies ps (t + s) ((a + 1) % ps.length) 0 := by
  obtain ⟨lt, g0, g1, k, e⟩ := h
  have hpos : ∀ b, b < ps.length → 0 < (ph ps b).2 := fun b hb => by have := hp _ (ph_mem hb); omega
  by_cases c : a + 1 < ps.length
  · rw [Nat.mod_eq_of_lt c]
    exact ⟨c, Int.le_refl _, hpos _ c, k, by rw [wh_succ lt]; omega⟩
  · have ea : a + 1 = ps.length := by omega
    rw [ea, Nat.mod_self]
    refine ⟨by omega, Int.le_refl _, hpos _ (by omega), k + 1, ?_⟩
    have ew : wh ps = wh (ps.take a) + (ph ps a).2 := by
      rw [← wh_succ lt, ea, List.take_length]
    rw [List.take_zero, Int.add_mul]
    show t + s = 0 + 0 + (k * wh ps + 1 * wh ps)
    omega
/-! ### same_time -/
end PH
namespace PH
open PySem PySem.Spec PyProof.Rows L2 VL PF WY
end PH
namespace PH
open PySem (Str)
/-! ### windows -/
/-! ### the longest window -/
abbrev Wn := Int × Int × Int
end PH
namespace PH
open PySem (Str)
/-! ### the ways of looking for it -/
end PH
namespace PH
open PySem PySem.Spec PyProof.Rows L2 VL PF WY
variable {F : Nat → List PV → R PV}
/-! reversed -/
/-! ### turns -/
end PH
namespace PH
open PySem PySem.Spec PyProof.Rows L2 VL PF WY
variable {F : Nat → List PV → R PV}
/-! ### windows of the program -/
def fwN (A B : List Str) (s o : Int) : Nat := (sameS A B s o).getD 0
/-- w is no worse than f -/
def leW (w f : Wn) : Prop := f.1 < w.1 ∨ (f.1 = w.1 ∧ (f.1 ≤ 0 ∨ w.2.1 < f.2.1 ∨ (w.2.1 = f.2.1 ∧ w.2.2 ≤ f.2.2)))
theorem leW.trans {a b c : Wn} (h : leW a b) (k : leW b c) : leW a c := by
  unfold leW at *
  omega
end PH
namespace PH
open PySem PySem.Spec PyProof.Rows L2 VL PF WY
variable {F : Nat → List PV → R PV}
/-! ### from outside -/
end PH
namespace PH
open PySem PySem.Spec PyProof.Rows L2 VL PF WY
variable {F : Nat → List PV → R PV}
/-! ### the laws' own search -/
/-! the search through all pairs -/
def upd2 (A B : List Str) (b : Option (Nat × Nat)) (x : Nat × Nat) : Option (Nat × Nat) := match b with
  | none => some x
  | some y => if fwN A B y.1 y.2 < fwN A B x.1 x.2 then some x else some y
end PH
namespace PH
open PySem PySem.Spec PyProof.Rows L2 VL PF WY
variable {F : Nat → List PV → R PV}
end PH
namespace VL
open PySem PySem.Spec PyProof.Rows L2
end VL
namespace PH
open PySem PySem.Spec PyProof.Rows L2 VL PF WY
variable {F : Nat → List PV → R PV}
/-! ### papers of windows -/
end PH
namespace VL
def zipK : PV → PV → R (List PV)
  | .lst xs, .lst ys => .ok (zipP xs ys)
  | _, _ => .stuck
@[simp] theorem zipK_l (xs ys) : zipK (.lst xs) (.lst ys) = .ok (zipP xs ys) := rfl
@[simp] theorem iZipP_S (a b : Ex) (ρ : Ev) : iZipP a b ρ = (a ρ).bind fun x => (b ρ).bind fun y => zipK x y := by unfold iZipP; congr <;> (funext x; congr <;> (funext y; cases x <;> cases y <;> rfl))
end VL
namespace PH
open PySem PySem.Spec PyProof.Rows L2 VL PF WY
variable {F : Nat → List PV → R PV}
/-! ### lights side by side -/
abbrev Lt := List Ph × Int
structure GLt (l : Lt) : Prop where
  g : GL l.1
  l60 : l.1.length ≤ 60
  w : wh l.1 ≤ 1000
/-- the colour of a light at a time -/
def colL (l : Lt) (t : Int) : Str := cy (ticks l.1) (t - l.2)
/-! ### periods -/
end PH
namespace VL
theorem forL_inv {β : Type} {t : Tg} {s : Env → Out} {enc : β → PV} (R : Nat → Env → Prop) (Q : Out → Prop) {xs : List β} {r0 : Env} (h0 : R 0 r0)
    (turn : ∀ (i : Nat) (x : β) (r : Env), xs[i]? = some x → R i r → ∃ as, t (enc x) = some as ∧ ((∃ v, s (setS as r) = .ret v ∧ Q (.ret v)) ∨ (∃ r', (s (setS as r) = .next r' ∨ s (setS as r) = .cont r') ∧ R (i + 1) r'))) :
    (∃ v, forL t s (xs.map enc) r0 = .ret v ∧ Q (.ret v)) ∨ ∃ r', forL t s (xs.map enc) r0 = .next r' ∧ R xs.length r' := by
  refine forL_by (Q := fun o => (∃ v, o = .ret v ∧ Q (.ret v)) ∨ ∃ r', o = .next r' ∧ R xs.length r') (fun i r => R i r) h0 (fun i v r hv hi => ?_) (fun r hr => ?_)
  · obtain ⟨x, hx, rfl⟩ := PH.map_get hv
    obtain ⟨as, e1, h⟩ := turn i x r hx hi
    refine ⟨as, e1, ?_⟩
    rcases h with ⟨v, e, q⟩ | ⟨r', e, h⟩
    · exact .inr (.inr (.inl ⟨v, e, .inl ⟨v, rfl, q⟩⟩))
    · exact .inl ⟨r', e, h⟩
  · rw [List.length_map] at hr
    exact .inr ⟨r, rfl, hr⟩
end VL
namespace PH
open PySem PySem.Spec PyProof.Rows L2 VL PF WY
variable {F : Nat → List PV → R PV}
theorem GLt.pos {l : Lt} (g : GLt l) : Pos l.1 := g.g.pos
theorem GLt.tl {l : Lt} (g : GLt l) : ((ticks l.1).length : Int) = wh l.1 := ticks_len g.pos
/-! ### lcm -/
end PH
namespace PH
open PySem PySem.Spec PyProof.Rows L2 VL PF WY
variable {F : Nat → List PV → R PV}
end PH
namespace PH
open PySem PySem.Spec PyProof.Rows L2 VL PF WY
variable {F : Nat → List PV → R PV}
/-! ### the least shift -/
/-- a character, maybe with ends of one colour -/
inductive Loose : List Ph → Prop
  | gl {ps : List Ph} (g : GL ps) : Loose ps
  | ends {p q : Ph} {mid : List Ph} (hm : mid ≠ []) (e : p.1 = q.1) (adj : Adj (p :: (mid ++ [q]))) (ok : ∀ x ∈ p :: (mid ++ [q]), isPh x = true) (s : p.2 + q.2 ≤ 6000) : Loose (p :: (mid ++ [q]))
theorem Loose.ne {ps : List Ph} (h : Loose ps) : ps ≠ [] := by
  cases h with
  | gl g => exact g.ne
  | ends => simp
theorem Loose.ok {ps : List Ph} (h : Loose ps) : ∀ x ∈ ps, isPh x = true := by
  cases h with
  | gl g => exact g.ok
  | ends _ _ _ ok => exact ok
theorem Loose.adj {ps : List Ph} (h : Loose ps) : Adj ps := by
  cases h with
  | gl g => exact g.adj
  | ends _ _ a _ => exact a
theorem Loose.pos {ps : List Ph} (h : Loose ps) : Pos ps := fun p hp => (isPh_pos (h.ok p hp)).1
end PH
namespace PH
open PySem PySem.Spec PyProof.Rows L2 VL PF WY
variable {F : Nat → List PV → R PV}
end PH
namespace PH
open PySem PySem.Spec PyProof.Rows L2 VL PF WY
variable {F : Nat → List PV → R PV}
/-! ### rows begun elsewhere, their least periods -/
end PH
namespace PH
open PySem PySem.Spec PyProof.Rows L2 VL PF WY
/-! ### turns, and the least of them -/
def turnL (S : List Ph) (a : Nat) : List Ph := S.drop a ++ S.take a
structure GS (S : List Ph) : Prop where
  g : GL S
  two : 1 < S.length
theorem turn_mem {S : List Ph} {a : Nat} {p : Ph} : p ∈ turnL S a → p ∈ S := by
  unfold turnL
  intro hp
  rcases List.mem_append.mp hp with h | h
  · exact List.mem_of_mem_drop h
  · exact List.mem_of_mem_take h
/-! order -/
abbrev Cd := List (Int × Int)
def colIx (c : Str) : Int := (COL.findIdx fun x => x == c : Nat)
def codeP (p : Ph) : Int × Int := (colIx p.1, p.2)
def code (ps : List Ph) : Cd := ps.map codeP
theorem GS.col {S : List Ph} (h : GS S) (a : Nat) : ∀ p ∈ turnL S a, p.1 ∈ COL := fun p hp => (isPh_pos (h.g.ok p (turn_mem hp))).2.2
end PH
namespace PH
open PySem PySem.Spec PyProof.Rows L2 VL PF WY
variable {F : Nat → List PV → R PV}
/-! ### the order of data -/
/-! ### the walks -/
end PH
namespace PH
open PySem PySem.Spec PyProof.Rows L2 VL PF WY
variable {F : Nat → List PV → R PV}
/-! ### _law_shift -/
/-! ### _law_turn -/
end PH
namespace PH
open PySem PySem.Spec PyProof.Rows L2 VL PF WY
variable {F : Nat → List PV → R PV}
/-! ### parts of a period -/
def isD (p : Ph) : Bool := decide (p.1 = "dark")
def dks (ps : List Ph) : List Int := (ps.filter isD).map (·.2)
/-! the colours that are shown -/
/-! the times of the dark phases -/
end PH
namespace PH
open PySem PySem.Spec PyProof.Rows L2 VL PF WY
variable {F : Nat → List PV → R PV}
/-! ### bright stretches -/
def br (p : Ph) : Bool := !isD p
def runsL : Bool → List Ph → List (List Ph)
  | _, [] => []
  | pd, p :: r => (if (br p && pd) = true then [(p :: r).takeWhile br] else []) ++ runsL (isD p) r
/-- where a bright stretch begins, going round -/
def begC (ps : List Ph) (k : Nat) : Bool := br (ph ps k) && isD (ph ps (if k = 0 then ps.length - 1 else k - 1))
def begins (ps : List Ph) : List Nat := (List.range ps.length).filter (begC ps)
/-- the first beginning -/
structure Fst (ps : List Ph) (b : Nat) : Prop where
  lt : b < ps.length
  at_ : begC ps b = true
  fst : ∀ k, k < b → begC ps k = false
theorem fst_of {ps : List Ph} (h : begins ps ≠ []) : ∃ b r, begins ps = b :: r ∧ Fst ps b := by
  unfold begins at h ⊢
  cases e : (List.range ps.length).find? (begC ps) with
  | none =>
    exfalso
    apply h
    rw [List.filter_eq_nil_iff]
    exact List.find?_eq_none.mp e
  | some b =>
    rw [List.find?_range_eq_some] at e
    obtain ⟨e1, e2, e3⟩ := e
    have e2 := List.mem_range.mp e2
    have f : Fst ps b := ⟨e2, e1, fun k hk => by simpa using e3 k hk⟩
    have hd : ((List.range ps.length).filter (begC ps)).head? = some b := by
      rw [List.head?_filter]
      rw [List.find?_range_eq_some]
      exact ⟨e1, List.mem_range.mpr e2, e3⟩
    cases el : (List.range ps.length).filter (begC ps) with
    | nil => rw [el] at hd; cases hd
    | cons c r => rw [el] at hd; cases hd; exact ⟨b, r, rfl, f⟩
end PH
namespace PH
open PySem PySem.Spec PyProof.Rows L2 VL PF WY
variable {F : Nat → List PV → R PV}
theorem dks_dark {ps : List Ph} : dks ps = [] ↔ ("dark" : Str) ∉ ps.map (·.1) := by
  unfold dks
  rw [List.map_eq_nil_iff, List.filter_eq_nil_iff]
  constructor
  · intro h hm
    obtain ⟨p, hp, e⟩ := List.mem_map.mp hm
    exact h p hp (by simp [isD, e])
  · intro h p hp hd
    exact h (List.mem_map.mpr ⟨p, hp, by simpa [isD] using hd⟩)
end PH
namespace PH
open PySem PySem.Spec PyProof.Rows L2 VL PF WY
variable {F : Nat → List PV → R PV}
end PH
namespace PH
open PySem PySem.Spec PyProof.Rows L2 VL PF WY
variable {F : Nat → List PV → R PV}
/-! ### the kinds -/
structure Ns (b : List Int) : Prop where
  ne : b ≠ []
  len : b.length ≤ 60
  bd : ∀ x ∈ b, 1 ≤ x ∧ x ≤ 100000
end PH
namespace PH
open PySem PySem.Spec PyProof.Rows L2 VL PF WY
variable {F : Nat → List PV → R PV}
theorem dark_at {ps : List Ph} (h : dks ps ≠ []) : ∃ i, i < ps.length ∧ isD (ph ps i) = true := by
  have nd : ("dark" : Str) ∈ ps.map (·.1) := Classical.byContradiction fun z => h (dks_dark.mpr z)
  obtain ⟨p, hp, e⟩ := List.mem_map.mp nd
  obtain ⟨i, hi, e2⟩ := List.getElem_of_mem hp
  refine ⟨i, hi, ?_⟩
  unfold ph
  rw [List.getD_eq_getElem?_getD, List.getElem?_eq_getElem hi, e2]
  simp [isD, e]
structure Two (ps : List Ph) : Prop where
  g : GL ps
  two : 1 < ps.length
  dk : dks ps ≠ []
  l60 : ps.length ≤ 60
  w : wh ps ≤ 100000
theorem Two.fst {ps : List Ph} (h : Two ps) : ∃ b r, begins ps = b :: r ∧ Fst ps b := by
  apply fst_of
  obtain ⟨i, hi, hd⟩ := dark_at h.dk
  have two := h.two
  have key : ∃ k, k < ps.length ∧ begC ps k = true := by
    by_cases c : i + 1 < ps.length
    · refine ⟨i + 1, c, ?_⟩
      unfold begC br
      rw [if_neg (by omega), Nat.add_sub_cancel, hd]
      have := adj_at h.g.adj i c
      simp only [isD, decide_eq_true_eq] at hd
      rw [hd] at this
      simp [isD, Ne.symm this]
    · have ei : i = ps.length - 1 := by omega
      refine ⟨0, by omega, ?_⟩
      unfold begC br
      rw [if_pos rfl, ← ei, hd]
      have := (good_iff.mpr h.g).ends two
      rw [← ei] at this
      simp only [isD, decide_eq_true_eq] at hd
      rw [hd] at this
      simp [isD, this]
  obtain ⟨k, hk, hb⟩ := key
  intro z
  have : k ∈ begins ps := List.mem_filter.mpr ⟨List.mem_range.mpr hk, hb⟩
  rw [z] at this
  simp at this
end PH
namespace PH
open PySem PySem.Spec PyProof.Rows L2 VL PF WY
variable {F : Nat → List PV → R PV}
/-! _law_time -/
end PH
namespace PH
open PySem PySem.Spec PyProof.Rows L2 VL PF WY
variable {F : Nat → List PV → R PV}
end PH
namespace PH
open PySem PySem.Spec PyProof.Rows L2 VL PF WY
variable {F : Nat → List PV → R PV}
/-! ### groups -/
/-! the law's own -/
end PH
namespace PH
open PySem PySem.Spec PyProof.Rows L2 VL PF WY
/-! ### letters -/
def codesL : List Str := [".-", "-...", "-.-.", "-..", ".", "..-.", "--.", "....", "..", ".---", "-.-", ".-..", "--", "-.", "---", ".--.", "--.-", ".-.", "...", "-", "..-", "...-", ".--", "-..-", "-.--", "--.."]
def mc (p : Nat) : Str := codesL.getD p ""
def sgn (c : Nat) : Str := ⟨#[c]⟩
theorem sgn_inj {a b : Nat} : sgn a = sgn b ↔ a = b := by
  unfold sgn
  constructor
  · intro h
    have := congrArg Str.cps h
    simpa using this
  · rintro rfl; rfl
/-! ### times -/
def tcd (c : Nat) : Int := if c = 46 then 5 else 15
def tl (p : Nat) : List Int := (mc p).cps.toList.map tcd
def sepA (s : Int) (acc r : List Int) : List Int := (if acc = [] then [] else acc ++ [s]) ++ r
def ispF (acc : List Int) (t : Int) : List Int := sepA 5 acc [t]
def isp (l : List Int) : List Int := l.foldl ispF []
def tmsF (acc : List Int) (l : List Int) : List Int := sepA 15 acc (isp l)
def tms (ls : List (List Int)) : List Int := ls.foldl tmsF []
abbrev dk (t : Int) : Ph := ("dark", t)
/-- an odd number of times -/
def Odd (a : List Int) : Prop := a.length % 2 = 1
theorem Odd.ne {a : List Int} (h : Odd a) : a ≠ [] := fun z => by rw [z] at h; simp [Odd] at h
end PH
namespace PH
open PySem PySem.Spec PyProof.Rows L2 VL PF WY
/-! ### a word is read -/
def cat (a b : Str) : Str := ⟨a.cps ++ b.cps⟩
theorem cat_app (a b : Str) : a ++ b = cat a b := by
  show Str.append a b = _
  unfold Str.append cat
  rfl
def badW (p : Ph) : Prop := ¬ (p.1 = "white" ∧ (p.2 = 5 ∨ p.2 = 15)) ∧ ¬ (p.1 = "dark" ∧ (p.2 = 15 ∨ p.2 = 35)) ∧ (p.1 ≠ "dark" ∨ p.2 ≠ 5)
/-! ### which phases stand in a word -/
/-! ### turned so that a sole phase stands last -/
end PH
namespace PH
open PySem PySem.Spec PyProof.Rows L2 VL PF WY
variable {F : Nat → List PV → R PV}
/-! ### texts as values -/
def tx (zs : List Nat) : Str := ⟨zs.toArray⟩
theorem tx_len (zs : List Nat) : (tx zs).length = zs.length := by unfold tx; simp [Str.length]
theorem it_tx (zs : List Nat) : itemsP (.str (tx zs)) = .ok (zs.map fun c => .str (sgn c)) := by
  show R.ok (signsP (tx zs)) = _
  unfold signsP tx sgn
  simp
end PH
namespace PH
open PySem PySem.Spec PyProof.Rows L2 VL PF WY
variable {F : Nat → List PV → R PV}
end PH
namespace PH
open PySem PySem.Spec PyProof.Rows L2 VL PF WY
variable {F : Nat → List PV → R PV}
end PH
namespace VL
open PySem PySem.Spec PyProof.Rows L2
/-! simp rules for own dicts and dicts asked -/
variable {r : Env}
def onNK (bs : List Bool) (r : Env) (k : PV → Env → Out) : R PV → Out
  | .ok v => k v (settle bs v.noi r)
  | .exc c fs => .exc c fs (fr bs r)
  | .stuck => .stuck
@[simp] theorem onNK_o (bs r k v) : onNK bs r k (.ok v) = k v (settle bs v.noi r) := rfl
@[simp] theorem onNK_e (bs r k c fs) : onNK bs r k (.exc c fs) = .exc c fs (fr bs r) := rfl
@[simp] theorem sOm_S (i bs f) : sOm i bs f r = onNK bs r (fun v ρ' => .next (ρ'.set i (.om none v))) (f (vw bs r)) := by
  unfold sOm onN onNK
  cases f (vw bs r) <;> rfl
@[simp] theorem eDct0_S (ρ : Ev) : eDct0 ρ = .ok (.dct []) := rfl
@[simp] theorem eDisp_S (ps) (ρ : Ev) : eDisp ps ρ = (pairsE ps ρ).bind fun kvs => .ok (.dct (mergeP [] kvs)) := rfl
@[simp] theorem pairsE_0 (ρ : Ev) : pairsE [] ρ = .ok [] := rfl
@[simp] theorem pairsE_c (a b r) (ρ : Ev) : pairsE ((a, b) :: r) ρ = (a ρ).bind fun x => (b ρ).bind fun y => (opt (keyP x)).bind fun k => (pairsE r ρ).bind fun t => .ok ((k, y) :: t) := rfl
@[simp] theorem keyP_i (i) : keyP (.int i) = some (.inl i) := rfl
@[simp] theorem keyP_s (s) : keyP (.str s) = some (.inr s) := rfl
@[simp] theorem noi_d (kvs) : PV.noi (.dct kvs) = PV.nols (kvs.map (·.2)) := rfl
@[simp] theorem getDc_0 (t kvs) : getDc (.om t (.dct kvs) :: r) 0 = some (t, kvs) := rfl
@[simp] theorem getDc_c (s : Sl) (n : Nat) : getDc (s :: r) (n + 1) = getDc r n := by unfold getDc; rw [List.getElem?_cons_succ]
def dcK {α : Type} (k : α → Out) : Option α → Out
  | some x => k x
  | none => .stuck
@[simp] theorem dcK_s {α : Type} (k : α → Out) (x) : dcK k (some x) = k x := rfl
def putDK (i : Nat) (v : PV) (ρ2 : Env) (p : Option Nat × List (Key × PV)) (key : Key) : Out := if p.2.length < 16777216 then .next (ρ2.set i (.om p.1 (.dct (putP p.2 key v)))) else .stuck
@[simp] theorem putDK_S (i v ρ2 t kvs key) : putDK i v ρ2 (t, kvs) key = if kvs.length < 16777216 then .next (ρ2.set i (.om t (.dct (putP kvs key v)))) else .stuck := rfl
@[simp] theorem sPutD_S (i bs fv fi) : sPutD i bs fv fi r = onE PV.nol fv bs r fun v ρ1 => dcK (fun _ => onE PV.nol fi bs ρ1 fun k ρ2 => dcK (fun p => dcK (fun key => putDK i v ρ2 p key) (keyP k)) (getDc ρ2 i)) (getDc ρ1 i) := by
  unfold sPutD
  refine congrArg (fun k => onE PV.nol fv bs r k) ?_
  funext v ρ1
  cases getDc ρ1 i with
  | none => rfl
  | some _ =>
    rw [dcK_s]
    refine congrArg (fun k => onE PV.nol fi bs ρ1 k) ?_
    funext k ρ2
    cases getDc ρ2 i with
    | none => cases keyP k <;> rfl
    | some p =>
      obtain ⟨t, kvs⟩ := p
      cases keyP k with
      | none => rfl
      | some key => rw [dcK_s, dcK_s, putDK_S, ← sizeLine_eq]
@[simp] theorem ixDP_d (kvs y) : ixDP (.dct kvs) y = (keyP y).bind (lkP kvs) := rfl
@[simp] theorem ixDP_l (kvs y) : ixDP (.dlk kvs) y = (keyP y).bind (lkP kvs) := rfl
def splitK : PV → PV → R (List PV) := splitP
@[simp] theorem eSplit_S (f g) (ρ : Ev) : eSplit f g ρ = ((f ρ).bind txtP).bind fun x => (g ρ).bind fun y => splitP x y := rfl
theorem splitP_s (a b : Str) : splitP (.str a) (.str b) = if (b.length == 0) = false ∧ a.length + 2 ≤ sizeLine then .ok ((Txt.split a b).map .str) else .stuck := rfl
@[simp] theorem txtP_s (a) : txtP (.str a) = .ok (.str a) := rfl
end VL
namespace PH
open PySem PySem.Spec PyProof.Rows L2 VL PF WY
variable {F : Nat → List PV → R PV}
/-! ### spelled -/
/-! ### the law's own -/
end PH
namespace PH
open PySem PySem.Spec PyProof.Rows L2 VL PF WY
variable {F : Nat → List PV → R PV}
end PH
namespace PH
open PySem PySem.Spec PyProof.Rows L2 VL PF WY
/-! ### characters of words are good ones -/
end PH
namespace VL
open PySem PySem.Spec PyProof.Rows L2
/-! simp rules for expressions and statements that change own things -/
section
variable {r r1 : Env} {α β : Type}
@[simp] theorem bindF_o (v : α) (r1 : Env) (k : α → Env → FR β) : (FR.ok v r1).bind k = k v r1 := rfl
@[simp] theorem bindF_e (c fs r1) (k : α → Env → FR β) : (FR.exc c fs r1 : FR α).bind k = .exc c fs r1 := rfl
@[simp] theorem bindF_s (k : α → Env → FR β) : (FR.stuck : FR α).bind k = .stuck := rfl
def yEK (nl : α → Bool) (bs : List Bool) (r : Env) : R α → FR α
  | .ok v => .ok v (settle bs (nl v) r)
  | .exc c fs => .exc c fs (fr bs r)
  | .stuck => .stuck
@[simp] theorem yEK_o (nl : α → Bool) (bs r v) : yEK nl bs r (.ok v) = .ok v (settle bs (nl v) r) := rfl
@[simp] theorem yEK_e (nl : α → Bool) (bs r c fs) : yEK nl bs r (.exc c fs) = .exc c fs (fr bs r) := rfl
@[simp] theorem yE_S (nl : α → Bool) (bs) (f : Ev → R α) : yE nl bs f r = yEK nl bs r (f (vw bs r)) := by unfold yE yEK; cases f (vw bs r) <;> rfl
@[simp] theorem fr_nilS : fr [] r = r := by
  induction r with
  | nil => simp
  | cons s r ih => simp [ih]
@[simp] theorem yArgs_0 : yArgs [] r = .ok [] r := rfl
@[simp] theorem yArgs_S (f : Fy) (fs : List Fy) : yArgs (f :: fs) r = (f r).bind fun v r1 => (yArgs fs r1).bind fun vs r2 => .ok (v :: vs) r2 := rfl
@[simp] theorem yArgsO_0 : yArgsO [] r = .ok [] r := rfl
@[simp] theorem yArgsO_n (fs) : yArgsO (none :: fs) r = (yArgsO fs r).bind fun vs r2 => .ok (none :: vs) r2 := rfl
@[simp] theorem yArgsO_c (f : Fy) (fs) : yArgsO (some f :: fs) r = (f r).bind fun v r1 => (yArgsO fs r1).bind fun vs r2 => .ok (some v :: vs) r2 := rfl
@[simp] theorem yTup_S (fs) : yTup fs r = (yArgs fs r).bind fun xs r1 => if xs.length ≤ sizeLine then .ok (.tup xs) r1 else .stuck := rfl
def yopK (r2 : Env) : Option PV → FR PV
  | some w => .ok w r2
  | none => .stuck
@[simp] theorem yopK_s (r2 w) : yopK r2 (some w) = .ok w r2 := rfl
@[simp] theorem yOp_S (g) (f1 f2 : Fy) : yOp g f1 f2 r = (f1 r).bind fun x r1 => (f2 r1).bind fun y r2 => yopK r2 (g x y) := by
  unfold yOp
  congr 1
@[simp] theorem y1_S (g) (f : Fy) : y1 g f r = (f r).bind fun x r1 => yopK r1 (g x) := by
  unfold y1
  congr 1
def onYK (k : α → Env → Out) : FR α → Out
  | .ok v r1 => k v r1
  | .exc c fs r1 => .exc c fs r1
  | .stuck => .stuck
@[simp] theorem onYK_o (k : α → Env → Out) (v r1) : onYK k (.ok v r1) = k v r1 := rfl
@[simp] theorem onYK_e (k : α → Env → Out) (c fs r1) : onYK k (.exc c fs r1) = .exc c fs r1 := rfl
theorem onY_S (f : Env → FR α) (k) : onY f r k = onYK k (f r) := by unfold onY onYK; cases f r <;> rfl
@[simp] theorem sSetY_S (i f) : sSetY i f r = onYK (fun v r1 => .next (r1.set i (.fz v))) (f r) := onY_S _ _
@[simp] theorem sExprY_S (f) : sExprY f r = onYK (fun _ r1 => .next r1) (f r) := onY_S _ _
@[simp] theorem sRetY_S (f) : sRetY f r = onYK (fun v _ => .ret v) (f r) := onY_S _ _
def retMK (v : PV) : Option Sl → Out
  | some (.om (some 0) s) => .ret (.tup [v, s])
  | _ => .stuck
@[simp] theorem retMK_s (v s) : retMK v (some (.om (some 0) s)) = .ret (.tup [v, s]) := rfl
theorem retMK_eq (v : PV) (o : Option Sl) : (match o with | some (.om (some 0) s) => Out.ret (.tup [v, s]) | _ => .stuck) = retMK v o := by
  unfold retMK
  split <;> simp_all
@[simp] theorem sRetM_S (m f) : sRetM m f r = onYK (fun v r1 => retMK v r1[m]?) (f r) := by
  unfold sRetM
  rw [onY_S]
  congr 1
@[simp] theorem getL_0 (t xs) : getL (.om t (.lst xs) :: r) 0 = some xs := rfl
@[simp] theorem getL_o (xs) : getL (.own xs :: r) 0 = some xs := rfl
@[simp] theorem getL_S (s : Sl) (n : Nat) : getL (s :: r) (n + 1) = getL r n := by unfold getL ownAt; rw [List.getElem?_cons_succ]
@[simp] theorem putL_0 (t x ys) : putL (.om t x :: r) 0 ys = .om t (.lst ys) :: r := rfl
@[simp] theorem putL_o (x ys) : putL (.own x :: r) 0 ys = .own ys :: r := rfl
@[simp] theorem putL_S (s : Sl) (n : Nat) (ys) : putL (s :: r) (n + 1) ys = s :: putL r n ys := by
  unfold putL
  rw [List.getElem?_cons_succ]
  cases r[n]? with
  | none => rfl
  | some x => cases x <;> rfl
@[simp] theorem sMetY_S (i g fs) : sMetY i g fs r = ownK (fun _ => onYK (fun vs r1 => ownK (fun xs => ownK (fun ys => .next (putL r1 i ys)) (g xs vs)) (getL r1 i)) (yArgs fs r)) (getL r i) := by
  unfold sMetY
  cases getL r i with
  | none => rfl
  | some xs0 =>
    show onY _ _ _ = onYK _ _
    rw [onY_S]
    congr 1
    funext vs r1
    cases getL r1 i with
    | none => rfl
    | some xs =>
      show (match g xs vs with | some ys => Out.next (putL r1 i ys) | none => .stuck) = ownK _ (g xs vs)
      cases g xs vs <;> rfl
@[simp] theorem sOwnY_S (i fs) : sOwnY i fs r = onYK (fun xs r1 => if xs.length ≤ sizeLine then .next (r1.set i (.own xs)) else .stuck) (yArgs fs r) := onY_S _ _
@[simp] theorem ownAt_omS (t x) : ownAt (.om t x :: r) 0 = some (t, x) := rfl
@[simp] theorem ownAt_ownS (x) : ownAt (.own x :: r) 0 = some (none, .lst x) := rfl
@[simp] theorem ownAt_consS (s : Sl) (n : Nat) : ownAt (s :: r) (n + 1) = ownAt r n := by unfold ownAt; rw [List.getElem?_cons_succ]
@[simp] theorem putOw_0 (x ys) : putOw (.own x :: r) 0 (.lst ys) = some (.own ys :: r) := rfl
@[simp] theorem putOw_om (t x s') : putOw (.om t x :: r) 0 s' = some (.om t s' :: r) := rfl
@[simp] theorem putOw_S (s : Sl) (n : Nat) (s') : putOw (s :: r) (n + 1) s' = (putOw r n s').map (s :: ·) := by
  unfold putOw
  rw [List.getElem?_cons_succ]
  cases r[n]? with
  | none => rfl
  | some x => cases x <;> cases s' <;> rfl
@[simp] theorem fillS_0 (s) : fillS [] s = [] := rfl
@[simp] theorem fillS_S (u : Option PV) (us s) : fillS (u :: us) s = u.getD s :: fillS us s := rfl
def yck3 (v : PV) : Option Env → FR PV
  | some r2 => .ok v r2
  | none => .stuck
@[simp] theorem yck3_s (v r2) : yck3 v (some r2) = .ok v r2 := rfl
def yck2 (i : Nat) (r1 : Env) : R PV → FR PV
  | .ok (.tup [v, s']) => yck3 v (putOw r1 i s')
  | .exc c fs => .exc c fs (r1.set i .no)
  | _ => .stuck
@[simp] theorem yck2_o (i r1 v s') : yck2 i r1 (.ok (.tup [v, s'])) = yck3 v (putOw r1 i s') := rfl
@[simp] theorem yck2_e (i r1 c fs) : yck2 i r1 (.exc c fs) = .exc c fs (r1.set i .no) := rfl
def yck1 (pt : List Bool) (g : List PV → R PV) (i : Nat) (us : List (Option PV)) (r1 : Env) : Option (Option Nat × PV) → FR PV
  | some (_, s) => if us.map (·.isNone) = pt then yck2 i r1 (g (fillS us s)) else .stuck
  | none => .stuck
@[simp] theorem yck1_s (pt g i us r1 t s) : yck1 pt g i us r1 (some (t, s)) = if us.map (·.isNone) = pt then yck2 i r1 (g (fillS us s)) else .stuck := rfl
@[simp] theorem yCallK_S (pt g i us) : yCallK pt g i us r = yck1 pt g i us r (ownAt r i) := by
  unfold yCallK yck1
  cases ownAt r i with
  | none => rfl
  | some p =>
    obtain ⟨t, s⟩ := p
    show (if _ then _ else _) = if _ then _ else _
    split
    · unfold yck2 yck3
      cases g (fillS us s) with
      | ok p =>
        cases p with
        | tup xs =>
          match xs with
          | [] => rfl
          | [_] => rfl
          | [v, s'] => rfl
          | _ :: _ :: _ :: _ => rfl
        | _ => rfl
      | exc c fs => rfl
      | stuck => rfl
    · rfl
@[simp] theorem yCallM_S (pt g i fs) : yCallM pt g i fs r = if (ownAt r i).isSome = true then (yArgsO fs r).bind (yCallK pt g i) else .stuck := rfl
@[simp] theorem startM_S (n pt us) : startM n pt us = (us.zip pt).map (fun p => if p.2 = true then .om (some 0) p.1 else .fz p.1) ++ List.replicate (n - us.length) Sl.no := rfl
def outMK : Option Sl → R PV
  | some (.om (some 0) s) => .ok (.tup [.non, s])
  | _ => .stuck
@[simp] theorem outMK_s (s) : outMK (some (.om (some 0) s)) = .ok (.tup [.non, s]) := rfl
@[simp] theorem outM_n (m) : outM m (.next r) = outMK r[m]? := by
  show (match r[m]? with | some (.om (some 0) s) => R.ok (.tup [.non, s]) | _ => .stuck) = outMK r[m]?
  rfl
@[simp] theorem outM_r (m v) : outM m (.ret v) = .ok v := rfl
@[simp] theorem outM_e (m c fs) : outM m (.exc c fs r) = .exc c fs := rfl
end
end VL
namespace PH
open PySem PySem.Spec PyProof.Rows L2 VL PF WY
variable {F : Nat → List PV → R PV}
/-! ### signs -/
theorem sgn_le (a b : Nat) : leP (.str (sgn a)) (.str (sgn b)) = some (.bl (decide (a ≤ b))) := by
  show some (PV.bl (!decide ((sgn b).cps.toList < (sgn a).cps.toList))) = _
  have e : ((sgn b).cps.toList < (sgn a).cps.toList) ↔ b < a := by
    unfold sgn
    show [b] < [a] ↔ b < a
    rw [List.cons_lt_cons_iff]
    simp
  congr 2
  rw [Bool.eq_iff_iff]
  simp [e]
def isLow (c : Nat) : Bool := decide (97 ≤ c) && decide (c ≤ 122)
def isUp (c : Nat) : Bool := decide (65 ≤ c) && decide (c ≤ 90)
def isDig (c : Nat) : Bool := decide (48 ≤ c) && decide (c ≤ 57)
theorem azs : ("a" : Str) = sgn 97 ∧ ("z" : Str) = sgn 122 ∧ ("A" : Str) = sgn 65 ∧ ("Z" : Str) = sgn 90 ∧ ("0" : Str) = sgn 48 ∧ ("9" : Str) = sgn 57 := by decide +kernel
def S_low (g : List PV → R PV) : Prop := ∀ c : Nat, g [.str (sgn c)] = .ok (.bl (isLow c))
def S_dig (g : List PV → R PV) : Prop := ∀ c : Nat, g [.str (sgn c)] = .ok (.bl (isDig c))
theorem sp_low (F : Nat → List PV → R PV) : S_low fun us => outR (b_is_letter F (startE 1 us)) := by
  intro c
  obtain ⟨a1, a2, a3, a4, a5, a6⟩ := azs
  have h1 := sgn_le 97 c
  have h2 := sgn_le c 122
  rw [← a1] at h1
  rw [← a2] at h2
  unfold isLow
  by_cases c1 : 97 ≤ c <;> by_cases c2 : c ≤ 122 <;> simp -implicitDefEqProofs [b_is_letter, h1, h2, c1, c2]
theorem sp_dig (F : Nat → List PV → R PV) : S_dig fun us => outR (b_is_digit F (startE 1 us)) := by
  intro c
  obtain ⟨a1, a2, a3, a4, a5, a6⟩ := azs
  have h1 := sgn_le 48 c
  have h2 := sgn_le c 57
  rw [← a5] at h1
  rw [← a6] at h2
  unfold isDig
  by_cases c1 : 48 ≤ c <;> by_cases c2 : c ≤ 57 <;> simp -implicitDefEqProofs [b_is_digit, h1, h2, c1, c2]
end PH
namespace PH
open PySem PySem.Spec PyProof.Rows L2 VL PF WY
variable {F : Nat → List PV → R PV}
/-! ### lines as lists of signs -/
theorem tx_l (zs : List Nat) : (tx zs).cps.toList = zs := by unfold tx; simp
theorem tx_inj {a b : List Nat} : tx a = tx b ↔ a = b := by
  constructor
  · intro h
    have := congrArg (fun s : Str => s.cps.toList) h
    simpa [tx_l] using this
  · rintro rfl; rfl
theorem sgn_tx (c : Nat) : sgn c = tx [c] := rfl
theorem lenB {zs : List Nat} (h : zs.length ≤ 1000000) : lenP [.str (tx zs)] = some (.int (zs.length : Int)) := by
  show (if (tx zs).length ≤ sizeLine then some (PV.int ((tx zs).length : Int)) else none) = _
  have e := tx_len zs
  rw [if_pos (by rw [e, sizeLine_eq]; omega), e]
theorem ixB {zs : List Nat} (h : zs.length ≤ 1000000) {i : Nat} (hi : i < zs.length) : ixP (.str (tx zs)) (.int (i : Int)) = some (.str (sgn zs[i])) := by
  show (if (tx zs).length ≤ sizeLine then (atI (tx zs).cps.toList (i : Int)).map fun c => PV.str ⟨#[c]⟩ else none) = _
  have e := tx_len zs
  rw [if_pos (by rw [e, sizeLine_eq]; omega), tx_l, atI_nat' hi]
  rfl
theorem slB {zs : List Nat} (h : zs.length ≤ 1000000) (i j : Nat) : slP (.str (tx zs)) (some (i : Int)) (some (j : Int)) = some (.str (tx ((zs.drop i).take (j - i)))) := by
  have e := tx_len zs
  show (if (tx zs).length ≤ sizeLine then some (PV.str (cutS (tx zs) (some (i : Int)) (some (j : Int)))) else none) = _
  rw [if_pos (by rw [e, sizeLine_eq]; omega)]
  unfold cutS
  rw [e, HT.sIx_nat, HT.sIx_nat, tx_l]
  unfold tx
  congr 3
  rcases Nat.le_total i zs.length with h1 | h1
  · rw [Nat.min_eq_left h1]
    rcases Nat.le_total j zs.length with h2 | h2
    · rw [Nat.min_eq_left h2]
    · rw [Nat.min_eq_right h2, List.take_of_length_le (by rw [List.length_drop]; exact Nat.le_refl _), List.take_of_length_le (by rw [List.length_drop]; omega)]
  · rw [Nat.min_eq_right h1, List.drop_of_length_le (Nat.le_refl _), List.drop_of_length_le h1]
    simp
def nRun (p : Nat → Bool) (r : List Nat) : Nat := (r.takeWhile p).length
theorem nRun_nil (p : Nat → Bool) : nRun p [] = 0 := rfl
theorem nRun_pos {p : Nat → Bool} {c : Nat} {r : List Nat} (h : p c = true) : nRun p (c :: r) = nRun p r + 1 := by
  unfold nRun
  rw [List.takeWhile_cons, h]
  rfl
theorem nRun_neg {p : Nat → Bool} {c : Nat} {r : List Nat} (h : p c = false) : nRun p (c :: r) = 0 := by
  unfold nRun
  rw [List.takeWhile_cons, h]
  rfl
theorem nRun_le (p : Nat → Bool) (r : List Nat) : nRun p r ≤ r.length := by
  induction r with
  | nil => exact Nat.le_refl _
  | cons c r ih =>
    cases h : p c with
    | true => rw [nRun_pos h, List.length_cons]; omega
    | false => rw [nRun_neg h]; omega
theorem nRun_all (p : Nat → Bool) (r : List Nat) : ∀ c ∈ r.take (nRun p r), p c = true := by
  induction r with
  | nil => intro c hc; simp at hc
  | cons d r ih =>
    intro c hc
    cases h : p d with
    | true =>
      rw [nRun_pos h, List.take_succ_cons] at hc
      rcases List.mem_cons.mp hc with rfl | hc
      · exact h
      · exact ih c hc
    | false => rw [nRun_neg h] at hc; simp at hc
theorem nRun_app {p : Nat → Bool} {a : List Nat} (b : List Nat) (h : ∀ c ∈ a, p c = true) : nRun p (a ++ b) = a.length + nRun p b := by
  induction a with
  | nil => simp
  | cons d a ih =>
    rw [List.cons_append, nRun_pos (h d List.mem_cons_self), ih fun c hc => h c (List.mem_cons_of_mem _ hc), List.length_cons]
    omega
theorem drop_at {zs : List Nat} {e : Nat} (h : e < zs.length) : zs.drop e = zs[e] :: zs.drop (e + 1) := List.drop_eq_getElem_cons h
/-! runs of signs of a kind -/
def S_run (p : Nat → Bool) (g : List PV → R PV) : Prop := ∀ (zs : List Nat) (a : Nat), zs.length ≤ 1000000 → a ≤ zs.length → g [.str (tx zs), .int (a : Int)] = .ok (.int ((a + nRun p (zs.drop a) : Nat) : Int))
theorem run_while {p : Nat → Bool} {c : Ev → R Bool} {s : VL.Env → Out} {zs : List Nat} {x0 : Sl}
    (ht : ∀ e, e < zs.length → c (vw [] [.fz (.str (tx zs)), x0, .fz (.int (e : Int))]) = .ok (p (zs.getD e 0)))
    (he : c (vw [] [.fz (.str (tx zs)), x0, .fz (.int (zs.length : Int))]) = .ok false)
    (hs : ∀ e : Nat, s [.fz (.str (tx zs)), x0, .fz (.int (e : Int))] = .next [.fz (.str (tx zs)), x0, .fz (.int ((e + 1 : Nat) : Int))])
    {a : Nat} (ha : a ≤ zs.length) : sWhile [] c s [.fz (.str (tx zs)), x0, .fz (.int (a : Int))] = .next [.fz (.str (tx zs)), x0, .fz (.int ((a + nRun p (zs.drop a) : Nat) : Int))] := by
  refine sWhile_by (Q := fun o => o = .next [.fz (.str (tx zs)), x0, .fz (.int ((a + nRun p (zs.drop a) : Nat) : Int))])
    (fun m r => ∃ e : Nat, r = [.fz (.str (tx zs)), x0, .fz (.int (e : Int))] ∧ e ≤ zs.length ∧ a + nRun p (zs.drop a) = e + nRun p (zs.drop e) ∧ m = zs.length - e) ?_ (m := zs.length - a) ⟨a, rfl, ha, rfl, rfl⟩
  rintro m r ⟨e, rfl, h1, h2, rfl⟩
  rcases Nat.lt_or_ge e zs.length with h | h
  · have t := ht e h
    have eg : zs.getD e 0 = zs[e] := by simp [List.getD_eq_getElem?_getD, h]
    rw [eg] at t
    cases hp : p zs[e] with
    | true =>
      rw [hp] at t
      refine .inr ⟨t, .inl ⟨zs.length - (e + 1), _, by omega, .inl (hs e), e + 1, rfl, by omega, ?_, rfl⟩⟩
      rw [h2, drop_at h, nRun_pos hp]
      omega
    | false =>
      rw [hp] at t
      refine .inl ⟨t, ?_⟩
      rw [h2, drop_at h, nRun_neg hp]
      rfl
  · have hz : e = zs.length := by omega
    subst hz
    refine .inl ⟨he, ?_⟩
    rw [h2, List.drop_of_length_le (Nat.le_refl _), nRun_nil]
    rfl
theorem getD_at {zs : List Nat} {e : Nat} (h : e < zs.length) : zs.getD e 0 = zs[e] := by simp [List.getD_eq_getElem?_getD, h]
theorem sp_rund (h357 : S_dig (F 357)) : S_run isDig fun us => outR (b_run_of_digits F (startE 3 us)) := by
  intro zs a hz ha
  have w := run_while (p := isDig) (c := b_run_of_digits_0 F) (s := b_run_of_digits_1 F) (zs := zs) (x0 := .fz (.int (a : Int))) (fun e he => by
    have l := lenB hz
    have i := ixB hz he
    have d := h357 zs[e]
    rw [getD_at he]
    simp -implicitDefEqProofs [b_run_of_digits_0, l, i, d, he]) (by
    have l := lenB hz
    simp -implicitDefEqProofs [b_run_of_digits_0, l]) (fun e => by simp -implicitDefEqProofs [b_run_of_digits_1]) ha
  simp -implicitDefEqProofs [b_run_of_digits, w]
def isWd (c : Nat) : Bool := isLow c || isDig c
theorem sp_runl (h363 : S_low (F 363)) (h357 : S_dig (F 357)) : S_run isWd fun us => outR (b_run_of_letters F (startE 3 us)) := by
  intro zs a hz ha
  have w := run_while (p := isWd) (c := b_run_of_letters_0 F) (s := b_run_of_letters_1 F) (zs := zs) (x0 := .fz (.int (a : Int))) (fun e he => by
    have l := lenB hz
    have i := ixB hz he
    have d := h357 zs[e]
    have d2 := h363 zs[e]
    rw [getD_at he]
    unfold isWd
    cases hl : isLow zs[e] <;> (rw [hl] at d2; simp -implicitDefEqProofs [b_run_of_letters_0, l, i, d, d2, he])) (by
    have l := lenB hz
    simp -implicitDefEqProofs [b_run_of_letters_0, l]) (fun e => by simp -implicitDefEqProofs [b_run_of_letters_1]) ha
  simp -implicitDefEqProofs [b_run_of_letters, w]
def isAny (c : Nat) : Bool := isLow c || isUp c
def S_any (g : List PV → R PV) : Prop := ∀ c : Nat, g [.str (sgn c)] = .ok (.bl (isAny c))
theorem sp_any (h363 : S_low (F 363)) : S_any fun us => outR (b_is_any_letter F (startE 1 us)) := by
  intro c
  obtain ⟨a1, a2, a3, a4, a5, a6⟩ := azs
  have h1 := sgn_le 65 c
  have h2 := sgn_le c 90
  have d := h363 c
  rw [← a3] at h1
  rw [← a4] at h2
  unfold isAny isUp
  by_cases c1 : 65 ≤ c <;> by_cases c2 : c ≤ 90 <;> cases hl : isLow c <;> (rw [hl] at d; simp -implicitDefEqProofs [b_is_any_letter, h1, h2, c1, c2, d])
def letAt (r : List Nat) : Bool := match r with | [] => false | c :: _ => isAny c
def S_lat (g : List PV → R PV) : Prop := ∀ (zs : List Nat) (a : Nat), zs.length ≤ 1000000 → a ≤ zs.length → g [.str (tx zs), .int (a : Int)] = .ok (.bl (letAt (zs.drop a)))
theorem sp_lat (h347 : S_any (F 347)) : S_lat fun us => outR (b_is_letter_at F (startE 2 us)) := by
  intro zs a hz ha
  have l := lenB hz
  rcases Nat.lt_or_ge a zs.length with h | h
  · have i := ixB hz h
    have d := h347 zs[a]
    have e : letAt (zs.drop a) = isAny zs[a] := by rw [drop_at h]; rfl
    rw [e]
    simp -implicitDefEqProofs [b_is_letter_at, l, i, d, h]
  · have e : a = zs.length := by omega
    subst e
    rw [List.drop_of_length_le (Nat.le_refl _)]
    simp -implicitDefEqProofs [b_is_letter_at, l, letAt]
/-! numbers -/
def dval (ds : List Nat) : Nat := NumText.digitsVal ds
def numV (ds : List Nat) : Option Nat := if 7 < ds.length ∨ (1 < ds.length ∧ ds.head? = some 48) then none else if dval ds ≤ 1000000 then some (dval ds) else none
def oInt : Option Nat → PV
  | none => .non
  | some v => .int (v : Int)
theorem int_tx {ds : List Nat} (h : ∀ c ∈ ds, isDig c = true) (hn : ds ≠ []) (hl : ds.length ≤ 640) : intTP [.str (tx ds)] = some (.int (dval ds : Int)) := by
  have ha : NumText.AllDigits (tx ds).cps.toList := by
    rw [tx_l]
    intro c hc
    have := h c hc
    unfold isDig at this
    simp only [Bool.and_eq_true, decide_eq_true_eq] at this
    exact this
  have e := intText_digits (x := tx ds) ha (by rw [tx_l]; exact hn) (by rw [tx_len]; omega)
  show (if (tx ds).length ≤ 640 then (PySem.intText? (tx ds)).map PV.int else none) = _
  rw [if_pos (by rw [tx_len]; exact hl), e, tx_l]
  rfl
def S_nod (g : List PV → R PV) : Prop := ∀ ds : List Nat, (∀ c ∈ ds, isDig c = true) → ds ≠ [] → ds.length ≤ 1000000 → g [.str (tx ds)] = .ok (oInt (numV ds))
theorem lngs : (c_LONGEST_NUMBER : PV) = .int 7 ∧ (c_MOST_NUMBER : PV) = .int 1000000 := ⟨rfl, rfl⟩
theorem sp_nod (F : Nat → List PV → R PV) : S_nod fun us => outR (b_number_of_digits F (startE 2 us)) := by
  intro ds hd hn hl
  have l := lenB hl
  obtain ⟨g1, g2⟩ := lngs
  have hp := List.length_pos_iff.mpr hn
  have i := ixB hl hp
  have z : ("0" : Str) = sgn 48 := azs.2.2.2.2.1
  have e0 : (ds.head? = some 48) ↔ ds[0] = 48 := by
    rw [List.head?_eq_getElem?, List.getElem?_eq_getElem hp]
    simp
  have e1 : (sgn ds[0] = ("0" : Str)) ↔ ds[0] = 48 := by rw [z]; exact sgn_inj
  rw [show ((0 : Nat) : Int) = 0 from rfl] at i
  by_cases c7 : 7 < ds.length
  · have en : numV ds = none := by unfold numV; rw [if_pos (.inl c7)]
    rw [en]
    simp -implicitDefEqProofs [b_number_of_digits, l, g1, show (7 : Int) < (ds.length : Int) from by omega]
    rfl
  · have c7' : ¬ (7 : Int) < (ds.length : Int) := by omega
    by_cases c1 : 1 < ds.length ∧ ds[0] = 48
    · have en : numV ds = none := by unfold numV; rw [if_pos (.inr ⟨c1.1, e0.mpr c1.2⟩)]
      have c1' : (1 : Int) < (ds.length : Int) := by omega
      have z2 := e1.mpr c1.2
      rw [en]
      simp -implicitDefEqProofs [b_number_of_digits, l, g1, c7', c1', i, z2]
      rfl
    · have en : numV ds = if dval ds ≤ 1000000 then some (dval ds) else none := by
        unfold numV
        rw [if_neg]
        rintro (h | h)
        · exact c7 h
        · exact c1 ⟨h.1, e0.mp h.2⟩
      have iv := int_tx hd hn (by omega)
      rw [en]
      by_cases c2 : 1 < ds.length
      · have c2' : (1 : Int) < (ds.length : Int) := by omega
        have z2 : ¬ sgn ds[0] = ("0" : Str) := fun h => c1 ⟨c2, e1.mp h⟩
        by_cases c3 : dval ds ≤ 1000000
        · have c3' : (dval ds : Int) ≤ 1000000 := by omega
          rw [if_pos c3]
          simp -implicitDefEqProofs [b_number_of_digits, l, g1, g2, c7', c2', i, z2, iv, c3']
          rfl
        · have c3' : ¬ (dval ds : Int) ≤ 1000000 := by omega
          rw [if_neg c3]
          simp -implicitDefEqProofs [b_number_of_digits, l, g1, g2, c7', c2', i, z2, iv, c3']
          rfl
      · have c2' : ¬ (1 : Int) < (ds.length : Int) := by omega
        by_cases c3 : dval ds ≤ 1000000
        · have c3' : (dval ds : Int) ≤ 1000000 := by omega
          rw [if_pos c3]
          simp -implicitDefEqProofs [b_number_of_digits, l, g1, g2, c7', c2', iv, c3']
          rfl
        · have c3' : ¬ (dval ds : Int) ≤ 1000000 := by omega
          rw [if_neg c3]
          simp -implicitDefEqProofs [b_number_of_digits, l, g1, g2, c7', c2', iv, c3']
          rfl
end PH
namespace PH
open PySem PySem.Spec PyProof.Rows L2 VL PF WY
variable {F : Nat → List PV → R PV}
/-! ### what stands at a place of a line -/
abbrev Tk := Str × PV × Nat
def tokNum (r : List Nat) : Option Tk :=
  match numV (r.take (nRun isDig r)) with
  | none => none
  | some v => if letAt (r.drop (nRun isDig r)) = true then none
    else if (r.drop (nRun isDig r)).head? ≠ some 46 ∨ nRun isDig (r.drop (nRun isDig r + 1)) = 0 then some ("number", .int (v : Int), nRun isDig r)
    else if nRun isDig (r.drop (nRun isDig r + 1)) ≠ 1 ∨ letAt (r.drop (nRun isDig r + 2)) = true then none
    else some ("seconds", .int (v * 10 + (dval [r.getD (nRun isDig r + 1) 0] : Nat) : Int), nRun isDig r + 2)
def notQ (c : Nat) : Bool := !decide (c = 34)
def tokQ (r : List Nat) : Option Tk := if nRun notQ r < r.length then some ("quoted", .str (tx (r.take (nRun notQ r))), nRun notQ r + 2) else none
def sgnS : List Nat := [123, 125, 40, 41, 59, 44, 58, 45]
def tokR : List Nat → Option Tk
  | [] => none
  | c :: r => if isDig c = true then tokNum (c :: r) else if isLow c = true then some ("word", .str (tx ((c :: r).take (nRun isWd (c :: r)))), nRun isWd (c :: r))
    else if c = 34 then tokQ r else if c ∈ sgnS then some ("sign", .str (sgn c), 1) else none
theorem tokR_c (c : Nat) (r : List Nat) : tokR (c :: r) = if isDig c = true then tokNum (c :: r) else if isLow c = true then some (("word" : Str), PV.str (tx ((c :: r).take (nRun isWd (c :: r)))), nRun isWd (c :: r))
    else if c = 34 then tokQ r else if c ∈ sgnS then some (("sign" : Str), PV.str (sgn c), 1) else none := rfl
def oTok (a : Nat) : Option Tk → PV
  | none => .non
  | some (k, v, m) => .tup [.str k, v, .int ((a + m : Nat) : Int)]
theorem points : (c_POINT : PV) = .str (sgn 46) ∧ (c_QUOTE : PV) = .str (sgn 34) ∧ (c_SIGNS_v1 : PV) = .str (tx sgnS) := by
  have h : ("." : Str) = sgn 46 ∧ ("\"" : Str) = sgn 34 ∧ ("{}();,:-" : Str) = tx sgnS := by decide +kernel
  refine ⟨?_, ?_, ?_⟩
  · rw [← h.1]; rfl
  · rw [← h.2.1]; rfl
  · rw [← h.2.2]; rfl
def S_at (T : List Nat → Option Tk) (P : Nat → Prop) (g : List PV → R PV) : Prop := ∀ (zs : List Nat) (a : Nat), zs.length ≤ 1000000 → (h : a < zs.length) → P zs[a] → g [.str (tx zs), .int (a : Int)] = .ok (oTok a (T (zs.drop a)))
theorem int_sgn {c : Nat} (h : isDig c = true) : intTP [.str (sgn c)] = some (.int (dval [c] : Int)) := by
  rw [sgn_tx]
  exact int_tx (fun d hd => by rw [List.mem_singleton.mp hd]; exact h) (by simp) (by simp)
theorem sp_numat (h529 : S_run isDig (F 529)) (h478 : S_nod (F 478)) (h364 : S_lat (F 364)) : S_at tokNum (fun c => isDig c = true) fun us => outR (b_number_at F (startE 5 us)) := by
  intro zs a hz ha hc
  obtain ⟨p1, p2, p3⟩ := points
  have r1 := h529 zs a hz (by omega)
  have er := drop_at ha
  have hn1 : 1 ≤ nRun isDig (zs.drop a) := by rw [er, nRun_pos hc]; omega
  have hn2 : nRun isDig (zs.drop a) ≤ zs.length - a := by have := nRun_le isDig (zs.drop a); rw [List.length_drop] at this; exact this
  have sl := slB hz a (a + nRun isDig (zs.drop a))
  rw [Nat.add_sub_cancel_left] at sl
  have nd := h478 ((zs.drop a).take (nRun isDig (zs.drop a))) (nRun_all _ _) (by
    intro z
    have := congrArg List.length z
    rw [List.length_take, List.length_drop] at this
    simp at this
    omega) (by rw [List.length_take, List.length_drop]; omega)
  have lt := h364 zs (a + nRun isDig (zs.drop a)) hz (by omega)
  have sl2 := slB hz (a + nRun isDig (zs.drop a)) (a + nRun isDig (zs.drop a) + 1)
  rw [Nat.add_sub_cancel_left] at sl2
  unfold tokNum
  rw [List.drop_drop, List.drop_drop, List.drop_drop]
  have dd : ∀ k, (zs.drop a).getD k 0 = zs.getD (a + k) 0 := fun k => by simp [List.getD_eq_getElem?_getD]
  rw [dd]
  generalize hn : nRun isDig (zs.drop a) = n at *
  generalize hE : ((a + n : Nat) : Int) = E at *
  have e1 : ((a + n + 1 : Nat) : Int) = E + 1 := by omega
  have e2 : ((a + n + 2 : Nat) : Int) = E + 2 := by omega
  rw [e1] at sl2
  have eR : ∀ (k : Str) (v : PV), oTok a (some (k, v, n)) = .tup [.str k, v, .int E] := fun k v => by rw [← hE]; rfl
  have eR2 : ∀ (k : Str) (v : PV), oTok a (some (k, v, n + 2)) = .tup [.str k, v, .int (E + 2)] := fun k v => by rw [← e2]; rfl
  cases hv : numV ((zs.drop a).take n) with
  | none =>
    rw [hv] at nd
    replace nd : F 478 [.str (tx ((zs.drop a).take n))] = .ok .non := nd
    simp -implicitDefEqProofs [b_number_at, r1, sl, nd]
    rfl
  | some v =>
    rw [hv] at nd
    replace nd : F 478 [.str (tx ((zs.drop a).take n))] = .ok (.int (v : Int)) := nd
    show _ = R.ok (oTok a (if letAt (zs.drop (a + n)) = true then none else _))
    cases hl : letAt (zs.drop (a + n)) with
    | true =>
      rw [hl] at lt
      rw [if_pos rfl]
      simp -implicitDefEqProofs [b_number_at, r1, sl, nd, lt]
      rfl
    | false =>
      rw [hl] at lt
      rw [if_neg (by decide)]
      have hp : (tx ((zs.drop (a + n)).take 1) = sgn 46) ↔ (zs.drop (a + n)).head? = some 46 := by
        rw [sgn_tx, tx_inj]
        cases zs.drop (a + n) with
        | nil => simp
        | cons d t => simp
      by_cases c1 : (zs.drop (a + n)).head? = some 46
      · have hp1 : (tx ((zs.drop (a + n)).take 1) = sgn 46) = True := by rw [hp]; exact eq_true c1
        have hlen : a + n < zs.length := by
          rcases Nat.lt_or_ge (a + n) zs.length with h | h
          · exact h
          · rw [List.drop_of_length_le h] at c1; cases c1
        have r2 := h529 zs (a + n + 1) hz (by omega)
        have hle := nRun_le isDig (zs.drop (a + n + 1))
        rw [List.length_drop] at hle
        rw [show a + (n + 1) = a + n + 1 by omega, show a + (n + 2) = a + n + 2 by omega]
        rw [e1] at r2
        generalize hk : nRun isDig (zs.drop (a + n + 1)) = k at *
        generalize hB : ((a + n + 1 + k : Nat) : Int) = B at *
        by_cases c2 : k = 0
        · have b1 : (B = E + 1) = True := by simp; omega
          rw [if_pos (.inr c2), eR]
          simp -implicitDefEqProofs [b_number_at, r1, sl, nd, lt, p1, sl2, hp1, r2, b1, szl]
        · have b1 : (B = E + 1) = False := by simp; omega
          rw [if_neg (by rintro (h | h); exact h c1; exact c2 h)]
          by_cases c3 : k = 1
          · subst c3
            have b2 : (B = E + 2) = True := by simp; omega
            have lt2 := h364 zs (a + n + 2) hz (by omega)
            have hB2 : ((a + n + 2 : Nat) : Int) = B := by omega
            rw [hB2] at lt2
            cases hl2 : letAt (zs.drop (a + n + 2)) with
            | true =>
              rw [hl2] at lt2
              rw [if_pos (.inr rfl)]
              simp -implicitDefEqProofs [b_number_at, r1, sl, nd, lt, p1, sl2, hp1, r2, b1, b2, lt2]
              rfl
            | false =>
              rw [hl2] at lt2
              rw [if_neg (by rintro (h | h); exact h rfl; cases h), eR2]
              have h1 : a + n + 1 < zs.length := by omega
              have ix := ixB hz h1
              rw [e1] at ix
              have dg : isDig zs[a + n + 1] = true := by
                have h0 := nRun_all isDig (zs.drop (a + n + 1)) zs[a + n + 1]
                rw [hk, drop_at h1] at h0
                exact h0 (List.mem_cons_self (l := []))
              have iv := int_sgn dg
              rw [getD_at h1]
              have e4 : E + 2 = B := by omega
              rw [e4]
              rw [e4] at b2
              generalize (dval [zs[a + n + 1]] : Int) = dv at *
              simp -implicitDefEqProofs [b_number_at, r1, sl, nd, lt, p1, sl2, hp1, r2, b1, e4, lt2, ix, iv, szl]
          · have b2 : (B = E + 2) = False := by simp; omega
            rw [if_pos (.inl c3)]
            simp -implicitDefEqProofs [b_number_at, r1, sl, nd, lt, p1, sl2, hp1, r2, b1, b2]
            rfl
      · have hp1 : (tx ((zs.drop (a + n)).take 1) = sgn 46) = False := by rw [hp]; exact eq_false c1
        rw [if_pos (.inl c1), eR]
        simp -implicitDefEqProofs [b_number_at, r1, sl, nd, lt, p1, sl2, hp1, szl]
theorem sp_quoted (F : Nat → List PV → R PV) : S_at (fun r => tokQ r.tail) (fun c => c = 34) fun us => outR (b_quoted_at F (startE 3 us)) := by
  intro zs a hz ha hc
  obtain ⟨p1, p2, p3⟩ := points
  have l := lenB hz
  have w := run_while (p := notQ) (c := b_quoted_at_0 F) (s := b_quoted_at_1 F) (zs := zs) (x0 := .fz (.int (a : Int))) (fun e he => by
    have i := ixB hz he
    rw [getD_at he]
    have e0 : notQ zs[e] = !decide (sgn zs[e] = sgn 34) := by
      unfold notQ
      congr 1
      rw [Bool.eq_iff_iff, decide_eq_true_eq, decide_eq_true_eq, sgn_inj]
    rw [e0]
    simp -implicitDefEqProofs [b_quoted_at_0, l, i, he, p2]) (by
    simp -implicitDefEqProofs [b_quoted_at_0, l]) (fun e => by simp -implicitDefEqProofs [b_quoted_at_1]) (a := a + 1) (by omega)
  have et : (zs.drop a).tail = zs.drop (a + 1) := by rw [drop_at ha]; rfl
  show _ = R.ok (oTok a (tokQ (zs.drop a).tail))
  rw [et]
  have hle := nRun_le notQ (zs.drop (a + 1))
  have ld : (zs.drop (a + 1)).length = zs.length - (a + 1) := List.length_drop
  have sl := slB hz (a + 1) (a + 1 + nRun notQ (zs.drop (a + 1)))
  rw [Nat.add_sub_cancel_left] at sl
  unfold tokQ
  generalize hn : nRun notQ (zs.drop (a + 1)) = n at *
  generalize hE : ((a + 1 + n : Nat) : Int) = E at *
  have e1 : ((a + 1 : Nat) : Int) = (a : Int) + 1 := by omega
  rw [e1] at w sl
  by_cases c : n < (zs.drop (a + 1)).length
  · have c' : (E < (zs.length : Int)) = True := by simp; omega
    have e2 : ((a + (n + 2) : Nat) : Int) = E + 1 := by omega
    rw [if_pos c]
    show _ = R.ok (PV.tup [.str "quoted", .str (tx ((zs.drop (a + 1)).take n)), .int ((a + (n + 2) : Nat) : Int)])
    rw [e2]
    simp -implicitDefEqProofs [b_quoted_at, w, l, c', sl, szl]
  · have c' : (E < (zs.length : Int)) = False := by simp; omega
    rw [if_neg c]
    simp -implicitDefEqProofs [b_quoted_at, w, l, c']
    rfl
theorem in_sgn (c : Nat) : inB (.str (sgn c)) (.str (tx sgnS)) = some (decide (c ∈ sgnS)) := by
  show (if (sgn c).cps.size = 1 then some (decide ((sgn c).cps.getD 0 0 ∈ (tx sgnS).cps.toList)) else some (!(Builtin.Str.occurrences (tx sgnS) (sgn c) 0 (tx sgnS).length 1).isEmpty)) = _
  rw [if_pos (show (sgn c).cps.size = 1 from rfl), tx_l]
  rfl
theorem sp_tokat (h357 : S_dig (F 357)) (h363 : S_low (F 363)) (h477 : S_at tokNum (fun c => isDig c = true) (F 477)) (h530 : S_run isWd (F 530)) (h507 : S_at (fun r => tokQ r.tail) (fun c => c = 34) (F 507)) : S_at tokR (fun _ => True) fun us => outR (b_token_at F (startE 4 us)) := by
  intro zs a hz ha _
  obtain ⟨p1, p2, p3⟩ := points
  have ix := ixB hz ha
  have d := h357 zs[a]
  have d2 := h363 zs[a]
  have er := drop_at ha
  have qs : (sgn zs[a] = sgn 34) = (zs[a] = 34) := by rw [sgn_inj]
  have hin := in_sgn zs[a]
  cases c1 : isDig zs[a] with
  | true =>
    have n := h477 zs a hz ha c1
    have e : tokR (zs.drop a) = tokNum (zs.drop a) := by rw [er]; rw [tokR_c, if_pos c1]
    rw [c1] at d
    rw [e]
    generalize oTok a (tokNum (zs.drop a)) = w at *
    simp -implicitDefEqProofs [b_token_at, ix, d, n]
  | false =>
    rw [c1] at d
    cases c2 : isLow zs[a] with
    | true =>
      rw [c2] at d2
      have r := h530 zs a hz (by omega)
      have sl := slB hz a (a + nRun isWd (zs.drop a))
      rw [Nat.add_sub_cancel_left] at sl
      have e : tokR (zs.drop a) = some (("word" : Str), PV.str (tx ((zs.drop a).take (nRun isWd (zs.drop a)))), nRun isWd (zs.drop a)) := by
        conv => lhs; rw [er]
        rw [tokR_c, if_neg (by rw [c1]; decide), if_pos c2, ← er]
      rw [e]
      show _ = R.ok (PV.tup [.str "word", .str (tx ((zs.drop a).take (nRun isWd (zs.drop a)))), .int ((a + nRun isWd (zs.drop a) : Nat) : Int)])
      generalize ((a + nRun isWd (zs.drop a) : Nat) : Int) = E at *
      simp -implicitDefEqProofs [b_token_at, ix, d, d2, r, sl, szl]
    | false =>
      rw [c2] at d2
      by_cases c3 : zs[a] = 34
      · have n := h507 zs a hz ha c3
        have e : tokR (zs.drop a) = tokQ (zs.drop a).tail := by rw [er]; rw [tokR_c, if_neg (by rw [c1]; decide), if_neg (by rw [c2]; decide), if_pos c3]; rfl
        rw [e]
        replace n : F 507 [.str (tx zs), .int (a : Int)] = .ok (oTok a (tokQ (zs.drop a).tail)) := n
        generalize oTok a (tokQ (zs.drop a).tail) = w at *
        rw [c3] at ix d d2
        simp -implicitDefEqProofs [b_token_at, ix, d, d2, n, p2]
      · by_cases c4 : zs[a] ∈ sgnS
        · have e : tokR (zs.drop a) = some (("sign" : Str), PV.str (sgn zs[a]), 1) := by rw [er]; rw [tokR_c, if_neg (by rw [c1]; decide), if_neg (by rw [c2]; decide), if_neg c3, if_pos c4]
          rw [e]
          rw [decide_eq_true c4] at hin
          show _ = R.ok (PV.tup [.str "sign", .str (sgn zs[a]), .int ((a + 1 : Nat) : Int)])
          simp -implicitDefEqProofs [b_token_at, ix, d, d2, p2, p3, qs, c3, hin, szl]
        · have e : tokR (zs.drop a) = none := by rw [er]; rw [tokR_c, if_neg (by rw [c1]; decide), if_neg (by rw [c2]; decide), if_neg c3, if_neg c4]
          rw [e]
          rw [decide_eq_false c4] at hin
          simp -implicitDefEqProofs [b_token_at, ix, d, d2, p2, p3, qs, c3, hin]
          rfl
end PH
namespace PH
open PySem PySem.Spec PyProof.Rows L2 VL PF WY
variable {F : Nat → List PV → R PV}
/-! ### the tokens of a line -/
abbrev Tc := Str × PV × Nat
inductive ScanL : Nat → List Nat → List Tc → Nat → Prop
  | nil {a : Nat} : ScanL a [] [] 0
  | rem {a : Nat} {r : List Nat} : ScanL a (35 :: r) [] 0
  | sp {a : Nat} {r : List Nat} {ts : List Tc} {f : Nat} : ScanL (a + 1) r ts f → ScanL a (32 :: r) ts f
  | bad {a c : Nat} {r : List Nat} : c ≠ 35 → c ≠ 32 → tokR (c :: r) = none → ScanL a (c :: r) [] (a + 1)
  | tok {a c : Nat} {r : List Nat} {k : Str} {v : PV} {m : Nat} {ts : List Tc} {f : Nat} : c ≠ 35 → c ≠ 32 → tokR (c :: r) = some (k, v, m) → m ≤ r.length + 1 → ScanL (a + m) ((c :: r).drop m) ts f → ScanL a (c :: r) ((k, v, a + 1) :: ts) f
def enc4 (num : Int) (t : Tc) : PV := .tup [.str t.1, t.2.1, .int num, .int (t.2.2 : Int)]
def S_scl (g : List PV → R PV) : Prop := ∀ (zs : List Nat) (num : Int) (L : List PV) (ts : List Tc) (f : Nat), zs.length ≤ 1000000 → ScanL 0 zs ts f → L.length + ts.length ≤ 2000000 → g [.str (tx zs), .int num, .lst L] = .ok (.tup [.int (f : Int), .lst (L ++ ts.map (enc4 num))])
def sclS (zs : List Nat) (num : Int) (L : List PV) (a : Int) (x4 : Sl) : VL.Env := [.fz (.str (tx zs)), .fz (.int num), .om (some 0) (.lst L), .fz (.int a), x4]
theorem hashes : ("#" : Str) = sgn 35 ∧ (" " : Str) = sgn 32 := by decide +kernel
theorem scl_go (h627 : S_at tokR (fun _ => True) (F 627)) {zs : List Nat} {num : Int} (hz : zs.length ≤ 1000000) : ∀ {a : Nat} {rest : List Nat} {ts : List Tc} {f : Nat}, ScanL a rest ts f → ∀ (L : List PV) (x4 : Sl), rest = zs.drop a → a ≤ zs.length → L.length + ts.length ≤ 2000000 →
    ∃ n o, wN [] (b_scan_line_0 F) (b_scan_line_1 F) n (sclS zs num L (a : Int) x4) = some o ∧ (o = .ret (.tup [.int (f : Int), .lst (L ++ ts.map (enc4 num))]) ∨ (f = 0 ∧ ∃ a' x4', o = .next (sclS zs num (L ++ ts.map (enc4 num)) a' x4'))) := by
  intro a rest ts f h
  have cond : ∀ (a : Nat) (L : List PV) (x4 : Sl), a < zs.length → b_scan_line_0 F (vw [] (sclS zs num L (a : Int) x4)) = .ok true := fun a L x4 ha => by
    have l := lenB hz
    simp -implicitDefEqProofs [b_scan_line_0, sclS, l, ha]
  have isl : ∀ {a : Nat} {c : Nat} {r : List Nat}, c :: r = zs.drop a → ∃ h : a < zs.length, zs[a] = c ∧ r = zs.drop (a + 1) := fun {a c r} e => by
    have h : a < zs.length := by
      rcases Nat.lt_or_ge a zs.length with h | h
      · exact h
      · rw [List.drop_of_length_le h] at e; cases e
    rw [drop_at h] at e
    cases e
    exact ⟨h, rfl, rfl⟩
  obtain ⟨w1, w2⟩ := hashes
  induction h with
  | nil =>
    rename_i a
    intro L x4 hr ha hl
    have hlen : a = zs.length := by
      have := congrArg List.length hr
      rw [List.length_drop] at this
      simp at this
      omega
    subst hlen
    refine ⟨1, .next (sclS zs num L (zs.length : Int) x4), ?_, .inr ⟨rfl, _, _, by simp; rfl⟩⟩
    have l := lenB hz
    have : b_scan_line_0 F (vw [] (sclS zs num L (zs.length : Int) x4)) = .ok false := by simp -implicitDefEqProofs [b_scan_line_0, sclS, l]
    unfold wN
    rw [this]
  | rem =>
    rename_i a r
    intro L x4 hr ha hl
    obtain ⟨h, e1, e2⟩ := isl hr
    have ix := ixB hz h
    rw [e1] at ix
    refine ⟨1, .ret (.tup [.int 0, .lst L]), ?_, .inl (by simp)⟩
    unfold wN
    rw [cond a L x4 h]
    have : b_scan_line_1 F (sclS zs num L (a : Int) x4) = .ret (.tup [.int 0, .lst L]) := by simp -implicitDefEqProofs [b_scan_line_1, sclS, ix, w1]
    simp only [this]
  | sp hs ih =>
    rename_i a r ts f
    intro L x4 hr ha hl
    obtain ⟨h, e1, e2⟩ := isl hr
    have ix := ixB hz h
    rw [e1] at ix
    obtain ⟨n, o, hn, ho⟩ := ih L x4 e2 (by omega) hl
    refine ⟨n + 1, o, ?_, ho⟩
    unfold wN
    rw [cond a L x4 h]
    have q : (sgn 32 = sgn 35) = False := by rw [sgn_inj]; simp
    have : b_scan_line_1 F (sclS zs num L (a : Int) x4) = .next (sclS zs num L ((a + 1 : Nat) : Int) x4) := by simp -implicitDefEqProofs [b_scan_line_1, sclS, ix, w1, w2, q]
    simp only [this]
    exact hn
  | bad c1 c2 ht =>
    rename_i a c r
    intro L x4 hr ha hl
    obtain ⟨h, e1, e2⟩ := isl hr
    have ix := ixB hz h
    have tk := h627 zs a hz h trivial
    rw [← hr, ht] at tk
    rw [e1] at ix
    replace tk : F 627 [.str (tx zs), .int (a : Int)] = .ok .non := tk
    have q1 : (sgn c = sgn 35) = False := by rw [sgn_inj]; simp [c1]
    have q2 : (sgn c = sgn 32) = False := by rw [sgn_inj]; simp [c2]
    refine ⟨1, .ret (.tup [.int ((a + 1 : Nat) : Int), .lst L]), ?_, .inl (by simp)⟩
    unfold wN
    rw [cond a L x4 h]
    have : b_scan_line_1 F (sclS zs num L (a : Int) x4) = .ret (.tup [.int ((a + 1 : Nat) : Int), .lst L]) := by simp -implicitDefEqProofs [b_scan_line_1, sclS, ix, w1, w2, q1, q2, tk]
    simp only [this]
  | tok c1 c2 ht hm hs ih =>
    rename_i a c r k v m ts f
    intro L x4 hr ha hl
    obtain ⟨h, e1, e2⟩ := isl hr
    have ix := ixB hz h
    have tk := h627 zs a hz h trivial
    rw [← hr, ht] at tk
    rw [e1] at ix
    replace tk : F 627 [.str (tx zs), .int (a : Int)] = .ok (.tup [.str k, v, .int ((a + m : Nat) : Int)]) := tk
    have q1 : (sgn c = sgn 35) = False := by rw [sgn_inj]; simp [c1]
    have q2 : (sgn c = sgn 32) = False := by rw [sgn_inj]; simp [c2]
    have hlen := congrArg List.length hr
    rw [List.length_cons, List.length_drop] at hlen
    rw [List.length_cons] at hl
    obtain ⟨n, o, hn, ho⟩ := ih (L ++ [enc4 num (k, v, a + 1)]) (.fz (.tup [.str k, v, .int ((a + m : Nat) : Int)])) (by rw [hr, List.drop_drop]) (by omega) (by simp; omega)
    have el : (L ++ [enc4 num (k, v, a + 1)]) ++ ts.map (enc4 num) = L ++ ((k, v, a + 1) :: ts).map (enc4 num) := by simp
    rw [el] at ho
    refine ⟨n + 1, o, ?_, ho⟩
    unfold wN
    rw [cond a L x4 h]
    have hL : L.length < 16777216 := by omega
    have : b_scan_line_1 F (sclS zs num L (a : Int) x4) = .next (sclS zs num (L ++ [enc4 num (k, v, a + 1)]) ((a + m : Nat) : Int) (.fz (.tup [.str k, v, .int ((a + m : Nat) : Int)]))) := by
      show _ = Out.next (sclS zs num (L ++ [.tup [.str k, v, .int num, .int ((a + 1 : Nat) : Int)]]) ((a + m : Nat) : Int) (.fz (.tup [.str k, v, .int ((a + m : Nat) : Int)])))
      generalize ((a + m : Nat) : Int) = E at *
      simp -implicitDefEqProofs [b_scan_line_1, sclS, ix, w1, w2, q1, q2, tk, szl, hL]
    simp only [this]
    exact hn
theorem sp_scl (h627 : S_at tokR (fun _ => True) (F 627)) : S_scl fun us => outM 2 (b_scan_line F (startM 5 [false, false, true] us)) := by
  intro zs num L ts f hz h hl
  obtain ⟨n, o, hn, ho⟩ := scl_go h627 hz h (num := num) L .no (List.drop_zero).symm (Nat.zero_le _) hl
  have w := sWhile_of hn
  rw [show ((0 : Nat) : Int) = 0 from rfl] at w
  unfold sclS at w
  rcases ho with rfl | ⟨rfl, a', x4', rfl⟩
  · simp -implicitDefEqProofs [b_scan_line, w]
  · unfold sclS at w
    simp -implicitDefEqProofs [b_scan_line, w]
end PH
namespace PH
section
open PySem PySem.Builtin.Str
/-! ### a text in lines -/
theorem forIn_if {β σ : Type} (c : β → σ → Prop) [∀ i s, Decidable (c i s)] (f g : β → σ → σ) : ∀ (l : List β) (st : σ),
    (forIn (m := Id) l st fun i s => if c i s then pure (ForInStep.yield (f i s)) else pure (ForInStep.yield (g i s))).run = l.foldl (fun s i => if c i s then f i s else g i s) st
  | [], st => rfl
  | i :: l, st => by
    rw [List.forIn_cons, List.foldl_cons]
    by_cases h : c i st
    · simp only [if_pos h]
      exact forIn_if c f g l _
    · simp only [if_neg h]
      exact forIn_if c f g l _
theorem occ_fold (s sub : Str) (hi limit : Nat) : occurrences s sub 0 hi limit = (((List.range (hi + 1)).foldl (fun (st : Array Nat × Nat) i => if ((st.1.size < limit ∧ st.2 ≤ i) ∧ i + sub.length ≤ hi) ∧ subAt s sub i = true then (st.1.push i, i + sub.length) else (st.1, st.2)) (#[], 0)).1).toList := by
  unfold occurrences
  simp only [Std.Legacy.Range.forIn_eq_forIn_range', Std.Legacy.Range.size]
  simp
  rw [forIn_if (fun i (s_1 : Array Nat × Nat) => ((s_1.fst.size < limit ∧ s_1.snd ≤ i) ∧ i + sub.length ≤ hi) ∧ subAt s sub i = true) (fun i s => (s.fst.push i, i + sub.length)) (fun i s => (s.fst, s.snd))]
  rw [List.range_eq_range']
/-- where a sign stands -/
def cutsL (c : Nat) (zs : List Nat) (n : Nat) : List Nat := (List.range n).filter fun i => decide (zs[i]? = some c)
theorem cutsL_le (c : Nat) (zs : List Nat) (n : Nat) : (cutsL c zs n).length ≤ n := by
  have := List.length_filter_le (fun i => decide (zs[i]? = some c)) (List.range n)
  rw [List.length_range] at this
  exact this
theorem occ_one (zs : List Nat) (c : Nat) : occurrences ⟨zs.toArray⟩ ⟨#[c]⟩ 0 zs.length (zs.length + 1) = cutsL c zs zs.length := by
  rw [occ_fold]
  have key : ∀ n, n ≤ zs.length + 1 → ∃ fr, (List.range n).foldl (fun (st : Array Nat × Nat) i => if ((st.1.size < zs.length + 1 ∧ st.2 ≤ i) ∧ i + Str.length ⟨#[c]⟩ ≤ zs.length) ∧ subAt ⟨zs.toArray⟩ ⟨#[c]⟩ i = true then (st.1.push i, i + Str.length ⟨#[c]⟩) else (st.1, st.2)) (#[], 0) = ((cutsL c zs (min n zs.length)).toArray, fr) ∧ fr ≤ n := by
    intro n
    induction n with
    | zero => intro _; exact ⟨0, rfl, Nat.le_refl _⟩
    | succ n ih =>
      intro hn
      obtain ⟨fr, e, hf⟩ := ih (by omega)
      rw [List.range_succ, List.foldl_append, e, List.foldl_cons, List.foldl_nil]
      have hl := cutsL_le c zs (min n zs.length)
      have l1 : Str.length ⟨#[c]⟩ = 1 := rfl
      rw [l1]
      by_cases h : n < zs.length
      · have m1 : min (n + 1) zs.length = n + 1 := by omega
        have m0 : min n zs.length = n := by omega
        rw [m1]
        rw [m0] at hl ⊢
        have sb : subAt ⟨zs.toArray⟩ ⟨#[c]⟩ n = decide (zs[n]? = some c) := by
          unfold subAt
          rw [Bool.eq_iff_iff, beq_iff_eq, decide_eq_true_eq, ← Array.toList_inj]
          rw [l1, Array.toList_extract, List.extract_eq_take_drop, List.getElem?_eq_getElem h, Nat.add_sub_cancel_left]
          show List.take 1 (List.drop n zs) = [c] ↔ _
          rw [List.drop_eq_getElem_cons h, List.take_succ_cons, List.take_zero]
          simp
        have cs : cutsL c zs (n + 1) = cutsL c zs n ++ if zs[n]? = some c then [n] else [] := by
          unfold cutsL
          rw [List.range_succ, List.filter_append]
          congr 1
          by_cases q : zs[n]? = some c <;> simp [q]
        rw [cs]
        by_cases q : zs[n]? = some c
        · rw [if_pos, if_pos q]
          · exact ⟨n + 1, by simp, by omega⟩
          · refine ⟨⟨⟨by simp; omega, hf⟩, by omega⟩, ?_⟩
            rw [sb]; exact decide_eq_true q
        · rw [if_neg, if_neg q]
          · exact ⟨fr, by simp, by omega⟩
          · rintro ⟨_, z⟩
            rw [sb] at z
            exact q (of_decide_eq_true z)
      · rw [if_neg (by rintro ⟨⟨_, z⟩, _⟩; omega)]
        refine ⟨fr, ?_, by omega⟩
        rw [show min (n + 1) zs.length = min n zs.length by omega]
  obtain ⟨fr, e, _⟩ := key (zs.length + 1) (Nat.le_refl _)
  have : (Str.length ⟨zs.toArray⟩) = zs.length := by simp [Str.length]
  rw [e]
  simp
theorem sub_tx (zs : List Nat) (i j : Nat) : strSub ⟨zs.toArray⟩ i j = ⟨((zs.drop i).take (j - i)).toArray⟩ := by
  unfold strSub
  congr 1
  rw [← Array.toList_inj, Array.toList_extract, List.extract_eq_take_drop]
def partsR (zs : List Nat) (lo : Nat) : List Nat → List Str
  | [] => [strSub ⟨zs.toArray⟩ lo zs.length]
  | c :: cs => strSub ⟨zs.toArray⟩ lo c :: partsR zs (c + 1) cs
theorem parts_R (zs : List Nat) : ∀ (cs : List Nat) (lo : Nat), ((lo :: cs.map fun x => x + 1).zip (cs ++ [zs.length])).map (fun (x : Nat × Nat) => match x with | (i, j) => strSub ⟨zs.toArray⟩ i j) = partsR zs lo cs
  | [], lo => rfl
  | c :: cs, lo => by
    show strSub _ lo c :: _ = _
    rw [show partsR zs lo (c :: cs) = strSub ⟨zs.toArray⟩ lo c :: partsR zs (c + 1) cs from rfl, ← parts_R zs cs (c + 1)]
    rfl
/-- the first line, and those behind it -/
def splitN (c : Nat) : List Nat → List Nat × List (List Nat)
  | [] => ([], [])
  | d :: r => if d = c then ([], (splitN c r).1 :: (splitN c r).2) else (d :: (splitN c r).1, (splitN c r).2)
theorem splitN_c (c d : Nat) (r : List Nat) : splitN c (d :: r) = if d = c then ([], (splitN c r).1 :: (splitN c r).2) else (d :: (splitN c r).1, (splitN c r).2) := rfl
def cutsF (c : Nat) (zs : List Nat) (i : Nat) : List Nat := (List.range' i (zs.length - i)).filter fun i => decide (zs[i]? = some c)
theorem cutsF_step {c : Nat} {zs : List Nat} {i : Nat} (h : i < zs.length) : cutsF c zs i = (if zs[i] = c then [i] else []) ++ cutsF c zs (i + 1) := by
  unfold cutsF
  rw [show zs.length - i = (zs.length - (i + 1)) + 1 by omega, List.range'_succ, List.filter_cons, List.getElem?_eq_getElem h]
  by_cases q : zs[i] = c <;> simp [q]
theorem parts_split (c : Nat) (zs : List Nat) : ∀ (m i lo : Nat), zs.length - i = m → lo ≤ i → i ≤ zs.length →
    partsR zs lo (cutsF c zs i) = ⟨((zs.drop lo).take (i - lo) ++ (splitN c (zs.drop i)).1).toArray⟩ :: (splitN c (zs.drop i)).2.map fun l => ⟨l.toArray⟩ := by
  intro m
  induction m with
  | zero =>
    intro i lo hm h1 h2
    have e : i = zs.length := by omega
    subst e
    have ec : cutsF c zs zs.length = [] := by unfold cutsF; rw [Nat.sub_self]; rfl
    rw [ec, List.drop_of_length_le (Nat.le_refl _)]
    show [strSub _ lo _] = _
    rw [sub_tx]
    simp [splitN]
  | succ m ih =>
    intro i lo hm h1 h2
    have h : i < zs.length := by omega
    rw [cutsF_step h, List.drop_eq_getElem_cons h]
    by_cases q : zs[i] = c
    · rw [if_pos q]
      show strSub _ lo i :: partsR zs (i + 1) (cutsF c zs (i + 1)) = _
      rw [ih (i + 1) (i + 1) (by omega) (Nat.le_refl _) (by omega), sub_tx]
      rw [splitN_c, if_pos q]
      simp
    · rw [if_neg q, List.nil_append, ih (i + 1) lo (by omega) (by omega) (by omega)]
      rw [splitN_c, if_neg q]
      have e : (zs.drop lo).take (i + 1 - lo) = (zs.drop lo).take (i - lo) ++ [zs[i]] := by
        rw [show i + 1 - lo = (i - lo) + 1 by omega, List.take_add_one, List.getElem?_drop, show lo + (i - lo) = i by omega, List.getElem?_eq_getElem h]
        rfl
      rw [e, List.append_assoc]
      rfl
theorem kind1 (zs : List Nat) : 1 ≤ Builtin.Str.strKind ⟨zs.toArray⟩ := by
  unfold Builtin.Str.strKind
  split
  · exact Nat.le_refl _
  · split <;> decide
theorem split_tx {c : Nat} (hc : c < 256) (zs : List Nat) : Txt.split ⟨zs.toArray⟩ ⟨#[c]⟩ = ⟨(splitN c zs).1.toArray⟩ :: (splitN c zs).2.map fun l => ⟨l.toArray⟩ := by
  have l0 : Str.length ⟨zs.toArray⟩ = zs.length := by simp [Str.length]
  have l1 : Str.length ⟨#[c]⟩ = 1 := rfl
  have k1 : Builtin.Str.strKind ⟨#[c]⟩ = 1 := by unfold Builtin.Str.strKind; simp [hc]
  have k2 := kind1 zs
  have P := parts_split c zs (zs.length - 0) 0 0 rfl (Nat.le_refl _) (Nat.zero_le _)
  have ec : cutsL c zs zs.length = cutsF c zs 0 := by unfold cutsL cutsF; rw [List.range_eq_range', Nat.sub_zero]
  rw [List.drop_zero, Nat.sub_zero, List.take_zero, List.nil_append] at P
  rw [← P]
  unfold Txt.split
  rw [l0, l1, k1]
  by_cases hz : zs = []
  · subst hz
    rw [if_pos (by simp)]
    rfl
  · have hp := List.length_pos_iff.mpr hz
    rw [if_neg (by rw [Bool.or_eq_true, decide_eq_true_eq, decide_eq_true_eq]; omega), occ_one, ec]
    by_cases q : cutsF c zs 0 = []
    · rw [q]
      simp only [List.isEmpty_nil, if_true]
      show _ = [strSub _ 0 _]
      rw [sub_tx]
      simp
    · rw [if_neg (by simpa using q)]
      unfold partsBetween
      rw [l0]
      exact parts_R zs _ 0
theorem splitN_drop {c : Nat} : ∀ (zs : List Nat) (m : Nat), m ≤ (splitN c zs).1.length → splitN c (zs.drop m) = ((splitN c zs).1.drop m, (splitN c zs).2)
  | zs, 0, _ => rfl
  | [], m + 1, h => by simp [splitN] at h
  | e :: r, m + 1, h => by
    unfold splitN at h
    by_cases q : e = c
    · rw [if_pos q] at h; simp at h
    · rw [if_neg q] at h
      rw [List.drop_succ_cons, splitN_drop r m (by simpa using h)]
      conv => rhs; unfold splitN
      rw [if_neg q]
      rfl
theorem splitN_app {c : Nat} : ∀ (a b : List Nat), (∀ d ∈ a, d ≠ c) → splitN c (a ++ b) = (a ++ (splitN c b).1, (splitN c b).2)
  | [], b, _ => rfl
  | e :: a, b, h => by
    rw [List.cons_append]
    conv => lhs; unfold splitN
    rw [if_neg (h e List.mem_cons_self), splitN_app a b fun d hd => h d (List.mem_cons_of_mem _ hd)]
    rfl
/-- lines, and the signs between them, are no more than the text -/
theorem splitN_len {c : Nat} (zs : List Nat) : (splitN c zs).1.length + (splitN c zs).2.length ≤ zs.length ∧ (∀ l ∈ (splitN c zs).2, l.length ≤ zs.length) := by
  induction zs with
  | nil => simp [splitN]
  | cons e r ih =>
    unfold splitN
    by_cases q : e = c
    · rw [if_pos q]
      refine ⟨by simp; omega, fun l hl => ?_⟩
      rcases List.mem_cons.mp hl with rfl | hl
      · have := ih.1; simp; omega
      · have := ih.2 l hl; simp; omega
    · rw [if_neg q]
      refine ⟨by simp; omega, fun l hl => ?_⟩
      have := ih.2 l hl; simp; omega
end
end PH
namespace PH
open PySem PySem.Spec PyProof.Rows L2 VL PF WY
variable {F : Nat → List PV → R PV}
/-! ### the tokens of a text -/
abbrev Tq := Str × PV × Nat × Nat
def atLn (ln : Nat) (t : Tc) : Tq := (t.1, t.2.1, ln, t.2.2)
def encK4 (t : Tq) : PV := .tup [.str t.1, t.2.1, .int (t.2.2.1 : Int), .int (t.2.2.2 : Int)]
def endQ (ln col : Nat) : Tq := ("end", .str (tx []), ln, col)
def fltQ (ln col : Nat) : Tq := ("fault", .str (tx []), ln, col)
inductive LinesA : Nat → Nat → List (List Nat) → List Tq → Prop
  | last {ln a : Nat} {h : List Nat} {ts : List Tc} : ScanL a h ts 0 → LinesA ln a [h] (ts.map (atLn ln) ++ [endQ ln (a + h.length + 1)])
  | fault {ln a f : Nat} {h : List Nat} {t : List (List Nat)} {ts : List Tc} : ScanL a h ts (f + 1) → LinesA ln a (h :: t) (ts.map (atLn ln) ++ [fltQ ln (f + 1)])
  | next {ln a : Nat} {h h2 : List Nat} {t : List (List Nat)} {ts : List Tc} {qs : List Tq} : ScanL a h ts 0 → LinesA (ln + 1) 0 (h2 :: t) qs → LinesA ln a (h :: h2 :: t) (ts.map (atLn ln) ++ qs)
abbrev l1 (r : List Nat) : List Nat := (splitN 10 r).1
inductive ScanT : Nat → Nat → List Nat → List Tq → Prop
  | nil {ln a : Nat} : ScanT ln a [] [endQ ln (a + 1)]
  | nl {ln a : Nat} {r : List Nat} {qs : List Tq} : ScanT (ln + 1) 0 r qs → ScanT ln a (10 :: r) qs
  | sp {ln a : Nat} {r : List Nat} {qs : List Tq} : ScanT ln (a + 1) r qs → ScanT ln a (32 :: r) qs
  | rem {ln a : Nat} {r : List Nat} {qs : List Tq} : ScanT ln (a + (l1 (35 :: r)).length) ((35 :: r).drop (l1 (35 :: r)).length) qs → ScanT ln a (35 :: r) qs
  | bad {ln a c : Nat} {r : List Nat} : c ≠ 35 → c ≠ 32 → c ≠ 10 → tokR (l1 (c :: r)) = none → ScanT ln a (c :: r) [fltQ ln (a + 1)]
  | tok {ln a c : Nat} {r : List Nat} {k : Str} {v : PV} {m : Nat} {qs : List Tq} : c ≠ 35 → c ≠ 32 → c ≠ 10 → tokR (l1 (c :: r)) = some (k, v, m) → m ≤ (l1 (c :: r)).length → ScanT ln (a + m) ((c :: r).drop m) qs → ScanT ln a (c :: r) ((k, v, ln, a + 1) :: qs)
theorem LinesA.sp {ln a : Nat} {h : List Nat} {t : List (List Nat)} {qs : List Tq} (g : LinesA ln (a + 1) (h :: t) qs) : LinesA ln a ((32 :: h) :: t) qs := by
  cases g with
  | last s =>
    have := LinesA.last (ln := ln) s.sp
    rw [List.length_cons] at this
    rw [show a + 1 + h.length + 1 = a + (h.length + 1) + 1 by omega]
    exact this
  | fault s => exact .fault s.sp
  | next s r => exact .next s.sp r
theorem LinesA.rem {ln a : Nat} {h : List Nat} {t : List (List Nat)} {qs : List Tq} (g : LinesA ln (a + (h.length + 1)) ([] :: t) qs) : LinesA ln a ((35 :: h) :: t) qs := by
  cases g with
  | last s =>
    cases s
    have := LinesA.last (ln := ln) (ScanL.rem (a := a) (r := h))
    rw [List.length_cons] at this
    exact this
  | fault s => cases s
  | next s r => cases s; exact .next .rem r
theorem LinesA.tok {ln a c : Nat} {h : List Nat} {t : List (List Nat)} {k : Str} {v : PV} {m : Nat} {qs : List Tq} (c1 : c ≠ 35) (c2 : c ≠ 32) (ht : tokR (c :: h) = some (k, v, m)) (hm : m ≤ h.length + 1) (g : LinesA ln (a + m) ((c :: h).drop m :: t) qs) : LinesA ln a ((c :: h) :: t) ((k, v, ln, a + 1) :: qs) := by
  cases g with
  | last s =>
    have := LinesA.last (ln := ln) (s.tok c1 c2 ht hm)
    rw [show a + m + ((c :: h).drop m).length + 1 = a + (c :: h).length + 1 by rw [List.length_drop, List.length_cons]; omega]
    exact this
  | fault s => exact .fault (s.tok c1 c2 ht hm)
  | next s r => exact .next (s.tok c1 c2 ht hm) r
theorem ScanT.lines {ln a : Nat} {r : List Nat} {qs : List Tq} (g : ScanT ln a r qs) : LinesA ln a ((splitN 10 r).1 :: (splitN 10 r).2) qs := by
  induction g with
  | nil => exact LinesA.last .nil
  | nl g ih =>
    rw [splitN_c, if_pos rfl]
    exact LinesA.next .nil ih
  | sp g ih =>
    rw [splitN_c, if_neg (by decide)]
    exact ih.sp
  | rem g ih =>
    rename_i ln a r qs
    have e : splitN 10 (35 :: r) = (35 :: (splitN 10 r).1, (splitN 10 r).2) := by rw [splitN_c, if_neg (by decide)]
    rw [splitN_drop _ _ (Nat.le_refl _)] at ih
    unfold l1 at ih
    rw [e] at ih ⊢
    rw [List.drop_length] at ih
    exact ih.rem
  | bad c1 c2 c3 ht =>
    rename_i ln a c r
    have e : splitN 10 (c :: r) = (c :: (splitN 10 r).1, (splitN 10 r).2) := by rw [splitN_c, if_neg c3]
    unfold l1 at ht
    rw [e] at ht ⊢
    exact LinesA.fault (ScanL.bad c1 c2 ht)
  | tok c1 c2 c3 ht hm g ih =>
    rename_i ln a c r k v m qs
    have e : splitN 10 (c :: r) = (c :: (splitN 10 r).1, (splitN 10 r).2) := by rw [splitN_c, if_neg c3]
    rw [splitN_drop _ _ hm] at ih
    unfold l1 at ht hm
    rw [e] at ht hm ih ⊢
    exact ih.tok c1 c2 ht (by simpa using hm)
/-! the loop over lines -/
theorem str0 : ("" : Str) = tx [] ∧ ("\n" : Str) = sgn 10 := by decide +kernel
theorem enc_at (ln : Nat) (ts : List Tc) : (ts.map (atLn ln)).map encK4 = ts.map (enc4 (ln : Int)) := by
  rw [List.map_map]
  rfl
theorem scan_loop (h544 : S_scl (F 544)) {S LS : Sl} : ∀ {ln a : Nat} {ls : List (List Nat)} {qs : List Tq}, LinesA ln a ls qs → a = 0 → 1 ≤ ln → (∀ l ∈ ls, l.length ≤ 1000000) → ∀ (L : List PV) (x4 x5 : Sl), L.length + qs.length ≤ 1000000 →
    (forL (tN 4) (b_scan_0 F) (ls.map fun l => .str (tx l)) [S, LS, .own L, .fz (.int ((ln - 1 : Nat) : Int)), x4, x5] = .ret (.lst (L ++ qs.map encK4))) ∨
    ∃ L' x4' x5' num h, forL (tN 4) (b_scan_0 F) (ls.map fun l => .str (tx l)) [S, LS, .own L, .fz (.int ((ln - 1 : Nat) : Int)), x4, x5] = .next [S, LS, .own L', .fz (.int num), x4', x5'] ∧ ls.getLast? = some h ∧ L'.length < 1000000 ∧ L' ++ [.tup [.str "end", .str (tx []), .int num, .int ((h.length : Int) + 1)]] = L ++ qs.map encK4 := by
  intro ln a ls qs g
  have call : ∀ {ln : Nat} {h : List Nat} {ts : List Tc} {f : Nat} (L : List PV) (x4 x5 : Sl), 1 ≤ ln → ScanL 0 h ts f → h.length ≤ 1000000 → L.length + ts.length ≤ 1000000 →
      (b_scan_0 F) [S, LS, .own L, .fz (.int ((ln - 1 : Nat) : Int)), .fz (.str (tx h)), x5] = if 0 < f then .ret (.lst (L ++ ts.map (enc4 (ln : Int)) ++ [encK4 (fltQ ln f)])) else .next [S, LS, .own (L ++ ts.map (enc4 (ln : Int))), .fz (.int (ln : Int)), .fz (.str (tx h)), .fz (.int (f : Int))] := fun {ln h ts f} L x4 x5 h1 hs hh hl => by
    have c := h544 h (ln : Int) L ts f hh hs (by omega)
    have e : ((ln - 1 : Nat) : Int) + 1 = (ln : Int) := by omega
    generalize ((ln - 1 : Nat) : Int) = n0 at *
    have e0 := str0.1
    show _ = if 0 < f then Out.ret (.lst (L ++ ts.map (enc4 (ln : Int)) ++ [.tup [.str "fault", .str (tx []), .int (ln : Int), .int (f : Int)]])) else _
    have hM : (L ++ ts.map (enc4 (ln : Int))).length < 16777216 := by simp; omega
    generalize L ++ ts.map (enc4 (ln : Int)) = M at *
    by_cases hf : 0 < f
    · rw [if_pos hf]
      simp -implicitDefEqProofs [b_scan_0, e, c, hf, e0, szl, hM]
    · rw [if_neg hf]
      simp -implicitDefEqProofs [b_scan_0, e, c, hf]
  induction g with
  | last s =>
    rename_i ln a h ts
    intro ha h1 hh L x4 x5 hl
    subst ha
    rw [List.length_append, List.length_map, List.length_singleton] at hl
    have c := call L x4 x5 h1 s (hh h List.mem_cons_self) (by omega)
    rw [if_neg (by decide)] at c
    refine .inr ⟨L ++ ts.map (enc4 (ln : Int)), .fz (.str (tx h)), .fz (.int ((0 : Nat) : Int)), (ln : Int), h, ?_, rfl, by simp; omega, ?_⟩
    · rw [List.map_cons, List.map_nil, forL_S]
      generalize ((ln - 1 : Nat) : Int) = n0 at *
      simp -implicitDefEqProofs [c]
    · rw [List.map_append, enc_at, List.append_assoc]
      congr 2
      show _ = [PV.tup [.str "end", .str (tx []), .int (ln : Int), .int ((0 + h.length + 1 : Nat) : Int)]]
      rw [show ((0 + h.length + 1 : Nat) : Int) = (h.length : Int) + 1 by omega]
  | fault s =>
    rename_i ln a f h t ts
    intro ha h1 hh L x4 x5 hl
    subst ha
    rw [List.length_append, List.length_map, List.length_singleton] at hl
    have c := call L x4 x5 h1 s (hh h List.mem_cons_self) (by omega)
    rw [if_pos (by omega)] at c
    refine .inl ?_
    rw [List.map_cons, forL_S, List.map_append, enc_at, ← List.append_assoc]
    show _ = Out.ret (.lst (L ++ ts.map (enc4 (ln : Int)) ++ [encK4 (fltQ ln (f + 1))]))
    generalize L ++ ts.map (enc4 (ln : Int)) ++ [encK4 (fltQ ln (f + 1))] = M at *
    generalize ((ln - 1 : Nat) : Int) = n0 at *
    simp -implicitDefEqProofs [c]
  | next s g ih =>
    rename_i ln a h h2 t ts qs
    intro ha h1 hh L x4 x5 hl
    subst ha
    rw [List.length_append, List.length_map] at hl
    have c := call L x4 x5 h1 s (hh h List.mem_cons_self) (by omega)
    rw [if_neg (by decide)] at c
    have i := ih rfl (by omega) (fun l hl => hh l (List.mem_cons_of_mem _ hl)) (L ++ ts.map (enc4 (ln : Int))) (.fz (.str (tx h))) (.fz (.int ((0 : Nat) : Int))) (by simp; omega)
    rw [show ln + 1 - 1 = ln by omega] at i
    have st : forL (tN 4) (b_scan_0 F) ((h :: h2 :: t).map fun l => .str (tx l)) [S, LS, .own L, .fz (.int ((ln - 1 : Nat) : Int)), x4, x5] = forL (tN 4) (b_scan_0 F) ((h2 :: t).map fun l => .str (tx l)) [S, LS, .own (L ++ ts.map (enc4 (ln : Int))), .fz (.int (ln : Int)), .fz (.str (tx h)), .fz (.int ((0 : Nat) : Int))] := by
      rw [List.map_cons, forL_S]
      generalize (h2 :: t).map (fun l => PV.str (tx l)) = R at *
      generalize L ++ ts.map (enc4 (ln : Int)) = M at *
      generalize ((ln - 1 : Nat) : Int) = n0 at *
      simp -implicitDefEqProofs [c]
    rw [st, List.map_append, enc_at, ← List.append_assoc]
    rcases i with i | ⟨L', x4', x5', num, hh', i1, i2, i3, i4⟩
    · exact .inl i
    · exact .inr ⟨L', x4', x5', num, hh', i1, by rw [List.getLast?_cons_cons]; exact i2, i3, i4⟩
def S_scan (g : List PV → R PV) : Prop := ∀ (zs : List Nat) (qs : List Tq), zs.length ≤ 1000000 → ScanT 1 0 zs qs → qs.length ≤ 1000000 → g [.str (tx zs)] = .ok (.lst (qs.map encK4))
theorem sp_scan (h544 : S_scl (F 544)) : S_scan fun us => outR (b_scan F (startE 6 us)) := by
  intro zs qs hz hs hq
  obtain ⟨w1, w2⟩ := str0
  have g := hs.lines
  have e2 : ((splitN 10 zs).1 :: (splitN 10 zs).2).map (fun l => Str.mk l.toArray) = (⟨(splitN 10 zs).1.toArray⟩ :: (splitN 10 zs).2.map fun l => ⟨l.toArray⟩) := rfl
  have sp : splitP (.str (tx zs)) (.str (sgn 10)) = .ok (((splitN 10 zs).1 :: (splitN 10 zs).2).map fun l => .str (tx l)) := by
    have l0 := tx_len zs
    rw [splitP_s, if_pos ⟨rfl, by rw [l0, sizeLine_eq]; omega⟩]
    show R.ok ((Txt.split ⟨zs.toArray⟩ ⟨#[10]⟩).map PV.str) = _
    rw [split_tx (by decide), ← e2, List.map_map]
    rfl
  obtain ⟨s1, s2⟩ := splitN_len (c := 10) zs
  have hle : ∀ l ∈ (splitN 10 zs).1 :: (splitN 10 zs).2, l.length ≤ 1000000 := fun l hl => by
    rcases List.mem_cons.mp hl with rfl | hl
    · omega
    · have := s2 l hl; omega
  have lp := scan_loop h544 (S := .fz (.str (tx zs))) (LS := .fz (.lst (((splitN 10 zs).1 :: (splitN 10 zs).2).map fun l => .str (tx l)))) g rfl (Nat.le_refl _) hle [] .no .no (by simpa using hq)
  rw [List.nil_append] at lp
  have e0 : ((1 - 1 : Nat) : Int) = 0 := rfl
  rw [e0] at lp
  have ne : (splitN 10 zs).1 :: (splitN 10 zs).2 ≠ [] := by simp
  generalize (splitN 10 zs).1 :: (splitN 10 zs).2 = LL at *
  generalize hQ : qs.map encK4 = QQ at *
  rcases lp with lp | ⟨L', x4', x5', num, h, i1, i2, i3, i4⟩
  · generalize LL.map (fun l => PV.str (tx l)) = LP at *
    simp -implicitDefEqProofs [b_scan, w2, sp, lp, szl]
  · have ga : atI (LL.map fun l => PV.str (tx l)) (-1) = some (.str (tx h)) := by
      rw [atI_neg1 (by simpa using ne), List.getLast?_map, i2]
      rfl
    have hm : h ∈ LL := List.mem_of_getLast? i2
    have ll := lenB (hle h hm)
    rw [← i4]
    generalize LL.map (fun l => PV.str (tx l)) = LP at *
    simp -implicitDefEqProofs [b_scan, w1, w2, sp, i1, szl, ga, ll, show L'.length < 16777216 from by omega]
def bdt (ln col : Int) (why : Str) : List (Str × PV) := [("reason", .str why), ("column", .int col), ("line", .int ln), ("label", .str "BadText")]
theorem mk_bdt (ln col : Int) (why : Str) : mkFs 3 sp_BadText [.int ln, .int col, .str why] = some (bdt ln col why) := by
  unfold mkFs
  rw [if_pos ⟨rfl, by decide⟩]
  rfl
structure S_toks (g : List PV → R PV) : Prop where
  ok : ∀ (zs : List Nat) (qs : List Tq) (ln c : Nat), zs.length ≤ 1000000 → ScanT 1 0 zs (qs ++ [endQ ln c]) → qs.length < 1000000 → g [.str (tx zs)] = .ok (.lst ((qs ++ [endQ ln c]).map encK4))
  bad : ∀ (zs : List Nat) (qs : List Tq) (ln c : Nat), zs.length ≤ 1000000 → ScanT 1 0 zs (qs ++ [fltQ ln c]) → qs.length < 1000000 → g [.str (tx zs)] = .exc 6 (bdt (ln : Int) (c : Int) "token")
theorem ends_ne : (("end" : Str) = "fault") = False := by
  have : ¬ ("end" : Str) = "fault" := by decide +kernel
  simp [this]
theorem sp_toks (h543 : S_scan (F 543)) : S_toks fun us => outR (b_tokens_of F (startE 3 us)) := by
  have at1 : ∀ (qs : List Tq) (q : Tq), atI ((qs ++ [q]).map encK4) (-1) = some (encK4 q) := fun qs q => by
    rw [atI_neg1 (by simp), List.getLast?_map, List.getLast?_concat]
    rfl
  refine ⟨fun zs qs ln c hz hs hq => ?_, fun zs qs ln c hz hs hq => ?_⟩
  · have sc := h543 zs _ hz hs (by simp; omega)
    have a := at1 qs (endQ ln c)
    generalize (qs ++ [endQ ln c]).map encK4 = Q at *
    have e : encK4 (endQ ln c) = .tup [.str "end", .str (tx []), .int (ln : Int), .int (c : Int)] := rfl
    rw [e] at a
    simp -implicitDefEqProofs [b_tokens_of, sc, a, ends_ne]
  · have sc := h543 zs _ hz hs (by simp; omega)
    have a := at1 qs (fltQ ln c)
    generalize (qs ++ [fltQ ln c]).map encK4 = Q at *
    have e : encK4 (fltQ ln c) = .tup [.str "fault", .str (tx []), .int (ln : Int), .int (c : Int)] := rfl
    rw [e] at a
    simp -implicitDefEqProofs [b_tokens_of, sc, a, mk_bdt]
end PH
namespace PH
open PySem PySem.Spec PyProof.Rows L2 VL PF WY
variable {F : Nat → List PV → R PV}
/-! ### texts of tokens -/
def dgs (n : Nat) : List Nat := (Nat.toDigits 10 n).map Char.toNat
theorem str_dgs (n : Nat) : (toString (n : Int) : Str) = tx (dgs n) := by
  have h := PySem.W.KIN.signs_num n
  show Str.ofString (toString (n : Int)) = _
  unfold tx dgs
  rw [← h]
theorem dgs_val (n : Nat) : dval (dgs n) = n := PySem.W.KIN.val_back n
theorem dig_char {c : Char} (h : c.isDigit = true) : isDig c.toNat = true := by
  unfold isDig
  simp only [Char.isDigit, Bool.and_eq_true, decide_eq_true_eq] at h
  obtain ⟨h1, h2⟩ := h
  have h1 : (48 : UInt32) ≤ c.val := h1
  have h2 : c.val ≤ (57 : UInt32) := h2
  rw [UInt32.le_iff_toNat_le] at h1 h2
  simp only [Bool.and_eq_true, decide_eq_true_eq]
  exact ⟨h1, h2⟩
theorem dgs_all (n : Nat) : ∀ c ∈ dgs n, isDig c = true := by
  intro c hc
  obtain ⟨d, hd, rfl⟩ := List.mem_map.mp hc
  exact dig_char (Nat.isDigit_of_mem_toDigits (by decide) (by decide) hd)
theorem dgs_ne (n : Nat) : dgs n ≠ [] := by
  unfold dgs
  simp [Nat.toDigits_ne_nil]
theorem dgs_len {n k : Nat} (hk : 1 ≤ k) (h : n < 10 ^ k) : (dgs n).length ≤ k := by
  unfold dgs
  rw [List.length_map]
  exact toDigits_len_pow (by decide) hk h
theorem dgs_head : ∀ (n : Nat), 0 < n → (dgs n).head? ≠ some 48 := by
  intro n
  induction n using Nat.strongRecOn with
  | ind n ih =>
    intro h
    unfold dgs
    rw [Nat.toDigits_eq_if (by decide)]
    by_cases c : n < 10
    · rw [if_pos c]
      have : ∀ n ∈ List.range 10, 0 < n → ([n.digitChar].map Char.toNat).head? ≠ some 48 := by decide
      exact this n (List.mem_range.mpr c) h
    · rw [if_neg c, List.map_append]
      have hne := dgs_ne (n / 10)
      have := ih (n / 10) (by omega) (by omega)
      unfold dgs at this hne
      obtain ⟨x, y, e⟩ := List.exists_cons_of_ne_nil hne
      rw [e] at this ⊢
      exact this
theorem dgs_lt10 {n : Nat} (h : n < 10) : dgs n = [48 + n] := by
  have : ∀ n ∈ List.range 10, dgs n = [48 + n] := by decide +kernel
  exact this n (List.mem_range.mpr h)
theorem numV_dgs {n : Nat} (h : n ≤ 1000000) : numV (dgs n) = some n := by
  unfold numV
  have hl := dgs_len (n := n) (k := 7) (by decide) (by omega)
  rw [if_neg, dgs_val, if_pos h]
  rintro (z | ⟨z1, z2⟩)
  · omega
  · rcases Nat.eq_zero_or_pos n with rfl | hp
    · rw [dgs_lt10 (by decide)] at z1; simp at z1
    · exact dgs_head n hp z2
/-- what may stand behind a token -/
def Stop (r : List Nat) : Prop := ∀ c, r.head? = some c → isWd c = false ∧ isAny c = false ∧ c ≠ 46
theorem stop_nil : Stop [] := fun c h => by cases h
theorem stop_cons {c : Nat} {r : List Nat} (h : isWd c = false ∧ isAny c = false ∧ c ≠ 46) : Stop (c :: r) := fun d hd => by cases hd; exact h
theorem dig_wd {c : Nat} (h : isWd c = false) : isDig c = false := by unfold isWd at h; simp at h; exact h.2
theorem run_stop {p : Nat → Bool} {a r : List Nat} (ha : ∀ c ∈ a, p c = true) (hr : ∀ c, r.head? = some c → p c = false) : nRun p (a ++ r) = a.length := by
  rw [nRun_app _ ha]
  cases r with
  | nil => rfl
  | cons c r => rw [nRun_neg (hr c rfl), Nat.add_zero]
theorem lat_stop {r : List Nat} (h : Stop r) : letAt r = false := by
  cases r with
  | nil => rfl
  | cons c r => exact (h c rfl).2.1
theorem dig_low {c : Nat} (h : isLow c = true) : isDig c = false := by
  unfold isLow at h
  unfold isDig
  simp only [Bool.and_eq_true, decide_eq_true_eq] at h
  simp only [Bool.and_eq_false_iff, decide_eq_false_iff_not]
  omega
/-- how a token is spelled, and that it is read -/
def ReadsAs (sp : List Nat) (k : Str) (v : PV) (P : List Nat → Prop) : Prop := ∀ r, P r → tokR (sp ++ r) = some (k, v, sp.length)
theorem reads_word {w : List Nat} {c : Nat} {t : List Nat} (e : w = c :: t) (hc : isLow c = true) (hw : ∀ d ∈ t, isWd d = true) : ReadsAs w "word" (.str (tx w)) Stop := by
  intro r hr
  subst e
  have hall : ∀ d ∈ c :: t, isWd d = true := fun d hd => by
    rcases List.mem_cons.mp hd with rfl | hd
    · unfold isWd; rw [hc]; rfl
    · exact hw d hd
  have n := run_stop (p := isWd) (a := c :: t) (r := r) hall fun d hd => (hr d hd).1
  show tokR (c :: (t ++ r)) = _
  rw [tokR_c, if_neg (by rw [dig_low hc]; decide), if_pos hc]
  show some (("word" : Str), PV.str (tx (((c :: t) ++ r).take (nRun isWd ((c :: t) ++ r)))), nRun isWd ((c :: t) ++ r)) = _
  rw [n, List.take_left]
theorem cons_dgs (n : Nat) : ∃ c t, dgs n = c :: t ∧ isDig c = true := by
  obtain ⟨c, t, e⟩ := List.exists_cons_of_ne_nil (dgs_ne n)
  exact ⟨c, t, e, dgs_all n c (by rw [e]; exact List.mem_cons_self)⟩
theorem reads_num {n : Nat} (h : n ≤ 1000000) : ReadsAs (dgs n) "number" (.int (n : Int)) Stop := by
  intro r hr
  obtain ⟨c, t, e, hc⟩ := cons_dgs n
  have n1 := run_stop (p := isDig) (a := dgs n) (r := r) (dgs_all n) fun d hd => dig_wd (hr d hd).1
  have e1 : tokR (dgs n ++ r) = tokNum (dgs n ++ r) := by
    rw [e]
    show tokR (c :: (t ++ r)) = _
    rw [tokR_c, if_pos hc]
    rfl
  rw [e1]
  unfold tokNum
  rw [n1, List.take_left, numV_dgs h, List.drop_left, lat_stop hr]
  show (if _ then _ else _) = _
  rw [if_neg (by decide), if_pos]
  refine .inl fun z => ?_
  exact (hr 46 z).2.2 rfl
theorem reads_sec {n d : Nat} (h : n ≤ 1000000) (hd : d < 10) : ReadsAs (dgs n ++ 46 :: dgs d) "seconds" (.int ((n * 10 + d : Nat) : Int)) Stop := by
  intro r hr
  obtain ⟨c, t, e, hc⟩ := cons_dgs n
  have ed := dgs_lt10 hd
  have hdd : isDig (48 + d) = true := dgs_all d _ (by rw [ed]; exact List.mem_cons_self)
  rw [List.append_assoc, List.cons_append, ed]
  have n1 := run_stop (p := isDig) (a := dgs n) (r := 46 :: ([48 + d] ++ r)) (dgs_all n) fun x hx => by cases hx; rfl
  have n2 := run_stop (p := isDig) (a := [48 + d]) (r := r) (fun x hx => by rw [List.mem_singleton.mp hx]; exact hdd) fun x hx => dig_wd (hr x hx).1
  have e1 : tokR (dgs n ++ 46 :: ([48 + d] ++ r)) = tokNum (dgs n ++ 46 :: ([48 + d] ++ r)) := by
    rw [e]
    show tokR (c :: (t ++ _)) = _
    rw [tokR_c, if_pos hc]
    rfl
  rw [e1]
  unfold tokNum
  have d1 : (dgs n ++ 46 :: ([48 + d] ++ r)).drop ((dgs n).length + 1) = [48 + d] ++ r := by
    rw [← List.drop_drop, List.drop_left]
    rfl
  have d2 : (dgs n ++ 46 :: ([48 + d] ++ r)).drop ((dgs n).length + 2) = r := by
    rw [← List.drop_drop, List.drop_left]
    rfl
  have d3 : (dgs n ++ 46 :: ([48 + d] ++ r)).getD ((dgs n).length + 1) 0 = 48 + d := by
    rw [List.getD_eq_getElem?_getD, List.getElem?_append_right (by omega), show (dgs n).length + 1 - (dgs n).length = 1 by omega]
    rfl
  have d4 : dval [48 + d] = d := by rw [← ed]; exact dgs_val d
  rw [n1, List.take_left, numV_dgs h, List.drop_left, d1, d2, d3, d4, n2, lat_stop hr]
  show (if _ then _ else _) = _
  rw [if_neg (by show ¬ isAny 46 = true; decide), if_neg, if_neg]
  · simp
  · rintro (z | z)
    · exact z rfl
    · cases z
  · rintro (z | z)
    · exact z rfl
    · cases z
theorem reads_quo {t : List Nat} (h : ∀ c ∈ t, c ≠ 34) : ReadsAs (34 :: (t ++ [34])) "quoted" (.str (tx t)) fun _ => True := by
  intro r _
  have n1 := run_stop (p := notQ) (a := t) (r := 34 :: r) (fun c hc => by unfold notQ; simp [h c hc]) fun x hx => by cases hx; rfl
  show tokR (34 :: ((t ++ [34]) ++ r)) = _
  rw [List.append_assoc]
  rw [tokR_c, if_neg (by decide), if_neg (by decide), if_pos rfl]
  show tokQ (t ++ 34 :: r) = _
  unfold tokQ
  rw [n1, if_pos (by simp), List.take_left]
  simp
theorem sgn_not {c : Nat} (h : c ∈ sgnS) : isDig c = false ∧ isLow c = false ∧ c ≠ 34 ∧ c ≠ 35 ∧ c ≠ 32 ∧ c ≠ 10 := by
  have : ∀ c ∈ sgnS, isDig c = false ∧ isLow c = false ∧ c ≠ 34 ∧ c ≠ 35 ∧ c ≠ 32 ∧ c ≠ 10 := by decide +kernel
  exact this c h
theorem reads_sgn {c : Nat} (h : c ∈ sgnS) : ReadsAs [c] "sign" (.str (sgn c)) fun _ => True := by
  intro r _
  obtain ⟨h1, h2, h3, _⟩ := sgn_not h
  show tokR (c :: r) = _
  rw [tokR_c, if_neg (by rw [h1]; decide), if_neg (by rw [h2]; decide), if_neg h3, if_pos h]
  rfl
/-- the place behind signs -/
def aftC (p : Nat × Nat) (zs : List Nat) : Nat × Nat := zs.foldl (fun p c => if c = 10 then (p.1 + 1, 1) else (p.1, p.2 + 1)) p
theorem aft_app (p : Nat × Nat) (a b : List Nat) : aftC p (a ++ b) = aftC (aftC p a) b := List.foldl_append
theorem aft_cons (p : Nat × Nat) (c : Nat) (a : List Nat) : aftC p (c :: a) = aftC (if c = 10 then (p.1 + 1, 1) else (p.1, p.2 + 1)) a := rfl
theorem aft_line : ∀ (a : List Nat) (p : Nat × Nat), (∀ c ∈ a, c ≠ 10) → aftC p a = (p.1, p.2 + a.length)
  | [], p, _ => rfl
  | c :: a, p, h => by
    rw [aft_cons, if_neg (h c List.mem_cons_self), aft_line a _ fun d hd => h d (List.mem_cons_of_mem _ hd)]
    simp
    omega
theorem aft_pos : ∀ (a : List Nat) (p : Nat × Nat), 1 ≤ p.2 → 1 ≤ (aftC p a).2
  | [], p, h => h
  | c :: a, p, h => by
    rw [aft_cons]
    refine aft_pos a _ ?_
    split
    · exact Nat.le_refl _
    · exact Nat.le_succ_of_le h
/-- signs between tokens: what they bear on -/
def Gap (g : List Nat) : Prop := ∀ (ln a : Nat) (r : List Nat) (qs : List Tq), ScanT (aftC (ln, a + 1) g).1 ((aftC (ln, a + 1) g).2 - 1) r qs → ScanT ln a (g ++ r) qs
theorem gap_nil : Gap [] := fun ln a r qs h => h
theorem gap_sp {g : List Nat} (h : Gap g) : Gap (32 :: g) := fun ln a r qs k => .sp (h ln (a + 1) r qs (by rw [aft_cons, if_neg (by decide)] at k; exact k))
theorem gap_nl {g : List Nat} (h : Gap g) : Gap (10 :: g) := fun ln a r qs k => .nl (h (ln + 1) 0 r qs (by rw [aft_cons, if_pos rfl] at k; exact k))
theorem gap_rem {m g : List Nat} (hm : ∀ c ∈ m, c ≠ 10) (h : Gap (10 :: g)) : Gap (35 :: m ++ 10 :: g) := fun ln a r qs k => by
  have e : l1 (35 :: (m ++ 10 :: g ++ r)) = 35 :: m := by
    have := splitN_app (c := 10) (35 :: m) (10 :: g ++ r) (fun d hd => by
      rcases List.mem_cons.mp hd with rfl | hd
      · decide
      · exact hm d hd)
    show (splitN 10 (35 :: (m ++ 10 :: g ++ r))).1 = _
    rw [show 35 :: (m ++ 10 :: g ++ r) = 35 :: m ++ (10 :: g ++ r) by simp, this]
    show 35 :: m ++ (splitN 10 (10 :: (g ++ r))).1 = _
    rw [splitN_c, if_pos rfl]
    simp
  refine ScanT.rem (r := m ++ 10 :: g ++ r) ?_
  rw [e]
  have e2 : (35 :: (m ++ 10 :: g ++ r)).drop (35 :: m).length = 10 :: g ++ r := by
    rw [show 35 :: (m ++ 10 :: g ++ r) = (35 :: m) ++ (10 :: g ++ r) by simp, List.drop_left]
  rw [e2]
  refine h ln _ r qs ?_
  rw [aft_app, aft_line (35 :: m) _ (fun d hd => by
      rcases List.mem_cons.mp hd with rfl | hd
      · decide
      · exact hm d hd)] at k
  rw [show a + (35 :: m).length + 1 = a + 1 + (35 :: m).length by omega]
  exact k
theorem tok_text {sp g r : List Nat} {k : Str} {v : PV} {P : List Nat → Prop} {ln a : Nat} {qs : List Tq} (h : ReadsAs sp k v P) (hn : ∀ c ∈ sp, c ≠ 10) (hh : ∃ c t, sp = c :: t ∧ c ≠ 35 ∧ c ≠ 32) (hg : Gap g) (hp : P (l1 (g ++ r)))
    (hs : ScanT (aftC (ln, a + 1) (sp ++ g)).1 ((aftC (ln, a + 1) (sp ++ g)).2 - 1) r qs) : ScanT ln a (sp ++ g ++ r) ((k, v, ln, a + 1) :: qs) := by
  obtain ⟨c, t, e, c1, c2⟩ := hh
  have c3 : c ≠ 10 := hn c (by rw [e]; exact List.mem_cons_self)
  have el : l1 (sp ++ g ++ r) = sp ++ l1 (g ++ r) := by
    show (splitN 10 (sp ++ g ++ r)).1 = _
    rw [List.append_assoc, splitN_app _ _ hn]
  have ht := h _ hp
  rw [← el] at ht
  have hl : sp.length ≤ (l1 (sp ++ g ++ r)).length := by rw [el]; simp
  have ed : (sp ++ g ++ r).drop sp.length = g ++ r := by rw [List.append_assoc, List.drop_left]
  rw [aft_app, aft_line sp _ hn] at hs
  have hs2 := hg ln (a + sp.length) r qs (by rw [show a + sp.length + 1 = a + 1 + sp.length by omega]; exact hs)
  rw [← ed] at hs2
  have ec : sp ++ g ++ r = c :: (t ++ g ++ r) := by rw [e]; simp
  rw [ec] at ht hl hs2 ⊢
  exact ScanT.tok c1 c2 c3 ht hl hs2
end PH
namespace VL
open PySem PySem.Spec PyProof.Rows L2
/-! simp rules: join, get, f-strings, tests in suites -/
section
variable {ρ : Ev} {c : Nat} {fs : List (Str × PV)}
@[simp] theorem eJoin_S (f g : Ex) : eJoin f g ρ = ((f ρ).bind txtP).bind fun x => (g ρ).bind fun y => opt (joinP x y) := rfl
@[simp] theorem eGet_S (f g h : Ex) : eGet f g h ρ = ((f ρ).bind dctP).bind fun x => (g ρ).bind fun y => (h ρ).bind fun z => opt (getP x y z) := rfl
@[simp] theorem dctP_d (kvs) : dctP (.dct kvs) = .ok (.dct kvs) := rfl
@[simp] theorem xIs_S (mt) : xIs mt c fs = opt ((mt c).map .bl) := rfl
@[simp] theorem xTru_S (g : Xx PV) : xTru g c fs = (g c fs).bind fun v => opt (truV v) := rfl
@[simp] theorem xNot_S (g : Xx Bool) : xNot g c fs = (g c fs).bind fun b => .ok (!b) := rfl
@[simp] theorem xOr_S (g h : Xx Bool) : xOr g h c fs = (g c fs).bind fun b => if b = true then .ok true else h c fs := rfl
@[simp] theorem xIf_S (t : Xx Bool) (g h : Xx PV) : xIf t g h c fs = (t c fs).bind fun b => if b = true then g c fs else h c fs := rfl
def jsK (r : List Ex) (acc : Str) (ρ : Ev) : PV → R PV
  | .str y => if (acc ++ y).length ≤ sizeLine then jsE r (acc ++ y) ρ else .stuck
  | _ => .stuck
@[simp] theorem jsK_s (r acc y) : jsK r acc ρ (.str y) = if (acc ++ y).length ≤ sizeLine then jsE r (acc ++ y) ρ else .stuck := rfl
@[simp] theorem jsE_0 (acc) : jsE [] acc ρ = .ok (.str acc) := rfl
@[simp] theorem jsE_c (f : Ex) (r acc) : jsE (f :: r) acc ρ = (f ρ).bind (jsK r acc ρ) := by
  show (f ρ).bind _ = _
  congr 1
@[simp] theorem eJs_S (fs : List Ex) : eJs fs ρ = jsE fs Str.empty ρ := rfl
end
end VL
namespace PH
open PySem PySem.Spec PyProof.Rows L2 VL PF WY
/-! joined texts -/
def joinL (sep : List Nat) : List (List Nat) → List Nat
  | [] => []
  | x :: r => x ++ r.flatMap fun y => sep ++ y
theorem join_go (sep : List Nat) : ∀ (r : List (List Nat)) (x : List Nat), List.foldl (fun (acc : Array Nat) (p : Str) => acc ++ (tx sep).cps ++ p.cps) x.toArray (r.map tx) = (x ++ r.flatMap fun y => sep ++ y).toArray
  | [], x => by simp
  | y :: r, x => by
    rw [List.map_cons, List.foldl_cons]
    have e : x.toArray ++ (tx sep).cps ++ (tx y).cps = (x ++ (sep ++ y)).toArray := by unfold tx; simp
    rw [e, join_go sep r]
    simp
theorem join_tx (sep : List Nat) (ls : List (List Nat)) : Txt.join (tx sep) (ls.map tx) = tx (joinL sep ls) := by
  unfold Txt.join Builtin.Str.glued
  cases ls with
  | nil => rfl
  | cons x r =>
    have := join_go sep r x
    show Str.mk (List.foldl (fun (acc : Array Nat) (p : Str) => acc ++ (tx sep).cps ++ p.cps) x.toArray (r.map tx)) = _
    rw [this]
    rfl
theorem txsP_map (ls : List (List Nat)) : txsP (ls.map fun l => PV.str (tx l)) = some (ls.map tx) := by
  induction ls with
  | nil => rfl
  | cons x r ih =>
    show (txsP (r.map fun l => PV.str (tx l))).map (tx x :: ·) = _
    rw [ih]
    rfl
theorem joinP_tx {sep : List Nat} {ls : List (List Nat)} (h : (ls.map (·.length)).sum + ls.length * sep.length ≤ 16777216) : joinP (.str (tx sep)) (.lst (ls.map fun l => PV.str (tx l))) = some (.str (tx (joinL sep ls))) := by
  show ((txsP (ls.map fun l => PV.str (tx l))).bind fun ys => if (ys.map (·.length)).sum + ys.length * (tx sep).length ≤ 16777216 then some (PV.str (Txt.join (tx sep) ys)) else none) = _
  rw [txsP_map]
  show (if ((ls.map tx).map (·.length)).sum + (ls.map tx).length * (tx sep).length ≤ 16777216 then some (PV.str (Txt.join (tx sep) (ls.map tx))) else none) = _
  have e : (ls.map tx).map (·.length) = ls.map (·.length) := by
    rw [List.map_map]
    exact List.map_congr_left fun l _ => tx_len l
  rw [e, List.length_map, tx_len, if_pos h, join_tx]
theorem joinL_one (cs : List Nat) : joinL [] (cs.map fun c => [c]) = cs := by
  have : ∀ (cs : List Nat), (cs.map fun c => [c]).flatMap (fun y => [] ++ y) = cs := fun cs => by
    induction cs with
    | nil => rfl
    | cons c r ih => rw [List.map_cons, List.flatMap_cons, ih]; rfl
  cases cs with
  | nil => rfl
  | cons c r =>
    show [c] ++ (r.map fun c => [c]).flatMap (fun y => [] ++ y) = _
    rw [this]
    rfl
end PH
namespace L00
open PySem PySem.Spec PyProof.Rows L2 VL PF PH WY
variable {F : Nat → List PV → R PV}
inductive LT where
  | wrd (ws : List Nat) | num (v : Nat) | sec (n d : Nat) | quo (t : List Nat) | sig (c : Nat)
def LT.k : LT → Str
  | .wrd _ => "word" | .num _ => "number" | .sec _ _ => "seconds" | .quo _ => "quoted" | .sig _ => "sign"
def LT.v : LT → PV
  | .wrd ws => .str (tx ws) | .num v => .int (v : Int) | .sec n d => .int ((n * 10 + d : Nat) : Int) | .quo t => .str (tx t) | .sig c => .str (sgn c)
def LT.sp : LT → List Nat
  | .wrd ws => ws | .num v => dgs v | .sec n d => dgs n ++ 46 :: dgs d | .quo t => 34 :: (t ++ [34]) | .sig c => [c]
def LT.ok : LT → Prop
  | .wrd ws => (∃ c t, ws = c :: t ∧ isLow c = true ∧ ∀ d ∈ t, isWd d = true) ∧ ws.length ≤ 3
  | .num v => v ≤ 1000000 | .sec n d => n ≤ 1000000 ∧ d < 10
  | .quo t => (∀ c ∈ t, c ≠ 34 ∧ c ≠ 10) ∧ t.length ≤ 20
  | .sig c => c ∈ sgnS
def LT.P : LT → List Nat → Prop
  | .sig _ => fun _ => True
  | .quo _ => fun _ => True
  | _ => Stop
theorem wd_not {c : Nat} (h : isWd c = true) : c ≠ 35 ∧ c ≠ 32 ∧ c ≠ 10 := by
  refine ⟨?_, ?_, ?_⟩ <;> (rintro rfl; revert h; decide)
theorem dig_not {c : Nat} (h : isDig c = true) : c ≠ 35 ∧ c ≠ 32 ∧ c ≠ 10 := wd_not (by unfold isWd; rw [h]; simp)
theorem LT.reads {t : LT} (h : t.ok) : ReadsAs t.sp t.k t.v t.P ∧ (∀ c ∈ t.sp, c ≠ 10) ∧ (∃ c r, t.sp = c :: r ∧ c ≠ 35 ∧ c ≠ 32) ∧ t.sp.length ≤ 30 := by
  cases t with
  | wrd ws =>
    obtain ⟨⟨c, t, e, hc, ht⟩, hl⟩ := h
    have hw : isWd c = true := by unfold isWd; rw [hc]; rfl
    refine ⟨reads_word e hc ht, fun d hd => ?_, ⟨c, t, e, (wd_not hw).1, (wd_not hw).2.1⟩, Nat.le_trans hl (by decide)⟩
    change d ∈ ws at hd
    rw [e] at hd
    rcases List.mem_cons.mp hd with rfl | hd
    · exact (wd_not hw).2.2
    · exact (wd_not (ht d hd)).2.2
  | num v =>
    have h : v ≤ 1000000 := h
    obtain ⟨c, t, e, hc⟩ := cons_dgs v
    exact ⟨reads_num h, fun d hd => (dig_not (dgs_all v d hd)).2.2, ⟨c, t, e, (dig_not hc).1, (dig_not hc).2.1⟩, Nat.le_trans (dgs_len (k := 7) (by decide) (by omega)) (by decide)⟩
  | sec n d =>
    obtain ⟨h1, h2⟩ := h
    obtain ⟨c, t, e, hc⟩ := cons_dgs n
    refine ⟨reads_sec h1 h2, fun x hx => ?_, ⟨c, t ++ 46 :: dgs d, by show dgs n ++ _ = _; rw [e]; rfl, (dig_not hc).1, (dig_not hc).2.1⟩, ?_⟩
    · rcases List.mem_append.mp hx with hx | hx
      · exact (dig_not (dgs_all n x hx)).2.2
      · rcases List.mem_cons.mp hx with rfl | hx
        · decide
        · exact (dig_not (dgs_all d x hx)).2.2
    · have a := dgs_len (n := n) (k := 7) (by decide) (by omega)
      have b := dgs_len (n := d) (k := 1) (by decide) (by omega)
      show (dgs n ++ 46 :: dgs d).length ≤ 30
      rw [List.length_append, List.length_cons]
      omega
  | quo t =>
    obtain ⟨h1, h2⟩ := h
    refine ⟨reads_quo fun c hc => (h1 c hc).1, fun x hx => ?_, ⟨34, t ++ [34], rfl, by decide, by decide⟩, ?_⟩
    · rcases List.mem_cons.mp hx with rfl | hx
      · decide
      · rcases List.mem_append.mp hx with hx | hx
        · exact (h1 x hx).2
        · rw [List.mem_singleton.mp hx]; decide
    · show (34 :: (t ++ [34])).length ≤ 30
      simp
      omega
  | sig c =>
    obtain ⟨_, _, h3, h4, h5, h6⟩ := sgn_not h
    exact ⟨reads_sgn h, fun x hx => by rw [List.mem_singleton.mp hx]; exact h6, ⟨c, [], rfl, h4, h5⟩, by show [c].length ≤ 30; simp⟩
/-! items: tokens and what stands behind them -/
abbrev It := LT × List Nat
structure It.ok (i : It) : Prop where
  t : i.1.ok
  g : Gap i.2
  l : i.2.length ≤ 20
  s : (∃ c, i.1 = .sig c) ∨ ∀ r, Stop (l1 (i.2 ++ r))
def catI (is : List It) : List Nat := is.flatMap fun i => i.1.sp ++ i.2
def quads : Nat × Nat → List It → List Tq
  | _, [] => []
  | p, i :: r => (i.1.k, i.1.v, p.1, p.2) :: quads (aftC p (i.1.sp ++ i.2)) r
theorem quads_snoc (i : It) : ∀ (is : List It) (p : Nat × Nat), quads p (is ++ [i]) = quads p is ++ [(i.1.k, i.1.v, (aftC p (catI is)).1, (aftC p (catI is)).2)]
  | [], p => rfl
  | j :: is, p => by
    show _ :: quads _ (is ++ [i]) = _ :: quads _ is ++ _
    rw [quads_snoc i is]
    have e : catI (j :: is) = (j.1.sp ++ j.2) ++ catI is := rfl
    rw [e, aft_app p (j.1.sp ++ j.2) (catI is)]
    rfl
theorem catI_snoc (is : List It) (i : It) : catI (is ++ [i]) = catI is ++ (i.1.sp ++ i.2) := by unfold catI; simp
theorem catI_len : ∀ (is : List It), (∀ i ∈ is, It.ok i) → (catI is).length ≤ 50 * is.length
  | [], _ => by simp [catI]
  | i :: is, h => by
    have h1 := h i List.mem_cons_self
    have := catI_len is fun j hj => h j (List.mem_cons_of_mem _ hj)
    have h2 := (LT.reads h1.t).2.2.2
    have h3 := h1.l
    have e : catI (i :: is) = (i.1.sp ++ i.2) ++ catI is := rfl
    rw [e, List.length_append, List.length_append, List.length_cons]
    omega
theorem quads_len : ∀ (is : List It) (p : Nat × Nat), (quads p is).length = is.length
  | [], _ => rfl
  | i :: is, p => congrArg (· + 1) (quads_len is _)
theorem items_text {tail : List Nat} {qs : List Tq} : ∀ (is : List It) (p : Nat × Nat), 1 ≤ p.2 → (∀ i ∈ is, It.ok i) → ScanT (aftC p (catI is)).1 ((aftC p (catI is)).2 - 1) tail qs → ScanT p.1 (p.2 - 1) (catI is ++ tail) (quads p is ++ qs)
  | [], p, _, _, h => h
  | i :: is, p, hp, hi, h => by
    obtain ⟨l, c⟩ := p
    have h1 := hi i List.mem_cons_self
    obtain ⟨r1, r2, r3, r4⟩ := LT.reads h1.t
    have e : catI (i :: is) = (i.1.sp ++ i.2) ++ catI is := rfl
    rw [e, aft_app] at h
    have ih := items_text is (aftC (l, c) (i.1.sp ++ i.2)) (aft_pos _ _ hp) (fun j hj => hi j (List.mem_cons_of_mem _ hj)) h
    rw [e, List.append_assoc]
    have hc : c - 1 + 1 = c := Nat.sub_add_cancel hp
    show ScanT l (c - 1) _ ((i.1.k, i.1.v, l, c) :: (quads (aftC (l, c) (i.1.sp ++ i.2)) is ++ qs))
    have := tok_text (g := i.2) (r := catI is ++ tail) (ln := l) (a := c - 1) (qs := quads (aftC (l, c) (i.1.sp ++ i.2)) is ++ qs) r1 r2 r3 h1.g (by
      rcases h1.s with ⟨c, hs⟩ | hs
      · rw [hs]; trivial
      · have := hs (catI is ++ tail)
        cases i.1 <;> first | exact this | trivial) (by rw [hc]; exact ih)
    rw [hc] at this
    exact this
/-! the law's words -/
theorem addB {a b : List Nat} (h : a.length + b.length ≤ 1000000) : addP (.str (tx a)) (.str (tx b)) = some (.str (tx (a ++ b))) := by
  show (if (tx a).length + (tx b).length ≤ sizeLine then some (PV.str (tx a ++ tx b)) else none) = _
  rw [tx_len, tx_len, if_pos (by rw [sizeLine_eq]; omega), cat_app]
  unfold cat tx
  simp
theorem strTP_nat {n : Nat} (h : n ≤ 1000000000) : strTP [.int (n : Int)] = some (.str (tx (dgs n))) := by
  have e : strTP [.int (n : Int)] = strP [.int (n : Int)] := rfl
  rw [e]
  unfold strP
  dsimp only
  have b : (1000000000 : Int) < 2 ^ 1000 := by decide +kernel
  have b1 : (n : Int) ≤ 1000000000 := by omega
  have b2 : (n : Int) < 2 ^ 1000 := Int.lt_of_le_of_lt b1 b
  have b3 : -(2 ^ 1000) < (n : Int) := Int.lt_of_lt_of_le (Int.neg_neg_of_pos (Int.lt_trans (by decide) b)) (Int.natCast_nonneg n)
  rw [if_pos ⟨b3, b2⟩, str_dgs]
theorem strTP_str (a : Str) : strTP [.str a] = some (.str a) := rfl
@[simp] theorem at_4 {α : Type} (x y z u v : α) (xs : List α) : atI (x :: y :: z :: u :: v :: xs) 4 = some v := by
  have := atI_nat' (xs := x :: y :: z :: u :: v :: xs) (i := 4) (by simp)
  simpa using this
@[simp] theorem at_5 {α : Type} (x y z u v w : α) (xs : List α) : atI (x :: y :: z :: u :: v :: w :: xs) 5 = some w := by
  have := atI_nat' (xs := x :: y :: z :: u :: v :: w :: xs) (i := 5) (by simp)
  simpa using this
@[simp] theorem at_6 {α : Type} (x y z u v w a : α) (xs : List α) : atI (x :: y :: z :: u :: v :: w :: a :: xs) 6 = some a := by
  have := atI_nat' (xs := x :: y :: z :: u :: v :: w :: a :: xs) (i := 6) (by simp)
  simpa using this
def smL : List Nat := (List.range 26).map (97 + ·) ++ (List.range 10).map (48 + ·)
theorem lits : ("abcdefghijklmnopqrstuvwxyz0123456789" : Str) = tx smL ∧ ("{}();,:-" : Str) = tx sgnS ∧ ("." : Str) = tx [46] ∧ ("\"" : Str) = tx [34] ∧ ("" : Str) = tx [] ∧ ("\n" : Str) = sgn 10 := by decide +kernel
theorem sm_ok {i : Nat} (h : i < 36) : ∃ hi : i < smL.length, isWd smL[i] = true ∧ (i < 26 → isLow smL[i] = true) := by
  have : ∀ i ∈ List.range 36, ∃ hi : i < smL.length, isWd smL[i] = true ∧ (i < 26 → isLow smL[i] = true) := by decide +kernel
  exact this i (List.mem_range.mpr h)
def quoL : List (List Nat) := [[], [70, 108, 40, 50, 41, 32, 87, 32, 49, 48, 115], [97, 32, 59, 32, 98], [35, 32, 123, 32, 53], [77, 111, 40, 65, 41, 32, 87, 32, 56, 115]]
theorem quos : ("" : Str) = tx [] ∧ ("Fl(2) W 10s" : Str) = tx [70, 108, 40, 50, 41, 32, 87, 32, 49, 48, 115] ∧ ("a ; b" : Str) = tx [97, 32, 59, 32, 98] ∧ ("# { 5" : Str) = tx [35, 32, 123, 32, 53] ∧ ("Mo(A) W 8s" : Str) = tx [77, 111, 40, 65, 41, 32, 87, 32, 56, 115] := by decide +kernel
theorem slTo {zs : List Nat} (h : zs.length ≤ 1000000) (i : Nat) : slP (.str (tx zs)) none (some (i : Int)) = some (.str (tx (zs.take i))) := by
  have e := tx_len zs
  show (if (tx zs).length ≤ sizeLine then some (PV.str (cutS (tx zs) none (some (i : Int)))) else none) = _
  rw [if_pos (by rw [e, sizeLine_eq]; omega)]
  unfold cutS
  rw [e, HT.sIx_nat, HT.sIx_none, Nat.sub_zero, List.drop_zero, tx_l]
  unfold tx
  congr 3
  rcases Nat.le_total i zs.length with h | h
  · rw [Nat.min_eq_left h]
  · rw [Nat.min_eq_right h, List.take_length, List.take_of_length_le h]
def S_ltok (g : List PV → R PV) : Prop := ∀ c : Int, ∃ t : LT, t.ok ∧ g [.int c] = .ok (.tup [.str t.k, t.v])
theorem kinds_ne : (("word" : Str) = "seconds") = False ∧ (("word" : Str) = "quoted") = False ∧ (("number" : Str) = "seconds") = False ∧ (("number" : Str) = "quoted") = False ∧ (("quoted" : Str) = "seconds") = False ∧ (("sign" : Str) = "seconds") = False ∧ (("sign" : Str) = "quoted") = False ∧ (("word" : Str) = "sign") = False ∧ (("number" : Str) = "sign") = False ∧ (("seconds" : Str) = "sign") = False ∧ (("quoted" : Str) = "sign") = False := by
  have : ¬ ("word" : Str) = "seconds" ∧ ¬ ("word" : Str) = "quoted" ∧ ¬ ("number" : Str) = "seconds" ∧ ¬ ("number" : Str) = "quoted" ∧ ¬ ("quoted" : Str) = "seconds" ∧ ¬ ("sign" : Str) = "seconds" ∧ ¬ ("sign" : Str) = "quoted" ∧ ¬ ("word" : Str) = "sign" ∧ ¬ ("number" : Str) = "sign" ∧ ¬ ("seconds" : Str) = "sign" ∧ ¬ ("quoted" : Str) = "sign" := by decide +kernel
  simpa using this
theorem sp_ltok (h22 : S_draw (F 22)) : S_ltok fun us => outR (b__law_token F (startE 4 us)) := by
  intro c
  obtain ⟨row, er, lr, hr⟩ := h22 c [5, 1000001, 26, 36, 36, 8, 5] (by decide) (by decide)
  obtain ⟨r0, r1, r2, r3, r4, r5, r6, rfl⟩ : ∃ r0 r1 r2 r3 r4 r5 r6, row = [r0, r1, r2, r3, r4, r5, r6] := by
    match row, lr with
    | [a, b, c, d, e, f, g], _ => exact ⟨_, _, _, _, _, _, _, rfl⟩
  have b0 : 0 ≤ r0 ∧ r0 < 5 := hr 0 (by decide)
  have b1 : 0 ≤ r1 ∧ r1 < 1000001 := hr 1 (by decide)
  have b2 : 0 ≤ r2 ∧ r2 < 26 := hr 2 (by decide)
  have b3 : 0 ≤ r3 ∧ r3 < 36 := hr 3 (by decide)
  have b4 : 0 ≤ r4 ∧ r4 < 36 := hr 4 (by decide)
  have b5 : 0 ≤ r5 ∧ r5 < 8 := hr 5 (by decide)
  have b6 : 0 ≤ r6 ∧ r6 < 5 := hr 6 (by decide)
  clear hr lr
  obtain ⟨d0, rfl⟩ := Int.eq_ofNat_of_zero_le b0.1
  obtain ⟨d1, rfl⟩ := Int.eq_ofNat_of_zero_le b1.1
  obtain ⟨d2, rfl⟩ := Int.eq_ofNat_of_zero_le b2.1
  obtain ⟨d3, rfl⟩ := Int.eq_ofNat_of_zero_le b3.1
  obtain ⟨d4, rfl⟩ := Int.eq_ofNat_of_zero_le b4.1
  obtain ⟨d5, rfl⟩ := Int.eq_ofNat_of_zero_le b5.1
  obtain ⟨d6, rfl⟩ := Int.eq_ofNat_of_zero_le b6.1
  simp only [List.map_cons, List.map_nil] at er
  obtain ⟨q1, q2, q3, q4, q5, q6⟩ := lits
  obtain ⟨u1, u2, u3, u4, u5⟩ := quos
  obtain ⟨v, hv, nm⟩ : ∃ v : Nat, v ≤ 1000000 ∧ atI [PV.int (d1 : Int), PV.int 1000000, PV.int ((d1 : Int) % 10), PV.int 0, PV.int ((d1 : Int) % 1000)] (d6 : Int) = some (.int (v : Int)) := by
    have : d6 = 0 ∨ d6 = 1 ∨ d6 = 2 ∨ d6 = 3 ∨ d6 = 4 := by omega
    rcases this with rfl | rfl | rfl | rfl | rfl
    · exact ⟨d1, by omega, at_0 _ _⟩
    · exact ⟨1000000, by omega, at_1 _ _ _⟩
    · exact ⟨d1 % 10, by omega, at_2 _ _ _ _⟩
    · exact ⟨0, by omega, at_3 _ _ _ _ _⟩
    · exact ⟨d1 % 1000, by omega, at_4 _ _ _ _ _ _⟩
  have hd0 : d0 = 0 ∨ d0 = 1 ∨ d0 = 2 ∨ d0 = 3 ∨ d0 = 4 := by omega
  rcases hd0 with rfl | rfl | rfl | rfl | rfl
  · obtain ⟨i2, w2, l2⟩ := sm_ok (i := d2) (by omega)
    obtain ⟨i3, w3, _⟩ := sm_ok (i := d3) (by omega)
    obtain ⟨i4, w4, _⟩ := sm_ok (i := d4) (by omega)
    have x2 := ixB (zs := smL) (by decide) i2
    have x3 := ixB (zs := smL) (by decide) i3
    have x4 := ixB (zs := smL) (by decide) i4
    have l2 := l2 (by omega)
    generalize smL[d2] = s2 at *
    generalize smL[d3] = s3 at *
    generalize smL[d4] = s4 at *
    refine ⟨.wrd ([s2, s3, s4].take (1 + d6 % 3)), ⟨⟨s2, [s3, s4].take (d6 % 3), by rw [Nat.add_comm]; rfl, l2, fun d hd => ?_⟩, by simp; omega⟩, ?_⟩
    · have := List.mem_of_mem_take hd
      simp at this
      rcases this with rfl | rfl <;> assumption
    have a1 := addB (a := [s2]) (b := [s3]) (by simp)
    have a2 := addB (a := [s2, s3]) (b := [s4]) (by simp)
    have sl := slTo (zs := [s2, s3, s4]) (by simp) (1 + d6 % 3)
    have e1 : ((1 + d6 % 3 : Nat) : Int) = 1 + (d6 : Int) % 3 := by omega
    rw [e1] at sl
    rw [← sgn_tx, ← sgn_tx] at a1
    rw [← sgn_tx] at a2
    simp only [List.cons_append, List.nil_append] at a1 a2
    show _ = R.ok (PV.tup [.str "word", .str (tx ([s2, s3, s4].take (1 + d6 % 3)))])
    generalize tx ([s2, s3, s4].take (1 + d6 % 3)) = T at *
    simp -implicitDefEqProofs [b__law_token, er, nm, q1, x2, x3, x4, a1, a2, sl, szl]
  · refine ⟨.num v, hv, ?_⟩
    show _ = R.ok (PV.tup [.str "number", .int (v : Int)])
    simp -implicitDefEqProofs [b__law_token, er, nm, q1, szl]
  · refine ⟨.sec v (d3 % 10), ⟨hv, by omega⟩, ?_⟩
    have e1 : ((v * 10 + d3 % 10 : Nat) : Int) = 10 * (v : Int) + (d3 : Int) % 10 := by omega
    show _ = R.ok (PV.tup [.str "seconds", .int ((v * 10 + d3 % 10 : Nat) : Int)])
    rw [e1]
    have mk : mulOk 10 (v : Int) = true := mulOk_l ⟨by decide, by decide⟩
    simp -implicitDefEqProofs [b__law_token, er, nm, q1, szl, mk]
  · obtain ⟨t, ht1, ht2, tq⟩ : ∃ t : List Nat, (∀ c ∈ t, c ≠ 34 ∧ c ≠ 10) ∧ t.length ≤ 20 ∧ atI [PV.str "", PV.str "Fl(2) W 10s", PV.str "a ; b", PV.str "# { 5", PV.str "Mo(A) W 8s"] (d6 : Int) = some (.str (tx t)) := by
      rw [u1, u2, u3, u4, u5]
      have : d6 = 0 ∨ d6 = 1 ∨ d6 = 2 ∨ d6 = 3 ∨ d6 = 4 := by omega
      rcases this with rfl | rfl | rfl | rfl | rfl
      · exact ⟨_, by decide, by decide, at_0 _ _⟩
      · exact ⟨_, by decide, by decide, at_1 _ _ _⟩
      · exact ⟨_, by decide, by decide, at_2 _ _ _ _⟩
      · exact ⟨_, by decide, by decide, at_3 _ _ _ _ _⟩
      · exact ⟨_, by decide, by decide, at_4 _ _ _ _ _ _⟩
    refine ⟨.quo t, ⟨ht1, ht2⟩, ?_⟩
    show _ = R.ok (PV.tup [.str "quoted", .str (tx t)])
    generalize tx t = T at *
    simp -implicitDefEqProofs [b__law_token, er, nm, q1, szl, tq]
  · have i5 : d5 < sgnS.length := by show d5 < 8; omega
    have x5 := ixB (zs := sgnS) (by decide) i5
    have m5 : sgnS[d5] ∈ sgnS := List.getElem_mem i5
    generalize sgnS[d5] = s5 at *
    refine ⟨.sig s5, m5, ?_⟩
    show _ = R.ok (PV.tup [.str "sign", .str (sgn s5)])
    simp -implicitDefEqProofs [b__law_token, er, nm, q1, q2, x5, szl]
def S_lspell (g : List PV → R PV) : Prop := ∀ t : LT, t.ok → g [.tup [.str t.k, t.v]] = .ok (.str (tx t.sp))
theorem sp_lspell (F : Nat → List PV → R PV) : S_lspell fun us => outR (b__law_spelled F (startE 1 us)) := by
  obtain ⟨k1, k2, k3, k4, k5, k6, k7, k8, k9, k10, k11⟩ := kinds_ne
  obtain ⟨q1, q2, q3, q4, q5, q6⟩ := lits
  intro t h
  cases t with
  | wrd ws => simp -implicitDefEqProofs [b__law_spelled, LT.k, LT.v, LT.sp, k1, k2, strTP_str]
  | num v =>
    have h : v ≤ 1000000 := h
    have s := strTP_nat (n := v) (by omega)
    simp -implicitDefEqProofs [b__law_spelled, LT.k, LT.v, LT.sp, k3, k4, s]
  | sec n d =>
    obtain ⟨h1, h2⟩ := h
    have s := strTP_nat (n := n) (by omega)
    have s2 := strTP_nat (n := d) (by omega)
    have e1 : ((n * 10 + d : Nat) : Int) / 10 = (n : Int) := by omega
    have e2 : ((n * 10 + d : Nat) : Int) % 10 = (d : Int) := by omega
    have l1 := dgs_len (n := n) (k := 7) (by decide) (by omega)
    have l2 := dgs_len (n := d) (k := 1) (by decide) (by omega)
    have a1 := addB (a := dgs n) (b := [46]) (by simp; omega)
    have a2 := addB (a := dgs n ++ [46]) (b := dgs d) (by simp; omega)
    have e3 : dgs n ++ [46] ++ dgs d = dgs n ++ 46 :: dgs d := by simp
    have b10 : (10 : Int) < bigI := bigI_of (by decide)
    rw [e3] at a2
    show outR (b__law_spelled F (startE 1 [.tup [.str "seconds", .int ((n * 10 + d : Nat) : Int)]])) = R.ok (PV.str (tx (dgs n ++ 46 :: dgs d)))
    generalize ((n * 10 + d : Nat) : Int) = V at *
    simp -implicitDefEqProofs [b__law_spelled, e1, e2, s, s2, q3, a1, a2, b10]
  | quo t =>
    obtain ⟨h1, h2⟩ := h
    have a1 := addB (a := [34]) (b := t) (by simp; omega)
    have a2 := addB (a := [34] ++ t) (b := [34]) (by simp; omega)
    show outR (b__law_spelled F (startE 1 [.tup [.str "quoted", .str (tx t)]])) = R.ok (PV.str (tx (34 :: (t ++ [34]))))
    have e3 : [34] ++ t ++ [34] = 34 :: (t ++ [34]) := by simp
    rw [e3] at a2
    generalize tx ([34] ++ t) = T1 at *
    generalize tx (34 :: (t ++ [34])) = T2 at *
    simp -implicitDefEqProofs [b__law_spelled, k5, q4, a1, a2]
  | sig c => simp -implicitDefEqProofs [b__law_spelled, LT.k, LT.v, LT.sp, k6, k7, strTP_str, sgn_tx]
def S_laft (g : List PV → R PV) : Prop := ∀ (l c : Nat) (zs : List Nat), zs.length ≤ 1000000 → g [.int (l : Int), .int (c : Int), .str (tx zs)] = .ok (.tup [.int ((aftC (l, c) zs).1 : Int), .int ((aftC (l, c) zs).2 : Int)])
theorem foldl_range {α : Type} (f : α → Nat → α) (zs : List Nat) (a : α) : (List.range zs.length).foldl (fun p i => f p (zs.getD i 0)) a = zs.foldl f a := by
  have e : zs = (List.range zs.length).map fun i => zs.getD i 0 := by
    apply List.ext_getElem
    · simp
    · intro i h1 h2
      simp [List.getD_eq_getElem?_getD, h1]
  conv => rhs; rw [e]
  rw [List.foldl_map]
theorem sp_laft (F : Nat → List PV → R PV) : S_laft fun us => outR (b__law_after F (startE 4 us)) := by
  intro l c zs hz
  obtain ⟨q1, q2, q3, q4, q5, q6⟩ := lits
  have ln := lenB hz
  have rg := rg1_nat (n := zs.length) (by omega)
  obtain ⟨r', e, x3, er⟩ := forL_fold (t := tN 3) (s := b__law_after_0 F) (enc := fun i : Nat => PV.int (i : Int)) (f := fun (p : Nat × Nat) i => if zs.getD i 0 = 10 then (p.1 + 1, 1) else (p.1, p.2 + 1)) (xs := List.range zs.length) (g0 := (l, c))
    (r0 := [.fz (.int (l : Int)), .fz (.int (c : Int)), .fz (.str (tx zs)), .no]) (fun p r => ∃ x3, r = [.fz (.int (p.1 : Int)), .fz (.int (p.2 : Int)), .fz (.str (tx zs)), x3]) ⟨_, rfl⟩ (fun i x p r hx hp ⟨x3, er⟩ => by
      subst er
      obtain ⟨rfl, hx⟩ := range_at hx
      have ix := ixB hz hx
      rw [getD_at hx]
      obtain ⟨p1, p2⟩ := p
      by_cases c : zs[x] = 10
      · rw [if_pos c]
        rw [c] at ix
        exact ⟨_, [.fz (.int ((p1 + 1 : Nat) : Int)), .fz (.int ((1 : Nat) : Int)), .fz (.str (tx zs)), .fz (.int (x : Int))], rfl, .inl (by simp -implicitDefEqProofs [b__law_after_0, ix, q6]), _, rfl⟩
      · rw [if_neg c]
        have cc : (sgn zs[x] = sgn 10) = False := by rw [sgn_inj]; simp [c]
        exact ⟨_, [.fz (.int (p1 : Int)), .fz (.int ((p2 + 1 : Nat) : Int)), .fz (.str (tx zs)), .fz (.int (x : Int))], rfl, .inl (by simp -implicitDefEqProofs [b__law_after_0, ix, q6, cc]), _, rfl⟩)
  rw [← rangeP_map] at e
  have ef := foldl_range (fun (p : Nat × Nat) d => if d = 10 then (p.1 + 1, 1) else (p.1, p.2 + 1)) zs (l, c)
  rw [ef] at er
  have ea : zs.foldl (fun (p : Nat × Nat) d => if d = 10 then (p.1 + 1, 1) else (p.1, p.2 + 1)) (l, c) = aftC (l, c) zs := rfl
  rw [ea] at er
  subst er
  generalize aftC (l, c) zs = A at *
  simp -implicitDefEqProofs [b__law_after, ln, rg, e, szl]
def S_lgap (g : List PV → R PV) : Prop := ∀ z : Int, ∃ gp : List Nat, (Gap gp ∧ gp.length ≤ 20 ∧ ∀ r, Stop (l1 (gp ++ r))) ∧ g [.int z] = .ok (.str (tx gp))
theorem stop_sp (r : List Nat) : Stop (l1 (32 :: r)) := by
  show Stop (splitN 10 (32 :: r)).1
  rw [splitN_c, if_neg (by decide)]
  exact stop_cons (by decide)
theorem stop_nl (r : List Nat) : Stop (l1 (10 :: r)) := by
  show Stop (splitN 10 (10 :: r)).1
  rw [splitN_c, if_pos rfl]
  exact stop_nil
theorem gaps : (" " : Str) = tx [32] ∧ ("  " : Str) = tx [32, 32] ∧ ("\n" : Str) = tx [10] ∧ (" # a 5 ; @ !\n" : Str) = tx (32 :: (35 :: [32, 97, 32, 53, 32, 59, 32, 64, 32, 33] ++ 10 :: [])) ∧ ("\n\n   " : Str) = tx [10, 10, 32, 32, 32] ∧ ("   " : Str) = tx [32, 32, 32] := by decide +kernel
theorem sp_lgap (F : Nat → List PV → R PV) : S_lgap fun us => outR (b__law_gap F (startE 1 us)) := by
  intro z
  obtain ⟨g1, g2, g3, g4, g5, g6⟩ := gaps
  obtain ⟨m, em, hm⟩ : ∃ m : Nat, z % 6 = (m : Int) ∧ m < 6 := ⟨(z % 6).toNat, by omega, by omega⟩
  have c : m = 0 ∨ m = 1 ∨ m = 2 ∨ m = 3 ∨ m = 4 ∨ m = 5 := by omega
  rcases c with rfl | rfl | rfl | rfl | rfl | rfl
  · exact ⟨_, ⟨gap_sp gap_nil, by decide, fun r => stop_sp _⟩, by simp -implicitDefEqProofs [b__law_gap, em, szl, g1]⟩
  · exact ⟨_, ⟨gap_sp (gap_sp gap_nil), by decide, fun r => stop_sp _⟩, by simp -implicitDefEqProofs [b__law_gap, em, szl, g2]⟩
  · exact ⟨_, ⟨gap_nl gap_nil, by decide, fun r => stop_nl _⟩, by simp -implicitDefEqProofs [b__law_gap, em, szl, g3]⟩
  · exact ⟨_, ⟨gap_sp (gap_rem (m := [32, 97, 32, 53, 32, 59, 32, 64, 32, 33]) (by decide) (gap_nl gap_nil)), by decide, fun r => stop_sp _⟩, by simp -implicitDefEqProofs [b__law_gap, em, szl, g4]⟩
  · exact ⟨_, ⟨gap_nl (gap_nl (gap_sp (gap_sp (gap_sp gap_nil)))), by decide, fun r => stop_nl _⟩, by simp -implicitDefEqProofs [b__law_gap, em, szl, g5]⟩
  · exact ⟨_, ⟨gap_sp (gap_sp (gap_sp gap_nil)), by decide, fun r => stop_sp _⟩, by simp -implicitDefEqProofs [b__law_gap, em, szl, g6]⟩
end L00
namespace L01
open PySem PySem.Spec PyProof.Rows L2 VL PF
/-! the plain functions of this law alone -/
def mi_LightError : Nat → Option Bool := fun k => ([none, none, none, none, none, none, some true, none, none, none, none, none, none, none, none, none, none, none, none, none, none, none, none, none, none, none, none] : List (Option Bool)).getD k none
def mi_OutOfRange : Nat → Option Bool := fun k => ([none, none, none, none, none, none, some false, none, none, none, none, none, none, none, none, none, none, none, none, none, none, none, none, none, none, none, none] : List (Option Bool)).getD k none
def mi_ValueError : Nat → Option Bool := fun k => ([none, none, none, none, none, none, some true, none, none, none, none, none, none, none, none, none, none, none, none, none, none, none, none, none, none, none, none] : List (Option Bool)).getD k none
def mt_BadText : Nat → Option Bool := fun k => ([none, none, none, none, none, none, some true, none, none, none, none, none, none, none, none, none, none, none, none, none, none, none, none, none, none, none, none] : List (Option Bool)).getD k none
/-- _law_told (133): 0 text, 1 e -/
noncomputable def b__law_told_v2 (F : Nat → List PV → R PV) : VL.Env → Out := sTry (sRet [] (eArgs gTupV [eC (.str "value"), eCB lenP [eArgs (gN 1 (F 628)) [eVar 0]], eC (.int 0), eC (.str "")])) [.nm mt_BadText 1 (xIf (xOr (xTru (xIs mi_OutOfRange)) (xOr (xNot (xTru (xIs mi_LightError))) (xNot (xTru (xIs mi_ValueError))))) (xTup (xCons (xC (.str "mixed")) (xCons (xC (.int 0)) (xCons (xC (.int 0)) (xCons (xC (.str "")) (xNil)))))) (xTup (xCons (xC (.str "text")) (xCons (xF 6 "line") (xCons (xF 6 "column") (xCons (xF 6 "reason") (xNil)))))))]
noncomputable def tabL (F : Nat → List PV → R PV) : List (Nat × (List PV → R PV)) := [(363, fun us => outR (b_is_letter F (startE 1 us))),
  (347, fun us => outR (b_is_any_letter F (startE 1 us))),
  (357, fun us => outR (b_is_digit F (startE 1 us))),
  (366, fun us => outR (b_is_name F (startE 2 us))),
  (529, fun us => outR (b_run_of_digits F (startE 3 us))),
  (530, fun us => outR (b_run_of_letters F (startE 3 us))),
  (478, fun us => outR (b_number_of_digits F (startE 2 us))),
  (364, fun us => outR (b_is_letter_at F (startE 2 us))),
  (477, fun us => outR (b_number_at F (startE 5 us))),
  (507, fun us => outR (b_quoted_at F (startE 3 us))),
  (627, fun us => outR (b_token_at F (startE 4 us))),
  (544, fun us => outM 2 (b_scan_line F (startM 5 [false, false, true] us))),
  (543, fun us => outR (b_scan F (startE 6 us))),
  (628, fun us => outR (b_tokens_of F (startE 3 us))),
  (13, fun us => outR (b__law_cell F (startE 2 us))),
  (22, fun us => outR (b__law_draw F (startE 7 us))),
  (66, fun us => outR (b__law_name F (startE 6 us))),
  (130, fun us => outR (b__law_token F (startE 4 us))),
  (117, fun us => outR (b__law_spelled F (startE 1 us))),
  (0, fun us => outR (b__law_after F (startE 4 us))),
  (40, fun us => outR (b__law_gap F (startE 1 us))),
  (133, fun us => outR (b__law_told_v2 F (startE 2 us))),
  (43, fun us => outR (b__law_good F (startE 3 us))),
  (427, fun us => outR (b_law_v29 F (startE 19 us)))]
noncomputable def step (F : Nat → List PV → R PV) : Nat → List PV → R PV := look (tabL F)
noncomputable def FT : Nat → Nat → List PV → R PV
  | 0 => fun _ _ => .stuck
  | d + 1 => step (FT d)
/-! the text -/
def topS (i : Nat) : Stmt := PySem.Challenge.pw_lightbook_k01_first_faulty_token.main.body.getD i (.Pass ⟨0, 0, 0, 0⟩)
theorem sc_0 : FnScope ["character"] ["character"] (defScope (topS 6)) := ⟨rfl, rfl, rfl, by decide +kernel, rfl, by decide +kernel, by decide +kernel⟩
theorem sc_1 : FnScope ["character"] ["character"] (defScope (topS 7)) := ⟨rfl, rfl, rfl, by decide +kernel, rfl, by decide +kernel, by decide +kernel⟩
theorem sc_2 : FnScope ["character"] ["character"] (defScope (topS 8)) := ⟨rfl, rfl, rfl, by decide +kernel, rfl, by decide +kernel, by decide +kernel⟩
theorem sc_3 : FnScope ["text", "character"] ["text"] (defScope (topS 9)) := ⟨rfl, rfl, rfl, by decide +kernel, rfl, by decide +kernel, by decide +kernel⟩
theorem sc_4 : FnScope ["line", "start", "end"] ["line", "start"] (defScope (topS 16)) := ⟨rfl, rfl, rfl, by decide +kernel, rfl, by decide +kernel, by decide +kernel⟩
theorem sc_5 : FnScope ["line", "start", "end"] ["line", "start"] (defScope (topS 17)) := ⟨rfl, rfl, rfl, by decide +kernel, rfl, by decide +kernel, by decide +kernel⟩
theorem sc_6 : FnScope ["digits", "value"] ["digits"] (defScope (topS 18)) := ⟨rfl, rfl, rfl, by decide +kernel, rfl, by decide +kernel, by decide +kernel⟩
theorem sc_7 : FnScope ["line", "at"] ["line", "at"] (defScope (topS 19)) := ⟨rfl, rfl, rfl, by decide +kernel, rfl, by decide +kernel, by decide +kernel⟩
theorem sc_8 : FnScope ["line", "at", "end", "value", "behind"] ["line", "at"] (defScope (topS 20)) := ⟨rfl, rfl, rfl, by decide +kernel, rfl, by decide +kernel, by decide +kernel⟩
theorem sc_9 : FnScope ["line", "at", "end"] ["line", "at"] (defScope (topS 21)) := ⟨rfl, rfl, rfl, by decide +kernel, rfl, by decide +kernel, by decide +kernel⟩
theorem sc_10 : FnScope ["line", "at", "character", "end"] ["line", "at"] (defScope (topS 22)) := ⟨rfl, rfl, rfl, by decide +kernel, rfl, by decide +kernel, by decide +kernel⟩
theorem sc_11 : FnScope ["line", "number", "found", "at", "token"] ["line", "number", "found"] (defScope (topS 23)) := ⟨rfl, rfl, rfl, by decide +kernel, rfl, by decide +kernel, by decide +kernel⟩
theorem sc_12 : FnScope ["text", "lines", "found", "number", "line", "column"] ["text"] (defScope (topS 24)) := ⟨rfl, rfl, rfl, by decide +kernel, rfl, by decide +kernel, by decide +kernel⟩
theorem sc_13 : FnScope ["text", "found", "last"] ["text"] (defScope (topS 25)) := ⟨rfl, rfl, rfl, by decide +kernel, rfl, by decide +kernel, by decide +kernel⟩
theorem sc_14 : FnScope ["script", "k"] ["script", "k"] (defScope (topS 27)) := ⟨rfl, rfl, rfl, by decide +kernel, rfl, by decide +kernel, by decide +kernel⟩
theorem sc_15 : FnScope ["cell", "limits", "row", "rest", "great", "k", "mixed"] ["cell", "limits"] (defScope (topS 28)) := ⟨rfl, rfl, rfl, by decide +kernel, rfl, by decide +kernel, by decide +kernel⟩
theorem sc_16 : FnScope ["cell", "size", "text", "marks", "mark", "k"] ["cell", "size"] (defScope (topS 29)) := ⟨rfl, rfl, rfl, by decide +kernel, rfl, by decide +kernel, by decide +kernel⟩
theorem sc_17 : FnScope ["cell", "d", "small", "number"] ["cell"] (defScope (topS 30)) := ⟨rfl, rfl, rfl, by decide +kernel, rfl, by decide +kernel, by decide +kernel⟩
theorem sc_18 : FnScope ["token"] ["token"] (defScope (topS 31)) := ⟨rfl, rfl, rfl, by decide +kernel, rfl, by decide +kernel, by decide +kernel⟩
theorem sc_19 : FnScope ["line", "column", "text", "k"] ["line", "column", "text"] (defScope (topS 32)) := ⟨rfl, rfl, rfl, by decide +kernel, rfl, by decide +kernel, by decide +kernel⟩
theorem sc_20 : FnScope ["cell"] ["cell"] (defScope (topS 33)) := ⟨rfl, rfl, rfl, by decide +kernel, rfl, by decide +kernel, by decide +kernel⟩
theorem sc_21 : FnScope ["text", "e"] ["text"] (defScope (topS 34)) := ⟨rfl, rfl, rfl, by decide +kernel, rfl, by decide +kernel, by decide +kernel⟩
theorem sc_22 : FnScope ["text", "small", "sign"] ["text"] (defScope (topS 35)) := ⟨rfl, rfl, rfl, by decide +kernel, rfl, by decide +kernel, by decide +kernel⟩
theorem sc_23 : FnScope ["script", "size", "name", "one", "told", "runs", "shift", "text", "plain", "place", "found", "count", "first", "second", "k", "token", "spelled", "gap", "wrong"] ["script"] (defScope (topS 36)) := ⟨rfl, rfl, rfl, by decide +kernel, rfl, by decide +kernel, by decide +kernel⟩
structure Tx (P : Program) (w : World) (K : PySem.W.Frag) (mg : Str → Option Value) (base : Heap) (cl : Nat → Addr) : Prop where
  z_ValueError : mg "ValueError" = none
  z_abs : mg "abs" = none
  z_bool : mg "bool" = none
  z_int : mg "int" = none
  z_isinstance : mg "isinstance" = none
  z_len : mg "len" = none
  z_max : mg "max" = none
  z_min : mg "min" = none
  z_range : mg "range" = none
  z_str : mg "str" = none
  c_LONGEST : GlobV K cl mg "LONGEST" c_LONGEST
  c_LONGEST_NUMBER : GlobV K cl mg "LONGEST_NUMBER" c_LONGEST_NUMBER
  c_MOST_NUMBER : GlobV K cl mg "MOST_NUMBER" c_MOST_NUMBER
  c_POINT : GlobV K cl mg "POINT" c_POINT
  c_QUOTE : GlobV K cl mg "QUOTE" c_QUOTE
  c_SIGNS : GlobV K cl mg "SIGNS" c_SIGNS_v1
  x_BadText : ExcAt P w K mg base cl 1 "BadText" 6 3 sp_BadText
  m_BadText : ExmAt K mg cl "BadText" mt_BadText
  i_LightError : IsiAt K mg cl "LightError" mi_LightError
  i_OutOfRange : IsiAt K mg cl "OutOfRange" mi_OutOfRange
  i_ValueError : IsiAt K mg cl "ValueError" mi_ValueError
  f_BadText_column : FldAt K cl 6 "column"
  f_BadText_line : FldAt K cl 6 "line"
  f_BadText_reason : FldAt K cl 6 "reason"
structure TxD (P : Program) (w : World) (K : PySem.W.Frag) (mg : Str → Option Value) (base : Heap) (cl : Nat → Addr) (d : Nat) : Prop where
  d_is_letter : DefAt P w K mg base cl (d + 2) "is_letter" 1 (FT d 363)
  d_is_any_letter : DefAt P w K mg base cl (d + 2) "is_any_letter" 1 (FT d 347)
  d_is_digit : DefAt P w K mg base cl (d + 2) "is_digit" 1 (FT d 357)
  d_is_name : DefAt P w K mg base cl (d + 2) "is_name" 1 (FT d 366)
  d_run_of_digits : DefAt P w K mg base cl (d + 2) "run_of_digits" 2 (FT d 529)
  d_run_of_letters : DefAt P w K mg base cl (d + 2) "run_of_letters" 2 (FT d 530)
  d_number_of_digits : DefAt P w K mg base cl (d + 2) "number_of_digits" 1 (FT d 478)
  d_is_letter_at : DefAt P w K mg base cl (d + 2) "is_letter_at" 2 (FT d 364)
  d_number_at : DefAt P w K mg base cl (d + 2) "number_at" 2 (FT d 477)
  d_quoted_at : DefAt P w K mg base cl (d + 2) "quoted_at" 2 (FT d 507)
  d_token_at : DefAt P w K mg base cl (d + 2) "token_at" 2 (FT d 627)
  d_scan_line : DefAtM P w K mg base cl (d + 2) "scan_line" [false, false, true] (FT d 544)
  d_scan : DefAt P w K mg base cl (d + 2) "scan" 1 (FT d 543)
  d_tokens_of : DefAt P w K mg base cl (d + 2) "tokens_of" 1 (FT d 628)
  d__law_cell : DefAt P w K mg base cl (d + 2) "_law_cell" 2 (FT d 13)
  d__law_draw : DefAt P w K mg base cl (d + 2) "_law_draw" 2 (FT d 22)
  d__law_name : DefAt P w K mg base cl (d + 2) "_law_name" 2 (FT d 66)
  d__law_token : DefAt P w K mg base cl (d + 2) "_law_token" 1 (FT d 130)
  d__law_spelled : DefAt P w K mg base cl (d + 2) "_law_spelled" 1 (FT d 117)
  d__law_after : DefAt P w K mg base cl (d + 2) "_law_after" 3 (FT d 0)
  d__law_gap : DefAt P w K mg base cl (d + 2) "_law_gap" 1 (FT d 40)
  d__law_told : DefAt P w K mg base cl (d + 2) "_law_told" 1 (FT d 133)
  d__law_good : DefAt P w K mg base cl (d + 2) "_law_good" 1 (FT d 43)
  d_law : DefAt P w K mg base cl (d + 2) "law" 1 (FT d 427)
structure Txt (K : PySem.W.Frag) (mg : Str → Option Value) : Prop where
  g_is_letter : ∃ f fd, Fun K "is_letter" "is_letter" (topS 6) f fd ∧ mg "is_letter" = some (.ref f)
  g_is_any_letter : ∃ f fd, Fun K "is_any_letter" "is_any_letter" (topS 7) f fd ∧ mg "is_any_letter" = some (.ref f)
  g_is_digit : ∃ f fd, Fun K "is_digit" "is_digit" (topS 8) f fd ∧ mg "is_digit" = some (.ref f)
  g_is_name : ∃ f fd, Fun K "is_name" "is_name" (topS 9) f fd ∧ mg "is_name" = some (.ref f)
  g_run_of_digits : ∃ f fd, Fun K "run_of_digits" "run_of_digits" (topS 16) f fd ∧ mg "run_of_digits" = some (.ref f)
  g_run_of_letters : ∃ f fd, Fun K "run_of_letters" "run_of_letters" (topS 17) f fd ∧ mg "run_of_letters" = some (.ref f)
  g_number_of_digits : ∃ f fd, Fun K "number_of_digits" "number_of_digits" (topS 18) f fd ∧ mg "number_of_digits" = some (.ref f)
  g_is_letter_at : ∃ f fd, Fun K "is_letter_at" "is_letter_at" (topS 19) f fd ∧ mg "is_letter_at" = some (.ref f)
  g_number_at : ∃ f fd, Fun K "number_at" "number_at" (topS 20) f fd ∧ mg "number_at" = some (.ref f)
  g_quoted_at : ∃ f fd, Fun K "quoted_at" "quoted_at" (topS 21) f fd ∧ mg "quoted_at" = some (.ref f)
  g_token_at : ∃ f fd, Fun K "token_at" "token_at" (topS 22) f fd ∧ mg "token_at" = some (.ref f)
  g_scan_line : ∃ f fd, Fun K "scan_line" "scan_line" (topS 23) f fd ∧ mg "scan_line" = some (.ref f)
  g_scan : ∃ f fd, Fun K "scan" "scan" (topS 24) f fd ∧ mg "scan" = some (.ref f)
  g_tokens_of : ∃ f fd, Fun K "tokens_of" "tokens_of" (topS 25) f fd ∧ mg "tokens_of" = some (.ref f)
  g__law_cell : ∃ f fd, Fun K "_law_cell" "_law_cell" (topS 27) f fd ∧ mg "_law_cell" = some (.ref f)
  g__law_draw : ∃ f fd, Fun K "_law_draw" "_law_draw" (topS 28) f fd ∧ mg "_law_draw" = some (.ref f)
  g__law_name : ∃ f fd, Fun K "_law_name" "_law_name" (topS 29) f fd ∧ mg "_law_name" = some (.ref f)
  g__law_token : ∃ f fd, Fun K "_law_token" "_law_token" (topS 30) f fd ∧ mg "_law_token" = some (.ref f)
  g__law_spelled : ∃ f fd, Fun K "_law_spelled" "_law_spelled" (topS 31) f fd ∧ mg "_law_spelled" = some (.ref f)
  g__law_after : ∃ f fd, Fun K "_law_after" "_law_after" (topS 32) f fd ∧ mg "_law_after" = some (.ref f)
  g__law_gap : ∃ f fd, Fun K "_law_gap" "_law_gap" (topS 33) f fd ∧ mg "_law_gap" = some (.ref f)
  g__law_told : ∃ f fd, Fun K "_law_told" "_law_told" (topS 34) f fd ∧ mg "_law_told" = some (.ref f)
  g__law_good : ∃ f fd, Fun K "_law_good" "_law_good" (topS 35) f fd ∧ mg "_law_good" = some (.ref f)
  g_law : ∃ f fd, Fun K "law" "law" (topS 36) f fd ∧ mg "law" = some (.ref f)
section
variable {P : Program} {w : World} {K : PySem.W.Frag} {mg : Str → Option Value} {base : Heap} {cl : Nat → Addr} {d : Nat}
theorem bd_0 {f : Addr} {fd : FuncData} (F : Fun K "is_letter" "is_letter" (topS 6) f fd) : Binds K fd ["character"] [] := F.binds fun _ _ _ _ _ _ us hl => match us, hl with | [_], _ => rfl
theorem bd_1 {f : Addr} {fd : FuncData} (F : Fun K "is_any_letter" "is_any_letter" (topS 7) f fd) : Binds K fd ["character"] [] := F.binds fun _ _ _ _ _ _ us hl => match us, hl with | [_], _ => rfl
theorem bd_2 {f : Addr} {fd : FuncData} (F : Fun K "is_digit" "is_digit" (topS 8) f fd) : Binds K fd ["character"] [] := F.binds fun _ _ _ _ _ _ us hl => match us, hl with | [_], _ => rfl
theorem bd_3 {f : Addr} {fd : FuncData} (F : Fun K "is_name" "is_name" (topS 9) f fd) : Binds K fd ["text"] [] := F.binds fun _ _ _ _ _ _ us hl => match us, hl with | [_], _ => rfl
theorem bd_4 {f : Addr} {fd : FuncData} (F : Fun K "run_of_digits" "run_of_digits" (topS 16) f fd) : Binds K fd ["line", "start"] [] := F.binds fun _ _ _ _ _ _ us hl => match us, hl with | [_, _], _ => rfl
theorem bd_5 {f : Addr} {fd : FuncData} (F : Fun K "run_of_letters" "run_of_letters" (topS 17) f fd) : Binds K fd ["line", "start"] [] := F.binds fun _ _ _ _ _ _ us hl => match us, hl with | [_, _], _ => rfl
theorem bd_6 {f : Addr} {fd : FuncData} (F : Fun K "number_of_digits" "number_of_digits" (topS 18) f fd) : Binds K fd ["digits"] [] := F.binds fun _ _ _ _ _ _ us hl => match us, hl with | [_], _ => rfl
theorem bd_7 {f : Addr} {fd : FuncData} (F : Fun K "is_letter_at" "is_letter_at" (topS 19) f fd) : Binds K fd ["line", "at"] [] := F.binds fun _ _ _ _ _ _ us hl => match us, hl with | [_, _], _ => rfl
theorem bd_8 {f : Addr} {fd : FuncData} (F : Fun K "number_at" "number_at" (topS 20) f fd) : Binds K fd ["line", "at"] [] := F.binds fun _ _ _ _ _ _ us hl => match us, hl with | [_, _], _ => rfl
theorem bd_9 {f : Addr} {fd : FuncData} (F : Fun K "quoted_at" "quoted_at" (topS 21) f fd) : Binds K fd ["line", "at"] [] := F.binds fun _ _ _ _ _ _ us hl => match us, hl with | [_, _], _ => rfl
theorem bd_10 {f : Addr} {fd : FuncData} (F : Fun K "token_at" "token_at" (topS 22) f fd) : Binds K fd ["line", "at"] [] := F.binds fun _ _ _ _ _ _ us hl => match us, hl with | [_, _], _ => rfl
theorem bd_11 {f : Addr} {fd : FuncData} (F : Fun K "scan_line" "scan_line" (topS 23) f fd) : Binds K fd ["line", "number", "found"] [] := F.binds fun _ _ _ _ _ _ us hl => match us, hl with | [_, _, _], _ => rfl
theorem bd_12 {f : Addr} {fd : FuncData} (F : Fun K "scan" "scan" (topS 24) f fd) : Binds K fd ["text"] [] := F.binds fun _ _ _ _ _ _ us hl => match us, hl with | [_], _ => rfl
theorem bd_13 {f : Addr} {fd : FuncData} (F : Fun K "tokens_of" "tokens_of" (topS 25) f fd) : Binds K fd ["text"] [] := F.binds fun _ _ _ _ _ _ us hl => match us, hl with | [_], _ => rfl
theorem bd_14 {f : Addr} {fd : FuncData} (F : Fun K "_law_cell" "_law_cell" (topS 27) f fd) : Binds K fd ["script", "k"] [] := F.binds fun _ _ _ _ _ _ us hl => match us, hl with | [_, _], _ => rfl
theorem bd_15 {f : Addr} {fd : FuncData} (F : Fun K "_law_draw" "_law_draw" (topS 28) f fd) : Binds K fd ["cell", "limits"] [] := F.binds fun _ _ _ _ _ _ us hl => match us, hl with | [_, _], _ => rfl
theorem bd_16 {f : Addr} {fd : FuncData} (F : Fun K "_law_name" "_law_name" (topS 29) f fd) : Binds K fd ["cell", "size"] [] := F.binds fun _ _ _ _ _ _ us hl => match us, hl with | [_, _], _ => rfl
theorem bd_17 {f : Addr} {fd : FuncData} (F : Fun K "_law_token" "_law_token" (topS 30) f fd) : Binds K fd ["cell"] [] := F.binds fun _ _ _ _ _ _ us hl => match us, hl with | [_], _ => rfl
theorem bd_18 {f : Addr} {fd : FuncData} (F : Fun K "_law_spelled" "_law_spelled" (topS 31) f fd) : Binds K fd ["token"] [] := F.binds fun _ _ _ _ _ _ us hl => match us, hl with | [_], _ => rfl
theorem bd_19 {f : Addr} {fd : FuncData} (F : Fun K "_law_after" "_law_after" (topS 32) f fd) : Binds K fd ["line", "column", "text"] [] := F.binds fun _ _ _ _ _ _ us hl => match us, hl with | [_, _, _], _ => rfl
theorem bd_20 {f : Addr} {fd : FuncData} (F : Fun K "_law_gap" "_law_gap" (topS 33) f fd) : Binds K fd ["cell"] [] := F.binds fun _ _ _ _ _ _ us hl => match us, hl with | [_], _ => rfl
theorem bd_21 {f : Addr} {fd : FuncData} (F : Fun K "_law_told" "_law_told" (topS 34) f fd) : Binds K fd ["text"] [] := F.binds fun _ _ _ _ _ _ us hl => match us, hl with | [_], _ => rfl
theorem bd_22 {f : Addr} {fd : FuncData} (F : Fun K "_law_good" "_law_good" (topS 35) f fd) : Binds K fd ["text"] [] := F.binds fun _ _ _ _ _ _ us hl => match us, hl with | [_], _ => rfl
theorem bd_23 {f : Addr} {fd : FuncData} (F : Fun K "law" "law" (topS 36) f fd) : Binds K fd ["script"] [] := F.binds fun _ _ _ _ _ _ us hl => match us, hl with | [_], _ => rfl
theorem ok_0 (T : Tx P w K mg base cl) (TD : TxD P w K mg base cl d) {f : Addr} {cdv : Value} {A : Around} {outer : List PySem.Env} {s : Shared} {H : Hp} {E : XK} {He : Hp} (hr : Room (d + 2) (A.deeper (envOfC "is_letter" (defScope (topS 6)) s.heap.objs.size f cdv))) :
    PVs (cxOf (L2.CX P w) P w K mg base ["character"] "is_letter" (defScope (topS 6)) f cdv A outer s H E) cl (fun c d _ H => E c d H) He H [] (defBody (topS 6)) (b_is_letter (FT d)) := by
  have tk : Takes (cxOf (L2.CX P w) P w K mg base ["character"] "is_letter" (defScope (topS 6)) f cdv A outer s H E) (fun c d _ H => E c d H) := takes_of rfl rfl rfl rfl
  exact vs_one (vs_ret (ve_chain or_le or_le ov_le ov_le (ve_str) (ve_var 0) (ve_str)))
theorem ok_1 (T : Tx P w K mg base cl) (TD : TxD P w K mg base cl d) {f : Addr} {cdv : Value} {A : Around} {outer : List PySem.Env} {s : Shared} {H : Hp} {E : XK} {He : Hp} (hr : Room (d + 2) (A.deeper (envOfC "is_any_letter" (defScope (topS 7)) s.heap.objs.size f cdv))) :
    PVs (cxOf (L2.CX P w) P w K mg base ["character"] "is_any_letter" (defScope (topS 7)) f cdv A outer s H E) cl (fun c d _ H => E c d H) He H [] (defBody (topS 7)) (b_is_any_letter (FT d)) := by
  have tk : Takes (cxOf (L2.CX P w) P w K mg base ["character"] "is_any_letter" (defScope (topS 7)) f cdv A outer s H E) (fun c d _ H => E c d H) := takes_of rfl rfl rfl rfl
  exact vs_one (vs_ret (ve_or (vc (TD.d_is_letter) hr tk (va_cons (ve_var 0) (va_nil))) (ve_one (ve_chain or_le or_le ov_le ov_le (ve_str) (ve_var 0) (ve_str)))))
theorem ok_2 (T : Tx P w K mg base cl) (TD : TxD P w K mg base cl d) {f : Addr} {cdv : Value} {A : Around} {outer : List PySem.Env} {s : Shared} {H : Hp} {E : XK} {He : Hp} (hr : Room (d + 2) (A.deeper (envOfC "is_digit" (defScope (topS 8)) s.heap.objs.size f cdv))) :
    PVs (cxOf (L2.CX P w) P w K mg base ["character"] "is_digit" (defScope (topS 8)) f cdv A outer s H E) cl (fun c d _ H => E c d H) He H [] (defBody (topS 8)) (b_is_digit (FT d)) := by
  have tk : Takes (cxOf (L2.CX P w) P w K mg base ["character"] "is_digit" (defScope (topS 8)) f cdv A outer s H E) (fun c d _ H => E c d H) := takes_of rfl rfl rfl rfl
  exact vs_one (vs_ret (ve_chain or_le or_le ov_le ov_le (ve_str) (ve_var 0) (ve_str)))
theorem ok_3 (T : Tx P w K mg base cl) (TD : TxD P w K mg base cl d) {f : Addr} {cdv : Value} {A : Around} {outer : List PySem.Env} {s : Shared} {H : Hp} {E : XK} {He : Hp} (hr : Room (d + 2) (A.deeper (envOfC "is_name" (defScope (topS 9)) s.heap.objs.size f cdv))) :
    PVs (cxOf (L2.CX P w) P w K mg base ["text", "character"] "is_name" (defScope (topS 9)) f cdv A outer s H E) cl (fun c d _ H => E c d H) He H [] (defBody (topS 9)) (b_is_name (FT d)) := by
  have tk : Takes (cxOf (L2.CX P w) P w K mg base ["text", "character"] "is_name" (defScope (topS 9)) f cdv A outer s H E) (fun c d _ H => E c d H) := takes_of rfl rfl rfl rfl
  have hp := passes_of (X := cxOf (L2.CX P w) P w K mg base ["text", "character"] "is_name" (defScope (topS 9)) f cdv A outer s H E) rfl
  exact vs_cons (vs_if (PW.pt (vw_or (vt_cmp (or_lt (room0 hr)) ov_lt (ve_callB call_len cv_len T.z_len boot_len (va_cons (ve_var 0) (va_nil))) (ve_int)) (vw_or (vt_cmp op_gt ov_gt (ve_callB call_len cv_len T.z_len boot_len (va_cons (ve_var 0) (va_nil))) (ve_glob T.c_LONGEST)) (vw_or1 (vt_not (vt_tru (vc (TD.d_is_letter) hr tk (va_cons (ve_ix (ve_var 0) (ve_int)) (va_nil))))))))) (vs_one (vs_ret (ve_bl))) (vs_nil)) (vs_cons (vs_for hp rfl bears_wk wk_of (vi_seq (ve_var 0)) (pg_name (i := 1) sc_3.nd rfl (by first | exact Or.inl rfl | exact Or.inr rfl)) (tg_name 1) (vs_one (vs_if (PW.pt (vw_and (vt_not (vt_tru (vc (TD.d_is_letter) hr tk (va_cons (ve_var 1) (va_nil))))) (vw_and1 (vt_not (vt_tru (vc (TD.d_is_digit) hr tk (va_cons (ve_var 1) (va_nil)))))))) (vs_one (vs_ret (ve_bl))) (vs_nil)))) (vs_one (vs_ret (ve_bl))))
theorem ok_4 (T : Tx P w K mg base cl) (TD : TxD P w K mg base cl d) {f : Addr} {cdv : Value} {A : Around} {outer : List PySem.Env} {s : Shared} {H : Hp} {E : XK} {He : Hp} (hr : Room (d + 2) (A.deeper (envOfC "run_of_digits" (defScope (topS 16)) s.heap.objs.size f cdv))) :
    PVs (cxOf (L2.CX P w) P w K mg base ["line", "start", "end"] "run_of_digits" (defScope (topS 16)) f cdv A outer s H E) cl (fun c d _ H => E c d H) He H [] (defBody (topS 16)) (b_run_of_digits (FT d)) := by
  have tk : Takes (cxOf (L2.CX P w) P w K mg base ["line", "start", "end"] "run_of_digits" (defScope (topS 16)) f cdv A outer s H E) (fun c d _ H => E c d H) := takes_of rfl rfl rfl rfl
  have hp := passes_of (X := cxOf (L2.CX P w) P w K mg base ["line", "start", "end"] "run_of_digits" (defScope (topS 16)) f cdv A outer s H E) rfl
  exact vs_cons (vs_set sc_4.nd (ve_var 1)) (vs_cons (vs_while hp (PW.pt (vw_and (vt_cmp (or_lt (room0 hr)) ov_lt (ve_var 2) (ve_callB call_len cv_len T.z_len boot_len (va_cons (ve_var 0) (va_nil)))) (vw_and1 (vt_tru (vc (TD.d_is_digit) hr tk (va_cons (ve_ix (ve_var 0) (ve_var 2)) (va_nil))))))) (vs_one (vs_aug iop_add ov_iadd sc_4.nd (ve_int)))) (vs_one (vs_ret (ve_var 2))))
theorem ok_5 (T : Tx P w K mg base cl) (TD : TxD P w K mg base cl d) {f : Addr} {cdv : Value} {A : Around} {outer : List PySem.Env} {s : Shared} {H : Hp} {E : XK} {He : Hp} (hr : Room (d + 2) (A.deeper (envOfC "run_of_letters" (defScope (topS 17)) s.heap.objs.size f cdv))) :
    PVs (cxOf (L2.CX P w) P w K mg base ["line", "start", "end"] "run_of_letters" (defScope (topS 17)) f cdv A outer s H E) cl (fun c d _ H => E c d H) He H [] (defBody (topS 17)) (b_run_of_letters (FT d)) := by
  have tk : Takes (cxOf (L2.CX P w) P w K mg base ["line", "start", "end"] "run_of_letters" (defScope (topS 17)) f cdv A outer s H E) (fun c d _ H => E c d H) := takes_of rfl rfl rfl rfl
  have hp := passes_of (X := cxOf (L2.CX P w) P w K mg base ["line", "start", "end"] "run_of_letters" (defScope (topS 17)) f cdv A outer s H E) rfl
  exact vs_cons (vs_set sc_5.nd (ve_var 1)) (vs_cons (vs_while hp (PW.pt (vw_and (vt_cmp (or_lt (room0 hr)) ov_lt (ve_var 2) (ve_callB call_len cv_len T.z_len boot_len (va_cons (ve_var 0) (va_nil)))) (vw_and1 (PW.pt (vw_or (vt_tru (vc (TD.d_is_letter) hr tk (va_cons (ve_ix (ve_var 0) (ve_var 2)) (va_nil)))) (vw_or1 (vt_tru (vc (TD.d_is_digit) hr tk (va_cons (ve_ix (ve_var 0) (ve_var 2)) (va_nil)))))))))) (vs_one (vs_aug iop_add ov_iadd sc_5.nd (ve_int)))) (vs_one (vs_ret (ve_var 2))))
theorem ok_6 (T : Tx P w K mg base cl) (TD : TxD P w K mg base cl d) {f : Addr} {cdv : Value} {A : Around} {outer : List PySem.Env} {s : Shared} {H : Hp} {E : XK} {He : Hp} (hr : Room (d + 2) (A.deeper (envOfC "number_of_digits" (defScope (topS 18)) s.heap.objs.size f cdv))) :
    PVs (cxOf (L2.CX P w) P w K mg base ["digits", "value"] "number_of_digits" (defScope (topS 18)) f cdv A outer s H E) cl (fun c d _ H => E c d H) He H [] (defBody (topS 18)) (b_number_of_digits (FT d)) := by
  have tk : Takes (cxOf (L2.CX P w) P w K mg base ["digits", "value"] "number_of_digits" (defScope (topS 18)) f cdv A outer s H E) (fun c d _ H => E c d H) := takes_of rfl rfl rfl rfl
  exact vs_cons (vs_if (PW.pt (vw_or (vt_cmp op_gt ov_gt (ve_callB call_len cv_len T.z_len boot_len (va_cons (ve_var 0) (va_nil))) (ve_glob T.c_LONGEST_NUMBER)) (vw_or1 (PW.pt (vw_and (vt_cmp op_gt ov_gt (ve_callB call_len cv_len T.z_len boot_len (va_cons (ve_var 0) (va_nil))) (ve_int)) (vw_and1 (vt_cmp (or_eq (room64 hr)) ov_eq (ve_ix (ve_var 0) (ve_int)) (ve_str)))))))) (vs_one (vs_ret (ve_non))) (vs_nil)) (vs_cons (vs_set sc_6.nd (ve_callTy (CallR.or call_int1 call_int_str) cv_intT T.z_int boot_int (va_cons (ve_var 0) (va_nil)))) (vs_one (vs_ret (ve_if (vt_cmp or_le ov_le (ve_var 1) (ve_glob T.c_MOST_NUMBER)) (ve_var 1) (ve_non)))))
theorem ok_7 (T : Tx P w K mg base cl) (TD : TxD P w K mg base cl d) {f : Addr} {cdv : Value} {A : Around} {outer : List PySem.Env} {s : Shared} {H : Hp} {E : XK} {He : Hp} (hr : Room (d + 2) (A.deeper (envOfC "is_letter_at" (defScope (topS 19)) s.heap.objs.size f cdv))) :
    PVs (cxOf (L2.CX P w) P w K mg base ["line", "at"] "is_letter_at" (defScope (topS 19)) f cdv A outer s H E) cl (fun c d _ H => E c d H) He H [] (defBody (topS 19)) (b_is_letter_at (FT d)) := by
  have tk : Takes (cxOf (L2.CX P w) P w K mg base ["line", "at"] "is_letter_at" (defScope (topS 19)) f cdv A outer s H E) (fun c d _ H => E c d H) := takes_of rfl rfl rfl rfl
  exact vs_one (vs_ret (ve_and (ve_cmp (or_lt (room0 hr)) ov_lt (ve_var 1) (ve_callB call_len cv_len T.z_len boot_len (va_cons (ve_var 0) (va_nil)))) (ve_one (vc (TD.d_is_any_letter) hr tk (va_cons (ve_ix (ve_var 0) (ve_var 1)) (va_nil))))))
theorem ok_8 (T : Tx P w K mg base cl) (TD : TxD P w K mg base cl d) {f : Addr} {cdv : Value} {A : Around} {outer : List PySem.Env} {s : Shared} {H : Hp} {E : XK} {He : Hp} (hr : Room (d + 2) (A.deeper (envOfC "number_at" (defScope (topS 20)) s.heap.objs.size f cdv))) :
    PVs (cxOf (L2.CX P w) P w K mg base ["line", "at", "end", "value", "behind"] "number_at" (defScope (topS 20)) f cdv A outer s H E) cl (fun c d _ H => E c d H) He H [] (defBody (topS 20)) (b_number_at (FT d)) := by
  have tk : Takes (cxOf (L2.CX P w) P w K mg base ["line", "at", "end", "value", "behind"] "number_at" (defScope (topS 20)) f cdv A outer s H E) (fun c d _ H => E c d H) := takes_of rfl rfl rfl rfl
  exact vs_cons (vs_set sc_8.nd (vc (TD.d_run_of_digits) hr tk (va_cons (ve_var 0) (va_cons (ve_var 1) (va_nil))))) (vs_cons (vs_set sc_8.nd (vc (TD.d_number_of_digits) hr tk (va_cons (ve_slice (ve_var 0) (vo_some (ve_var 1)) (vo_some (ve_var 2))) (va_nil)))) (vs_cons (vs_if (PW.pt (vw_or (vt_cmp or_is ov_is (ve_var 3) (ve_non)) (vw_or1 (vt_tru (vc (TD.d_is_letter_at) hr tk (va_cons (ve_var 0) (va_cons (ve_var 2) (va_nil)))))))) (vs_one (vs_ret (ve_non))) (vs_nil)) (vs_cons (vs_if (PW.pt (vw_or (vt_cmp (or_ne (room64 hr)) ov_ne (ve_slice (ve_var 0) (vo_some (ve_var 2)) (vo_some (ve_bin or_add ov_add (ve_var 2) (ve_int)))) (ve_glob T.c_POINT)) (vw_or1 (vt_cmp (or_eq (room64 hr)) ov_eq (vc (TD.d_run_of_digits) hr tk (va_cons (ve_var 0) (va_cons (ve_bin or_add ov_add (ve_var 2) (ve_int)) (va_nil)))) (ve_bin or_add ov_add (ve_var 2) (ve_int)))))) (vs_one (vs_ret (ve_tup (va_cons (ve_str) (va_cons (ve_var 3) (va_cons (ve_var 2) (va_nil))))))) (vs_nil)) (vs_cons (vs_set sc_8.nd (vc (TD.d_run_of_digits) hr tk (va_cons (ve_var 0) (va_cons (ve_bin or_add ov_add (ve_var 2) (ve_int)) (va_nil))))) (vs_cons (vs_if (PW.pt (vw_or (vt_cmp (or_ne (room64 hr)) ov_ne (ve_var 4) (ve_bin or_add ov_add (ve_var 2) (ve_int))) (vw_or1 (vt_tru (vc (TD.d_is_letter_at) hr tk (va_cons (ve_var 0) (va_cons (ve_var 4) (va_nil)))))))) (vs_one (vs_ret (ve_non))) (vs_nil)) (vs_one (vs_ret (ve_tup (va_cons (ve_str) (va_cons (ve_bin or_add ov_add (ve_bin or_mul ov_mul (ve_var 3) (ve_int)) (ve_callTy (CallR.or call_int1 call_int_str) cv_intT T.z_int boot_int (va_cons (ve_ix (ve_var 0) (ve_bin or_add ov_add (ve_var 2) (ve_int))) (va_nil)))) (va_cons (ve_var 4) (va_nil))))))))))))
theorem ok_9 (T : Tx P w K mg base cl) (TD : TxD P w K mg base cl d) {f : Addr} {cdv : Value} {A : Around} {outer : List PySem.Env} {s : Shared} {H : Hp} {E : XK} {He : Hp} (hr : Room (d + 2) (A.deeper (envOfC "quoted_at" (defScope (topS 21)) s.heap.objs.size f cdv))) :
    PVs (cxOf (L2.CX P w) P w K mg base ["line", "at", "end"] "quoted_at" (defScope (topS 21)) f cdv A outer s H E) cl (fun c d _ H => E c d H) He H [] (defBody (topS 21)) (b_quoted_at (FT d)) := by
  have tk : Takes (cxOf (L2.CX P w) P w K mg base ["line", "at", "end"] "quoted_at" (defScope (topS 21)) f cdv A outer s H E) (fun c d _ H => E c d H) := takes_of rfl rfl rfl rfl
  have hp := passes_of (X := cxOf (L2.CX P w) P w K mg base ["line", "at", "end"] "quoted_at" (defScope (topS 21)) f cdv A outer s H E) rfl
  exact vs_cons (vs_set sc_9.nd (ve_bin or_add ov_add (ve_var 1) (ve_int))) (vs_cons (vs_while hp (PW.pt (vw_and (vt_cmp (or_lt (room0 hr)) ov_lt (ve_var 2) (ve_callB call_len cv_len T.z_len boot_len (va_cons (ve_var 0) (va_nil)))) (vw_and1 (vt_cmp (or_ne (room64 hr)) ov_ne (ve_ix (ve_var 0) (ve_var 2)) (ve_glob T.c_QUOTE))))) (vs_one (vs_aug iop_add ov_iadd sc_9.nd (ve_int)))) (vs_one (vs_ret (ve_if (vt_cmp (or_lt (room0 hr)) ov_lt (ve_var 2) (ve_callB call_len cv_len T.z_len boot_len (va_cons (ve_var 0) (va_nil)))) (ve_tup (va_cons (ve_str) (va_cons (ve_slice (ve_var 0) (vo_some (ve_bin or_add ov_add (ve_var 1) (ve_int))) (vo_some (ve_var 2))) (va_cons (ve_bin or_add ov_add (ve_var 2) (ve_int)) (va_nil))))) (ve_non)))))
theorem ok_10 (T : Tx P w K mg base cl) (TD : TxD P w K mg base cl d) {f : Addr} {cdv : Value} {A : Around} {outer : List PySem.Env} {s : Shared} {H : Hp} {E : XK} {He : Hp} (hr : Room (d + 2) (A.deeper (envOfC "token_at" (defScope (topS 22)) s.heap.objs.size f cdv))) :
    PVs (cxOf (L2.CX P w) P w K mg base ["line", "at", "character", "end"] "token_at" (defScope (topS 22)) f cdv A outer s H E) cl (fun c d _ H => E c d H) He H [] (defBody (topS 22)) (b_token_at (FT d)) := by
  have tk : Takes (cxOf (L2.CX P w) P w K mg base ["line", "at", "character", "end"] "token_at" (defScope (topS 22)) f cdv A outer s H E) (fun c d _ H => E c d H) := takes_of rfl rfl rfl rfl
  exact vs_cons (vs_set sc_10.nd (ve_ix (ve_var 0) (ve_var 1))) (vs_cons (vs_if (vt_tru (vc (TD.d_is_digit) hr tk (va_cons (ve_var 2) (va_nil)))) (vs_one (vs_ret (vc (TD.d_number_at) hr tk (va_cons (ve_var 0) (va_cons (ve_var 1) (va_nil)))))) (vs_nil)) (vs_cons (vs_if (vt_tru (vc (TD.d_is_letter) hr tk (va_cons (ve_var 2) (va_nil)))) (vs_cons (vs_set sc_10.nd (vc (TD.d_run_of_letters) hr tk (va_cons (ve_var 0) (va_cons (ve_var 1) (va_nil))))) (vs_one (vs_ret (ve_tup (va_cons (ve_str) (va_cons (ve_slice (ve_var 0) (vo_some (ve_var 1)) (vo_some (ve_var 3))) (va_cons (ve_var 3) (va_nil)))))))) (vs_nil)) (vs_cons (vs_if (vt_cmp (or_eq (room64 hr)) ov_eq (ve_var 2) (ve_glob T.c_QUOTE)) (vs_one (vs_ret (vc (TD.d_quoted_at) hr tk (va_cons (ve_var 0) (va_cons (ve_var 1) (va_nil)))))) (vs_nil)) (vs_cons (vs_if (vt_cmp (or_in (room65 hr)) ov_in (ve_var 2) (ve_glob T.c_SIGNS)) (vs_one (vs_ret (ve_tup (va_cons (ve_str) (va_cons (ve_var 2) (va_cons (ve_bin or_add ov_add (ve_var 1) (ve_int)) (va_nil))))))) (vs_nil)) (vs_one (vs_ret (ve_non)))))))
theorem ok_11 (T : Tx P w K mg base cl) (TD : TxD P w K mg base cl d) {f : Addr} {cdv : Value} {A : Around} {outer : List PySem.Env} {s : Shared} {H H0 : Hp} {E : XK} {He : Hp} {a : Addr} (hr : Room (d + 2) (A.deeper (envOfC "scan_line" (defScope (topS 23)) s.heap.objs.size f cdv))) :
    PVs (cxOf (L2.CX P w) P w K mg base ["line", "number", "found", "at", "token"] "scan_line" (defScope (topS 23)) f cdv A outer s H E) cl (fun c d _ H => E c d H) He H0 [a] (defBody (topS 23)) (b_scan_line (FT d)) := by
  have tk : Takes (cxOf (L2.CX P w) P w K mg base ["line", "number", "found", "at", "token"] "scan_line" (defScope (topS 23)) f cdv A outer s H E) (fun c d _ H => E c d H) := takes_of rfl rfl rfl rfl
  have hp := passes_of (X := cxOf (L2.CX P w) P w K mg base ["line", "number", "found", "at", "token"] "scan_line" (defScope (topS 23)) f cdv A outer s H E) rfl
  exact vs_cons (vs_set sc_11.nd (ve_int)) (vs_cons (vs_while hp (vt_cmp (or_lt (room0 hr)) ov_lt (ve_var 3) (ve_callB call_len cv_len T.z_len boot_len (va_cons (ve_var 0) (va_nil)))) (vs_cons (vs_if (vt_cmp (or_eq (room64 hr)) ov_eq (ve_ix (ve_var 0) (ve_var 3)) (ve_str)) (vs_one (vs_retM (m := 2) (y_pure [] (ve_int)))) (vs_nil)) (vs_one (vs_if (vt_cmp (or_eq (room64 hr)) ov_eq (ve_ix (ve_var 0) (ve_var 3)) (ve_str)) (vs_one (vs_aug iop_add ov_iadd sc_11.nd (ve_int))) (vs_cons (vs_set sc_11.nd (vc (TD.d_token_at) hr tk (va_cons (ve_var 0) (va_cons (ve_var 3) (va_nil))))) (vs_cons (vs_if (vt_cmp or_is ov_is (ve_var 4) (ve_non)) (vs_one (vs_retM (m := 2) (y_pure [] (ve_bin or_add ov_add (ve_var 3) (ve_int))))) (vs_nil)) (vs_cons (vs_metY PySem.F.slot_list_append PySem.F.type_list_append mt_append met_app (ya_cons (y_pure [] (ve_tup (va_cons (ve_ix (ve_var 4) (ve_int)) (va_cons (ve_ix (ve_var 4) (ve_int)) (va_cons (ve_var 1) (va_cons (ve_bin or_add ov_add (ve_var 3) (ve_int)) (va_nil))))))) (ya_nil))) (vs_one (vs_set sc_11.nd (ve_ix (ve_var 4) (ve_int))))))))))) (vs_one (vs_retM (m := 2) (y_pure [] (ve_int)))))
theorem ok_12 (T : Tx P w K mg base cl) (TD : TxD P w K mg base cl d) {f : Addr} {cdv : Value} {A : Around} {outer : List PySem.Env} {s : Shared} {H : Hp} {E : XK} {He : Hp} (hr : Room (d + 2) (A.deeper (envOfC "scan" (defScope (topS 24)) s.heap.objs.size f cdv))) :
    PVs (cxOf (L2.CX P w) P w K mg base ["text", "lines", "found", "number", "line", "column"] "scan" (defScope (topS 24)) f cdv A outer s H E) cl (fun c d _ H => E c d H) He H [] (defBody (topS 24)) (b_scan (FT d)) := by
  have tk : Takes (cxOf (L2.CX P w) P w K mg base ["text", "lines", "found", "number", "line", "column"] "scan" (defScope (topS 24)) f cdv A outer s H E) (fun c d _ H => E c d H) := takes_of rfl rfl rfl rfl
  have hp := passes_of (X := cxOf (L2.CX P w) P w K mg base ["text", "lines", "found", "number", "line", "column"] "scan" (defScope (topS 24)) f cdv A outer s H E) rfl
  exact vs_cons (vs_set sc_12.nd (ve_ofO (vo_split (ve_var 0) (ve_str)))) (vs_cons (vs_own sc_12.nd (vo_lst (va_nil))) (vs_cons (vs_set sc_12.nd (ve_int)) (vs_cons (vs_for hp rfl bears_wk wk_of (vi_seq (ve_var 1)) (pg_name (i := 4) sc_12.nd rfl (by first | exact Or.inl rfl | exact Or.inr rfl)) (tg_name 4) (vs_cons (vs_aug iop_add ov_iadd sc_12.nd (ve_int)) (vs_cons (vs_setY sc_12.nd (y_call (TD.d_scan_line) hr tk (yo_cons (y_pure [] (ve_var 4)) (yo_cons (y_pure [] (ve_var 3)) (yo_pin (yo_nil)))))) (vs_one (vs_if (vt_cmp op_gt ov_gt (ve_var 5) (ve_int)) (vs_cons (vs_met PySem.F.slot_list_append PySem.F.type_list_append mt_append met_app (va_cons (ve_tup (va_cons (ve_str) (va_cons (ve_str) (va_cons (ve_var 3) (va_cons (ve_var 5) (va_nil)))))) (va_nil))) (vs_one (vs_ret (ve_var 2)))) (vs_nil)))))) (vs_cons (vs_met PySem.F.slot_list_append PySem.F.type_list_append mt_append met_app (va_cons (ve_tup (va_cons (ve_str) (va_cons (ve_str) (va_cons (ve_var 3) (va_cons (ve_bin or_add ov_add (ve_callB call_len cv_len T.z_len boot_len (va_cons (ve_ix (ve_var 1) (ve_neg (ve_int))) (va_nil))) (ve_int)) (va_nil)))))) (va_nil))) (vs_one (vs_ret (ve_var 2)))))))
theorem ok_13 (T : Tx P w K mg base cl) (TD : TxD P w K mg base cl d) {f : Addr} {cdv : Value} {A : Around} {outer : List PySem.Env} {s : Shared} {H : Hp} {E : XK} {He : Hp} (hr : Room (d + 2) (A.deeper (envOfC "tokens_of" (defScope (topS 25)) s.heap.objs.size f cdv))) :
    PVs (cxOf (L2.CX P w) P w K mg base ["text", "found", "last"] "tokens_of" (defScope (topS 25)) f cdv A outer s H E) cl (fun c d _ H => E c d H) He H [] (defBody (topS 25)) (b_tokens_of (FT d)) := by
  have tk : Takes (cxOf (L2.CX P w) P w K mg base ["text", "found", "last"] "tokens_of" (defScope (topS 25)) f cdv A outer s H E) (fun c d _ H => E c d H) := takes_of rfl rfl rfl rfl
  exact vs_cons (vs_set sc_13.nd (vc (TD.d_scan) hr tk (va_cons (ve_var 0) (va_nil)))) (vs_cons (vs_set sc_13.nd (ve_ix (ve_var 1) (ve_neg (ve_int)))) (vs_cons (vs_if (vt_cmp (or_eq (room64 hr)) ov_eq (ve_ix (ve_var 2) (ve_int)) (ve_str)) (vs_one (vr T.x_BadText (room2 hr) rfl tk (va_cons (ve_ix (ve_var 2) (ve_int)) (va_cons (ve_ix (ve_var 2) (ve_int)) (va_cons (ve_str) (va_nil)))))) (vs_nil)) (vs_one (vs_ret (ve_var 1)))))
theorem ok_14 (T : Tx P w K mg base cl) (TD : TxD P w K mg base cl d) {f : Addr} {cdv : Value} {A : Around} {outer : List PySem.Env} {s : Shared} {H : Hp} {E : XK} {He : Hp} (hr : Room (d + 2) (A.deeper (envOfC "_law_cell" (defScope (topS 27)) s.heap.objs.size f cdv))) :
    PVs (cxOf (L2.CX P w) P w K mg base ["script", "k"] "_law_cell" (defScope (topS 27)) f cdv A outer s H E) cl (fun c d _ H => E c d H) He H [] (defBody (topS 27)) (b__law_cell (FT d)) := by
  have tk : Takes (cxOf (L2.CX P w) P w K mg base ["script", "k"] "_law_cell" (defScope (topS 27)) f cdv A outer s H E) (fun c d _ H => E c d H) := takes_of rfl rfl rfl rfl
  exact vs_cons (vs_if (vt_cmp (or_lt (room0 hr)) ov_lt (ve_var 1) (ve_callB call_len cv_len T.z_len boot_len (va_cons (ve_var 0) (va_nil)))) (vs_one (vs_ret (ve_ix (ve_var 0) (ve_var 1)))) (vs_nil)) (vs_one (vs_ret (ve_int)))
theorem ok_15 (T : Tx P w K mg base cl) (TD : TxD P w K mg base cl d) {f : Addr} {cdv : Value} {A : Around} {outer : List PySem.Env} {s : Shared} {H : Hp} {E : XK} {He : Hp} (hr : Room (d + 2) (A.deeper (envOfC "_law_draw" (defScope (topS 28)) s.heap.objs.size f cdv))) :
    PVs (cxOf (L2.CX P w) P w K mg base ["cell", "limits", "row", "rest", "great", "k", "mixed"] "_law_draw" (defScope (topS 28)) f cdv A outer s H E) cl (fun c d _ H => E c d H) He H [] (defBody (topS 28)) (b__law_draw (FT d)) := by
  have tk : Takes (cxOf (L2.CX P w) P w K mg base ["cell", "limits", "row", "rest", "great", "k", "mixed"] "_law_draw" (defScope (topS 28)) f cdv A outer s H E) (fun c d _ H => E c d H) := takes_of rfl rfl rfl rfl
  have hp := passes_of (X := cxOf (L2.CX P w) P w K mg base ["cell", "limits", "row", "rest", "great", "k", "mixed"] "_law_draw" (defScope (topS 28)) f cdv A outer s H E) rfl
  exact vs_cons (vs_own sc_15.nd (vo_lst (va_nil))) (vs_cons (vs_set sc_15.nd (ve_callB call_abs cv_abs T.z_abs boot_abs (va_cons (ve_var 0) (va_nil)))) (vs_cons (vs_set sc_15.nd (ve_cmp op_ge ov_ge (ve_var 3) (ve_int))) (vs_cons (vs_for hp rfl bears_wkA wkA_of (vi_r1 (ve_callB call_len cv_len T.z_len boot_len (va_cons (ve_var 1) (va_nil))) T.z_range) (pg_name (i := 5) sc_15.nd rfl (by first | exact Or.inl rfl | exact Or.inr rfl)) (tg_name 5) (vs_one (vs_if (PW.pt (vw_and (vt_tru (ve_var 4)) (vw_and1 (vt_cmp op_ge ov_ge (ve_var 3) (ve_ix (ve_var 1) (ve_var 5)))))) (vs_cons (vs_met PySem.F.slot_list_append PySem.F.type_list_append mt_append met_app (va_cons (ve_bin op_mod ov_mod (ve_callTy call_int1 cv_int T.z_int boot_int (va_cons (ve_var 3) (va_nil))) (ve_ix (ve_var 1) (ve_var 5))) (va_nil))) (vs_one (vs_set sc_15.nd (ve_bin op_fdivS ov_div (ve_var 3) (ve_ix (ve_var 1) (ve_var 5)))))) (vs_cons (vs_set sc_15.nd (ve_bin op_mod ov_mod (ve_callTy call_int1 cv_int T.z_int boot_int (va_cons (ve_bin or_add ov_add (ve_bin or_mul ov_mul (ve_callB call_abs cv_abs T.z_abs boot_abs (va_cons (ve_var 0) (va_nil))) (ve_int)) (ve_bin or_mul ov_mul (ve_bin or_add ov_add (ve_var 5) (ve_int)) (ve_int))) (va_nil))) (ve_int))) (vs_cons (vs_set sc_15.nd (ve_bin op_mod ov_mod (ve_callTy call_int1 cv_int T.z_int boot_int (va_cons (ve_bin or_add ov_add (ve_bin or_mul ov_mul (ve_var 6) (ve_int)) (ve_bin or_mul ov_mul (ve_bin or_add ov_add (ve_var 5) (ve_int)) (ve_int))) (va_nil))) (ve_int))) (vs_one (vs_met PySem.F.slot_list_append PySem.F.type_list_append mt_append met_app (va_cons (ve_bin op_mod ov_mod (ve_callTy call_int1 cv_int T.z_int boot_int (va_cons (ve_var 6) (va_nil))) (ve_ix (ve_var 1) (ve_var 5))) (va_nil))))))))) (vs_one (vs_ret (ve_var 2))))))
theorem ok_16 (T : Tx P w K mg base cl) (TD : TxD P w K mg base cl d) {f : Addr} {cdv : Value} {A : Around} {outer : List PySem.Env} {s : Shared} {H : Hp} {E : XK} {He : Hp} (hr : Room (d + 2) (A.deeper (envOfC "_law_name" (defScope (topS 29)) s.heap.objs.size f cdv))) :
    PVs (cxOf (L2.CX P w) P w K mg base ["cell", "size", "text", "marks", "mark", "k"] "_law_name" (defScope (topS 29)) f cdv A outer s H E) cl (fun c d _ H => E c d H) He H [] (defBody (topS 29)) (b__law_name (FT d)) := by
  have tk : Takes (cxOf (L2.CX P w) P w K mg base ["cell", "size", "text", "marks", "mark", "k"] "_law_name" (defScope (topS 29)) f cdv A outer s H E) (fun c d _ H => E c d H) := takes_of rfl rfl rfl rfl
  exact vs_cons (vs_set sc_16.nd (ve_str)) (vs_cons (vs_set sc_16.nd (vc (TD.d__law_draw) hr tk (va_cons (ve_var 0) (va_cons (ve_bin or_add ov_add (ve_lst (va_cons (ve_int) (va_nil))) (ve_ofO (vo_lc (own := [(("k" : Str), 5)]) rfl sc_16.nd (vi_r1 (ve_bin op_sub ov_sub (ve_var 1) (ve_int)) T.z_range) wkA_of (blk_of (by rfl)) (tg_name 5) (mem_tn rfl) (fun _ _ _ _ _ => pg_name (i := 5) sc_16.nd rfl (by first | exact Or.inl rfl | exact Or.inr rfl)) (fun _ _ _ _ _ => vts_nil) (fun _ _ _ _ _ => ve_int)))) (va_nil))))) (vs_one (vs_ret (ve_join (ve_str) (ve_ofO (vo_lc (own := [(("mark" : Str), 4)]) rfl sc_16.nd (vi_seq (ve_var 3)) wk_of (blk_of (by rfl)) (tg_name 4) (mem_tn rfl) (fun _ _ _ _ _ => pg_name (i := 4) sc_16.nd rfl (by first | exact Or.inl rfl | exact Or.inr rfl)) (fun _ _ _ _ _ => vts_nil) (fun _ _ _ _ _ => ve_ix (ve_var 2) (ve_var 4))))))))
theorem ok_17 (T : Tx P w K mg base cl) (TD : TxD P w K mg base cl d) {f : Addr} {cdv : Value} {A : Around} {outer : List PySem.Env} {s : Shared} {H : Hp} {E : XK} {He : Hp} (hr : Room (d + 2) (A.deeper (envOfC "_law_token" (defScope (topS 30)) s.heap.objs.size f cdv))) :
    PVs (cxOf (L2.CX P w) P w K mg base ["cell", "d", "small", "number"] "_law_token" (defScope (topS 30)) f cdv A outer s H E) cl (fun c d _ H => E c d H) He H [] (defBody (topS 30)) (b__law_token (FT d)) := by
  have tk : Takes (cxOf (L2.CX P w) P w K mg base ["cell", "d", "small", "number"] "_law_token" (defScope (topS 30)) f cdv A outer s H E) (fun c d _ H => E c d H) := takes_of rfl rfl rfl rfl
  exact vs_cons (vs_set sc_17.nd (vc (TD.d__law_draw) hr tk (va_cons (ve_var 0) (va_cons (ve_lst (va_cons (ve_int) (va_cons (ve_int) (va_cons (ve_int) (va_cons (ve_int) (va_cons (ve_int) (va_cons (ve_int) (va_cons (ve_int) (va_nil))))))))) (va_nil))))) (vs_cons (vs_set sc_17.nd (ve_str)) (vs_cons (vs_set sc_17.nd (ve_ix (ve_lst (va_cons (ve_ix (ve_var 1) (ve_int)) (va_cons (ve_int) (va_cons (ve_bin op_mod ov_mod (ve_callTy call_int1 cv_int T.z_int boot_int (va_cons (ve_ix (ve_var 1) (ve_int)) (va_nil))) (ve_int)) (va_cons (ve_int) (va_cons (ve_bin op_mod ov_mod (ve_callTy call_int1 cv_int T.z_int boot_int (va_cons (ve_ix (ve_var 1) (ve_int)) (va_nil))) (ve_int)) (va_nil))))))) (ve_ix (ve_var 1) (ve_int)))) (vs_cons (vs_if (vt_cmp (or_eq (room64 hr)) ov_eq (ve_ix (ve_var 1) (ve_int)) (ve_int)) (vs_one (vs_ret (ve_tup (va_cons (ve_str) (va_cons (ve_slice (ve_bin or_add ov_add (ve_bin or_add ov_add (ve_ix (ve_var 2) (ve_ix (ve_var 1) (ve_int))) (ve_ix (ve_var 2) (ve_ix (ve_var 1) (ve_int)))) (ve_ix (ve_var 2) (ve_ix (ve_var 1) (ve_int)))) (vo_none) (vo_some (ve_bin or_add ov_add (ve_int) (ve_bin op_mod ov_mod (ve_callTy call_int1 cv_int T.z_int boot_int (va_cons (ve_ix (ve_var 1) (ve_int)) (va_nil))) (ve_int))))) (va_nil)))))) (vs_nil)) (vs_cons (vs_if (vt_cmp (or_eq (room64 hr)) ov_eq (ve_ix (ve_var 1) (ve_int)) (ve_int)) (vs_one (vs_ret (ve_tup (va_cons (ve_str) (va_cons (ve_var 3) (va_nil)))))) (vs_nil)) (vs_cons (vs_if (vt_cmp (or_eq (room64 hr)) ov_eq (ve_ix (ve_var 1) (ve_int)) (ve_int)) (vs_one (vs_ret (ve_tup (va_cons (ve_str) (va_cons (ve_bin or_add ov_add (ve_bin or_mul ov_mul (ve_int) (ve_var 3)) (ve_bin op_mod ov_mod (ve_callTy call_int1 cv_int T.z_int boot_int (va_cons (ve_ix (ve_var 1) (ve_int)) (va_nil))) (ve_int))) (va_nil)))))) (vs_nil)) (vs_cons (vs_if (vt_cmp (or_eq (room64 hr)) ov_eq (ve_ix (ve_var 1) (ve_int)) (ve_int)) (vs_one (vs_ret (ve_tup (va_cons (ve_str) (va_cons (ve_ix (ve_lst (va_cons (ve_str) (va_cons (ve_str) (va_cons (ve_str) (va_cons (ve_str) (va_cons (ve_str) (va_nil))))))) (ve_ix (ve_var 1) (ve_int))) (va_nil)))))) (vs_nil)) (vs_one (vs_ret (ve_tup (va_cons (ve_str) (va_cons (ve_ix (ve_str) (ve_ix (ve_var 1) (ve_int))) (va_nil))))))))))))
theorem ok_18 (T : Tx P w K mg base cl) (TD : TxD P w K mg base cl d) {f : Addr} {cdv : Value} {A : Around} {outer : List PySem.Env} {s : Shared} {H : Hp} {E : XK} {He : Hp} (hr : Room (d + 2) (A.deeper (envOfC "_law_spelled" (defScope (topS 31)) s.heap.objs.size f cdv))) :
    PVs (cxOf (L2.CX P w) P w K mg base ["token"] "_law_spelled" (defScope (topS 31)) f cdv A outer s H E) cl (fun c d _ H => E c d H) He H [] (defBody (topS 31)) (b__law_spelled (FT d)) := by
  have tk : Takes (cxOf (L2.CX P w) P w K mg base ["token"] "_law_spelled" (defScope (topS 31)) f cdv A outer s H E) (fun c d _ H => E c d H) := takes_of rfl rfl rfl rfl
  exact vs_cons (vs_if (vt_cmp (or_eq (room64 hr)) ov_eq (ve_ix (ve_var 0) (ve_int)) (ve_str)) (vs_one (vs_ret (ve_bin or_add ov_add (ve_bin or_add ov_add (ve_callTy (CallR.or call_str_int SkE.call_str_str) cv_strT T.z_str boot_str (va_cons (ve_bin op_fdivS ov_div (ve_ix (ve_var 0) (ve_int)) (ve_int)) (va_nil))) (ve_str)) (ve_callTy (CallR.or call_str_int SkE.call_str_str) cv_strT T.z_str boot_str (va_cons (ve_bin op_mod ov_mod (ve_callTy call_int1 cv_int T.z_int boot_int (va_cons (ve_ix (ve_var 0) (ve_int)) (va_nil))) (ve_int)) (va_nil)))))) (vs_nil)) (vs_cons (vs_if (vt_cmp (or_eq (room64 hr)) ov_eq (ve_ix (ve_var 0) (ve_int)) (ve_str)) (vs_one (vs_ret (ve_bin or_add ov_add (ve_bin or_add ov_add (ve_str) (ve_ix (ve_var 0) (ve_int))) (ve_str)))) (vs_nil)) (vs_one (vs_ret (ve_callTy (CallR.or call_str_int SkE.call_str_str) cv_strT T.z_str boot_str (va_cons (ve_ix (ve_var 0) (ve_int)) (va_nil))))))
theorem ok_19 (T : Tx P w K mg base cl) (TD : TxD P w K mg base cl d) {f : Addr} {cdv : Value} {A : Around} {outer : List PySem.Env} {s : Shared} {H : Hp} {E : XK} {He : Hp} (hr : Room (d + 2) (A.deeper (envOfC "_law_after" (defScope (topS 32)) s.heap.objs.size f cdv))) :
    PVs (cxOf (L2.CX P w) P w K mg base ["line", "column", "text", "k"] "_law_after" (defScope (topS 32)) f cdv A outer s H E) cl (fun c d _ H => E c d H) He H [] (defBody (topS 32)) (b__law_after (FT d)) := by
  have tk : Takes (cxOf (L2.CX P w) P w K mg base ["line", "column", "text", "k"] "_law_after" (defScope (topS 32)) f cdv A outer s H E) (fun c d _ H => E c d H) := takes_of rfl rfl rfl rfl
  have hp := passes_of (X := cxOf (L2.CX P w) P w K mg base ["line", "column", "text", "k"] "_law_after" (defScope (topS 32)) f cdv A outer s H E) rfl
  exact vs_cons (vs_for hp rfl bears_wkA wkA_of (vi_r1 (ve_callB call_len cv_len T.z_len boot_len (va_cons (ve_var 2) (va_nil))) T.z_range) (pg_name (i := 3) sc_19.nd rfl (by first | exact Or.inl rfl | exact Or.inr rfl)) (tg_name 3) (vs_one (vs_if (vt_cmp (or_eq (room64 hr)) ov_eq (ve_ix (ve_var 2) (ve_var 3)) (ve_str)) (vs_cons (vs_set sc_19.nd (ve_bin or_add ov_add (ve_var 0) (ve_int))) (vs_one (vs_set sc_19.nd (ve_int)))) (vs_one (vs_set sc_19.nd (ve_bin or_add ov_add (ve_var 1) (ve_int))))))) (vs_one (vs_ret (ve_tup (va_cons (ve_var 0) (va_cons (ve_var 1) (va_nil))))))
theorem ok_20 (T : Tx P w K mg base cl) (TD : TxD P w K mg base cl d) {f : Addr} {cdv : Value} {A : Around} {outer : List PySem.Env} {s : Shared} {H : Hp} {E : XK} {He : Hp} (hr : Room (d + 2) (A.deeper (envOfC "_law_gap" (defScope (topS 33)) s.heap.objs.size f cdv))) :
    PVs (cxOf (L2.CX P w) P w K mg base ["cell"] "_law_gap" (defScope (topS 33)) f cdv A outer s H E) cl (fun c d _ H => E c d H) He H [] (defBody (topS 33)) (b__law_gap (FT d)) := by
  have tk : Takes (cxOf (L2.CX P w) P w K mg base ["cell"] "_law_gap" (defScope (topS 33)) f cdv A outer s H E) (fun c d _ H => E c d H) := takes_of rfl rfl rfl rfl
  exact vs_one (vs_ret (ve_ix (ve_lst (va_cons (ve_str) (va_cons (ve_str) (va_cons (ve_str) (va_cons (ve_str) (va_cons (ve_str) (va_cons (ve_str) (va_nil)))))))) (ve_bin op_mod ov_mod (ve_callTy call_int1 cv_int T.z_int boot_int (va_cons (ve_var 0) (va_nil))) (ve_int))))
theorem ok_21 (T : Tx P w K mg base cl) (TD : TxD P w K mg base cl d) {f : Addr} {cdv : Value} {A : Around} {outer : List PySem.Env} {s : Shared} {H : Hp} {E : XK} {He : Hp} (hr : Room (d + 2) (A.deeper (envOfC "_law_told" (defScope (topS 34)) s.heap.objs.size f cdv))) :
    PVs (cxOf (L2.CX P w) P w K mg base ["text", "e"] "_law_told" (defScope (topS 34)) f cdv A outer s H E) cl (fun c d _ H => E c d H) He H [] (defBody (topS 34)) (b__law_told_v2 (FT d)) := by
  have tk : Takes (cxOf (L2.CX P w) P w K mg base ["text", "e"] "_law_told" (defScope (topS 34)) f cdv A outer s H E) (fun c d _ H => E c d H) := takes_of rfl rfl rfl rfl
  have hp := passes_of (X := cxOf (L2.CX P w) P w K mg base ["text", "e"] "_law_told" (defScope (topS 34)) f cdv A outer s H E) rfl
  exact vs_one (vs_tr tk (fun W' pn' xe' tk' hp' => vs_one (vs_ret (ve_tup (va_cons (ve_str) (va_cons (ve_callB call_len cv_len T.z_len boot_len (va_cons (vc (TD.d_tokens_of) hr tk' (va_cons (ve_var 0) (va_nil))) (va_nil))) (va_cons (ve_int) (va_cons (ve_str) (va_nil)))))))) (hd_nm (i := 1) T.m_BadText sc_21.nd (fun _ _ _ _ _ hz hf => sx_if (PW.pt (xw_or (xt_tru (xx_isi T.i_OutOfRange hz hf T.z_isinstance)) (xw_or (xt_not (xt_tru (xx_isi T.i_LightError hz hf T.z_isinstance))) (xw_or1 (xt_not (xt_tru (xx_isi T.i_ValueError hz hf T.z_isinstance))))))) (sx_ret (xx_tup (xa_cons (xx_str) (xa_cons (xx_int) (xa_cons (xx_int) (xa_cons (xx_str) (xa_nil))))))) (sx_ret (xx_tup (xa_cons (xx_str) (xa_cons (xx_f T.f_BadText_line hz hf) (xa_cons (xx_f T.f_BadText_column hz hf) (xa_cons (xx_f T.f_BadText_reason hz hf) (xa_nil)))))))) (hd_nil)))
theorem ok_22 (T : Tx P w K mg base cl) (TD : TxD P w K mg base cl d) {f : Addr} {cdv : Value} {A : Around} {outer : List PySem.Env} {s : Shared} {H : Hp} {E : XK} {He : Hp} (hr : Room (d + 2) (A.deeper (envOfC "_law_good" (defScope (topS 35)) s.heap.objs.size f cdv))) :
    PVs (cxOf (L2.CX P w) P w K mg base ["text", "small", "sign"] "_law_good" (defScope (topS 35)) f cdv A outer s H E) cl (fun c d _ H => E c d H) He H [] (defBody (topS 35)) (b__law_good (FT d)) := by
  have tk : Takes (cxOf (L2.CX P w) P w K mg base ["text", "small", "sign"] "_law_good" (defScope (topS 35)) f cdv A outer s H E) (fun c d _ H => E c d H) := takes_of rfl rfl rfl rfl
  have hp := passes_of (X := cxOf (L2.CX P w) P w K mg base ["text", "small", "sign"] "_law_good" (defScope (topS 35)) f cdv A outer s H E) rfl
  exact vs_cons (vs_set sc_22.nd (ve_str)) (vs_cons (vs_if (PW.pt (vw_or (vt_cmp (or_lt (room0 hr)) ov_lt (ve_callB call_len cv_len T.z_len boot_len (va_cons (ve_var 0) (va_nil))) (ve_int)) (vw_or (vt_cmp op_gt ov_gt (ve_callB call_len cv_len T.z_len boot_len (va_cons (ve_var 0) (va_nil))) (ve_int)) (vw_or1 (vt_cmp (or_nin (room65 hr)) ov_nin (ve_ix (ve_var 0) (ve_int)) (ve_var 1)))))) (vs_one (vs_ret (ve_bl))) (vs_nil)) (vs_cons (vs_for hp rfl bears_wk wk_of (vi_seq (ve_var 0)) (pg_name (i := 2) sc_22.nd rfl (by first | exact Or.inl rfl | exact Or.inr rfl)) (tg_name 2) (vs_one (vs_if (PW.pt (vw_and (vt_cmp (or_nin (room65 hr)) ov_nin (ve_var 2) (ve_var 1)) (vw_and1 (vt_cmp (or_nin (room65 hr)) ov_nin (ve_var 2) (ve_str))))) (vs_one (vs_ret (ve_bl))) (vs_nil)))) (vs_one (vs_ret (ve_bl)))))
theorem ok_23 (T : Tx P w K mg base cl) (TD : TxD P w K mg base cl d) {f : Addr} {cdv : Value} {A : Around} {outer : List PySem.Env} {s : Shared} {H : Hp} {E : XK} {He : Hp} (hr : Room (d + 2) (A.deeper (envOfC "law" (defScope (topS 36)) s.heap.objs.size f cdv))) :
    PVs (cxOf (L2.CX P w) P w K mg base ["script", "size", "name", "one", "told", "runs", "shift", "text", "plain", "place", "found", "count", "first", "second", "k", "token", "spelled", "gap", "wrong"] "law" (defScope (topS 36)) f cdv A outer s H E) cl (fun c d _ H => E c d H) He H [] (defBody (topS 36)) (b_law_v29 (FT d)) := by
  have tk : Takes (cxOf (L2.CX P w) P w K mg base ["script", "size", "name", "one", "told", "runs", "shift", "text", "plain", "place", "found", "count", "first", "second", "k", "token", "spelled", "gap", "wrong"] "law" (defScope (topS 36)) f cdv A outer s H E) (fun c d _ H => E c d H) := takes_of rfl rfl rfl rfl
  have hp := passes_of (X := cxOf (L2.CX P w) P w K mg base ["script", "size", "name", "one", "told", "runs", "shift", "text", "plain", "place", "found", "count", "first", "second", "k", "token", "spelled", "gap", "wrong"] "law" (defScope (topS 36)) f cdv A outer s H E) rfl
  exact vs_cons (vs_set sc_23.nd (ve_bin or_add ov_add (ve_int) (ve_bin op_mod ov_mod (ve_bin op_fdivS ov_div (ve_callTy call_int1 cv_int T.z_int boot_int (va_cons (vc (TD.d__law_cell) hr tk (va_cons (ve_var 0) (va_cons (ve_int) (va_nil)))) (va_nil))) (ve_int)) (ve_int)))) (vs_cons (vs_set sc_23.nd (vc (TD.d__law_name) hr tk (va_cons (vc (TD.d__law_cell) hr tk (va_cons (ve_var 0) (va_cons (ve_int) (va_nil)))) (va_cons (ve_var 1) (va_nil))))) (vs_cons (vs_if (vt_cmp (or_eq (room64 hr)) ov_eq (ve_bin op_mod ov_mod (ve_callTy call_int1 cv_int T.z_int boot_int (va_cons (vc (TD.d__law_cell) hr tk (va_cons (ve_var 0) (va_cons (ve_int) (va_nil)))) (va_nil))) (ve_int)) (ve_int)) (vs_one (vs_set sc_23.nd (ve_bin or_add ov_add (ve_bin or_add ov_add (ve_slice (ve_var 2) (vo_none) (vo_some (ve_bin op_fdivS ov_div (ve_var 1) (ve_int)))) (ve_ix (ve_str) (ve_bin op_mod ov_mod (ve_bin op_fdivS ov_div (ve_callTy call_int1 cv_int T.z_int boot_int (va_cons (vc (TD.d__law_cell) hr tk (va_cons (ve_var 0) (va_cons (ve_int) (va_nil)))) (va_nil))) (ve_int)) (ve_int)))) (ve_slice (ve_var 2) (vo_some (ve_bin or_add ov_add (ve_bin op_fdivS ov_div (ve_var 1) (ve_int)) (ve_int))) (vo_none))))) (vs_nil)) (vs_cons (vs_for hp rfl bears_wk wk_of (vi_seq (ve_lst (va_cons (ve_var 2) (va_cons (ve_str) (va_cons (ve_str) (va_cons (ve_bin or_mulT ov_mulT (ve_str) (ve_int)) (va_cons (ve_bin or_mulT ov_mulT (ve_str) (ve_int)) (va_nil)))))))) (pg_name (i := 3) sc_23.nd rfl (by first | exact Or.inl rfl | exact Or.inr rfl)) (tg_name 3) (vs_cons (vs_set sc_23.nd (vc (TD.d_is_name) hr tk (va_cons (ve_var 3) (va_nil)))) (vs_one (vs_if (PW.pt (vw_or (vt_not (vt_tru (ve_callB call_isi cv_isa T.z_isinstance boot_isinstance (va_cons (ve_var 4) (va_cons ((ve_ty T.z_bool boot_bool)) (va_nil)))))) (vw_or1 (vt_cmp (or_ne (room64 hr)) ov_ne (ve_var 4) (vc (TD.d__law_good) hr tk (va_cons (ve_var 3) (va_nil))))))) (vs_one (vs_ret (ve_bl))) (vs_nil))))) (vs_cons (vs_set sc_23.nd (ve_lst (va_cons (ve_str) (va_cons (ve_str) (va_cons (ve_str) (va_cons (ve_str) (va_cons (ve_str) (va_cons (ve_str) (va_cons (ve_str) (va_cons (ve_str) (va_cons (ve_str) (va_cons (ve_str) (va_cons (ve_str) (va_cons (ve_str) (va_cons (ve_str) (va_cons (ve_str) (va_cons (ve_str) (va_cons (ve_str) (va_cons (ve_str) (va_cons (ve_str) (va_cons (ve_str) (va_cons (ve_str) (va_nil))))))))))))))))))))))) (vs_cons (vs_set sc_23.nd (ve_bin or_add ov_add (ve_var 5) (ve_lst (va_cons (ve_str) (va_cons (ve_str) (va_cons (ve_str) (va_cons (ve_str) (va_cons (ve_str) (va_cons (ve_str) (va_cons (ve_str) (va_cons (ve_str) (va_cons (ve_str) (va_cons (ve_str) (va_cons (ve_str) (va_cons (ve_str) (va_nil)))))))))))))))) (vs_cons (vs_om sc_23.nd (vn_disp (pps_v (ve_str) (ve_int) (pps_v (ve_str) (ve_int) (pps_v0))))) (vs_cons (vs_set sc_23.nd (ve_str)) (vs_cons (vs_set sc_23.nd (ve_str)) (vs_cons (vs_set sc_23.nd (ve_tup (va_cons (ve_int) (va_cons (ve_int) (va_nil))))) (vs_cons (vs_set sc_23.nd (ve_non)) (vs_cons (vs_set sc_23.nd (ve_callB (cr_min2 rfl) cv_min T.z_min boot_min (va_cons (ve_int) (va_cons (ve_callB (cr_max2 rfl) cv_max T.z_max boot_max (va_cons (ve_int) (va_cons (ve_bin op_sub ov_sub (ve_callB call_len cv_len T.z_len boot_len (va_cons (ve_var 0) (va_nil))) (ve_int)) (va_nil)))) (va_nil))))) (vs_cons (vs_set sc_23.nd (ve_bin op_mod ov_mod (ve_callTy call_int1 cv_int T.z_int boot_int (va_cons (vc (TD.d__law_cell) hr tk (va_cons (ve_var 0) (va_cons (ve_int) (va_nil)))) (va_nil))) (ve_var 11))) (vs_cons (vs_set sc_23.nd (ve_bin op_mod ov_mod (ve_callTy call_int1 cv_int T.z_int boot_int (va_cons (vc (TD.d__law_cell) hr tk (va_cons (ve_var 0) (va_cons (ve_int) (va_nil)))) (va_nil))) (ve_bin or_mul ov_mul (ve_int) (ve_var 11)))) (vs_cons (vs_for hp rfl bears_wkA wkA_of (vi_r1 (ve_var 11) T.z_range) (pg_name (i := 14) sc_23.nd rfl (by first | exact Or.inl rfl | exact Or.inr rfl)) (tg_name 14) (vs_cons (vs_set sc_23.nd (vc (TD.d__law_token) hr tk (va_cons (vc (TD.d__law_cell) hr tk (va_cons (ve_var 0) (va_cons (ve_bin or_add ov_add (ve_int) (ve_var 14)) (va_nil)))) (va_nil)))) (vs_cons (vs_set sc_23.nd (vc (TD.d__law_spelled) hr tk (va_cons (ve_var 15) (va_nil)))) (vs_cons (vs_set sc_23.nd (vc (TD.d__law_gap) hr tk (va_cons (ve_bin or_add ov_add (ve_bin op_fdivS ov_div (vc (TD.d__law_cell) hr tk (va_cons (ve_var 0) (va_cons (ve_bin or_add ov_add (ve_int) (ve_var 14)) (va_nil)))) (ve_int)) (ve_var 14)) (va_nil)))) (vs_cons (vs_set sc_23.nd (ve_bin or_add ov_add (ve_bin or_add ov_add (ve_var 8) (ve_var 16)) (ve_var 17))) (vs_cons (vs_if (PW.pt (vw_or (vt_cmp (or_eq (room64 hr)) ov_eq (ve_var 14) (ve_var 12)) (vw_or1 (vt_cmp (or_eq (room64 hr)) ov_eq (ve_var 14) (ve_var 13))))) (vs_cons (vs_set sc_23.nd (ve_ix (ve_var 5) (ve_bin op_mod ov_mod (ve_callTy call_int1 cv_int T.z_int boot_int (va_cons (ve_bin or_add ov_add (vc (TD.d__law_cell) hr tk (va_cons (ve_var 0) (va_cons (ve_int) (va_nil)))) (ve_var 14)) (va_nil))) (ve_callB call_len cv_len T.z_len boot_len (va_cons (ve_var 5) (va_nil)))))) (vs_cons (vs_if (vt_cmp or_is ov_is (ve_var 10) (ve_non)) (vs_one (vs_set sc_23.nd (ve_tup (va_cons (ve_ix (ve_var 9) (ve_int)) (va_cons (ve_bin or_add ov_add (ve_ix (ve_var 9) (ve_int)) (ve_get2 (Nat.lt_of_le_of_lt (Nat.add_le_add_left (by decide : 1 ≤ 64) _) (room64 hr)) (ve_var 6) (ve_var 18) (ve_int))) (va_nil)))))) (vs_nil)) (vs_one (vs_set sc_23.nd (ve_bin or_add ov_add (ve_bin or_add ov_add (ve_var 18) (ve_str)) (ve_var 16)))))) (vs_nil)) (vs_cons (vs_set sc_23.nd (ve_bin or_add ov_add (ve_bin or_add ov_add (ve_var 7) (ve_var 16)) (ve_var 17))) (vs_one (vs_set sc_23.nd (vc (TD.d__law_after) hr tk (va_cons (ve_ix (ve_var 9) (ve_int)) (va_cons (ve_ix (ve_var 9) (ve_int)) (va_cons (ve_bin or_add ov_add (ve_var 16) (ve_var 17)) (va_nil)))))))))))))) (vs_cons (vs_if (vt_cmp (or_ne (room64 hr)) ov_ne (vc (TD.d__law_told) hr tk (va_cons (ve_var 8) (va_nil))) (ve_tup (va_cons (ve_str) (va_cons (ve_bin or_add ov_add (ve_var 11) (ve_int)) (va_cons (ve_int) (va_cons (ve_str) (va_nil))))))) (vs_one (vs_ret (ve_bl))) (vs_nil)) (vs_one (vs_ret (ve_cmp (or_eq (room64 hr)) ov_eq (vc (TD.d__law_told) hr tk (va_cons (ve_var 7) (va_nil))) (ve_tup (va_cons (ve_str) (va_cons (ve_ix (ve_var 10) (ve_int)) (va_cons (ve_ix (ve_var 10) (ve_int)) (va_cons (ve_str) (va_nil))))))))))))))))))))))))
theorem all_ok (T : Tx P w K mg base cl) (X : Txt K mg) : ∀ d, TxD P w K mg base cl d := by
  intro d
  induction d with
  | zero => exact ⟨nun X.g_is_letter bd_0, nun X.g_is_any_letter bd_1, nun X.g_is_digit bd_2, nun X.g_is_name bd_3, nun X.g_run_of_digits bd_4, nun X.g_run_of_letters bd_5, nun X.g_number_of_digits bd_6, nun X.g_is_letter_at bd_7, nun X.g_number_at bd_8, nun X.g_quoted_at bd_9, nun X.g_token_at bd_10, nunM X.g_scan_line bd_11, nun X.g_scan bd_12, nun X.g_tokens_of bd_13, nun X.g__law_cell bd_14, nun X.g__law_draw bd_15, nun X.g__law_name bd_16, nun X.g__law_token bd_17, nun X.g__law_spelled bd_18, nun X.g__law_after bd_19, nun X.g__law_gap bd_20, nun X.g__law_told bd_21, nun X.g__law_good bd_22, nun X.g_law bd_23⟩
  | succ d ih => exact ⟨dun X.g_is_letter sc_0 bd_0 fun _ _ _ _ _ _ _ _ hr => ok_0 T ih hr, dun X.g_is_any_letter sc_1 bd_1 fun _ _ _ _ _ _ _ _ hr => ok_1 T ih hr, dun X.g_is_digit sc_2 bd_2 fun _ _ _ _ _ _ _ _ hr => ok_2 T ih hr, dun X.g_is_name sc_3 bd_3 fun _ _ _ _ _ _ _ _ hr => ok_3 T ih hr, dun X.g_run_of_digits sc_4 bd_4 fun _ _ _ _ _ _ _ _ hr => ok_4 T ih hr, dun X.g_run_of_letters sc_5 bd_5 fun _ _ _ _ _ _ _ _ hr => ok_5 T ih hr, dun X.g_number_of_digits sc_6 bd_6 fun _ _ _ _ _ _ _ _ hr => ok_6 T ih hr, dun X.g_is_letter_at sc_7 bd_7 fun _ _ _ _ _ _ _ _ hr => ok_7 T ih hr, dun X.g_number_at sc_8 bd_8 fun _ _ _ _ _ _ _ _ hr => ok_8 T ih hr, dun X.g_quoted_at sc_9 bd_9 fun _ _ _ _ _ _ _ _ hr => ok_9 T ih hr, dun X.g_token_at sc_10 bd_10 fun _ _ _ _ _ _ _ _ hr => ok_10 T ih hr, (dunM X.g_scan_line sc_11 bd_11 fun _ _ _ _ _ _ _ _ _ _ hr => ok_11 T ih hr), dun X.g_scan sc_12 bd_12 fun _ _ _ _ _ _ _ _ hr => ok_12 T ih hr, dun X.g_tokens_of sc_13 bd_13 fun _ _ _ _ _ _ _ _ hr => ok_13 T ih hr, dun X.g__law_cell sc_14 bd_14 fun _ _ _ _ _ _ _ _ hr => ok_14 T ih hr, dun X.g__law_draw sc_15 bd_15 fun _ _ _ _ _ _ _ _ hr => ok_15 T ih hr, dun X.g__law_name sc_16 bd_16 fun _ _ _ _ _ _ _ _ hr => ok_16 T ih hr, dun X.g__law_token sc_17 bd_17 fun _ _ _ _ _ _ _ _ hr => ok_17 T ih hr, dun X.g__law_spelled sc_18 bd_18 fun _ _ _ _ _ _ _ _ hr => ok_18 T ih hr, dun X.g__law_after sc_19 bd_19 fun _ _ _ _ _ _ _ _ hr => ok_19 T ih hr, dun X.g__law_gap sc_20 bd_20 fun _ _ _ _ _ _ _ _ hr => ok_20 T ih hr, dun X.g__law_told sc_21 bd_21 fun _ _ _ _ _ _ _ _ hr => ok_21 T ih hr, dun X.g__law_good sc_22 bd_22 fun _ _ _ _ _ _ _ _ hr => ok_22 T ih hr, dun X.g_law sc_23 bd_23 fun _ _ _ _ _ _ _ _ hr => ok_23 T ih hr⟩
end
def sI_BadText : Stmt := inClass (topS 2) 0
theorem scI_BadText : ExScope ["self", "line", "column", "reason"] (defScope sI_BadText) := exSc_of (by decide +kernel) (by rfl)
theorem ini_BadText {w : World} {K : PySem.W.Frag} {mg : Str → Option Value} {base : Heap} {C fI cc cda : Addr} (T : ExC K PySem.Challenge.pw_lightbook_k01_first_faulty_token C fI cc cda "BadText.__init__" sI_BadText) (hmg : mg "super" = none) (n_label : PySem.W.findIn K (.ref C) "label" = some none) (n_line : PySem.W.findIn K (.ref C) "line" = some none) (n_column : PySem.W.findIn K (.ref C) "column" = some none) (n_reason : PySem.W.findIn K (.ref C) "reason" = some none)
    {fd : FuncData} {oc : Value} {od : Option Addr} {osl : Array (Option Value)} (lk : K.lookup fI = some ⟨oc, od, .func fd, osl⟩) : FnOk PySem.Challenge.pw_lightbook_k01_first_faulty_token w K mg base (L2.CX PySem.Challenge.pw_lightbook_k01_first_faulty_token w) 1 fI fd ["self", "line", "column", "reason"] (spI C 3 sp_BadText) :=
  init_ok (k := 0) T scI_BadText rfl rfl rfl rfl hmg rfl (fun _ => rfl) (fun _ => ⟨_, rfl⟩) (fun _ => rfl) (fun p hp => by
    simp only [sp_BadText, List.mem_cons, List.not_mem_nil, or_false] at hp
    rcases hp with rfl | rfl | rfl | rfl
    · exact n_label
    · exact n_line
    · exact n_column
    · exact n_reason) (by decide) (fun X hN hS => ⟨_, pe_var (i := 3) (by rw [hN]; rfl) (by rw [hS]; exact .inl rfl) (by decide) (by decide), fun x ws H hw => by match ws, hw with | [_, _, _], _ => exact ⟨_, rfl, rfl⟩⟩) (fun X hN hS => ini_c (ps_ost (pe_var (i := 0) (by rw [hN]; rfl) (by rw [hS]; exact .inl rfl) (by decide) (by decide)) (pe_str)) (ini_c (ps_ost (pe_var (i := 0) (by rw [hN]; rfl) (by rw [hS]; exact .inl rfl) (by decide) (by decide)) (pe_var (i := 1) (by rw [hN]; rfl) (by rw [hS]; exact .inl rfl) (by decide) (by decide))) (ini_c (ps_ost (pe_var (i := 0) (by rw [hN]; rfl) (by rw [hS]; exact .inl rfl) (by decide) (by decide)) (pe_var (i := 2) (by rw [hN]; rfl) (by rw [hS]; exact .inl rfl) (by decide) (by decide))) (ini_c (ps_ost (pe_var (i := 0) (by rw [hN]; rfl) (by rw [hS]; exact .inl rfl) (by decide) (by decide)) (pe_var (i := 3) (by rw [hN]; rfl) (by rw [hS]; exact .inl rfl) (by decide) (by decide))) (ini_n))))) lk
theorem all_mk {w : World} {K : PySem.W.Frag} {h : Heap} {mg : Str → Option Value} {fa C_BadText f_BadText cc_BadText cda_BadText C_LightError C_OutOfRange : Addr} (X : K.In h) (G : h.Ns mainGlobals mg) (hfa : mg "law" = some (.ref fa))
    (a_BadText : PySem.W.nsIn K mainGlobals "BadText" = some (some (.ref C_BadText)))
    (T_BadText : ExC K PySem.Challenge.pw_lightbook_k01_first_faulty_token C_BadText f_BadText cc_BadText cda_BadText "BadText.__init__" sI_BadText)
    (n_BadText_label : PySem.W.findIn K (.ref C_BadText) "label" = some none)
    (n_BadText_line : PySem.W.findIn K (.ref C_BadText) "line" = some none)
    (n_BadText_column : PySem.W.findIn K (.ref C_BadText) "column" = some none)
    (n_BadText_reason : PySem.W.findIn K (.ref C_BadText) "reason" = some none)
    (a_LightError : PySem.W.nsIn K mainGlobals "LightError" = some (some (.ref C_LightError)))
    (a_OutOfRange : PySem.W.nsIn K mainGlobals "OutOfRange" = some (some (.ref C_OutOfRange)))
    (e_BadText : PySem.W.subIn K (.ref C_BadText) (.type "BaseException") = some true)
    (i_BadText : PySem.W.isClsIn K C_BadText = true)
    (t_BadText : PySem.W.typeIn K (.ref C_BadText) = some (.type "type"))
    (s_BadText_BadText : PySem.W.subIn K (.ref C_BadText) (.ref C_BadText) = some true)
    (ec_BadText : ExcC K C_BadText)
    (ic_BadText : PySem.W.isClsIn K C_BadText = true)
    (ki_BadText_LightError : PySem.W.kitOne K (.ref C_BadText) (.ref C_LightError) = some true)
    (ki_BadText_OutOfRange : PySem.W.kitOne K (.ref C_BadText) (.ref C_OutOfRange) = some false)
    (ki_BadText_ValueError : PySem.W.kitOne K (.ref C_BadText) (.type "ValueError") = some true)
    (ga_BadText : PySem.W.findIn K (.ref C_BadText) "__getattribute__" = some (some (.builtin "BaseException.__getattribute__")))
    (gg_BadText : PySem.W.findIn K (.ref C_BadText) "__getattr__" = some none)
    (ge_BadText : PySem.W.subIn K (.ref C_BadText) (.type "BaseException") = some true)
    (gh_BadText : PySem.W.hasDictIn K C_BadText = true)
    (z_ValueError : mg "ValueError" = none)
    (z_abs : mg "abs" = none)
    (z_bool : mg "bool" = none)
    (z_int : mg "int" = none)
    (z_isinstance : mg "isinstance" = none)
    (z_len : mg "len" = none)
    (z_max : mg "max" = none)
    (z_min : mg "min" = none)
    (z_range : mg "range" = none)
    (z_str : mg "str" = none)
    (z_super : mg "super" = none)
    (c_LONGEST' : ∀ cl, GlobV K cl mg "LONGEST" c_LONGEST)
    (c_LONGEST_NUMBER' : ∀ cl, GlobV K cl mg "LONGEST_NUMBER" c_LONGEST_NUMBER)
    (c_MOST_NUMBER' : ∀ cl, GlobV K cl mg "MOST_NUMBER" c_MOST_NUMBER)
    (c_POINT' : ∀ cl, GlobV K cl mg "POINT" c_POINT)
    (c_QUOTE' : ∀ cl, GlobV K cl mg "QUOTE" c_QUOTE)
    (c_SIGNS' : ∀ cl, GlobV K cl mg "SIGNS" c_SIGNS_v1)
    (g_is_letter : ∃ f fd, Fun K "is_letter" "is_letter" (topS 6) f fd ∧ mg "is_letter" = some (.ref f))
    (g_is_any_letter : ∃ f fd, Fun K "is_any_letter" "is_any_letter" (topS 7) f fd ∧ mg "is_any_letter" = some (.ref f))
    (g_is_digit : ∃ f fd, Fun K "is_digit" "is_digit" (topS 8) f fd ∧ mg "is_digit" = some (.ref f))
    (g_is_name : ∃ f fd, Fun K "is_name" "is_name" (topS 9) f fd ∧ mg "is_name" = some (.ref f))
    (g_run_of_digits : ∃ f fd, Fun K "run_of_digits" "run_of_digits" (topS 16) f fd ∧ mg "run_of_digits" = some (.ref f))
    (g_run_of_letters : ∃ f fd, Fun K "run_of_letters" "run_of_letters" (topS 17) f fd ∧ mg "run_of_letters" = some (.ref f))
    (g_number_of_digits : ∃ f fd, Fun K "number_of_digits" "number_of_digits" (topS 18) f fd ∧ mg "number_of_digits" = some (.ref f))
    (g_is_letter_at : ∃ f fd, Fun K "is_letter_at" "is_letter_at" (topS 19) f fd ∧ mg "is_letter_at" = some (.ref f))
    (g_number_at : ∃ f fd, Fun K "number_at" "number_at" (topS 20) f fd ∧ mg "number_at" = some (.ref f))
    (g_quoted_at : ∃ f fd, Fun K "quoted_at" "quoted_at" (topS 21) f fd ∧ mg "quoted_at" = some (.ref f))
    (g_token_at : ∃ f fd, Fun K "token_at" "token_at" (topS 22) f fd ∧ mg "token_at" = some (.ref f))
    (g_scan_line : ∃ f fd, Fun K "scan_line" "scan_line" (topS 23) f fd ∧ mg "scan_line" = some (.ref f))
    (g_scan : ∃ f fd, Fun K "scan" "scan" (topS 24) f fd ∧ mg "scan" = some (.ref f))
    (g_tokens_of : ∃ f fd, Fun K "tokens_of" "tokens_of" (topS 25) f fd ∧ mg "tokens_of" = some (.ref f))
    (g__law_cell : ∃ f fd, Fun K "_law_cell" "_law_cell" (topS 27) f fd ∧ mg "_law_cell" = some (.ref f))
    (g__law_draw : ∃ f fd, Fun K "_law_draw" "_law_draw" (topS 28) f fd ∧ mg "_law_draw" = some (.ref f))
    (g__law_name : ∃ f fd, Fun K "_law_name" "_law_name" (topS 29) f fd ∧ mg "_law_name" = some (.ref f))
    (g__law_token : ∃ f fd, Fun K "_law_token" "_law_token" (topS 30) f fd ∧ mg "_law_token" = some (.ref f))
    (g__law_spelled : ∃ f fd, Fun K "_law_spelled" "_law_spelled" (topS 31) f fd ∧ mg "_law_spelled" = some (.ref f))
    (g__law_after : ∃ f fd, Fun K "_law_after" "_law_after" (topS 32) f fd ∧ mg "_law_after" = some (.ref f))
    (g__law_gap : ∃ f fd, Fun K "_law_gap" "_law_gap" (topS 33) f fd ∧ mg "_law_gap" = some (.ref f))
    (g__law_told : ∃ f fd, Fun K "_law_told" "_law_told" (topS 34) f fd ∧ mg "_law_told" = some (.ref f))
    (g__law_good : ∃ f fd, Fun K "_law_good" "_law_good" (topS 35) f fd ∧ mg "_law_good" = some (.ref f))
    (g_law : ∃ f fd, Fun K "law" "law" (topS 36) f fd ∧ mg "law" = some (.ref f))
    (hp : ∀ ns : List Int, ns.length ≤ 63 → (∀ z ∈ ns, Builtin.Int.intBits z ≤ 1048576) → FT (23 + 1) 427 [.src (ns.map .int)] = .ok (.bl true))
    : ∃ fd : FuncData, (∀ (s : Shared) (v : Value), BindsTo s fd ⟨[v], []⟩ [("script", v)]) ∧ ∀ base : Heap, K.In base → base.Ns mainGlobals mg → FnOk PySem.Challenge.pw_lightbook_k01_first_faulty_token w K mg base (L2.CX PySem.Challenge.pw_lightbook_k01_first_faulty_token w) 26 fa fd ["script"] (VL.spLaw K) := by
  let cl : Nat → Addr := fun k => ([0, 0, 0, 0, 0, 0, C_BadText, 0, 0, 0, 0, 0, 0, 0, 0, 0, 0, 0, 0, 0, 0, 0, 0, 0, 0, 0, 0] : List Addr).getD k 0
  have X0 : Txt K mg := ⟨g_is_letter, g_is_any_letter, g_is_digit, g_is_name, g_run_of_digits, g_run_of_letters, g_number_of_digits, g_is_letter_at, g_number_at, g_quoted_at, g_token_at, g_scan_line, g_scan, g_tokens_of, g__law_cell, g__law_draw, g__law_name, g__law_token, g__law_spelled, g__law_after, g__law_gap, g__law_told, g__law_good, g_law⟩
  obtain ⟨f0, fd0, F0, hm0⟩ := g_law
  have e0 := hfa.symm.trans hm0
  cases e0
  have F1 := F0
  obtain ⟨oc, od, kV, doc, pm, an, cdv, ct, osl, rfl, lk, hcd⟩ := F1.ex
  refine ⟨PySem.W.fnOf "law" "law" (defArgs (topS 36)) (defBody (topS 36)) (defScope (topS 36)) .none kV doc pm an cdv ct, fun s v => .of_eq rfl, fun base _ _ => ?_⟩
  have T : Tx PySem.Challenge.pw_lightbook_k01_first_faulty_token w K mg base cl :=
    { z_ValueError := z_ValueError,
      z_abs := z_abs,
      z_bool := z_bool,
      z_int := z_int,
      z_isinstance := z_isinstance,
      z_len := z_len,
      z_max := z_max,
      z_min := z_min,
      z_range := z_range,
      z_str := z_str,
      c_LONGEST := c_LONGEST' cl,
      c_LONGEST_NUMBER := c_LONGEST_NUMBER' cl,
      c_MOST_NUMBER := c_MOST_NUMBER' cl,
      c_POINT := c_POINT' cl,
      c_QUOTE := c_QUOTE' cl,
      c_SIGNS := c_SIGNS' cl,
      x_BadText := exc_at (ps := ["self", "line", "column", "reason"]) X G a_BadText T_BadText (fun lk => ini_BadText T_BadText z_super n_BadText_label n_BadText_line n_BadText_column n_BadText_reason lk) (fun _ _ _ _ _ us hl => match us, hl with | [_, _, _, _], _ => rfl) rfl,
      m_BadText := exm_at X G a_BadText (by
        intro k b e
        match k, e with
        | 0, e => cases e
        | 1, e => cases e
        | 2, e => cases e
        | 3, e => cases e
        | 4, e => cases e
        | 5, e => cases e
        | 6, e => cases e; exact exm_of e_BadText i_BadText t_BadText s_BadText_BadText
        | 7, e => cases e
        | 8, e => cases e
        | 9, e => cases e
        | 10, e => cases e
        | 11, e => cases e
        | 12, e => cases e
        | 13, e => cases e
        | 14, e => cases e
        | 15, e => cases e
        | 16, e => cases e
        | 17, e => cases e
        | 18, e => cases e
        | 19, e => cases e
        | 20, e => cases e
        | 21, e => cases e
        | 22, e => cases e
        | 23, e => cases e
        | 24, e => cases e
        | 25, e => cases e
        | 26, e => cases e
        | k + 27, e => cases e),
      i_LightError := isi_own X G a_LightError (by
        intro k b e
        match k, e with
        | 0, e => cases e
        | 1, e => cases e
        | 2, e => cases e
        | 3, e => cases e
        | 4, e => cases e
        | 5, e => cases e
        | 6, e => cases e; exact ⟨ec_BadText, ic_BadText, ki_BadText_LightError⟩
        | 7, e => cases e
        | 8, e => cases e
        | 9, e => cases e
        | 10, e => cases e
        | 11, e => cases e
        | 12, e => cases e
        | 13, e => cases e
        | 14, e => cases e
        | 15, e => cases e
        | 16, e => cases e
        | 17, e => cases e
        | 18, e => cases e
        | 19, e => cases e
        | 20, e => cases e
        | 21, e => cases e
        | 22, e => cases e
        | 23, e => cases e
        | 24, e => cases e
        | 25, e => cases e
        | 26, e => cases e
        | k + 27, e => cases e),
      i_OutOfRange := isi_own X G a_OutOfRange (by
        intro k b e
        match k, e with
        | 0, e => cases e
        | 1, e => cases e
        | 2, e => cases e
        | 3, e => cases e
        | 4, e => cases e
        | 5, e => cases e
        | 6, e => cases e; exact ⟨ec_BadText, ic_BadText, ki_BadText_OutOfRange⟩
        | 7, e => cases e
        | 8, e => cases e
        | 9, e => cases e
        | 10, e => cases e
        | 11, e => cases e
        | 12, e => cases e
        | 13, e => cases e
        | 14, e => cases e
        | 15, e => cases e
        | 16, e => cases e
        | 17, e => cases e
        | 18, e => cases e
        | 19, e => cases e
        | 20, e => cases e
        | 21, e => cases e
        | 22, e => cases e
        | 23, e => cases e
        | 24, e => cases e
        | 25, e => cases e
        | 26, e => cases e
        | k + 27, e => cases e),
      i_ValueError := isi_ty z_ValueError rfl (by
        intro k b e
        match k, e with
        | 0, e => cases e
        | 1, e => cases e
        | 2, e => cases e
        | 3, e => cases e
        | 4, e => cases e
        | 5, e => cases e
        | 6, e => cases e; exact ⟨ec_BadText, ic_BadText, ki_BadText_ValueError⟩
        | 7, e => cases e
        | 8, e => cases e
        | 9, e => cases e
        | 10, e => cases e
        | 11, e => cases e
        | 12, e => cases e
        | 13, e => cases e
        | 14, e => cases e
        | 15, e => cases e
        | 16, e => cases e
        | 17, e => cases e
        | 18, e => cases e
        | 19, e => cases e
        | 20, e => cases e
        | 21, e => cases e
        | 22, e => cases e
        | 23, e => cases e
        | 24, e => cases e
        | 25, e => cases e
        | 26, e => cases e
        | k + 27, e => cases e),
      f_BadText_column := ⟨⟨ga_BadText, gg_BadText, ge_BadText, gh_BadText⟩, n_BadText_column⟩,
      f_BadText_line := ⟨⟨ga_BadText, gg_BadText, ge_BadText, gh_BadText⟩, n_BadText_line⟩,
      f_BadText_reason := ⟨⟨ga_BadText, gg_BadText, ge_BadText, gh_BadText⟩, n_BadText_reason⟩ }
  have TD := all_ok T X0 23
  exact (def_ok (k := 25) F0 sc_23 fun _ _ _ _ _ _ _ hr => ok_23 T TD hr).imp (law_imp (g := fun us => FT (23 + 1) 427 us) hp)
end L01
namespace L01
open PySem PySem.Spec PyProof.Rows L2 VL PF PH WY L00
variable {F : Nat → List PV → R PV}
/-! names -/
def isNm (zs : List Nat) : Bool := decide (1 ≤ zs.length) && decide (zs.length ≤ 12) && isLow (zs.getD 0 0) && zs.all isWd
def S_isnm (g : List PV → R PV) : Prop := ∀ zs : List Nat, zs.length ≤ 1000 → g [.str (tx zs)] = .ok (.bl (isNm zs))
theorem find_all {p : Nat → Bool} {zs : List Nat} : zs.find? (fun c => !p c) = none → zs.all p = true := by
  intro h
  rw [List.find?_eq_none] at h
  rw [List.all_eq_true]
  intro c hc
  have := h c hc
  simpa using this
theorem find_some {p : Nat → Bool} {zs : List Nat} {c : Nat} (h : zs.find? (fun c => !p c) = some c) : zs.all p = false := by
  have h1 := List.find?_some h
  have h2 := List.mem_of_find?_eq_some h
  rw [List.all_eq_false]
  exact ⟨c, h2, by simpa using h1⟩
theorem long12 : (c_LONGEST : PV) = .int 12 := rfl
theorem sp_isnm (h363 : S_low (F 363)) (h357 : S_dig (F 357)) : S_isnm fun us => outR (b_is_name F (startE 2 us)) := by
  intro zs hz
  have l := lenB (zs := zs) (by omega)
  have l12 := long12
  unfold isNm
  by_cases c1 : 1 ≤ zs.length
  · have c1' : ¬ (zs.length : Int) < 1 := by omega
    by_cases c2 : zs.length ≤ 12
    · have c2' : ¬ (12 : Int) < (zs.length : Int) := by omega
      have ix := ixB (zs := zs) (by omega) (show 0 < zs.length by omega)
      rw [show ((0 : Nat) : Int) = 0 from rfl] at ix
      have lo := h363 zs[0]
      have eg : zs.getD 0 0 = zs[0] := getD_at (by omega)
      rw [eg, decide_eq_true c1, decide_eq_true c2]
      cases cl : isLow zs[0] with
      | false =>
        rw [cl] at lo
        simp -implicitDefEqProofs [b_is_name, l, l12, c1', c2', ix, lo]
      | true =>
        rw [cl] at lo
        have it := it_tx zs
        have loop := forL_find (t := tN 1) (s := b_is_name_0 F) (enc := fun c => PV.str (sgn c)) (xs := zs) (r0 := [.fz (.str (tx zs)), .no]) (fun r => ∃ x1, r = [.fz (.str (tx zs)), x1]) (fun c => !isWd c) (fun _ o => o = .ret (.bl false)) ⟨_, rfl⟩ (fun i c r hc ⟨x1, er⟩ => by
          subst er
          have a1 := h363 c
          have a2 := h357 c
          unfold isWd
          cases q1 : isLow c <;> cases q2 : isDig c <;> rw [q1] at a1 <;> rw [q2] at a2
          · exact ⟨_, rfl, .inl ⟨rfl, by simp -implicitDefEqProofs [b_is_name_0, a1, a2, isEnd], by simp -implicitDefEqProofs [b_is_name_0, a1, a2]⟩⟩
          · exact ⟨_, rfl, .inr ⟨rfl, [.fz (.str (tx zs)), .fz (.str (sgn c))], .inl (by simp -implicitDefEqProofs [b_is_name_0, a1, a2]), _, rfl⟩⟩
          · exact ⟨_, rfl, .inr ⟨rfl, [.fz (.str (tx zs)), .fz (.str (sgn c))], .inl (by simp -implicitDefEqProofs [b_is_name_0, a1, a2]), _, rfl⟩⟩
          · exact ⟨_, rfl, .inr ⟨rfl, [.fz (.str (tx zs)), .fz (.str (sgn c))], .inl (by simp -implicitDefEqProofs [b_is_name_0, a1, a2]), _, rfl⟩⟩)
        rcases loop with ⟨x, hx, e⟩ | ⟨hx, r', e, x1, er⟩
        · rw [find_some hx]
          simp -implicitDefEqProofs [b_is_name, l, l12, c1', c2', ix, lo, it, e]
        · subst er
          rw [find_all hx]
          simp -implicitDefEqProofs [b_is_name, l, l12, c1', c2', ix, lo, it, e]
    · have c2' : (12 : Int) < (zs.length : Int) := by omega
      rw [decide_eq_false c2]
      simp -implicitDefEqProofs [b_is_name, l, l12, c1', c2']
  · have c1' : (zs.length : Int) < 1 := by omega
    rw [decide_eq_false c1]
    simp -implicitDefEqProofs [b_is_name, l, l12, c1']
def loL : List Nat := (List.range 26).map (97 + ·)
def diL : List Nat := (List.range 10).map (48 + ·)
theorem lits1 : ("abcdefghijklmnopqrstuvwxyz" : Str) = tx loL ∧ ("0123456789" : Str) = tx diL := by decide +kernel
theorem mem_lo (c : Nat) : decide (c ∈ loL) = isLow c := by
  unfold loL isLow
  rw [Bool.eq_iff_iff, decide_eq_true_eq, List.mem_map]
  simp only [List.mem_range, Bool.and_eq_true, decide_eq_true_eq]
  constructor
  · rintro ⟨a, h, rfl⟩; omega
  · intro h; exact ⟨c - 97, by omega, by omega⟩
theorem mem_di (c : Nat) : decide (c ∈ diL) = isDig c := by
  unfold diL isDig
  rw [Bool.eq_iff_iff, decide_eq_true_eq, List.mem_map]
  simp only [List.mem_range, Bool.and_eq_true, decide_eq_true_eq]
  constructor
  · rintro ⟨a, h, rfl⟩; omega
  · intro h; exact ⟨c - 48, by omega, by omega⟩
theorem in_tx (c : Nat) (zs : List Nat) : inB (.str (sgn c)) (.str (tx zs)) = some (decide (c ∈ zs)) := by
  show (if (sgn c).cps.size = 1 then some (decide ((sgn c).cps.getD 0 0 ∈ (tx zs).cps.toList)) else some (!(Builtin.Str.occurrences (tx zs) (sgn c) 0 (tx zs).length 1).isEmpty)) = _
  rw [if_pos (show (sgn c).cps.size = 1 from rfl), tx_l]
  rfl
theorem sp_lgood (F : Nat → List PV → R PV) : S_isnm fun us => outR (b__law_good F (startE 3 us)) := by
  intro zs hz
  have l := lenB (zs := zs) (by omega)
  obtain ⟨q1, q2⟩ := lits1
  have i1 : ∀ c, inB (.str (sgn c)) (.str (tx loL)) = some (isLow c) := fun c => by rw [in_tx, mem_lo]
  have i2 : ∀ c, inB (.str (sgn c)) (.str (tx diL)) = some (isDig c) := fun c => by rw [in_tx, mem_di]
  unfold isNm
  by_cases c1 : 1 ≤ zs.length
  · have c1' : ¬ (zs.length : Int) < 1 := by omega
    by_cases c2 : zs.length ≤ 12
    · have c2' : ¬ (12 : Int) < (zs.length : Int) := by omega
      have ix := ixB (zs := zs) (by omega) (show 0 < zs.length by omega)
      rw [show ((0 : Nat) : Int) = 0 from rfl] at ix
      have eg : zs.getD 0 0 = zs[0] := getD_at (by omega)
      rw [eg, decide_eq_true c1, decide_eq_true c2]
      have lo := i1 zs[0]
      cases cl : isLow zs[0] with
      | false =>
        rw [cl] at lo
        simp -implicitDefEqProofs [b__law_good, l, c1', c2', ix, q1, lo]
      | true =>
        rw [cl] at lo
        have it := it_tx zs
        have loop := forL_find (t := tN 2) (s := b__law_good_0 F) (enc := fun c => PV.str (sgn c)) (xs := zs) (r0 := [.fz (.str (tx zs)), .fz (.str (tx loL)), .no]) (fun r => ∃ x1, r = [.fz (.str (tx zs)), .fz (.str (tx loL)), x1]) (fun c => !isWd c) (fun _ o => o = .ret (.bl false)) ⟨_, rfl⟩ (fun i c r hc ⟨x1, er⟩ => by
          subst er
          have a1 := i1 c
          have a2 := i2 c
          unfold isWd
          cases w1 : isLow c <;> cases w2 : isDig c <;> rw [w1] at a1 <;> rw [w2] at a2
          · exact ⟨_, rfl, .inl ⟨rfl, by simp -implicitDefEqProofs [b__law_good_0, a1, a2, q2, isEnd], by simp -implicitDefEqProofs [b__law_good_0, a1, a2, q2]⟩⟩
          · exact ⟨_, rfl, .inr ⟨rfl, [.fz (.str (tx zs)), .fz (.str (tx loL)), .fz (.str (sgn c))], .inl (by simp -implicitDefEqProofs [b__law_good_0, a1, a2, q2]), _, rfl⟩⟩
          · exact ⟨_, rfl, .inr ⟨rfl, [.fz (.str (tx zs)), .fz (.str (tx loL)), .fz (.str (sgn c))], .inl (by simp -implicitDefEqProofs [b__law_good_0, a1, a2, q2]), _, rfl⟩⟩
          · exact ⟨_, rfl, .inr ⟨rfl, [.fz (.str (tx zs)), .fz (.str (tx loL)), .fz (.str (sgn c))], .inl (by simp -implicitDefEqProofs [b__law_good_0, a1, a2, q2]), _, rfl⟩⟩)
        rcases loop with ⟨x, hx, e⟩ | ⟨hx, r', e, x1, er⟩
        · rw [find_some hx]
          simp -implicitDefEqProofs [b__law_good, l, c1', c2', ix, q1, lo, it, e]
        · subst er
          rw [find_all hx]
          simp -implicitDefEqProofs [b__law_good, l, c1', c2', ix, q1, lo, it, e]
    · have c2' : (12 : Int) < (zs.length : Int) := by omega
      rw [decide_eq_false c2]
      simp -implicitDefEqProofs [b__law_good, l, c1', c2']
  · have c1' : (zs.length : Int) < 1 := by omega
    rw [decide_eq_false c1]
    simp -implicitDefEqProofs [b__law_good, l, c1']
def S_lname (g : List PV → R PV) : Prop := ∀ (c : Int) (m : Nat), 1 ≤ m → m ≤ 13 → ∃ ws : List Nat, ws.length = m ∧ g [.int c, .int (m : Int)] = .ok (.str (tx ws))
theorem sp_lname (h22 : S_draw (F 22)) : S_lname fun us => outR (b__law_name F (startE 6 us)) := by
  intro c m h1 h2
  obtain ⟨q1, _⟩ := lits
  have q0 : ("" : Str) = tx [] := str0.1
  obtain ⟨row, er, lr, hr⟩ := h22 c (26 :: List.replicate (m - 1) 36) (by simp; omega) (fun i hi => by
    unfold PH.nth
    cases i with
    | zero => exact ⟨(by decide : (0 : Int) < 26), (by decide : (26 : Int) < 18446744073709551616)⟩
    | succ i =>
      rw [List.getD_cons_succ, List.getD_eq_getElem?_getD, List.getElem?_replicate]
      rw [List.length_cons, List.length_replicate] at hi
      rw [if_pos (by omega)]
      exact ⟨by decide, by decide⟩)
  rw [List.length_cons, List.length_replicate] at lr hr
  have hrow : ∀ r ∈ row, 0 ≤ r ∧ r < 36 := fun r hm => by
    obtain ⟨i, hi, rfl⟩ := List.getElem_of_mem hm
    have := hr i (by omega)
    have e1 : PH.nth row i = row[i] := by unfold PH.nth; simp [List.getD_eq_getElem?_getD, hi]
    rw [e1] at this
    refine ⟨this.1, Int.lt_of_lt_of_le this.2 ?_⟩
    unfold PH.nth
    cases i with
    | zero => exact (by decide : (26 : Int) ≤ 36)
    | succ i =>
      rw [List.getD_cons_succ, List.getD_eq_getElem?_getD, List.getElem?_replicate, if_pos (by omega)]
      decide
  have rg : rg1 ((m : Int) - 1) = .ok (rangeP 0 (m - 1)) := by
    have := rg1_nat (n := m - 1) (by omega)
    rwa [show ((m - 1 : Nat) : Int) = (m : Int) - 1 by omega] at this
  have c1 : ∀ y0 y1 y2 y3 y4 : Option PV, lcL (tN 5) cYes (b__law_name_0 F) [y0, y1, y2, y3, y4, none] (rangeP 0 (m - 1)) = .ok ((List.replicate (m - 1) (36 : Int)).map .int) := fun y0 y1 y2 y3 y4 => by
    have e : (List.replicate (m - 1) (36 : Int)).map PV.int = (List.range (m - 1)).map fun _ => PV.int 36 := by
      rw [List.map_replicate, List.map_const', List.length_range]
    rw [rangeP_map, e]
    exact lcL_map (fun i : Nat => PV.int (i : Int)) (fun _ => PV.int 36) (List.range (m - 1)) fun i hi => ⟨_, rfl, by simp -implicitDefEqProofs [b__law_name_0]⟩
  have smk : ∀ r ∈ row, ∃ x, ixP (.str (tx smL)) (.int r) = some (.str (sgn (smL.getD r.toNat x))) := fun r hm => by
    obtain ⟨b1, b2⟩ := hrow r hm
    obtain ⟨n, rfl⟩ := Int.eq_ofNat_of_zero_le b1
    obtain ⟨hi, _⟩ := sm_ok (i := n) (by omega)
    have := ixB (zs := smL) (by decide) hi
    refine ⟨0, ?_⟩
    rw [show ((n : Nat) : Int).toNat = n by omega, getD_at hi]
    exact this
  have c2 : ∀ y0 y1 y3 y5 : Option PV, lcL (tN 4) cYes (b__law_name_1 F) [y0, y1, some (.str (tx smL)), y3, none, y5] (row.map .int) = .ok ((row.map fun r => smL.getD r.toNat 0).map fun c => PV.str (sgn c)) := fun y0 y1 y3 y5 => by
    rw [List.map_map]
    exact lcL_map PV.int (fun r => PV.str (sgn (smL.getD r.toNat 0))) row fun r hm => ⟨_, rfl, by
      obtain ⟨b1, b2⟩ := hrow r hm
      obtain ⟨n, rfl⟩ := Int.eq_ofNat_of_zero_le b1
      obtain ⟨hi, _⟩ := sm_ok (i := n) (by omega)
      have ix := ixB (zs := smL) (by decide) hi
      rw [show ((n : Nat) : Int).toNat = n by omega, getD_at hi]
      simp -implicitDefEqProofs [b__law_name_1, ix]⟩
  have hj := joinP_tx (sep := []) (ls := (row.map fun r => smL.getD r.toNat 0).map fun c => [c]) (by
    rw [List.map_map, List.length_map, List.length_map]
    have : ((row.map fun r => smL.getD r.toNat 0).map (List.length ∘ fun c => [c])).sum = row.length := by
      have e : (List.length ∘ fun (c : Nat) => [c]) = fun _ => 1 := rfl
      rw [e, List.map_const', List.length_map]
      simp
    rw [this]
    simp
    omega)
  rw [joinL_one, List.map_map] at hj
  have e3 : ((fun l => PV.str (tx l)) ∘ fun (c : Nat) => [c]) = fun c => PV.str (sgn c) := rfl
  rw [e3] at hj
  refine ⟨row.map fun r => smL.getD r.toNat 0, by rw [List.length_map]; omega, ?_⟩
  have hl : (row.map PV.int).length ≤ 16777216 := by rw [List.length_map]; omega
  have hl2 : (((row.map fun r => smL.getD r.toNat 0).map fun c => PV.str (sgn c))).length ≤ 16777216 := by rw [List.length_map, List.length_map]; omega
  have hl3 : ((List.replicate (m - 1) (36 : Int)).map PV.int).length ≤ 16777215 := by rw [List.length_map, List.length_replicate]; omega
  have it : itemsP (.lst (row.map .int)) = .ok (row.map .int) := rfl
  rw [List.map_cons] at er
  generalize tx (row.map fun r => smL.getD r.toNat 0) = T at *
  generalize (row.map fun r => smL.getD r.toNat 0).map (fun c => PV.str (sgn c)) = L2 at *
  generalize row.map PV.int = L3 at *
  generalize (List.replicate (m - 1) (36 : Int)).map PV.int = L4 at *
  have hl5 : 1 + L4.length ≤ 16777216 := by omega
  have hl6 : L4.length ≤ 16777216 := by omega
  simp -implicitDefEqProofs [b__law_name, q1, q0, rg, c1, c2, szl, er, it, hl, hl2, hl5, hl6, hj]
end L01
namespace L01
open PySem PySem.Spec PyProof.Rows L2 VL PF PH WY L00
variable {F : Nat → List PV → R PV}
/-! faulty runs -/
def runsL : List (List Nat) := [[48, 49], [48, 48], [48, 48, 55], [49, 48, 48, 48, 48, 48, 49], [57, 57, 57, 57, 57, 57, 57, 57, 57, 57, 57], [53, 97], [48, 120], [65], [64], [33], [39], [42], [53, 46], [46, 53], [63], [43], [47], [61], [60], [62], [95], [38], [124], [126], [36], [92, 92], [90, 57], [91], [93], [94], [97, 95], [96]]
def shN (w : List Nat) : Nat := if w = [53, 46] then 1 else if w = [97, 95] then 1 else 0
theorem runs1 : ("01" : Str) = tx [48, 49] ∧ ("00" : Str) = tx [48, 48] ∧ ("007" : Str) = tx [48, 48, 55] ∧ ("1000001" : Str) = tx [49, 48, 48, 48, 48, 48, 49] ∧ ("99999999999" : Str) = tx [57, 57, 57, 57, 57, 57, 57, 57, 57, 57, 57] ∧ ("5a" : Str) = tx [53, 97] ∧ ("0x" : Str) = tx [48, 120] ∧ ("A" : Str) = tx [65] ∧ ("@" : Str) = tx [64] ∧ ("!" : Str) = tx [33] ∧ ("'" : Str) = tx [39] ∧ ("*" : Str) = tx [42] ∧ ("5." : Str) = tx [53, 46] ∧ (".5" : Str) = tx [46, 53] ∧ ("?" : Str) = tx [63] ∧ ("+" : Str) = tx [43] ∧ ("/" : Str) = tx [47] ∧ ("=" : Str) = tx [61] ∧ ("<" : Str) = tx [60] ∧ (">" : Str) = tx [62] := by decide +kernel
theorem runs2 : ("_" : Str) = tx [95] ∧ ("&" : Str) = tx [38] ∧ ("|" : Str) = tx [124] ∧ ("~" : Str) = tx [126] ∧ ("$" : Str) = tx [36] ∧ ("\\\\" : Str) = tx [92, 92] ∧ ("Z9" : Str) = tx [90, 57] ∧ ("[" : Str) = tx [91] ∧ ("]" : Str) = tx [93] ∧ ("^" : Str) = tx [94] ∧ ("a_" : Str) = tx [97, 95] ∧ ("`" : Str) = tx [96] := by decide +kernel
theorem runs_eq : [PV.str "01", PV.str "00", PV.str "007", PV.str "1000001", PV.str "99999999999", PV.str "5a", PV.str "0x", PV.str "A", PV.str "@", PV.str "!", PV.str "'", PV.str "*", PV.str "5.", PV.str ".5", PV.str "?", PV.str "+", PV.str "/", PV.str "=", PV.str "<", PV.str ">"] ++ [PV.str "_", PV.str "&", PV.str "|", PV.str "~", PV.str "$", PV.str "\\\\", PV.str "Z9", PV.str "[", PV.str "]", PV.str "^", PV.str "a_", PV.str "`"] = runsL.map fun w => PV.str (tx w) := by
  obtain ⟨a0, a1, a2, a3, a4, a5, a6, a7, a8, a9, a10, a11, a12, a13, a14, a15, a16, a17, a18, a19⟩ := runs1
  obtain ⟨b0, b1, b2, b3, b4, b5, b6, b7, b8, b9, b10, b11⟩ := runs2
  rw [a0, a1, a2, a3, a4, a5, a6, a7, a8, a9, a10, a11, a12, a13, a14, a15, a16, a17, a18, a19, b0, b1, b2, b3, b4, b5, b6, b7, b8, b9, b10, b11]
  rfl
theorem l1_sp {x : List Nat} (r : List Nat) (hx : ∀ d ∈ x, d ≠ 10) : l1 (x ++ 32 :: r) = x ++ 32 :: l1 r := by
  show (splitN 10 (x ++ 32 :: r)).1 = _
  rw [splitN_app x (32 :: r) hx, splitN_c, if_neg (by decide)]
theorem bad_of {c : Nat} {t : List Nat} (h1 : c ≠ 35) (h2 : c ≠ 32) (h3 : c ≠ 10) (hn : ∀ d ∈ c :: t, d ≠ 10) (ht : ∀ r', tokR (c :: t ++ 32 :: r') = none) (ln a : Nat) (r : List Nat) : ∃ pre : List Tq, pre.length ≤ 1 ∧ ScanT ln a (c :: t ++ 32 :: r) (pre ++ [fltQ ln (a + 1 + 0)]) :=
  ⟨[], Nat.zero_le _, ScanT.bad h1 h2 h3 (by
    show tokR (l1 (c :: t ++ 32 :: r)) = none
    rw [l1_sp r hn]
    exact ht _)⟩
theorem bad_of1 {c d : Nat} {k : Str} {v : PV} (h1 : c ≠ 35) (h2 : c ≠ 32) (h3 : c ≠ 10) (h4 : d ≠ 35) (h5 : d ≠ 32) (h6 : d ≠ 10) (ht : ∀ r', tokR ([c, d] ++ 32 :: r') = some (k, v, 1)) (ht2 : ∀ r', tokR ([d] ++ 32 :: r') = none) (ln a : Nat) (r : List Nat) : ∃ pre : List Tq, pre.length ≤ 1 ∧ ScanT ln a ([c, d] ++ 32 :: r) (pre ++ [fltQ ln (a + 1 + 1)]) := by
  have e1 : l1 ([c, d] ++ 32 :: r) = [c, d] ++ 32 :: l1 r := l1_sp r (by simp [h3, h6])
  have e2 : l1 ([d] ++ 32 :: r) = [d] ++ 32 :: l1 r := l1_sp r (by simp [h6])
  refine ⟨[(k, v, ln, a + 1)], Nat.le_refl _, ScanT.tok (m := 1) h1 h2 h3 ?_ ?_ (ScanT.bad h4 h5 h6 ?_)⟩
  · show tokR (l1 ([c, d] ++ 32 :: r)) = _
    rw [e1]; exact ht _
  · show 1 ≤ (l1 ([c, d] ++ 32 :: r)).length
    rw [e1]; simp
  · show tokR (l1 ([d] ++ 32 :: r)) = _
    rw [e2]; exact ht2 _
theorem run_bad {w : List Nat} (hw : w ∈ runsL) (ln a : Nat) (r : List Nat) : ∃ pre : List Tq, pre.length ≤ 1 ∧ ScanT ln a (w ++ 32 :: r) (pre ++ [fltQ ln (a + 1 + shN w)]) := by
  simp only [runsL, List.mem_cons, List.not_mem_nil, or_false] at hw
  rcases hw with rfl | rfl | rfl | rfl | rfl | rfl | rfl | rfl | rfl | rfl | rfl | rfl | rfl | rfl | rfl | rfl | rfl | rfl | rfl | rfl | rfl | rfl | rfl | rfl | rfl | rfl | rfl | rfl | rfl | rfl | rfl | rfl
  all_goals first
    | exact bad_of (by decide) (by decide) (by decide) (by decide) (fun _ => rfl) ln a r
    | exact bad_of1 (k := "number") (v := .int 5) (by decide) (by decide) (by decide) (by decide) (by decide) (by decide) (fun _ => rfl) (fun _ => rfl) ln a r
    | exact bad_of1 (k := "word") (v := .str (tx [97])) (by decide) (by decide) (by decide) (by decide) (by decide) (by decide) (fun _ => rfl) (fun _ => rfl) ln a r
theorem run_len {w : List Nat} (hw : w ∈ runsL) : w.length ≤ 11 := by
  have : ∀ w ∈ runsL, w.length ≤ 11 := by decide +kernel
  exact this w hw
def shD : List (Key × PV) := mergeP [] [(Sum.inr "5.", .int 1), (Sum.inr "a_", .int 1)]
theorem sh_get (w : List Nat) : getP (.dct shD) (.str (tx w)) (.int 0) = some (.int (shN w : Int)) := by
  have h : ("5." : Str) = tx [53, 46] ∧ ("a_" : Str) = tx [97, 95] := by decide +kernel
  have e : shD = [(Sum.inr (tx [53, 46]), .int 1), (Sum.inr (tx [97, 95]), .int 1)] := by
    unfold shD
    rw [h.1, h.2]
    simp [mergeP, putP, tx_inj]
  show some ((lkP shD (Sum.inr (tx w))).getD (.int 0)) = _
  rw [e]
  unfold lkP shN
  by_cases c1 : w = [53, 46]
  · rw [if_pos c1, c1]; simp
  · rw [if_neg c1]
    by_cases c2 : w = [97, 95]
    · rw [if_pos c2, c2]; simp [tx_inj]
    · rw [if_neg c2]
      have d1 : ¬ tx [53, 46] = tx w := fun z => c1 (tx_inj.mp z).symm
      have d2 : ¬ tx [97, 95] = tx w := fun z => c2 (tx_inj.mp z).symm
      simp [d1, d2]
/-! what is told -/
structure Told (g : List PV → R PV) : Prop where
  ok : ∀ (zs : List Nat) (qs : List Tq) (ln c : Nat), zs.length ≤ 1000000 → ScanT 1 0 zs (qs ++ [endQ ln c]) → qs.length < 1000000 → g [.str (tx zs)] = .ok (.tup [.str "value", .int ((qs.length : Int) + 1), .int 0, .str ""])
  bad : ∀ (zs : List Nat) (qs : List Tq) (ln c : Nat), zs.length ≤ 1000000 → ScanT 1 0 zs (qs ++ [fltQ ln c]) → qs.length < 1000000 → g [.str (tx zs)] = .ok (.tup [.str "text", .int (ln : Int), .int (c : Int), .str "token"])
theorem lk_bdt (ln c : Int) (why : Str) : lkF "line" (bdt ln c why) = some (.int ln) ∧ lkF "column" (bdt ln c why) = some (.int c) ∧ lkF "reason" (bdt ln c why) = some (.str why) := by
  have h : ¬ ("line" : Str) = "reason" ∧ ¬ ("line" : Str) = "column" ∧ ¬ ("column" : Str) = "reason" := by decide +kernel
  unfold bdt lkF
  refine ⟨?_, ?_, ?_⟩
  · rw [if_neg h.1]; unfold lkF; rw [if_neg h.2.1]; unfold lkF; rw [if_pos rfl]
  · rw [if_neg h.2.2]; unfold lkF; rw [if_pos rfl]
  · rw [if_pos rfl]
theorem sp_told (h628 : S_toks (F 628)) : Told fun us => outR (b__law_told_v2 F (startE 2 us)) := by
  have m1 : mt_BadText 6 = some true := rfl
  have m2 : mi_OutOfRange 6 = some false := rfl
  have m3 : mi_LightError 6 = some true := rfl
  have m4 : mi_ValueError 6 = some true := rfl
  refine ⟨fun zs qs ln c hz hs hq => ?_, fun zs qs ln c hz hs hq => ?_⟩
  · have h := h628.ok zs qs ln c hz hs hq
    have hl : ((qs ++ [endQ ln c]).map encK4).length = qs.length + 1 := by simp
    generalize (qs ++ [endQ ln c]).map encK4 = Q at *
    simp -implicitDefEqProofs [b__law_told_v2, h, szl, hl]
  · have h := h628.bad zs qs ln c hz hs hq
    obtain ⟨k1, k2, k3⟩ := lk_bdt (ln : Int) (c : Int) "token"
    simp -implicitDefEqProofs [b__law_told_v2, h, szl, m1, m2, m3, m4, k1, k2, k3]
end L01
namespace L01
open PySem PySem.Spec PyProof.Rows L2 VL PF PH WY L00
variable {F : Nat → List PV → R PV}
/-! one turn -/
def env19 (ns : List Int) (x1 x2 x3 x4 : Sl) (RL : List PV) (D : PV) (T P : List Nat) (l c : Nat) (fnd : PV) (n fi se : Int) (x14 x15 x16 x17 x18 : Sl) : VL.Env :=
  [.fz (.src (ns.map .int)), x1, x2, x3, x4, .fz (.lst RL), .om none D, .fz (.str (tx T)), .fz (.str (tx P)), .fz (.tup [.int (l : Int), .int (c : Int)]), .fz fnd, .fz (.int n), .fz (.int fi), .fz (.int se), x14, x15, x16, x17, x18]
section
variable {ns : List Int} {x1 x2 x3 x4 x15 x16 x17 x18 : Sl} {RL : List PV} {D : List (Key × PV)} {T P SP G W : List Nat} {l c : Nat} {fnd : PV} {n fi se cc z : Int} {k : Nat} {K : Str} {V : PV} {w : List Nat} {s : Int}
theorem turnA (ix : F 13 [.src (ns.map .int), .int (3 + (k : Int))] = .ok (.int cc)) (e130 : F 130 [.int cc] = .ok (.tup [.str K, V])) (e117 : F 117 [.tup [.str K, V]] = .ok (.str (tx SP))) (e40 : F 40 [.int (cc / 3 + (k : Int))] = .ok (.str (tx G))) (h0 : S_laft (F 0))
    (hT : T.length ≤ 10000) (hP : P.length ≤ 10000) (hS : SP.length ≤ 100) (hG : G.length ≤ 100) (n1 : ¬ (k : Int) = fi) (n2 : ¬ (k : Int) = se) :
    b_law_v29_1 F (env19 ns x1 x2 x3 x4 RL (.dct D) T P l c fnd n fi se (.fz (.int (k : Int))) x15 x16 x17 x18) =
      .next (env19 ns x1 x2 x3 x4 RL (.dct D) (T ++ (SP ++ G)) (P ++ (SP ++ G)) (aftC (l, c) (SP ++ G)).1 (aftC (l, c) (SP ++ G)).2 fnd n fi se (.fz (.int (k : Int))) (.fz (.tup [.str K, V])) (.fz (.str (tx SP))) (.fz (.str (tx G))) x18) := by
  have a1 := addB (a := T) (b := SP) (by omega)
  have a2 := addB (a := T ++ SP) (b := G) (by rw [List.length_append]; omega)
  have a3 := addB (a := SP) (b := G) (by omega)
  have a4 := addB (a := P) (b := SP) (by omega)
  have a5 := addB (a := P ++ SP) (b := G) (by rw [List.length_append]; omega)
  have f := h0 l c (SP ++ G) (by rw [List.length_append]; omega)
  rw [List.append_assoc] at a2 a5
  have b3 : (3 : Int) < bigI := bigI_of (by decide)
  unfold env19
  generalize aftC (l, c) (SP ++ G) = A at *
  generalize tx (T ++ (SP ++ G)) = T2 at *
  generalize tx (P ++ (SP ++ G)) = T7 at *
  generalize tx (SP ++ G) = T3 at *
  generalize tx (T ++ SP) = T4 at *
  generalize tx (P ++ SP) = T8 at *
  generalize tx SP = T5 at *
  generalize tx T = T6 at *
  generalize tx P = T9 at *
  generalize tx G = T10 at *
  generalize ns.map PV.int = N at *
  simp -implicitDefEqProofs [b_law_v29_1, ix, e130, e117, e40, a1, a2, a3, a4, a5, f, b3, szl, n1, n2]
theorem turnB (ix : F 13 [.src (ns.map .int), .int (3 + (k : Int))] = .ok (.int cc)) (e130 : F 130 [.int cc] = .ok (.tup [.str K, V])) (e117 : F 117 [.tup [.str K, V]] = .ok (.str (tx SP))) (e40 : F 40 [.int (cc / 3 + (k : Int))] = .ok (.str (tx G))) (h0 : S_laft (F 0))
    (i2 : F 13 [.src (ns.map .int), .int 2] = .ok (.int z)) (hR : RL.length = 32) (ew : atI RL ((z + (k : Int)) % 32) = some (.str (tx w))) (eg : getP (.dct D) (.str (tx w)) (.int 0) = some (.int s))
    (hT : T.length ≤ 10000) (hP : P.length ≤ 10000) (hS : SP.length ≤ 100) (hG : G.length ≤ 100) (hw : w.length ≤ 100) (n1 : (k : Int) = fi ∨ (k : Int) = se) (hD : PV.nols (D.map (·.2)) = true) (hfn : fnd = .non ∨ ∃ xs, fnd = .tup xs) :
    b_law_v29_1 F (env19 ns x1 x2 x3 x4 RL (.dct D) T P l c fnd n fi se (.fz (.int (k : Int))) x15 x16 x17 x18) =
      .next (env19 ns x1 x2 x3 x4 RL (.dct D) (T ++ ((w ++ 32 :: SP) ++ G)) (P ++ (SP ++ G)) (aftC (l, c) ((w ++ 32 :: SP) ++ G)).1 (aftC (l, c) ((w ++ 32 :: SP) ++ G)).2 (match fnd with | .non => .tup [.int (l : Int), .int ((c : Int) + s)] | x => x) n fi se (.fz (.int (k : Int))) (.fz (.tup [.str K, V])) (.fz (.str (tx (w ++ 32 :: SP)))) (.fz (.str (tx G))) (.fz (.str (tx w)))) := by
  have hws : (w ++ 32 :: SP).length ≤ 201 := by rw [List.length_append, List.length_cons]; omega
  have a1 := addB (a := T) (b := w ++ 32 :: SP) (by omega)
  have a2 := addB (a := T ++ (w ++ 32 :: SP)) (b := G) (by rw [List.length_append]; omega)
  have a3 := addB (a := w ++ 32 :: SP) (b := G) (by omega)
  have a4 := addB (a := P) (b := SP) (by omega)
  have a5 := addB (a := P ++ SP) (b := G) (by rw [List.length_append]; omega)
  have a6 := addB (a := w) (b := [32]) (by rw [List.length_singleton]; omega)
  have a7 := addB (a := w ++ [32]) (b := SP) (by rw [List.length_append, List.length_singleton]; omega)
  have f := h0 l c ((w ++ 32 :: SP) ++ G) (by rw [List.length_append]; omega)
  rw [List.append_assoc] at a2 a5
  have e32 : w ++ [32] ++ SP = w ++ 32 :: SP := by simp
  rw [e32] at a7
  have sp : (" " : Str) = tx [32] := gaps.1
  have b3 : (3 : Int) < bigI := bigI_of (by decide)
  unfold env19
  generalize aftC (l, c) ((w ++ 32 :: SP) ++ G) = A at *
  generalize tx (T ++ ((w ++ 32 :: SP) ++ G)) = T2 at *
  generalize tx (P ++ (SP ++ G)) = T7 at *
  generalize tx ((w ++ 32 :: SP) ++ G) = T3 at *
  generalize tx (T ++ (w ++ 32 :: SP)) = T4 at *
  generalize tx (P ++ SP) = T8 at *
  generalize tx (w ++ 32 :: SP) = T11 at *
  generalize tx (w ++ [32]) = T12 at *
  generalize tx SP = T5 at *
  generalize tx T = T6 at *
  generalize tx P = T9 at *
  generalize tx G = T10 at *
  generalize tx w = T13 at *
  generalize ns.map PV.int = N at *
  have hRi : ((RL.length : Nat) : Int) = 32 := by omega
  obtain ⟨t1, q1, q2⟩ : ∃ t1 : Bool, eqB (.int (k : Int)) (.int fi) = some t1 ∧ (t1 = true ∨ eqB (.int (k : Int)) (.int se) = some true) := by
    refine ⟨decide ((k : Int) = fi), rfl, ?_⟩
    rcases n1 with n1 | n1
    · exact .inl (decide_eq_true n1)
    · exact .inr (by rw [eqB_i, decide_eq_true n1])
  rcases hfn with rfl | ⟨xs, rfl⟩
  · cases t1 with
    | true => simp -implicitDefEqProofs [b_law_v29_1, ix, e130, e117, e40, a1, a2, a3, a4, a5, a6, a7, f, b3, szl, q1, -eqB_i, i2, hRi, ew, eg, sp, hD]
    | false =>
      have q2 := q2.resolve_left (by decide)
      simp -implicitDefEqProofs [b_law_v29_1, ix, e130, e117, e40, a1, a2, a3, a4, a5, a6, a7, f, b3, szl, q1, q2, -eqB_i, i2, hRi, ew, eg, sp, hD]
  · cases t1 with
    | true => simp -implicitDefEqProofs [b_law_v29_1, ix, e130, e117, e40, a1, a2, a3, a4, a5, a6, a7, f, b3, szl, q1, -eqB_i, i2, hRi, ew, eg, sp, hD]
    | false =>
      have q2 := q2.resolve_left (by decide)
      simp -implicitDefEqProofs [b_law_v29_1, ix, e130, e117, e40, a1, a2, a3, a4, a5, a6, a7, f, b3, szl, q1, q2, -eqB_i, i2, hRi, ew, eg, sp, hD]
end
/-! the loop -/
structure Good (ns : List Int) (n fi se k : Nat) (T P : List Nat) (l c : Nat) (fnd : PV) (is : List L00.It) : Prop where
  len : is.length = k
  ok : ∀ i ∈ is, It.ok i
  pl : P = catI is
  sz : T.length ≤ 200 * k
  st : (fnd = .non ∧ T = catI is ∧ (l, c) = aftC (1, 1) (catI is) ∧ k ≤ fi) ∨
    (∃ (js : List L00.It) (w rest : List Nat), (∀ i ∈ js, It.ok i) ∧ js.length ≤ k ∧ w ∈ runsL ∧ T = catI js ++ (w ++ 32 :: rest) ∧ fnd = .tup [.int ((aftC (1, 1) (catI js)).1 : Int), .int (((aftC (1, 1) (catI js)).2 : Int) + (shN w : Int))])
theorem loop_ok (h13 : S_cell (F 13)) (h130 : S_ltok (F 130)) (h117 : S_lspell (F 117)) (h0 : S_laft (F 0)) (h40 : S_lgap (F 40)) (ns : List Int) (x1 x2 x3 x4 : Sl) {n fi se : Nat} (hn : n ≤ 15) (hfi : fi < n) :
    ∃ T P l c fnd x14 x15 x16 x17 x18 is, forL (tN 14) (b_law_v29_1 F) (rangeP 0 n) (env19 ns x1 x2 x3 x4 (runsL.map fun w => PV.str (tx w)) (.dct shD) [] [] 1 1 .non (n : Int) (fi : Int) (se : Int) .no .no .no .no .no) =
      .next (env19 ns x1 x2 x3 x4 (runsL.map fun w => PV.str (tx w)) (.dct shD) T P l c fnd (n : Int) (fi : Int) (se : Int) x14 x15 x16 x17 x18) ∧ Good ns n fi se n T P l c fnd is := by
  have loop := forL_inv (t := tN 14) (s := b_law_v29_1 F) (enc := fun i : Nat => PV.int (i : Int)) (xs := List.range n)
    (fun k r => ∃ T P l c fnd x14 x15 x16 x17 x18 is, r = env19 ns x1 x2 x3 x4 (runsL.map fun w => PV.str (tx w)) (.dct shD) T P l c fnd (n : Int) (fi : Int) (se : Int) x14 x15 x16 x17 x18 ∧ Good ns n fi se k T P l c fnd is) (fun _ => False)
    (r0 := env19 ns x1 x2 x3 x4 (runsL.map fun w => PV.str (tx w)) (.dct shD) [] [] 1 1 .non (n : Int) (fi : Int) (se : Int) .no .no .no .no .no)
    ⟨[], [], 1, 1, .non, .no, .no, .no, .no, .no, [], rfl, rfl, fun i hi => by simp at hi, rfl, Nat.le_refl _, .inl ⟨rfl, rfl, rfl, Nat.zero_le _⟩⟩ (fun k x r hx ⟨T, P, l, c, fnd, x14, x15, x16, x17, x18, is, er, g⟩ => by
      subst er
      obtain ⟨rfl, hx⟩ := range_at hx
      have ix := h13 ns (3 + x)
      rw [show ((3 + x : Nat) : Int) = 3 + (x : Int) by omega] at ix
      have i2 := h13 ns 2
      rw [show ((2 : Nat) : Int) = 2 from rfl] at i2
      generalize cell ns (3 + x) = cc at *
      generalize cell ns 2 = z at *
      obtain ⟨t, ht, e130⟩ := h130 cc
      obtain ⟨G, ⟨g1, g2, g3⟩, e40⟩ := h40 (cc / 3 + (x : Int))
      have e117 := h117 t ht
      have hS := (LT.reads ht).2.2.2
      have hok : It.ok (t, G) := ⟨ht, g1, g2, .inr g3⟩
      have hPl : P.length ≤ 50 * x := by rw [g.pl]; have := catI_len is g.ok; rw [g.len] at this; exact this
      have hTl := g.sz
      have hok2 : ∀ i ∈ is ++ [(t, G)], It.ok i := fun i hi => by
        rcases List.mem_append.mp hi with hi | hi
        · exact g.ok i hi
        · rw [List.mem_singleton.mp hi]; exact hok
      have hP2 : P ++ (t.sp ++ G) = catI (is ++ [(t, G)]) := by rw [catI_snoc, g.pl]
      have hl2 : (is ++ [(t, G)]).length = x + 1 := by rw [List.length_append, g.len]; rfl
      by_cases n1 : (x : Int) = (fi : Int) ∨ (x : Int) = (se : Int)
      · obtain ⟨m, em, hm⟩ : ∃ m : Nat, (z + (x : Int)) % 32 = (m : Int) ∧ m < 32 := ⟨((z + (x : Int)) % 32).toNat, by omega, by omega⟩
        have hm2 : m < runsL.length := hm
        have hw : runsL[m] ∈ runsL := List.getElem_mem hm2
        have ew : atI (runsL.map fun w => PV.str (tx w)) ((z + (x : Int)) % 32) = some (.str (tx runsL[m])) := by
          rw [em, atI_map, atI_nat' hm2]
          rfl
        generalize runsL[m] = w at *
        have hwl := run_len hw
        have hfn : fnd = .non ∨ ∃ xs, fnd = .tup xs := by
          rcases g.st with ⟨h, _⟩ | ⟨js, w, rest, _, _, _, _, h⟩
          · exact .inl h
          · exact .inr ⟨_, h⟩
        have tb := turnB (F := F) (x1 := x1) (x2 := x2) (x3 := x3) (x4 := x4) (x15 := x15) (x16 := x16) (x17 := x17) (x18 := x18) (T := T) (P := P) (l := l) (c := c) (fnd := fnd) (n := (n : Int)) ix e130 e117 e40 h0 i2 rfl ew (sh_get w) (by omega) (by omega) (by omega) (by omega) (by omega) n1 (by decide +kernel) hfn
        refine ⟨_, rfl, .inr ⟨_, .inl tb, _, _, _, _, _, _, _, _, _, _, is ++ [(t, G)], rfl, hl2, hok2, hP2, ?_, ?_⟩⟩
        · simp only [List.length_append, List.length_cons]
          omega
        · rcases g.st with ⟨h1, h2, h3, h4⟩ | ⟨js, w2, rest, j1, j2, j3, j4, h⟩
          · refine .inr ⟨is, w, t.sp ++ G, g.ok, by rw [g.len]; omega, hw, by rw [h2]; simp, ?_⟩
            subst h1
            rw [← h3]
          · refine .inr ⟨js, w2, rest ++ ((w ++ 32 :: t.sp) ++ G), j1, by omega, j3, by rw [j4]; simp, ?_⟩
            subst h
            rfl
      · have n1a : ¬ (x : Int) = (fi : Int) := fun h => n1 (.inl h)
        have n1b : ¬ (x : Int) = (se : Int) := fun h => n1 (.inr h)
        have tb := turnA (F := F) (x1 := x1) (x2 := x2) (x3 := x3) (x4 := x4) (x15 := x15) (x16 := x16) (x17 := x17) (x18 := x18) (RL := runsL.map fun w => PV.str (tx w)) (D := shD) (T := T) (P := P) (l := l) (c := c) (fnd := fnd) (n := (n : Int)) ix e130 e117 e40 h0 (by omega) (by omega) (by omega) (by omega) n1a n1b
        refine ⟨_, rfl, .inr ⟨_, .inl tb, _, _, _, _, _, _, _, _, _, _, is ++ [(t, G)], rfl, hl2, hok2, hP2, ?_, ?_⟩⟩
        · simp only [List.length_append]
          omega
        · rcases g.st with ⟨h1, h2, h3, h4⟩ | ⟨js, w2, rest, j1, j2, j3, j4, h⟩
          · refine .inl ⟨h1, by rw [h2, catI_snoc], ?_, by omega⟩
            rw [catI_snoc, aft_app (1, 1) (catI is) (t.sp ++ G), ← h3]
          · exact .inr ⟨js, w2, rest ++ (t.sp ++ G), j1, by omega, j3, by rw [j4]; simp, h⟩)
  rw [← rangeP_map] at loop
  rcases loop with ⟨v, _, hf⟩ | ⟨r', e, T, P, l, c, fnd, x14, x15, x16, x17, x18, is, er, g⟩
  · exact hf.elim
  · subst er
    rw [List.length_range] at g
    exact ⟨T, P, l, c, fnd, x14, x15, x16, x17, x18, is, e, g⟩
end L01
namespace L01
open PySem PySem.Spec PyProof.Rows L2 VL PF PH WY L00
variable {F : Nat → List PV → R PV}
theorem runs_all : ([PV.str "01", PV.str "00", PV.str "007", PV.str "1000001", PV.str "99999999999", PV.str "5a", PV.str "0x", PV.str "A", PV.str "@", PV.str "!", PV.str "'", PV.str "*", PV.str "5.", PV.str ".5", PV.str "?", PV.str "+", PV.str "/", PV.str "=", PV.str "<", PV.str ">", PV.str "_", PV.str "&", PV.str "|", PV.str "~", PV.str "$", PV.str "\\\\", PV.str "Z9", PV.str "[", PV.str "]", PV.str "^", PV.str "a_", PV.str "`"] : List PV) = runsL.map fun w => PV.str (tx w) := runs_eq
theorem slFrom {zs : List Nat} (h : zs.length ≤ 1000000) (i : Nat) : slP (.str (tx zs)) (some (i : Int)) none = some (.str (tx (zs.drop i))) := by
  have e := tx_len zs
  show (if (tx zs).length ≤ sizeLine then some (PV.str (cutS (tx zs) (some (i : Int)) none)) else none) = _
  rw [if_pos (by rw [e, sizeLine_eq]; omega)]
  unfold cutS
  rw [e, HT.sIx_nat, HT.sIx_none, tx_l]
  unfold tx
  congr 3
  rcases Nat.le_total i zs.length with h | h
  · rw [Nat.min_eq_left h, List.take_of_length_le (by rw [List.length_drop]; exact Nat.le_refl _)]
  · rw [Nat.min_eq_right h, Nat.sub_self, List.take_zero, List.drop_of_length_le h]
def oddL : List Nat := [65, 90, 95, 45, 32, 46, 48, 97, 57, 47, 43, 10]
theorem lits2 : ("AZ_- .0a9/+\n" : Str) = tx oddL ∧ ("" : Str) = tx [] ∧ ("light" : Str) = tx [108, 105, 103, 104, 116] ∧ repS "a" 12 = tx (List.replicate 12 97) ∧ repS "a" 13 = tx (List.replicate 13 97) ∧ ("a" : Str).length = 1 := by decide +kernel
theorem ok_tupV (n : Int) : eqB (.tup [.str "value", .int n, .int 0, .str ""]) (.tup [.str "value", .int n, .int 0, .str ""]) = some true := by
  have h : okS "value" = true ∧ okS "" = true := by decide +kernel
  exact eqB_self (by rw [tm_t, tms_S, tms_S, tms_S, tms_S, tms_0, tm_s, tm_i, tm_i, tm_s, h.1, h.2]; rfl)
theorem ok_tupT (l c : Int) : eqB (.tup [.str "text", .int l, .int c, .str "token"]) (.tup [.str "text", .int l, .int c, .str "token"]) = some true := by
  have h : okS "text" = true ∧ okS "token" = true := by decide +kernel
  exact eqB_self (by rw [tm_t, tms_S, tms_S, tms_S, tms_S, tms_0, tm_s, tm_i, tm_i, tm_s, h.1, h.2]; rfl)
theorem rest_eval (h13 : S_cell (F 13)) (h130 : S_ltok (F 130)) (h117 : S_lspell (F 117)) (h0 : S_laft (F 0)) (h40 : S_lgap (F 40)) (h366 : S_isnm (F 366)) (h43 : S_isnm (F 43)) (h133 : Told (F 133)) (ns : List Int) (x1 : Sl) (nm : List Nat) (hnm : nm.length ≤ 100) :
    outR (b_law_v29_t3 F [.fz (.src (ns.map .int)), x1, .fz (.str (tx nm)), .no, .no, .no, .no, .no, .no, .no, .no, .no, .no, .no, .no, .no, .no, .no, .no]) = .ok (.bl true) := by
  obtain ⟨u1, u2, u3, u4, u5, u6⟩ := lits2
  have c0 := h13 ns 0
  have c1 := h13 ns 1
  rw [show ((0 : Nat) : Int) = 0 from rfl] at c0
  rw [show ((1 : Nat) : Int) = 1 from rfl] at c1
  have loop := forL_inv (t := tN 3) (s := b_law_v29_0 F) (enc := fun z : List Nat => PV.str (tx z)) (xs := [nm, [], [108, 105, 103, 104, 116], List.replicate 12 97, List.replicate 13 97])
    (fun k r => ∃ x3 x4, r = [.fz (.src (ns.map .int)), x1, .fz (.str (tx nm)), x3, x4, .no, .no, .no, .no, .no, .no, .no, .no, .no, .no, .no, .no, .no, .no]) (fun _ => False)
    (r0 := [.fz (.src (ns.map .int)), x1, .fz (.str (tx nm)), .no, .no, .no, .no, .no, .no, .no, .no, .no, .no, .no, .no, .no, .no, .no, .no]) ⟨_, _, rfl⟩ (fun k z r hz ⟨x3, x4, er⟩ => by
      subst er
      have hzl : z.length ≤ 1000 := by
        have := List.mem_of_getElem? hz
        simp only [List.mem_cons, List.not_mem_nil, or_false] at this
        rcases this with rfl | rfl | rfl | rfl | rfl
        · omega
        · decide
        · decide
        · decide
        · decide
      have a1 := h366 z hzl
      have a2 := h43 z hzl
      exact ⟨_, rfl, .inr ⟨[.fz (.src (ns.map .int)), x1, .fz (.str (tx nm)), .fz (.str (tx z)), .fz (.bl (isNm z)), .no, .no, .no, .no, .no, .no, .no, .no, .no, .no, .no, .no, .no, .no], .inl (by simp -implicitDefEqProofs [b_law_v29_0, a1, a2]), _, _, rfl⟩⟩)
  rcases loop with ⟨v, _, hf⟩ | ⟨r', e, x3, x4, er⟩
  · exact hf.elim
  subst er
  simp only [List.map_cons, List.map_nil] at e
  let M : Nat := max 1 (ns.length - 3)
  let n : Nat := min 15 M
  have hM : M = max 1 (ns.length - 3) := rfl
  have hn : n = min 15 M := rfl
  have mx : maxP [.int 1, .int ((ns.length : Int) - 3)] = some (.int (M : Int)) := by
    rw [maxP_i]
    congr 2
    rw [hM]
    split <;> omega
  have mn : minP [.int 15, .int (M : Int)] = some (.int (n : Int)) := by
    rw [minP_i]
    congr 2
    rw [hn]
    split <;> omega
  have n1 : 1 ≤ n := by omega
  have n2 : n ≤ 15 := by omega
  clear_value M n
  obtain ⟨fi, ef, hf⟩ : ∃ fi : Nat, cell ns 0 % (n : Int) = (fi : Int) ∧ fi < n := ⟨(cell ns 0 % (n : Int)).toNat, by have := Int.emod_nonneg (cell ns 0) (show (n : Int) ≠ 0 by omega); omega, by have := Int.emod_lt_of_pos (cell ns 0) (show (0 : Int) < (n : Int) by omega); omega⟩
  obtain ⟨se, es, hs⟩ : ∃ se : Nat, cell ns 1 % (2 * (n : Int)) = (se : Int) ∧ se < 2 * n := ⟨(cell ns 1 % (2 * (n : Int))).toNat, by have := Int.emod_nonneg (cell ns 1) (show (2 * (n : Int)) ≠ 0 by omega); omega, by have := Int.emod_lt_of_pos (cell ns 1) (show (0 : Int) < 2 * (n : Int) by omega); omega⟩
  have rg := rg1_nat (n := n) (by omega)
  obtain ⟨T, P, l, c, fnd, x14, x15, x16, x17, x18, is, lp, g⟩ := loop_ok h13 h130 h117 h0 h40 ns x1 (.fz (.str (tx nm))) x3 x4 (se := se) n2 hf
  unfold env19 at lp
  have hPl : P.length ≤ 50 * n := by rw [g.pl]; have := catI_len is g.ok; rw [g.len] at this; exact this
  have hTl := g.sz
  have scP := items_text (tail := []) (qs := [endQ (aftC (1, 1) (catI is)).1 (aftC (1, 1) (catI is)).2]) is (1, 1) (Nat.le_refl _) g.ok (by
    have := ScanT.nil (ln := (aftC (1, 1) (catI is)).1) (a := (aftC (1, 1) (catI is)).2 - 1)
    rw [Nat.sub_add_cancel (aft_pos (catI is) (1, 1) (Nat.le_refl _))] at this
    exact this)
  rw [List.append_nil, ← g.pl] at scP
  have tP := h133.ok P (quads (1, 1) is) _ _ (by omega) scP (by rw [quads_len, g.len]; omega)
  rw [quads_len, g.len] at tP
  rcases g.st with ⟨_, _, _, h4⟩ | ⟨js, w, rest, j1, j2, j3, j4, j5⟩
  · omega
  obtain ⟨pre, hpre, sb⟩ := run_bad j3 (aftC (1, 1) (catI js)).1 ((aftC (1, 1) (catI js)).2 - 1) rest
  rw [Nat.sub_add_cancel (aft_pos (catI js) (1, 1) (Nat.le_refl _))] at sb
  have scT := items_text (tail := w ++ 32 :: rest) js (1, 1) (Nat.le_refl _) j1 sb
  rw [← j4, ← List.append_assoc] at scT
  have tT := h133.bad T _ _ _ (by omega) scT (by rw [List.length_append, quads_len]; omega)
  have eC : (((aftC (1, 1) (catI js)).2 + shN w : Nat) : Int) = ((aftC (1, 1) (catI js)).2 : Int) + (shN w : Int) := by omega
  rw [eC] at tT
  subst j5
  generalize ((aftC (1, 1) (catI js)).1 : Int) = L0 at *
  generalize ((aftC (1, 1) (catI js)).2 : Int) + (shN w : Int) = C0 at *
  have oV := ok_tupV ((n : Int) + 1)
  have oT := ok_tupT L0 C0
  have ra := runs_all
  have sd : mergeP [] [(Sum.inr "5.", PV.int 1), (Sum.inr "a_", PV.int 1)] = shD := rfl
  have hD : PV.nols (shD.map (·.2)) = true := by decide +kernel
  have k1 : 0 < n := by omega
  have k2 : (0 : Int) < 2 * (n : Int) := by omega
  have k3 : mulOk 2 (n : Int) = true := mulOk_l ⟨by decide, by decide⟩
  have q0 : ("" : Str) = tx [] := str0.1
  rw [← q0, show ((1 : Nat) : Int) = 1 from rfl] at lp
  rw [← q0] at e
  generalize runsL.map (fun w => PV.str (tx w)) = RL at *
  generalize shD = DD at *
  generalize tx T = T1 at *
  generalize tx P = P1 at *
  generalize tx nm = N1 at *
  rw [← u3, ← u4, ← u5] at e
  have r12 : mulTP (.str "a") (.int 12) = some (.str (repS "a" 12)) := rfl
  have r13 : mulTP (.str "a") (.int 13) = some (.str (repS "a" 13)) := rfl
  generalize repS "a" 12 = R12 at *
  generalize repS "a" 13 = R13 at *
  simp -implicitDefEqProofs [b_law_v29_t3, b_law_v29_t4, b_law_v29_t5, b_law_v29_t6, b_law_v29_t7, b_law_v29_t8, b_law_v29_t9, b_law_v29_t10, b_law_v29_t11, b_law_v29_t12, b_law_v29_t13, b_law_v29_t14, b_law_v29_t15, b_law_v29_t16, r12, r13, szl, e, ra, sd, hD, mx, mn, -maxP_i, -minP_i, c0, c1, ef, es, k1, k2, k3, rg, lp, tP, tT, oV, oT]
end L01
namespace L01
open PySem PySem.Spec PyProof.Rows L2 VL PF PH WY L00
variable {F : Nat → List PV → R PV}
theorem law_eval (h13 : S_cell (F 13)) (h66 : S_lname (F 66)) (h130 : S_ltok (F 130)) (h117 : S_lspell (F 117)) (h0 : S_laft (F 0)) (h40 : S_lgap (F 40)) (h366 : S_isnm (F 366)) (h43 : S_isnm (F 43)) (h133 : Told (F 133)) (ns : List Int) :
    outR (b_law_v29 F (startE 19 [.src (ns.map .int)])) = .ok (.bl true) := by
  obtain ⟨u1, u2, u3, u4, u5, u6⟩ := lits2
  have c0 := h13 ns 0
  have c1 := h13 ns 1
  have c2 := h13 ns 2
  rw [show ((0 : Nat) : Int) = 0 from rfl] at c0
  rw [show ((1 : Nat) : Int) = 1 from rfl] at c1
  rw [show ((2 : Nat) : Int) = 2 from rfl] at c2
  have b8 : (8 : Int) < bigI := bigI_of (by decide)
  have b2 : (2 : Int) < bigI := bigI_of (by decide)
  obtain ⟨m, em, hm⟩ : ∃ m : Nat, 1 + cell ns 0 / 8 % 13 = ((m : Nat) : Int) ∧ 1 ≤ m ∧ m ≤ 13 := ⟨(1 + cell ns 0 / 8 % 13).toNat, by omega, by omega, by omega⟩
  obtain ⟨ws, hws, e66⟩ := h66 (cell ns 2) m hm.1 hm.2
  by_cases c : cell ns 1 % 2 = 1
  · have s1 := slTo (zs := ws) (by omega) (m / 2)
    have s2 := slFrom (zs := ws) (by omega) (m / 2 + 1)
    have e1 : ((m / 2 : Nat) : Int) = (m : Int) / 2 := by omega
    have e2 : ((m / 2 + 1 : Nat) : Int) = (m : Int) / 2 + 1 := by omega
    rw [e1] at s1
    rw [e2] at s2
    obtain ⟨j, ej, hj⟩ : ∃ j : Nat, cell ns 1 / 2 % 12 = (j : Int) ∧ j < 12 := ⟨(cell ns 1 / 2 % 12).toNat, by omega, by omega⟩
    have hj2 : j < oddL.length := hj
    have ix := ixB (zs := oddL) (by decide) hj2
    generalize oddL[j] = o at *
    have a1 := addB (a := ws.take (m / 2)) (b := [o]) (by rw [List.length_take, List.length_singleton]; omega)
    have a2 := addB (a := ws.take (m / 2) ++ [o]) (b := ws.drop (m / 2 + 1)) (by rw [List.length_append, List.length_take, List.length_singleton, List.length_drop]; omega)
    rw [← sgn_tx] at a1
    have re := rest_eval h13 h130 h117 h0 h40 h366 h43 h133 ns (.fz (.int (m : Int))) (ws.take (m / 2) ++ [o] ++ ws.drop (m / 2 + 1)) (by rw [List.length_append, List.length_append, List.length_take, List.length_singleton, List.length_drop]; omega)
    generalize tx (ws.take (m / 2) ++ [o] ++ ws.drop (m / 2 + 1)) = T1 at *
    generalize tx (ws.take (m / 2) ++ [o]) = T2 at *
    generalize tx (ws.take (m / 2)) = T3 at *
    generalize tx (ws.drop (m / 2 + 1)) = T4 at *
    generalize tx ws = T5 at *
    generalize (m : Int) = mi at *
    simp -implicitDefEqProofs [b_law_v29, b_law_v29_t1, b_law_v29_t2, c0, c1, c2, b8, b2, em, e66, c, s1, s2, u1, ej, ix, a1, a2, re]
  · have re := rest_eval h13 h130 h117 h0 h40 h366 h43 h133 ns (.fz (.int (m : Int))) ws (by omega)
    generalize tx ws = T5 at *
    generalize (m : Int) = mi at *
    simp -implicitDefEqProofs [b_law_v29, b_law_v29_t1, b_law_v29_t2, c0, c1, c2, b8, b2, em, e66, c, re]
variable (d : Nat)
theorem t13 : S_cell (FT (d + 1) 13) := sp_cell (FT d)
theorem t22 : S_draw (FT (d + 1) 22) := sp_draw (FT d)
theorem t66 : S_lname (FT (d + 2) 66) := sp_lname (F := FT (d + 1)) (t22 d)
theorem t130 : S_ltok (FT (d + 2) 130) := sp_ltok (F := FT (d + 1)) (t22 d)
theorem t117 : S_lspell (FT (d + 1) 117) := sp_lspell (FT d)
theorem t0 : S_laft (FT (d + 1) 0) := sp_laft (FT d)
theorem t40 : S_lgap (FT (d + 1) 40) := sp_lgap (FT d)
theorem t43 : S_isnm (FT (d + 1) 43) := sp_lgood (FT d)
theorem t363 : S_low (FT (d + 1) 363) := sp_low (FT d)
theorem t357 : S_dig (FT (d + 1) 357) := sp_dig (FT d)
theorem t366 : S_isnm (FT (d + 2) 366) := sp_isnm (F := FT (d + 1)) (t363 d) (t357 d)
theorem t347 : S_any (FT (d + 2) 347) := sp_any (F := FT (d + 1)) (t363 d)
theorem t529 : S_run isDig (FT (d + 2) 529) := sp_rund (F := FT (d + 1)) (t357 d)
theorem t530 : S_run isWd (FT (d + 2) 530) := sp_runl (F := FT (d + 1)) (t363 d) (t357 d)
theorem t478 : S_nod (FT (d + 1) 478) := sp_nod (FT d)
theorem t364 : S_lat (FT (d + 3) 364) := sp_lat (F := FT (d + 2)) (t347 d)
theorem t477 : S_at tokNum (fun c => isDig c = true) (FT (d + 4) 477) := sp_numat (F := FT (d + 3)) (t529 (d + 1)) (t478 (d + 2)) (t364 d)
theorem t507 : S_at (fun r => tokQ r.tail) (fun c => c = 34) (FT (d + 1) 507) := sp_quoted (FT d)
theorem t627 : S_at tokR (fun _ => True) (FT (d + 5) 627) := sp_tokat (F := FT (d + 4)) (t357 (d + 3)) (t363 (d + 3)) (t477 d) (t530 (d + 2)) (t507 (d + 3))
theorem t544 : S_scl (FT (d + 6) 544) := sp_scl (F := FT (d + 5)) (t627 d)
theorem t543 : S_scan (FT (d + 7) 543) := sp_scan (F := FT (d + 6)) (t544 d)
theorem t628 : S_toks (FT (d + 8) 628) := sp_toks (F := FT (d + 7)) (t543 d)
theorem t133 : Told (FT (d + 9) 133) := sp_told (F := FT (d + 8)) (t628 d)
theorem law_pure (ns : List Int) (h1 : ns.length ≤ 63) (h2 : ∀ z ∈ ns, Builtin.Int.intBits z ≤ 1048576) : FT (23 + 1) 427 [.src (ns.map .int)] = .ok (.bl true) :=
  law_eval (F := FT 23) (t13 22) (t66 21) (t130 21) (t117 22) (t0 22) (t40 22) (t366 21) (t43 22) (t133 14) ns
end L01
open PySem PySem.W PyProof.Rows in
set_option maxRecDepth 100000 in
set_option maxHeartbeats 0 in
theorem PySem.Challenge.cw_lightbook_k01_first_faulty_token_holds : PySem.Challenge.rw_lightbook_k01_first_faulty_token.Holds := by
  w_on; o_law; k_head; (case hw => w_witness2)
  k_fill
  refine L2.walk_ofB (l := PySem.Challenge.rw_lightbook_k01_first_faulty_token) (n := 63) (k := 26) (x := "script") (CX := fun w => L2.CX PySem.Challenge.rw_lightbook_k01_first_faulty_token.prog w) (sp := fun w => VL.spLaw _) rfl (by decide) rfl ⟨rfl, by decide, by decide⟩ (fun w h Y => PySem.W.kIn_of Y) ?F (fun _ _ a ns hl hb _ hS => ⟨a, ns, rfl, hS, hl, hb, fun _ => rfl⟩) VL.cx_no
  case F =>
    intro w mg fa h KX G hmg
    refine' L01.all_mk KX G hmg ?a_BadText ?T_BadText ?n_BadText_label ?n_BadText_line ?n_BadText_column ?n_BadText_reason ?a_LightError ?a_OutOfRange ?e_BadText ?i_BadText ?t_BadText ?s_BadText_BadText ?ec_BadText ?ic_BadText ?ki_BadText_LightError ?ki_BadText_OutOfRange ?ki_BadText_ValueError ?ga_BadText ?gg_BadText ?ge_BadText ?gh_BadText ?z_ValueError ?z_abs ?z_bool ?z_int ?z_isinstance ?z_len ?z_max ?z_min ?z_range ?z_str ?z_super ?c_LONGESTv ?c_LONGEST_NUMBERv ?c_MOST_NUMBERv ?c_POINTv ?c_QUOTEv ?c_SIGNSv ?g_is_letter ?g_is_any_letter ?g_is_digit ?g_is_name ?g_run_of_digits ?g_run_of_letters ?g_number_of_digits ?g_is_letter_at ?g_number_at ?g_quoted_at ?g_token_at ?g_scan_line ?g_scan ?g_tokens_of ?g__law_cell ?g__law_draw ?g__law_name ?g__law_token ?g__law_spelled ?g__law_after ?g__law_gap ?g__law_told ?g__law_good ?g_law L01.law_pure
    (case a_BadText => k_is)
    (case T_BadText => (refine' VL.exc_facts ?q2_lC ?q2_hbm ?q2_sa ?q2_exC ?q2_tyC ?q2_kC ?q2_ini ?q2_tyI ?q2_lI ?q2_code ?q2_lF ?q2_h2 ?q2_hfile ?q2_lc ?q2_sup ?q2_self ?q2_ve ?q2_noS ?q2_third; (case q2_lC => k_is); (case q2_sa => k_is); (case q2_exC => k_is); (case q2_tyC => k_is); (case q2_kC => k_is); (case q2_ini => k_is); (case q2_tyI => k_is); (case q2_lI => k_is); (case q2_code => k_is); (case q2_lF => k_is); (case q2_h2 => rfl); (case q2_hfile => rfl); (case q2_hbm => rfl); (case q2_lc => k_is); (case q2_sup => (refine' VL.sup_of ?q2_lC2 ?q2_lL ?q2_e ?q2_f; (case q2_lC2 => k_is); (case q2_e => rfl); (case q2_lL => k_is); (case q2_f => k_is))); (case q2_self => k_is); (case q2_ve => k_is); (case q2_noS => k_is); (case q2_third => k_is)))
    (case n_BadText_label => k_is)
    (case n_BadText_line => k_is)
    (case n_BadText_column => k_is)
    (case n_BadText_reason => k_is)
    (case a_LightError => k_is)
    (case a_OutOfRange => k_is)
    (case e_BadText => k_is)
    (case i_BadText => k_is)
    (case t_BadText => k_is)
    (case s_BadText_BadText => first | k_is | rfl)
    (case ec_BadText => (refine' L2.ExcC.mk ?q13_hg ?q13_hk ?q13_hs ?q13_hd ?q13_ha ?q13_hn ?q13_ht ?q13_hm; (case q13_hg => k_is); (case q13_hk => k_is); (case q13_hs => k_is); (case q13_hd => k_is); (case q13_ha => k_is); (case q13_hn => k_is); (case q13_ht => k_is); (case q13_hm => k_is)))
    (case ic_BadText => k_is)
    (case ki_BadText_LightError => (refine' VL.kit_of ?q15_h1 ?q15_h2 ?q15_h3 ?q15_h4; (case q15_h1 => k_is); (case q15_h2 => k_is); (case q15_h3 => k_is); (case q15_h4 => first | rfl | decide)))
    (case ki_BadText_OutOfRange => (refine' VL.kit_of ?q16_h1 ?q16_h2 ?q16_h3 ?q16_h4; (case q16_h1 => k_is); (case q16_h2 => k_is); (case q16_h3 => k_is); (case q16_h4 => first | rfl | decide)))
    (case ki_BadText_ValueError => (refine' VL.kit_tyE ?q17_h1 ?q17_h3; (case q17_h1 => first | rfl | decide +kernel); (case q17_h3 => k_is)))
    (case ga_BadText => k_is)
    (case gg_BadText => k_is)
    (case ge_BadText => k_is)
    (case gh_BadText => k_is)
    (case z_ValueError => (refine' VL.none_at KX G ?q22_a; k_is))
    (case z_abs => (refine' VL.none_at KX G ?q23_a; k_is))
    (case z_bool => (refine' VL.none_at KX G ?q24_a; k_is))
    (case z_int => (refine' VL.none_at KX G ?q25_a; k_is))
    (case z_isinstance => (refine' VL.none_at KX G ?q26_a; k_is))
    (case z_len => (refine' VL.none_at KX G ?q27_a; k_is))
    (case z_max => (refine' VL.none_at KX G ?q28_a; k_is))
    (case z_min => (refine' VL.none_at KX G ?q29_a; k_is))
    (case z_range => (refine' VL.none_at KX G ?q30_a; k_is))
    (case z_str => (refine' VL.none_at KX G ?q31_a; k_is))
    (case z_super => (refine' VL.none_at KX G ?q32_a; k_is))
    (case c_LONGESTv => (intro cl; refine' VL.val_at KX G ?q33_a ?q33_w; (case q33_a => k_is); (case q33_w => exact .int _ _)))
    (case c_LONGEST_NUMBERv => (intro cl; refine' VL.val_at KX G ?q34_a ?q34_w; (case q34_a => k_is); (case q34_w => exact .int _ _)))
    (case c_MOST_NUMBERv => (intro cl; refine' VL.val_at KX G ?q35_a ?q35_w; (case q35_a => k_is); (case q35_w => exact .int _ _)))
    (case c_POINTv => (intro cl; refine' VL.val_at KX G ?q36_a ?q36_w; (case q36_a => k_is); (case q36_w => exact .str _ _)))
    (case c_QUOTEv => (intro cl; refine' VL.val_at KX G ?q37_a ?q37_w; (case q37_a => k_is); (case q37_w => exact .str _ _)))
    (case c_SIGNSv => (intro cl; refine' VL.val_at KX G ?q38_a ?q38_w; (case q38_a => k_is); (case q38_w => exact .str _ _)))
    (case g_is_letter => (refine' VL.fun_at KX G ?q39_a ?q39_l ?q39_c ?q39_k; (case q39_a => k_is); (case q39_l => k_is); (case q39_c => k_is); (case q39_k => k_is)))
    (case g_is_any_letter => (refine' VL.fun_at KX G ?q40_a ?q40_l ?q40_c ?q40_k; (case q40_a => k_is); (case q40_l => k_is); (case q40_c => k_is); (case q40_k => k_is)))
    (case g_is_digit => (refine' VL.fun_at KX G ?q41_a ?q41_l ?q41_c ?q41_k; (case q41_a => k_is); (case q41_l => k_is); (case q41_c => k_is); (case q41_k => k_is)))
    (case g_is_name => (refine' VL.fun_at KX G ?q42_a ?q42_l ?q42_c ?q42_k; (case q42_a => k_is); (case q42_l => k_is); (case q42_c => k_is); (case q42_k => k_is)))
    (case g_run_of_digits => (refine' VL.fun_at KX G ?q43_a ?q43_l ?q43_c ?q43_k; (case q43_a => k_is); (case q43_l => k_is); (case q43_c => k_is); (case q43_k => k_is)))
    (case g_run_of_letters => (refine' VL.fun_at KX G ?q44_a ?q44_l ?q44_c ?q44_k; (case q44_a => k_is); (case q44_l => k_is); (case q44_c => k_is); (case q44_k => k_is)))
    (case g_number_of_digits => (refine' VL.fun_at KX G ?q45_a ?q45_l ?q45_c ?q45_k; (case q45_a => k_is); (case q45_l => k_is); (case q45_c => k_is); (case q45_k => k_is)))
    (case g_is_letter_at => (refine' VL.fun_at KX G ?q46_a ?q46_l ?q46_c ?q46_k; (case q46_a => k_is); (case q46_l => k_is); (case q46_c => k_is); (case q46_k => k_is)))
    (case g_number_at => (refine' VL.fun_at KX G ?q47_a ?q47_l ?q47_c ?q47_k; (case q47_a => k_is); (case q47_l => k_is); (case q47_c => k_is); (case q47_k => k_is)))
    (case g_quoted_at => (refine' VL.fun_at KX G ?q48_a ?q48_l ?q48_c ?q48_k; (case q48_a => k_is); (case q48_l => k_is); (case q48_c => k_is); (case q48_k => k_is)))
    (case g_token_at => (refine' VL.fun_at KX G ?q49_a ?q49_l ?q49_c ?q49_k; (case q49_a => k_is); (case q49_l => k_is); (case q49_c => k_is); (case q49_k => k_is)))
    (case g_scan_line => (refine' VL.fun_at KX G ?q50_a ?q50_l ?q50_c ?q50_k; (case q50_a => k_is); (case q50_l => k_is); (case q50_c => k_is); (case q50_k => k_is)))
    (case g_scan => (refine' VL.fun_at KX G ?q51_a ?q51_l ?q51_c ?q51_k; (case q51_a => k_is); (case q51_l => k_is); (case q51_c => k_is); (case q51_k => k_is)))
    (case g_tokens_of => (refine' VL.fun_at KX G ?q52_a ?q52_l ?q52_c ?q52_k; (case q52_a => k_is); (case q52_l => k_is); (case q52_c => k_is); (case q52_k => k_is)))
    (case g__law_cell => (refine' VL.fun_at KX G ?q53_a ?q53_l ?q53_c ?q53_k; (case q53_a => k_is); (case q53_l => k_is); (case q53_c => k_is); (case q53_k => k_is)))
    (case g__law_draw => (refine' VL.fun_at KX G ?q54_a ?q54_l ?q54_c ?q54_k; (case q54_a => k_is); (case q54_l => k_is); (case q54_c => k_is); (case q54_k => k_is)))
    (case g__law_name => (refine' VL.fun_at KX G ?q55_a ?q55_l ?q55_c ?q55_k; (case q55_a => k_is); (case q55_l => k_is); (case q55_c => k_is); (case q55_k => k_is)))
    (case g__law_token => (refine' VL.fun_at KX G ?q56_a ?q56_l ?q56_c ?q56_k; (case q56_a => k_is); (case q56_l => k_is); (case q56_c => k_is); (case q56_k => k_is)))
    (case g__law_spelled => (refine' VL.fun_at KX G ?q57_a ?q57_l ?q57_c ?q57_k; (case q57_a => k_is); (case q57_l => k_is); (case q57_c => k_is); (case q57_k => k_is)))
    (case g__law_after => (refine' VL.fun_at KX G ?q58_a ?q58_l ?q58_c ?q58_k; (case q58_a => k_is); (case q58_l => k_is); (case q58_c => k_is); (case q58_k => k_is)))
    (case g__law_gap => (refine' VL.fun_at KX G ?q59_a ?q59_l ?q59_c ?q59_k; (case q59_a => k_is); (case q59_l => k_is); (case q59_c => k_is); (case q59_k => k_is)))
    (case g__law_told => (refine' VL.fun_at KX G ?q60_a ?q60_l ?q60_c ?q60_k; (case q60_a => k_is); (case q60_l => k_is); (case q60_c => k_is); (case q60_k => k_is)))
    (case g__law_good => (refine' VL.fun_at KX G ?q61_a ?q61_l ?q61_c ?q61_k; (case q61_a => k_is); (case q61_l => k_is); (case q61_c => k_is); (case q61_k => k_is)))
    (case g_law => (refine' VL.fun_at KX G ?q62_a ?q62_l ?q62_c ?q62_k; (case q62_a => k_is); (case q62_l => k_is); (case q62_c => k_is); (case q62_k => k_is)))
